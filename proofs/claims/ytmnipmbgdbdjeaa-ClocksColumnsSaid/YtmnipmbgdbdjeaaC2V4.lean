/- The walk of the statement ClocksColumns: its function answers true. -/
import Derived.Test.YtmnipmbgdbdjeaaC2Br
import Derived.Test.YtmnipmbgdbdjeaaC2W10
import Derived.Test.YtmnipmbgdbdjeaaC2LI
namespace Go.Proofs.C2
open Go Go.Kx
set_option linter.unusedSimpArgs false
set_option linter.unusedVariables false
set_option maxRecDepth 20000 in
set_option maxHeartbeats 4000000 in
theorem law4 (m : Mem) (cc : List Value) (c : Clk) (hc : Enc.rd m cc c) (cx : List Value) (x : Ask) (hx : Enc.rd m cx x)  (ok0 : Rng.ok c) (ok1 : Rng.ok x) : Exact Try.prog 4 #[.agg cc.toArray, .agg cx.toArray] m (.bool true) := by
  obtain ⟨v1, v3, v5, rfl, hs2, hs4, hs6⟩ := hc
  have hl7 := hs2.le
  have hl8 := hs4.le
  have hl9 := hs6.le
  obtain ⟨v10, v12, v14, rfl, hs11, hs13, hs15⟩ := hx
  have hl16 := hs11.le
  have hl17 := hs13.le
  have hl18 := hs15.le
  refine Exact.start Try.func4 rfl Try.ntmps4 rfl fun wld => ?_
  refine WC.seq ?_
  refine WC.region ?_
  refine WL.tn (T.boxB rfl rfl) (by decide) fun b19 => ?_
  refine WL.tn (T.boxB rfl rfl) (by decide) fun b20 => ?_
  refine WL.x (X.assign rfl) (by decide) ?_
  refine WL.nil ?_
  refine WK.nThen ?_
  refine WC.seq ?_
  refine WC.region ?_
  refine WL.x (X.call Try.call19 rfl (awake19 _  )) (by decide) ?_
  refine WL.x (X.assign rfl) (by decide) ?_
  refine WL.nil ?_
  refine WK.nThen ?_
  refine WC.seq ?_
  refine WC.seq ?_
  refine WC.region ?_
  refine WL.x (X.loadBA (k := 1) Try.isAgg28 Try.sizeOf28 rfl rfl rfl) (by decide) ?_
  refine WL.cond (X.call Try.call20 rfl (few20 _ _ c ⟨_, _, _, rfl, hs2, hs4, hs6⟩ )) (by decide) (fun h21 => ?_) (fun h21 => ?_)
  · refine WL.x (X.not rfl) (by decide) ?_
    refine WL.x (X.move rfl) (by decide) ?_
    refine WL.yes rfl rfl ?_
    refine WL.x (X.field Try.runUnderlying28 rfl Try.sizeOf26 rfl) (by decide) ?_
    refine WL.yes rfl rfl ?_
    refine WL.x (X.loadB (k := 1) Try.isAgg26 rfl rfl rfl) (by decide) ?_
    refine WL.yes rfl rfl ?_
    refine WL.x (X.len Try.runUnderlying26 rfl hs6) (by decide) ?_
    refine WL.yes rfl rfl ?_
    refine WL.cond (X.gtr rfl rfl) (by decide) (fun h22 => ?_) (fun h22 => ?_)
    · refine WL.x (X.pickF rfl rfl rfl) (by decide) ?_
      refine WL.nil ?_
      refine WK.nThen ?_
      refine WC.condT rfl ?_
      refine WC.seq ?_
      refine WC.region ?_
      refine WL.x (X.move rfl) (by decide) ?_
      refine WL.x (X.assign rfl) (by decide) ?_
      refine WL.nil ?_
      refine WK.nThen ?_
      refine WC.ret ?_
      refine WK.rThen ?_
      refine WK.ret1 rfl rfl (fun w' hw' => Ret.exact hw' ?_)
      first | rfl | (exfalso; omega) | (exfalso; contradiction) | (exfalso; have q_ := hd1 (by assumption) (by omega); omega) | (exfalso; have q_ := hd2 (by assumption) (by omega); omega) | exact (bool_true (by first | omega | assumption)).symm | exact (bool_true hq).symm
    · refine WL.x (X.pickF rfl rfl rfl) (by decide) ?_
      refine WL.nil ?_
      refine WK.nThen ?_
      refine WC.condF rfl ?_
      refine WC.skip ?_
      refine WK.nThen ?_
      refine WC.seq ?_
      refine WC.region ?_
      refine WL.x (X.field Try.runUnderlying28 rfl Try.sizeOf25 rfl) (by decide) ?_
      refine WL.x (X.loadBP (k := 1) (vs := [v1, v3]) Try.isAgg25 Try.sizeOf25 rfl rfl rfl rfl) (by decide) ?_
      refine WL.x (X.field Try.runUnderlying28 rfl Try.sizeOf26 rfl) (by decide) ?_
      refine WL.x (X.loadB (k := 1) Try.isAgg26 rfl rfl rfl) (by decide) ?_
      refine WL.x (X.field Try.runUnderlying36 rfl Try.sizeOf3 rfl) (by decide) ?_
      refine WL.x (X.loadB (k := 0) Try.isAgg3 rfl rfl rfl) (by decide) ?_
      refine WL.x (X.call Try.call23 rfl (at23 _ _ c.D ⟨_, _, rfl, hs2, hs4⟩ _ _ hs6 _ )) (by decide) ?_
      refine WL.x (X.move rfl) (by decide) ?_
      refine WL.x (X.extract rfl rfl) (by decide) ?_
      refine WL.x (X.extract rfl rfl) (by decide) ?_
      refine WL.tn (T.alloc Try.zeroValue31 rfl) (by decide) fun b23 => ?_
      refine WL.ts (T.storeBA (k := 0) Try.sizeOf31 rfl rfl rfl (one_cons rfl (one_cons rfl one_nil)) rfl rfl) ?_
      refine WL.x (X.assign rfl) (by decide) ?_
      refine WL.nil ?_
      refine WK.nThen ?_
      refine WC.seq ?_
      refine WC.seq ?_
      refine WC.region ?_
      refine WL.x (X.move rfl) (by decide) ?_
      refine WL.condn (X.neq rfl rfl) (by decide) (fun h24 => ?_) (fun h24 => ?_)
      · refine WL.nil ?_
        refine WK.nThen ?_
        refine WC.condT rfl ?_
        refine WC.seq ?_
        have hq := at_no (d := c.D) (m := c.M) (t := x.Tick) (by omega)
        refine WC.region ?_
        refine WL.x (X.move rfl) (by decide) ?_
        refine WL.x (X.move rfl) (by decide) ?_
        refine WL.yes rfl rfl ?_
        refine WL.x (X.loadBA (k := 0) Try.isAgg31 Try.sizeOf31 rfl rfl rfl) (by decide) ?_
        refine WL.yes rfl rfl ?_
        refine WL.x (V := Value.agg [.int .i64 (0), .int .i64 (0)].toArray) (X.build Try.zeroValue31 Try.runUnderlying31 (places31 _ Try.underlying31) rfl rfl) (by decide) ?_
        refine WL.yes rfl rfl ?_
        refine WL.x (X.eqlS (a := (atR c.D c.M x.Tick).1) (b := (Span.mk (0) (0))) gd31 (fun w => eqS31 9998 _ _ w) rfl rfl) (by decide) ?_
        refine WL.x (X.pickT rfl rfl rfl) (by decide) ?_
        refine WL.x (X.assign rfl) (by decide) ?_
        refine WL.nil ?_
        refine WK.nThen ?_
        refine WC.ret ?_
        refine WK.rThen ?_
        refine WK.ret1 rfl rfl (fun w' hw' => Ret.exact hw' ?_)
        first | rfl | (exfalso; omega) | (exfalso; contradiction) | (exfalso; have q_ := hd1 (by assumption) (by omega); omega) | (exfalso; have q_ := hd2 (by assumption) (by omega); omega) | exact (bool_true (by first | omega | assumption)).symm | exact (bool_true hq).symm
      · refine WL.nil ?_
        refine WK.nThen ?_
        refine WC.condF rfl ?_
        refine WC.skip ?_
        refine WK.nThen ?_
        refine WC.seq ?_
        have hat := at_iff.1 (show (atR c.D c.M x.Tick).2 = 0 by omega)
        have hdn := hat.1.dr.1.1.2
        have htk := hat.2.1
        have hdn0 := hat.1.dr.1.1.1
        refine WC.region ?_
        refine WL.x (X.field Try.runUnderlying28 rfl Try.sizeOf25 rfl) (by decide) ?_
        refine WL.x (X.field Try.runUnderlying25 rfl Try.sizeOf22 rfl) (by decide) ?_
        refine WL.x (X.loadB (k := 2) Try.isAgg22 rfl rfl rfl) (by decide) ?_
        refine WL.x (X.len Try.runUnderlying22 rfl hs2) (by decide) ?_
        refine WL.x (X.assign rfl) (by decide) ?_
        refine WL.nil ?_
        refine WK.nThen ?_
        refine WC.seq ?_
        refine WC.seq ?_
        refine WC.region ?_
        refine WL.x (X.assign rfl) (by decide) ?_
        refine WL.nil ?_
        refine WK.nThen ?_
        refine WC.block ?_
        refine WC.loop (G := Int × Mem) (fun (k, mm) => ((c.D.Rates.length : Int) + 1 - k).toNat) (fun (k, mm) => mm) (fun (k, mm) => [blk b23 31 [.int .i64 ((atR c.D c.M x.Tick).1.Lo), .int .i64 ((atR c.D c.M x.Tick).1.Hi)], blk b20 36 [.int .i64 (x.A), .int .i64 (x.B), .int .i64 (x.Tick), v10, v12, v14, .int .i64 (x.First.Column), .int .i64 (x.First.Ticks.Lo), .int .i64 (x.First.Ticks.Hi), .int .i64 (x.Second.Column), .int .i64 (x.Second.Ticks.Lo), .int .i64 (x.Second.Ticks.Hi), .int .i64 (x.Stop.Column), .int .i64 (x.Stop.Ticks.Lo), .int .i64 (x.Stop.Ticks.Hi)], blk b19 28 [v1, v3, v5]]) (fun (k, mm) => [(2, .pointer (some ⟨b19, 0, none⟩)), (3, .pointer (some ⟨b20, 0, none⟩)), (5, .bool true), (6, .pointer (some ⟨b23, 0, none⟩)), (8, .int .i64 (↑c.D.Rates.length)), (9, .int .i64 (k))]) (fun (k, mm) => m.le mm ∧ -1 ≤ k ∧ k ≤ (c.D.Rates.length : Int) + 1) (((-1), m)) rfl (.refl _) (.cons rfl (.cons rfl (.cons rfl (.cons rfl (.cons rfl (.cons rfl .nil)))))) ?_ ?_
        · exact ⟨Mem.le_refl _, by omega⟩
        · rintro ⟨k, mm⟩ hF25
          show WK _ _ mm [blk b23 31 [.int .i64 ((atR c.D c.M x.Tick).1.Lo), .int .i64 ((atR c.D c.M x.Tick).1.Hi)], blk b20 36 [.int .i64 (x.A), .int .i64 (x.B), .int .i64 (x.Tick), v10, v12, v14, .int .i64 (x.First.Column), .int .i64 (x.First.Ticks.Lo), .int .i64 (x.First.Ticks.Hi), .int .i64 (x.Second.Column), .int .i64 (x.Second.Ticks.Lo), .int .i64 (x.Second.Ticks.Hi), .int .i64 (x.Stop.Column), .int .i64 (x.Stop.Ticks.Lo), .int .i64 (x.Stop.Ticks.Hi)], blk b19 28 [v1, v3, v5]] [(2, .pointer (some ⟨b19, 0, none⟩)), (3, .pointer (some ⟨b20, 0, none⟩)), (5, .bool true), (6, .pointer (some ⟨b23, 0, none⟩)), (8, .int .i64 (↑c.D.Rates.length)), (9, .int .i64 (k))] _
          replace hF25 : m.le mm ∧ -1 ≤ k ∧ k ≤ (c.D.Rates.length : Int) + 1 := hF25
          obtain ⟨hmm, hk⟩ := hF25
          replace hs2 := hs2.mono hmm
          replace hs4 := hs4.mono hmm
          replace hs6 := hs6.mono hmm
          replace hs11 := hs11.mono hmm
          replace hs13 := hs13.mono hmm
          replace hs15 := hs15.mono hmm
          refine WC.seq ?_
          refine WC.seq ?_
          refine WC.region ?_
          refine WL.x (X.move rfl) (by decide) ?_
          refine WL.x (X.move rfl) (by decide) ?_
          refine WL.cond (X.leq rfl rfl) (by decide) (fun h26 => ?_) (fun h26 => ?_)
          · refine WL.nil ?_
            refine WK.nThen ?_
            refine WC.condT rfl ?_
            refine WC.skip ?_
            refine WK.nThen ?_
            refine WC.seq ?_
            refine WC.block ?_
            refine WC.seq ?_
            refine WK.ownF Mark 33 ?_
            refine WC.region ?_
            refine WL.x (X.assign rfl) (by decide) ?_
            refine WL.nil ?_
            refine WK.nThen ?_
            refine WC.seq ?_
            refine WC.seq ?_
            refine WC.region ?_
            refine WL.x (X.move rfl) (by decide) ?_
            refine WL.cond (X.geq rfl rfl) (by decide) (fun h27 => ?_) (fun h27 => ?_)
            · refine WL.nil ?_
              refine WK.nThen ?_
              refine WC.condT rfl ?_
              refine WC.region ?_
              refine WL.x (X.move rfl) (by decide) ?_
              refine WL.x (X.move rfl) (by decide) ?_
              refine WL.x (X.field Try.runUnderlying36 rfl Try.sizeOf3 rfl) (by decide) ?_
              refine WL.x (X.loadB (k := 2) Try.isAgg3 rfl rfl rfl) (by decide) ?_
              refine WL.x (V := Value.agg [.int .i64 (0), .int .i64 (x.Tick)].toArray) (X.build Try.zeroValue31 Try.runUnderlying31 (places31 _ Try.underlying31) rfl rfl) (by decide) ?_
              refine WL.x (V := Value.agg [.int .i64 (k), .int .i64 (0), .int .i64 (x.Tick)].toArray) (X.build Try.zeroValue33 Try.runUnderlying33 (places33 _ Try.underlying33) rfl rfl) (by decide) ?_
              refine WL.tl (T.lit1 sl26 rfl rfl rfl (by decide)) (by decide) fun b28 => ?_
              refine WL.ta (T.appendF (k := 0) (a := (Mark.mk (k) ((Span.mk (0) (x.Tick))))) sl26 rfl rfl rfl rfl (by first | omega | (simp; done) | (simp; omega)) (by decide)) (by decide) (fun v29 => ?_)
              refine WL.x (X.assign rfl) (by decide) ?_
              refine WL.nil ?_
              refine WK.nThen ?_
              refine WC.seq ?_
              refine WC.region ?_
              refine WL.x (X.assign rfl) (by decide) ?_
              refine WL.nil ?_
              refine WK.nThen ?_
              refine WC.seq ?_
              refine WC.seq ?_
              refine WC.region ?_
              refine WL.x (X.move rfl) (by decide) ?_
              refine WL.x (X.move rfl) (by decide) ?_
              refine WL.cond (X.lss rfl rfl) (by decide) (fun h30 => ?_) (fun h30 => ?_)
              · refine WL.nil ?_
                refine WK.nThen ?_
                refine WC.condT rfl ?_
                refine WC.seq ?_
                refine WC.region ?_
                refine WL.x (X.field Try.runUnderlying36 rfl Try.sizeOf3 rfl) (by decide) ?_
                refine WL.x (X.loadB (k := 2) Try.isAgg3 rfl rfl rfl) (by decide) ?_
                refine WL.cond (X.lss rfl rfl) (by decide) (fun h31 => ?_) (fun h31 => ?_)
                · refine WL.x (X.assign rfl) (by decide) ?_
                  refine WL.nil ?_
                  refine WK.nThen ?_
                  refine WC.region ?_
                  refine WL.x (X.move rfl) (by decide) ?_
                  refine WL.x (X.move rfl) (by decide) ?_
                  refine WL.x (X.add rfl rfl (by omega) (by omega)) (by decide) ?_
                  refine WL.x (X.field Try.runUnderlying36 rfl Try.sizeOf3 rfl) (by decide) ?_
                  refine WL.x (X.loadB (k := 2) Try.isAgg3 rfl rfl rfl) (by decide) ?_
                  refine WL.x (X.add rfl rfl (by omega) (by omega)) (by decide) ?_
                  refine WL.x (V := Value.agg [.int .i64 (x.Tick + 1), .int .i64 (400)].toArray) (X.build Try.zeroValue31 Try.runUnderlying31 (places31 _ Try.underlying31) rfl rfl) (by decide) ?_
                  refine WL.x (V := Value.agg [.int .i64 (k + 1), .int .i64 (x.Tick + 1), .int .i64 (400)].toArray) (X.build Try.zeroValue33 Try.runUnderlying33 (places33 _ Try.underlying33) rfl rfl) (by decide) ?_
                  refine WL.tl (T.lit1 sl26 rfl rfl rfl (by decide)) (by decide) fun b32 => ?_
                  refine WL.ta (T.appendF (k := 0) (a := (Mark.mk (k + 1) ((Span.mk (x.Tick + 1) (400))))) sl26 rfl rfl rfl rfl (by first | omega | (simp; done) | (simp; omega)) (by decide)) (by decide) (fun v33 => ?_)
                  refine WL.x (X.assign rfl) (by decide) ?_
                  refine WL.nil ?_
                  refine WK.nThen ?_
                  refine WC.seq ?_
                  have he34 : (((([] : List Mark)) ++ [(Mark.mk (k) ((Span.mk (0) (x.Tick))))]) ++ [(Mark.mk (k + 1) ((Span.mk (x.Tick + 1) (400))))]) = (colM c.D.Rates.length k x.Tick) := (by first | exact (col_a (by omega) (by omega)).symm | exact (col_b (by omega) (by omega)).symm | exact (col_c (by omega) (by omega)).symm | (exfalso; omega))
                  rw [he34]
                  have hcc := col_can (x := c) (t := x.Tick) (by omega) (by omega) (k := k) (by omega)
                  have hd1 : canR c (colM c.D.Rates.length k x.Tick) = true → (k < (c.D.Rates.length : Int) → x.Tick < 400) → (atR c.D c.M x.Tick).1.Lo ≤ k ∧ k ≤ (atR c.D c.M x.Tick).1.Hi := (fun h1_ h2_ => (hcc.1 h2_).1 h1_)
                  have hd2 : canR c (colM c.D.Rates.length k x.Tick) = false → (k < (c.D.Rates.length : Int) → x.Tick < 400) → ¬ ((atR c.D c.M x.Tick).1.Lo ≤ k ∧ k ≤ (atR c.D c.M x.Tick).1.Hi) := (fun h1_ h2_ h3_ => by rw [(hcc.1 h2_).2 h3_] at h1_; cases h1_)
                  have hd3 := hcc.2
                  have hcl_ := colM_len c.D.Rates.length k x.Tick
                  refine WK.freezeF 0 rfl rfl (by unfold lenB; omega) (fun m35 hle36 hs37 => ?_)
                  replace hs2 := hs2.mono hle36
                  replace hs4 := hs4.mono hle36
                  replace hs6 := hs6.mono hle36
                  replace hs11 := hs11.mono hle36
                  replace hs13 := hs13.mono hle36
                  replace hs15 := hs15.mono hle36
                  refine WC.draw (π := (.cons 0 (.cons 1 (.cons 2 (.cons 3 (.cons 4 (.cons 5 (.cons 6 (.cons 7 (.cons 8 (.cons 9 (.cons 10 (.cons 11 (.cons 12 (.cons 13 (.cons 14 (.cons 15 (.cons 16 .done)))))))))))))))))) [] [] rfl (by kernel_rfl) ?_
                  refine DW.x rfl rfl (X.move rfl) (by decide) ?_
                  refine DW.x rfl rfl (X.move rfl) (by decide) ?_
                  refine DW.x rfl rfl (X.loadBA (k := 2) Try.isAgg28 Try.sizeOf28 rfl rfl rfl) (by decide) ?_
                  refine DW.x rfl rfl (X.move rfl) (by decide) ?_
                  refine DW.condb rfl rfl (X.call Try.call30 rfl (can30 _ _ c ⟨_, _, _, rfl, hs2, hs4, hs6⟩ _ _ hs37 (by first | omega | simp) (by first | omega | simp))) (by decide) (fun h38 => ?_) (fun h38 => ?_)
                  · refine DW.x rfl rfl (X.pickT rfl rfl rfl) (by decide) ?_
                    refine DW.x rfl rfl (X.field Try.runUnderlying31 rfl Try.sizeOf3 rfl) (by decide) ?_
                    refine DW.x rfl rfl (X.loadB (k := 0) Try.isAgg3 rfl rfl rfl) (by decide) ?_
                    refine DW.x rfl rfl (X.move rfl) (by decide) ?_
                    refine DW.cond rfl rfl (X.leq rfl rfl) (by decide) (fun h39 => ?_) (fun h39 => ?_)
                    · refine DW.x rfl rfl (X.move rfl) (by decide) ?_
                      refine DW.x rfl rfl (X.move rfl) (by decide) ?_
                      refine DW.x rfl rfl (X.field Try.runUnderlying31 rfl Try.sizeOf3 rfl) (by decide) ?_
                      refine DW.x rfl rfl (X.loadB (k := 0) Try.isAgg3 rfl rfl rfl) (by decide) ?_
                      refine DW.cond rfl rfl (X.leq rfl rfl) (by decide) (fun h40 => ?_) (fun h40 => ?_)
                      · refine DW.x rfl rfl (X.pickT rfl rfl rfl) (by decide) ?_
                        refine DW.x rfl rfl (OpX.f (X.neqB Try.underlying4 rfl rfl) (fun h => h rfl)) (by decide) ?_
                        refine DW.nil ?_
                        refine WK.nThen ?_
                        refine WC.condF rfl ?_
                        refine WC.skip ?_
                        refine WK.nBlock ?_
                        refine WK.nThen ?_
                        refine WC.region ?_
                        refine WL.x (X.move rfl) (by decide) ?_
                        refine WL.x (X.add rfl rfl (by omega) (by omega)) (by decide) ?_
                        refine WL.x (X.assign rfl) (by decide) ?_
                        refine WL.nil ?_
                        refine WK.nThen ?_
                        refine WK.next ((k + 1, m35)) rfl (.refl _) (.cons rfl (.cons rfl (.cons rfl (.cons rfl (.cons rfl (.cons rfl .nil)))))) ?_ ?_
                        · exact ⟨Mem.le_trans hmm hle36, by omega⟩
                        · (dsimp only; omega)
                      · refine DW.x rfl rfl (X.pickT rfl rfl rfl) (by decide) ?_
                        refine DW.x rfl rfl (OpX.t (X.neqB Try.underlying4 rfl rfl) (by decide)) (by decide) ?_
                        refine DW.nil ?_
                        refine WK.nThen ?_
                        refine WC.condT rfl ?_
                        refine WC.seq ?_
                        refine WC.region ?_
                        refine WL.x (X.assign rfl) (by decide) ?_
                        refine WL.nil ?_
                        refine WK.nThen ?_
                        refine WC.ret ?_
                        refine WK.rBlock ?_
                        refine WK.rThen ?_
                        refine WK.rThen ?_
                        refine WK.rBlock ?_
                        refine WK.rThen ?_
                        refine WK.ret1 rfl rfl (fun w' hw' => Ret.exact hw' ?_)
                        first | rfl | (exfalso; omega) | (exfalso; contradiction) | (exfalso; have q_ := hd1 (by assumption) (by omega); omega) | (exfalso; have q_ := hd2 (by assumption) (by omega); omega) | exact (bool_true (by first | omega | assumption)).symm | exact (bool_true hq).symm
                    · refine DW.x rfl rfl (X.move rfl) (by decide) ?_
                      refine DW.no rfl rfl (by decide) ?_
                      refine DW.no rfl rfl (by decide) ?_
                      refine DW.no rfl rfl (by decide) ?_
                      refine DW.no rfl rfl (by decide) ?_
                      refine DW.x rfl rfl (X.pickF rfl rfl rfl) (by decide) ?_
                      refine DW.x rfl rfl (OpX.t (X.neqB Try.underlying4 rfl rfl) (by decide)) (by decide) ?_
                      refine DW.nil ?_
                      refine WK.nThen ?_
                      refine WC.condT rfl ?_
                      refine WC.seq ?_
                      refine WC.region ?_
                      refine WL.x (X.assign rfl) (by decide) ?_
                      refine WL.nil ?_
                      refine WK.nThen ?_
                      refine WC.ret ?_
                      refine WK.rBlock ?_
                      refine WK.rThen ?_
                      refine WK.rThen ?_
                      refine WK.rBlock ?_
                      refine WK.rThen ?_
                      refine WK.ret1 rfl rfl (fun w' hw' => Ret.exact hw' ?_)
                      first | rfl | (exfalso; omega) | (exfalso; contradiction) | (exfalso; have q_ := hd1 (by assumption) (by omega); omega) | (exfalso; have q_ := hd2 (by assumption) (by omega); omega) | exact (bool_true (by first | omega | assumption)).symm | exact (bool_true hq).symm
                  · refine DW.x rfl rfl (X.pickT rfl rfl rfl) (by decide) ?_
                    refine DW.x rfl rfl (X.field Try.runUnderlying31 rfl Try.sizeOf3 rfl) (by decide) ?_
                    refine DW.x rfl rfl (X.loadB (k := 0) Try.isAgg3 rfl rfl rfl) (by decide) ?_
                    refine DW.x rfl rfl (X.move rfl) (by decide) ?_
                    refine DW.cond rfl rfl (X.leq rfl rfl) (by decide) (fun h41 => ?_) (fun h41 => ?_)
                    · refine DW.x rfl rfl (X.move rfl) (by decide) ?_
                      refine DW.x rfl rfl (X.move rfl) (by decide) ?_
                      refine DW.x rfl rfl (X.field Try.runUnderlying31 rfl Try.sizeOf3 rfl) (by decide) ?_
                      refine DW.x rfl rfl (X.loadB (k := 0) Try.isAgg3 rfl rfl rfl) (by decide) ?_
                      refine DW.cond rfl rfl (X.leq rfl rfl) (by decide) (fun h42 => ?_) (fun h42 => ?_)
                      · refine DW.x rfl rfl (X.pickT rfl rfl rfl) (by decide) ?_
                        refine DW.x rfl rfl (OpX.t (X.neqB Try.underlying4 rfl rfl) (by decide)) (by decide) ?_
                        refine DW.nil ?_
                        refine WK.nThen ?_
                        refine WC.condT rfl ?_
                        refine WC.seq ?_
                        refine WC.region ?_
                        refine WL.x (X.assign rfl) (by decide) ?_
                        refine WL.nil ?_
                        refine WK.nThen ?_
                        refine WC.ret ?_
                        refine WK.rBlock ?_
                        refine WK.rThen ?_
                        refine WK.rThen ?_
                        refine WK.rBlock ?_
                        refine WK.rThen ?_
                        refine WK.ret1 rfl rfl (fun w' hw' => Ret.exact hw' ?_)
                        first | rfl | (exfalso; omega) | (exfalso; contradiction) | (exfalso; have q_ := hd1 (by assumption) (by omega); omega) | (exfalso; have q_ := hd2 (by assumption) (by omega); omega) | exact (bool_true (by first | omega | assumption)).symm | exact (bool_true hq).symm
                      · refine DW.x rfl rfl (X.pickT rfl rfl rfl) (by decide) ?_
                        refine DW.x rfl rfl (OpX.f (X.neqB Try.underlying4 rfl rfl) (fun h => h rfl)) (by decide) ?_
                        refine DW.nil ?_
                        refine WK.nThen ?_
                        refine WC.condF rfl ?_
                        refine WC.skip ?_
                        refine WK.nBlock ?_
                        refine WK.nThen ?_
                        refine WC.region ?_
                        refine WL.x (X.move rfl) (by decide) ?_
                        refine WL.x (X.add rfl rfl (by omega) (by omega)) (by decide) ?_
                        refine WL.x (X.assign rfl) (by decide) ?_
                        refine WL.nil ?_
                        refine WK.nThen ?_
                        refine WK.next ((k + 1, m35)) rfl (.refl _) (.cons rfl (.cons rfl (.cons rfl (.cons rfl (.cons rfl (.cons rfl .nil)))))) ?_ ?_
                        · exact ⟨Mem.le_trans hmm hle36, by omega⟩
                        · (dsimp only; omega)
                    · refine DW.x rfl rfl (X.move rfl) (by decide) ?_
                      refine DW.no rfl rfl (by decide) ?_
                      refine DW.no rfl rfl (by decide) ?_
                      refine DW.no rfl rfl (by decide) ?_
                      refine DW.no rfl rfl (by decide) ?_
                      refine DW.x rfl rfl (X.pickF rfl rfl rfl) (by decide) ?_
                      refine DW.x rfl rfl (OpX.f (X.neqB Try.underlying4 rfl rfl) (fun h => h rfl)) (by decide) ?_
                      refine DW.nil ?_
                      refine WK.nThen ?_
                      refine WC.condF rfl ?_
                      refine WC.skip ?_
                      refine WK.nBlock ?_
                      refine WK.nThen ?_
                      refine WC.region ?_
                      refine WL.x (X.move rfl) (by decide) ?_
                      refine WL.x (X.add rfl rfl (by omega) (by omega)) (by decide) ?_
                      refine WL.x (X.assign rfl) (by decide) ?_
                      refine WL.nil ?_
                      refine WK.nThen ?_
                      refine WK.next ((k + 1, m35)) rfl (.refl _) (.cons rfl (.cons rfl (.cons rfl (.cons rfl (.cons rfl (.cons rfl .nil)))))) ?_ ?_
                      · exact ⟨Mem.le_trans hmm hle36, by omega⟩
                      · (dsimp only; omega)
                · refine WL.x (X.assign rfl) (by decide) ?_
                  refine WL.nil ?_
                  refine WK.nThen ?_
                  refine WC.region ?_
                  refine WL.x (X.move rfl) (by decide) ?_
                  refine WL.x (X.move rfl) (by decide) ?_
                  refine WL.x (X.add rfl rfl (by omega) (by omega)) (by decide) ?_
                  refine WL.x (X.field Try.runUnderlying36 rfl Try.sizeOf3 rfl) (by decide) ?_
                  refine WL.x (X.loadB (k := 2) Try.isAgg3 rfl rfl rfl) (by decide) ?_
                  refine WL.x (X.add rfl rfl (by omega) (by omega)) (by decide) ?_
                  refine WL.x (V := Value.agg [.int .i64 (x.Tick + 1), .int .i64 (400)].toArray) (X.build Try.zeroValue31 Try.runUnderlying31 (places31 _ Try.underlying31) rfl rfl) (by decide) ?_
                  refine WL.x (V := Value.agg [.int .i64 (k + 1), .int .i64 (x.Tick + 1), .int .i64 (400)].toArray) (X.build Try.zeroValue33 Try.runUnderlying33 (places33 _ Try.underlying33) rfl rfl) (by decide) ?_
                  refine WL.tl (T.lit1 sl26 rfl rfl rfl (by decide)) (by decide) fun b43 => ?_
                  refine WL.ta (T.appendF (k := 0) (a := (Mark.mk (k + 1) ((Span.mk (x.Tick + 1) (400))))) sl26 rfl rfl rfl rfl (by first | omega | (simp; done) | (simp; omega)) (by decide)) (by decide) (fun v44 => ?_)
                  refine WL.x (X.assign rfl) (by decide) ?_
                  refine WL.nil ?_
                  refine WK.nThen ?_
                  refine WC.seq ?_
                  have he45 : (((([] : List Mark)) ++ [(Mark.mk (k) ((Span.mk (0) (x.Tick))))]) ++ [(Mark.mk (k + 1) ((Span.mk (x.Tick + 1) (400))))]) = (colM c.D.Rates.length k x.Tick) := (by first | exact (col_a (by omega) (by omega)).symm | exact (col_b (by omega) (by omega)).symm | exact (col_c (by omega) (by omega)).symm | (exfalso; omega))
                  rw [he45]
                  have hcc := col_can (x := c) (t := x.Tick) (by omega) (by omega) (k := k) (by omega)
                  have hd1 : canR c (colM c.D.Rates.length k x.Tick) = true → (k < (c.D.Rates.length : Int) → x.Tick < 400) → (atR c.D c.M x.Tick).1.Lo ≤ k ∧ k ≤ (atR c.D c.M x.Tick).1.Hi := (fun h1_ h2_ => (hcc.1 h2_).1 h1_)
                  have hd2 : canR c (colM c.D.Rates.length k x.Tick) = false → (k < (c.D.Rates.length : Int) → x.Tick < 400) → ¬ ((atR c.D c.M x.Tick).1.Lo ≤ k ∧ k ≤ (atR c.D c.M x.Tick).1.Hi) := (fun h1_ h2_ h3_ => by rw [(hcc.1 h2_).2 h3_] at h1_; cases h1_)
                  have hd3 := hcc.2
                  have hcl_ := colM_len c.D.Rates.length k x.Tick
                  refine WK.freezeF 0 rfl rfl (by unfold lenB; omega) (fun m46 hle47 hs48 => ?_)
                  replace hs2 := hs2.mono hle47
                  replace hs4 := hs4.mono hle47
                  replace hs6 := hs6.mono hle47
                  replace hs11 := hs11.mono hle47
                  replace hs13 := hs13.mono hle47
                  replace hs15 := hs15.mono hle47
                  refine WC.draw (π := (.cons 0 (.cons 1 (.cons 2 (.cons 3 (.cons 4 (.cons 5 (.cons 6 (.cons 7 (.cons 8 (.cons 9 (.cons 10 (.cons 11 (.cons 12 (.cons 13 (.cons 14 (.cons 15 (.cons 16 .done)))))))))))))))))) [] [] rfl (by kernel_rfl) ?_
                  refine DW.x rfl rfl (X.move rfl) (by decide) ?_
                  refine DW.x rfl rfl (X.move rfl) (by decide) ?_
                  refine DW.no rfl rfl (by decide) ?_
                  refine DW.no rfl rfl (by decide) ?_
                  refine DW.no rfl rfl (by decide) ?_
                  refine DW.x rfl rfl (X.pickF rfl rfl rfl) (by decide) ?_
                  refine DW.x rfl rfl (X.field Try.runUnderlying31 rfl Try.sizeOf3 rfl) (by decide) ?_
                  refine DW.x rfl rfl (X.loadB (k := 0) Try.isAgg3 rfl rfl rfl) (by decide) ?_
                  refine DW.x rfl rfl (X.move rfl) (by decide) ?_
                  refine DW.cond rfl rfl (X.leq rfl rfl) (by decide) (fun h49 => ?_) (fun h49 => ?_)
                  · refine DW.x rfl rfl (X.move rfl) (by decide) ?_
                    refine DW.x rfl rfl (X.move rfl) (by decide) ?_
                    refine DW.x rfl rfl (X.field Try.runUnderlying31 rfl Try.sizeOf3 rfl) (by decide) ?_
                    refine DW.x rfl rfl (X.loadB (k := 0) Try.isAgg3 rfl rfl rfl) (by decide) ?_
                    refine DW.cond rfl rfl (X.leq rfl rfl) (by decide) (fun h50 => ?_) (fun h50 => ?_)
                    · refine DW.x rfl rfl (X.pickT rfl rfl rfl) (by decide) ?_
                      refine DW.x rfl rfl (OpX.t (X.neqB Try.underlying4 rfl rfl) (by decide)) (by decide) ?_
                      refine DW.nil ?_
                      refine WK.nThen ?_
                      refine WC.condT rfl ?_
                      refine WC.seq ?_
                      refine WC.region ?_
                      refine WL.x (X.assign rfl) (by decide) ?_
                      refine WL.nil ?_
                      refine WK.nThen ?_
                      refine WC.ret ?_
                      refine WK.rBlock ?_
                      refine WK.rThen ?_
                      refine WK.rThen ?_
                      refine WK.rBlock ?_
                      refine WK.rThen ?_
                      refine WK.ret1 rfl rfl (fun w' hw' => Ret.exact hw' ?_)
                      first | rfl | (exfalso; omega) | (exfalso; contradiction) | (exfalso; have q_ := hd1 (by assumption) (by omega); omega) | (exfalso; have q_ := hd2 (by assumption) (by omega); omega) | exact (bool_true (by first | omega | assumption)).symm | exact (bool_true hq).symm
                    · refine DW.x rfl rfl (X.pickT rfl rfl rfl) (by decide) ?_
                      refine DW.x rfl rfl (OpX.f (X.neqB Try.underlying4 rfl rfl) (fun h => h rfl)) (by decide) ?_
                      refine DW.nil ?_
                      refine WK.nThen ?_
                      refine WC.condF rfl ?_
                      refine WC.skip ?_
                      refine WK.nBlock ?_
                      refine WK.nThen ?_
                      refine WC.region ?_
                      refine WL.x (X.move rfl) (by decide) ?_
                      refine WL.x (X.add rfl rfl (by omega) (by omega)) (by decide) ?_
                      refine WL.x (X.assign rfl) (by decide) ?_
                      refine WL.nil ?_
                      refine WK.nThen ?_
                      refine WK.next ((k + 1, m46)) rfl (.refl _) (.cons rfl (.cons rfl (.cons rfl (.cons rfl (.cons rfl (.cons rfl .nil)))))) ?_ ?_
                      · exact ⟨Mem.le_trans hmm hle47, by omega⟩
                      · (dsimp only; omega)
                  · refine DW.x rfl rfl (X.move rfl) (by decide) ?_
                    refine DW.no rfl rfl (by decide) ?_
                    refine DW.no rfl rfl (by decide) ?_
                    refine DW.no rfl rfl (by decide) ?_
                    refine DW.no rfl rfl (by decide) ?_
                    refine DW.x rfl rfl (X.pickF rfl rfl rfl) (by decide) ?_
                    refine DW.x rfl rfl (OpX.f (X.neqB Try.underlying4 rfl rfl) (fun h => h rfl)) (by decide) ?_
                    refine DW.nil ?_
                    refine WK.nThen ?_
                    refine WC.condF rfl ?_
                    refine WC.skip ?_
                    refine WK.nBlock ?_
                    refine WK.nThen ?_
                    refine WC.region ?_
                    refine WL.x (X.move rfl) (by decide) ?_
                    refine WL.x (X.add rfl rfl (by omega) (by omega)) (by decide) ?_
                    refine WL.x (X.assign rfl) (by decide) ?_
                    refine WL.nil ?_
                    refine WK.nThen ?_
                    refine WK.next ((k + 1, m46)) rfl (.refl _) (.cons rfl (.cons rfl (.cons rfl (.cons rfl (.cons rfl (.cons rfl .nil)))))) ?_ ?_
                    · exact ⟨Mem.le_trans hmm hle47, by omega⟩
                    · (dsimp only; omega)
              · refine WL.nil ?_
                refine WK.nThen ?_
                refine WC.condF rfl ?_
                refine WC.skip ?_
                refine WK.nThen ?_
                refine WC.seq ?_
                have he51 : ((([] : List Mark)) ++ [(Mark.mk (k) ((Span.mk (0) (x.Tick))))]) = (colM c.D.Rates.length k x.Tick) := (by first | exact (col_a (by omega) (by omega)).symm | exact (col_b (by omega) (by omega)).symm | exact (col_c (by omega) (by omega)).symm | (exfalso; omega))
                rw [he51]
                have hcc := col_can (x := c) (t := x.Tick) (by omega) (by omega) (k := k) (by omega)
                have hd1 : canR c (colM c.D.Rates.length k x.Tick) = true → (k < (c.D.Rates.length : Int) → x.Tick < 400) → (atR c.D c.M x.Tick).1.Lo ≤ k ∧ k ≤ (atR c.D c.M x.Tick).1.Hi := (fun h1_ h2_ => (hcc.1 h2_).1 h1_)
                have hd2 : canR c (colM c.D.Rates.length k x.Tick) = false → (k < (c.D.Rates.length : Int) → x.Tick < 400) → ¬ ((atR c.D c.M x.Tick).1.Lo ≤ k ∧ k ≤ (atR c.D c.M x.Tick).1.Hi) := (fun h1_ h2_ h3_ => by rw [(hcc.1 h2_).2 h3_] at h1_; cases h1_)
                have hd3 := hcc.2
                have hcl_ := colM_len c.D.Rates.length k x.Tick
                refine WK.freezeF 0 rfl rfl (by unfold lenB; omega) (fun m52 hle53 hs54 => ?_)
                replace hs2 := hs2.mono hle53
                replace hs4 := hs4.mono hle53
                replace hs6 := hs6.mono hle53
                replace hs11 := hs11.mono hle53
                replace hs13 := hs13.mono hle53
                replace hs15 := hs15.mono hle53
                refine WC.draw (π := (.cons 0 (.cons 1 (.cons 2 (.cons 3 (.cons 4 (.cons 5 (.cons 6 (.cons 7 (.cons 8 (.cons 9 (.cons 10 (.cons 11 (.cons 12 (.cons 13 (.cons 14 (.cons 15 (.cons 16 .done)))))))))))))))))) [] [] rfl (by kernel_rfl) ?_
                refine DW.x rfl rfl (X.move rfl) (by decide) ?_
                refine DW.x rfl rfl (X.move rfl) (by decide) ?_
                refine DW.x rfl rfl (X.loadBA (k := 2) Try.isAgg28 Try.sizeOf28 rfl rfl rfl) (by decide) ?_
                refine DW.x rfl rfl (X.move rfl) (by decide) ?_
                refine DW.condb rfl rfl (X.call Try.call30 rfl (can30 _ _ c ⟨_, _, _, rfl, hs2, hs4, hs6⟩ _ _ hs54 (by first | omega | simp) (by first | omega | simp))) (by decide) (fun h55 => ?_) (fun h55 => ?_)
                · refine DW.x rfl rfl (X.pickT rfl rfl rfl) (by decide) ?_
                  refine DW.x rfl rfl (X.field Try.runUnderlying31 rfl Try.sizeOf3 rfl) (by decide) ?_
                  refine DW.x rfl rfl (X.loadB (k := 0) Try.isAgg3 rfl rfl rfl) (by decide) ?_
                  refine DW.x rfl rfl (X.move rfl) (by decide) ?_
                  refine DW.cond rfl rfl (X.leq rfl rfl) (by decide) (fun h56 => ?_) (fun h56 => ?_)
                  · refine DW.x rfl rfl (X.move rfl) (by decide) ?_
                    refine DW.x rfl rfl (X.move rfl) (by decide) ?_
                    refine DW.x rfl rfl (X.field Try.runUnderlying31 rfl Try.sizeOf3 rfl) (by decide) ?_
                    refine DW.x rfl rfl (X.loadB (k := 0) Try.isAgg3 rfl rfl rfl) (by decide) ?_
                    refine DW.cond rfl rfl (X.leq rfl rfl) (by decide) (fun h57 => ?_) (fun h57 => ?_)
                    · refine DW.x rfl rfl (X.pickT rfl rfl rfl) (by decide) ?_
                      refine DW.x rfl rfl (OpX.f (X.neqB Try.underlying4 rfl rfl) (fun h => h rfl)) (by decide) ?_
                      refine DW.nil ?_
                      refine WK.nThen ?_
                      refine WC.condF rfl ?_
                      refine WC.skip ?_
                      refine WK.nBlock ?_
                      refine WK.nThen ?_
                      refine WC.region ?_
                      refine WL.x (X.move rfl) (by decide) ?_
                      refine WL.x (X.add rfl rfl (by omega) (by omega)) (by decide) ?_
                      refine WL.x (X.assign rfl) (by decide) ?_
                      refine WL.nil ?_
                      refine WK.nThen ?_
                      refine WK.next ((k + 1, m52)) rfl (.refl _) (.cons rfl (.cons rfl (.cons rfl (.cons rfl (.cons rfl (.cons rfl .nil)))))) ?_ ?_
                      · exact ⟨Mem.le_trans hmm hle53, by omega⟩
                      · (dsimp only; omega)
                    · refine DW.x rfl rfl (X.pickT rfl rfl rfl) (by decide) ?_
                      refine DW.x rfl rfl (OpX.t (X.neqB Try.underlying4 rfl rfl) (by decide)) (by decide) ?_
                      refine DW.nil ?_
                      refine WK.nThen ?_
                      refine WC.condT rfl ?_
                      refine WC.seq ?_
                      refine WC.region ?_
                      refine WL.x (X.assign rfl) (by decide) ?_
                      refine WL.nil ?_
                      refine WK.nThen ?_
                      refine WC.ret ?_
                      refine WK.rBlock ?_
                      refine WK.rThen ?_
                      refine WK.rThen ?_
                      refine WK.rBlock ?_
                      refine WK.rThen ?_
                      refine WK.ret1 rfl rfl (fun w' hw' => Ret.exact hw' ?_)
                      first | rfl | (exfalso; omega) | (exfalso; contradiction) | (exfalso; have q_ := hd1 (by assumption) (by omega); omega) | (exfalso; have q_ := hd2 (by assumption) (by omega); omega) | exact (bool_true (by first | omega | assumption)).symm | exact (bool_true hq).symm
                  · refine DW.x rfl rfl (X.move rfl) (by decide) ?_
                    refine DW.no rfl rfl (by decide) ?_
                    refine DW.no rfl rfl (by decide) ?_
                    refine DW.no rfl rfl (by decide) ?_
                    refine DW.no rfl rfl (by decide) ?_
                    refine DW.x rfl rfl (X.pickF rfl rfl rfl) (by decide) ?_
                    refine DW.x rfl rfl (OpX.t (X.neqB Try.underlying4 rfl rfl) (by decide)) (by decide) ?_
                    refine DW.nil ?_
                    refine WK.nThen ?_
                    refine WC.condT rfl ?_
                    refine WC.seq ?_
                    refine WC.region ?_
                    refine WL.x (X.assign rfl) (by decide) ?_
                    refine WL.nil ?_
                    refine WK.nThen ?_
                    refine WC.ret ?_
                    refine WK.rBlock ?_
                    refine WK.rThen ?_
                    refine WK.rThen ?_
                    refine WK.rBlock ?_
                    refine WK.rThen ?_
                    refine WK.ret1 rfl rfl (fun w' hw' => Ret.exact hw' ?_)
                    first | rfl | (exfalso; omega) | (exfalso; contradiction) | (exfalso; have q_ := hd1 (by assumption) (by omega); omega) | (exfalso; have q_ := hd2 (by assumption) (by omega); omega) | exact (bool_true (by first | omega | assumption)).symm | exact (bool_true hq).symm
                · refine DW.x rfl rfl (X.pickT rfl rfl rfl) (by decide) ?_
                  refine DW.x rfl rfl (X.field Try.runUnderlying31 rfl Try.sizeOf3 rfl) (by decide) ?_
                  refine DW.x rfl rfl (X.loadB (k := 0) Try.isAgg3 rfl rfl rfl) (by decide) ?_
                  refine DW.x rfl rfl (X.move rfl) (by decide) ?_
                  refine DW.cond rfl rfl (X.leq rfl rfl) (by decide) (fun h58 => ?_) (fun h58 => ?_)
                  · refine DW.x rfl rfl (X.move rfl) (by decide) ?_
                    refine DW.x rfl rfl (X.move rfl) (by decide) ?_
                    refine DW.x rfl rfl (X.field Try.runUnderlying31 rfl Try.sizeOf3 rfl) (by decide) ?_
                    refine DW.x rfl rfl (X.loadB (k := 0) Try.isAgg3 rfl rfl rfl) (by decide) ?_
                    refine DW.cond rfl rfl (X.leq rfl rfl) (by decide) (fun h59 => ?_) (fun h59 => ?_)
                    · refine DW.x rfl rfl (X.pickT rfl rfl rfl) (by decide) ?_
                      refine DW.x rfl rfl (OpX.t (X.neqB Try.underlying4 rfl rfl) (by decide)) (by decide) ?_
                      refine DW.nil ?_
                      refine WK.nThen ?_
                      refine WC.condT rfl ?_
                      refine WC.seq ?_
                      refine WC.region ?_
                      refine WL.x (X.assign rfl) (by decide) ?_
                      refine WL.nil ?_
                      refine WK.nThen ?_
                      refine WC.ret ?_
                      refine WK.rBlock ?_
                      refine WK.rThen ?_
                      refine WK.rThen ?_
                      refine WK.rBlock ?_
                      refine WK.rThen ?_
                      refine WK.ret1 rfl rfl (fun w' hw' => Ret.exact hw' ?_)
                      first | rfl | (exfalso; omega) | (exfalso; contradiction) | (exfalso; have q_ := hd1 (by assumption) (by omega); omega) | (exfalso; have q_ := hd2 (by assumption) (by omega); omega) | exact (bool_true (by first | omega | assumption)).symm | exact (bool_true hq).symm
                    · refine DW.x rfl rfl (X.pickT rfl rfl rfl) (by decide) ?_
                      refine DW.x rfl rfl (OpX.f (X.neqB Try.underlying4 rfl rfl) (fun h => h rfl)) (by decide) ?_
                      refine DW.nil ?_
                      refine WK.nThen ?_
                      refine WC.condF rfl ?_
                      refine WC.skip ?_
                      refine WK.nBlock ?_
                      refine WK.nThen ?_
                      refine WC.region ?_
                      refine WL.x (X.move rfl) (by decide) ?_
                      refine WL.x (X.add rfl rfl (by omega) (by omega)) (by decide) ?_
                      refine WL.x (X.assign rfl) (by decide) ?_
                      refine WL.nil ?_
                      refine WK.nThen ?_
                      refine WK.next ((k + 1, m52)) rfl (.refl _) (.cons rfl (.cons rfl (.cons rfl (.cons rfl (.cons rfl (.cons rfl .nil)))))) ?_ ?_
                      · exact ⟨Mem.le_trans hmm hle53, by omega⟩
                      · (dsimp only; omega)
                  · refine DW.x rfl rfl (X.move rfl) (by decide) ?_
                    refine DW.no rfl rfl (by decide) ?_
                    refine DW.no rfl rfl (by decide) ?_
                    refine DW.no rfl rfl (by decide) ?_
                    refine DW.no rfl rfl (by decide) ?_
                    refine DW.x rfl rfl (X.pickF rfl rfl rfl) (by decide) ?_
                    refine DW.x rfl rfl (OpX.f (X.neqB Try.underlying4 rfl rfl) (fun h => h rfl)) (by decide) ?_
                    refine DW.nil ?_
                    refine WK.nThen ?_
                    refine WC.condF rfl ?_
                    refine WC.skip ?_
                    refine WK.nBlock ?_
                    refine WK.nThen ?_
                    refine WC.region ?_
                    refine WL.x (X.move rfl) (by decide) ?_
                    refine WL.x (X.add rfl rfl (by omega) (by omega)) (by decide) ?_
                    refine WL.x (X.assign rfl) (by decide) ?_
                    refine WL.nil ?_
                    refine WK.nThen ?_
                    refine WK.next ((k + 1, m52)) rfl (.refl _) (.cons rfl (.cons rfl (.cons rfl (.cons rfl (.cons rfl (.cons rfl .nil)))))) ?_ ?_
                    · exact ⟨Mem.le_trans hmm hle53, by omega⟩
                    · (dsimp only; omega)
            · refine WL.nil ?_
              refine WK.nThen ?_
              refine WC.condF rfl ?_
              refine WC.skip ?_
              refine WK.nThen ?_
              refine WC.seq ?_
              refine WC.region ?_
              refine WL.x (X.assign rfl) (by decide) ?_
              refine WL.nil ?_
              refine WK.nThen ?_
              refine WC.seq ?_
              refine WC.seq ?_
              refine WC.region ?_
              refine WL.x (X.move rfl) (by decide) ?_
              refine WL.x (X.move rfl) (by decide) ?_
              refine WL.cond (X.lss rfl rfl) (by decide) (fun h60 => ?_) (fun h60 => ?_)
              · refine WL.nil ?_
                refine WK.nThen ?_
                refine WC.condT rfl ?_
                refine WC.seq ?_
                refine WC.region ?_
                refine WL.x (X.field Try.runUnderlying36 rfl Try.sizeOf3 rfl) (by decide) ?_
                refine WL.x (X.loadB (k := 2) Try.isAgg3 rfl rfl rfl) (by decide) ?_
                refine WL.cond (X.lss rfl rfl) (by decide) (fun h61 => ?_) (fun h61 => ?_)
                · refine WL.x (X.assign rfl) (by decide) ?_
                  refine WL.nil ?_
                  refine WK.nThen ?_
                  refine WC.region ?_
                  refine WL.x (X.move rfl) (by decide) ?_
                  refine WL.x (X.move rfl) (by decide) ?_
                  refine WL.x (X.add rfl rfl (by omega) (by omega)) (by decide) ?_
                  refine WL.x (X.field Try.runUnderlying36 rfl Try.sizeOf3 rfl) (by decide) ?_
                  refine WL.x (X.loadB (k := 2) Try.isAgg3 rfl rfl rfl) (by decide) ?_
                  refine WL.x (X.add rfl rfl (by omega) (by omega)) (by decide) ?_
                  refine WL.x (V := Value.agg [.int .i64 (x.Tick + 1), .int .i64 (400)].toArray) (X.build Try.zeroValue31 Try.runUnderlying31 (places31 _ Try.underlying31) rfl rfl) (by decide) ?_
                  refine WL.x (V := Value.agg [.int .i64 (k + 1), .int .i64 (x.Tick + 1), .int .i64 (400)].toArray) (X.build Try.zeroValue33 Try.runUnderlying33 (places33 _ Try.underlying33) rfl rfl) (by decide) ?_
                  refine WL.tl (T.lit1 sl26 rfl rfl rfl (by decide)) (by decide) fun b62 => ?_
                  refine WL.ta (T.appendF (k := 0) (a := (Mark.mk (k + 1) ((Span.mk (x.Tick + 1) (400))))) sl26 rfl rfl rfl rfl (by first | omega | (simp; done) | (simp; omega)) (by decide)) (by decide) (fun v63 => ?_)
                  refine WL.x (X.assign rfl) (by decide) ?_
                  refine WL.nil ?_
                  refine WK.nThen ?_
                  refine WC.seq ?_
                  have he64 : ((([] : List Mark)) ++ [(Mark.mk (k + 1) ((Span.mk (x.Tick + 1) (400))))]) = (colM c.D.Rates.length k x.Tick) := (by first | exact (col_a (by omega) (by omega)).symm | exact (col_b (by omega) (by omega)).symm | exact (col_c (by omega) (by omega)).symm | (exfalso; omega))
                  rw [he64]
                  have hcc := col_can (x := c) (t := x.Tick) (by omega) (by omega) (k := k) (by omega)
                  have hd1 : canR c (colM c.D.Rates.length k x.Tick) = true → (k < (c.D.Rates.length : Int) → x.Tick < 400) → (atR c.D c.M x.Tick).1.Lo ≤ k ∧ k ≤ (atR c.D c.M x.Tick).1.Hi := (fun h1_ h2_ => (hcc.1 h2_).1 h1_)
                  have hd2 : canR c (colM c.D.Rates.length k x.Tick) = false → (k < (c.D.Rates.length : Int) → x.Tick < 400) → ¬ ((atR c.D c.M x.Tick).1.Lo ≤ k ∧ k ≤ (atR c.D c.M x.Tick).1.Hi) := (fun h1_ h2_ h3_ => by rw [(hcc.1 h2_).2 h3_] at h1_; cases h1_)
                  have hd3 := hcc.2
                  have hcl_ := colM_len c.D.Rates.length k x.Tick
                  refine WK.freezeF 0 rfl rfl (by unfold lenB; omega) (fun m65 hle66 hs67 => ?_)
                  replace hs2 := hs2.mono hle66
                  replace hs4 := hs4.mono hle66
                  replace hs6 := hs6.mono hle66
                  replace hs11 := hs11.mono hle66
                  replace hs13 := hs13.mono hle66
                  replace hs15 := hs15.mono hle66
                  refine WC.draw (π := (.cons 0 (.cons 1 (.cons 2 (.cons 3 (.cons 4 (.cons 5 (.cons 6 (.cons 7 (.cons 8 (.cons 9 (.cons 10 (.cons 11 (.cons 12 (.cons 13 (.cons 14 (.cons 15 (.cons 16 .done)))))))))))))))))) [] [] rfl (by kernel_rfl) ?_
                  refine DW.x rfl rfl (X.move rfl) (by decide) ?_
                  refine DW.x rfl rfl (X.move rfl) (by decide) ?_
                  refine DW.x rfl rfl (X.loadBA (k := 2) Try.isAgg28 Try.sizeOf28 rfl rfl rfl) (by decide) ?_
                  refine DW.x rfl rfl (X.move rfl) (by decide) ?_
                  refine DW.condb rfl rfl (X.call Try.call30 rfl (can30 _ _ c ⟨_, _, _, rfl, hs2, hs4, hs6⟩ _ _ hs67 (by first | omega | simp) (by first | omega | simp))) (by decide) (fun h68 => ?_) (fun h68 => ?_)
                  · refine DW.x rfl rfl (X.pickT rfl rfl rfl) (by decide) ?_
                    refine DW.x rfl rfl (X.field Try.runUnderlying31 rfl Try.sizeOf3 rfl) (by decide) ?_
                    refine DW.x rfl rfl (X.loadB (k := 0) Try.isAgg3 rfl rfl rfl) (by decide) ?_
                    refine DW.x rfl rfl (X.move rfl) (by decide) ?_
                    refine DW.cond rfl rfl (X.leq rfl rfl) (by decide) (fun h69 => ?_) (fun h69 => ?_)
                    · refine DW.x rfl rfl (X.move rfl) (by decide) ?_
                      refine DW.x rfl rfl (X.move rfl) (by decide) ?_
                      refine DW.x rfl rfl (X.field Try.runUnderlying31 rfl Try.sizeOf3 rfl) (by decide) ?_
                      refine DW.x rfl rfl (X.loadB (k := 0) Try.isAgg3 rfl rfl rfl) (by decide) ?_
                      refine DW.cond rfl rfl (X.leq rfl rfl) (by decide) (fun h70 => ?_) (fun h70 => ?_)
                      · refine DW.x rfl rfl (X.pickT rfl rfl rfl) (by decide) ?_
                        refine DW.x rfl rfl (OpX.f (X.neqB Try.underlying4 rfl rfl) (fun h => h rfl)) (by decide) ?_
                        refine DW.nil ?_
                        refine WK.nThen ?_
                        refine WC.condF rfl ?_
                        refine WC.skip ?_
                        refine WK.nBlock ?_
                        refine WK.nThen ?_
                        refine WC.region ?_
                        refine WL.x (X.move rfl) (by decide) ?_
                        refine WL.x (X.add rfl rfl (by omega) (by omega)) (by decide) ?_
                        refine WL.x (X.assign rfl) (by decide) ?_
                        refine WL.nil ?_
                        refine WK.nThen ?_
                        refine WK.next ((k + 1, m65)) rfl (.refl _) (.cons rfl (.cons rfl (.cons rfl (.cons rfl (.cons rfl (.cons rfl .nil)))))) ?_ ?_
                        · exact ⟨Mem.le_trans hmm hle66, by omega⟩
                        · (dsimp only; omega)
                      · refine DW.x rfl rfl (X.pickT rfl rfl rfl) (by decide) ?_
                        refine DW.x rfl rfl (OpX.t (X.neqB Try.underlying4 rfl rfl) (by decide)) (by decide) ?_
                        refine DW.nil ?_
                        refine WK.nThen ?_
                        refine WC.condT rfl ?_
                        refine WC.seq ?_
                        refine WC.region ?_
                        refine WL.x (X.assign rfl) (by decide) ?_
                        refine WL.nil ?_
                        refine WK.nThen ?_
                        refine WC.ret ?_
                        refine WK.rBlock ?_
                        refine WK.rThen ?_
                        refine WK.rThen ?_
                        refine WK.rBlock ?_
                        refine WK.rThen ?_
                        refine WK.ret1 rfl rfl (fun w' hw' => Ret.exact hw' ?_)
                        first | rfl | (exfalso; omega) | (exfalso; contradiction) | (exfalso; have q_ := hd1 (by assumption) (by omega); omega) | (exfalso; have q_ := hd2 (by assumption) (by omega); omega) | exact (bool_true (by first | omega | assumption)).symm | exact (bool_true hq).symm
                    · refine DW.x rfl rfl (X.move rfl) (by decide) ?_
                      refine DW.no rfl rfl (by decide) ?_
                      refine DW.no rfl rfl (by decide) ?_
                      refine DW.no rfl rfl (by decide) ?_
                      refine DW.no rfl rfl (by decide) ?_
                      refine DW.x rfl rfl (X.pickF rfl rfl rfl) (by decide) ?_
                      refine DW.x rfl rfl (OpX.t (X.neqB Try.underlying4 rfl rfl) (by decide)) (by decide) ?_
                      refine DW.nil ?_
                      refine WK.nThen ?_
                      refine WC.condT rfl ?_
                      refine WC.seq ?_
                      refine WC.region ?_
                      refine WL.x (X.assign rfl) (by decide) ?_
                      refine WL.nil ?_
                      refine WK.nThen ?_
                      refine WC.ret ?_
                      refine WK.rBlock ?_
                      refine WK.rThen ?_
                      refine WK.rThen ?_
                      refine WK.rBlock ?_
                      refine WK.rThen ?_
                      refine WK.ret1 rfl rfl (fun w' hw' => Ret.exact hw' ?_)
                      first | rfl | (exfalso; omega) | (exfalso; contradiction) | (exfalso; have q_ := hd1 (by assumption) (by omega); omega) | (exfalso; have q_ := hd2 (by assumption) (by omega); omega) | exact (bool_true (by first | omega | assumption)).symm | exact (bool_true hq).symm
                  · refine DW.x rfl rfl (X.pickT rfl rfl rfl) (by decide) ?_
                    refine DW.x rfl rfl (X.field Try.runUnderlying31 rfl Try.sizeOf3 rfl) (by decide) ?_
                    refine DW.x rfl rfl (X.loadB (k := 0) Try.isAgg3 rfl rfl rfl) (by decide) ?_
                    refine DW.x rfl rfl (X.move rfl) (by decide) ?_
                    refine DW.cond rfl rfl (X.leq rfl rfl) (by decide) (fun h71 => ?_) (fun h71 => ?_)
                    · refine DW.x rfl rfl (X.move rfl) (by decide) ?_
                      refine DW.x rfl rfl (X.move rfl) (by decide) ?_
                      refine DW.x rfl rfl (X.field Try.runUnderlying31 rfl Try.sizeOf3 rfl) (by decide) ?_
                      refine DW.x rfl rfl (X.loadB (k := 0) Try.isAgg3 rfl rfl rfl) (by decide) ?_
                      refine DW.cond rfl rfl (X.leq rfl rfl) (by decide) (fun h72 => ?_) (fun h72 => ?_)
                      · refine DW.x rfl rfl (X.pickT rfl rfl rfl) (by decide) ?_
                        refine DW.x rfl rfl (OpX.t (X.neqB Try.underlying4 rfl rfl) (by decide)) (by decide) ?_
                        refine DW.nil ?_
                        refine WK.nThen ?_
                        refine WC.condT rfl ?_
                        refine WC.seq ?_
                        refine WC.region ?_
                        refine WL.x (X.assign rfl) (by decide) ?_
                        refine WL.nil ?_
                        refine WK.nThen ?_
                        refine WC.ret ?_
                        refine WK.rBlock ?_
                        refine WK.rThen ?_
                        refine WK.rThen ?_
                        refine WK.rBlock ?_
                        refine WK.rThen ?_
                        refine WK.ret1 rfl rfl (fun w' hw' => Ret.exact hw' ?_)
                        first | rfl | (exfalso; omega) | (exfalso; contradiction) | (exfalso; have q_ := hd1 (by assumption) (by omega); omega) | (exfalso; have q_ := hd2 (by assumption) (by omega); omega) | exact (bool_true (by first | omega | assumption)).symm | exact (bool_true hq).symm
                      · refine DW.x rfl rfl (X.pickT rfl rfl rfl) (by decide) ?_
                        refine DW.x rfl rfl (OpX.f (X.neqB Try.underlying4 rfl rfl) (fun h => h rfl)) (by decide) ?_
                        refine DW.nil ?_
                        refine WK.nThen ?_
                        refine WC.condF rfl ?_
                        refine WC.skip ?_
                        refine WK.nBlock ?_
                        refine WK.nThen ?_
                        refine WC.region ?_
                        refine WL.x (X.move rfl) (by decide) ?_
                        refine WL.x (X.add rfl rfl (by omega) (by omega)) (by decide) ?_
                        refine WL.x (X.assign rfl) (by decide) ?_
                        refine WL.nil ?_
                        refine WK.nThen ?_
                        refine WK.next ((k + 1, m65)) rfl (.refl _) (.cons rfl (.cons rfl (.cons rfl (.cons rfl (.cons rfl (.cons rfl .nil)))))) ?_ ?_
                        · exact ⟨Mem.le_trans hmm hle66, by omega⟩
                        · (dsimp only; omega)
                    · refine DW.x rfl rfl (X.move rfl) (by decide) ?_
                      refine DW.no rfl rfl (by decide) ?_
                      refine DW.no rfl rfl (by decide) ?_
                      refine DW.no rfl rfl (by decide) ?_
                      refine DW.no rfl rfl (by decide) ?_
                      refine DW.x rfl rfl (X.pickF rfl rfl rfl) (by decide) ?_
                      refine DW.x rfl rfl (OpX.f (X.neqB Try.underlying4 rfl rfl) (fun h => h rfl)) (by decide) ?_
                      refine DW.nil ?_
                      refine WK.nThen ?_
                      refine WC.condF rfl ?_
                      refine WC.skip ?_
                      refine WK.nBlock ?_
                      refine WK.nThen ?_
                      refine WC.region ?_
                      refine WL.x (X.move rfl) (by decide) ?_
                      refine WL.x (X.add rfl rfl (by omega) (by omega)) (by decide) ?_
                      refine WL.x (X.assign rfl) (by decide) ?_
                      refine WL.nil ?_
                      refine WK.nThen ?_
                      refine WK.next ((k + 1, m65)) rfl (.refl _) (.cons rfl (.cons rfl (.cons rfl (.cons rfl (.cons rfl (.cons rfl .nil)))))) ?_ ?_
                      · exact ⟨Mem.le_trans hmm hle66, by omega⟩
                      · (dsimp only; omega)
                · refine WL.x (X.assign rfl) (by decide) ?_
                  refine WL.nil ?_
                  refine WK.nThen ?_
                  refine WC.region ?_
                  refine WL.x (X.move rfl) (by decide) ?_
                  refine WL.x (X.move rfl) (by decide) ?_
                  refine WL.x (X.add rfl rfl (by omega) (by omega)) (by decide) ?_
                  refine WL.x (X.field Try.runUnderlying36 rfl Try.sizeOf3 rfl) (by decide) ?_
                  refine WL.x (X.loadB (k := 2) Try.isAgg3 rfl rfl rfl) (by decide) ?_
                  refine WL.x (X.add rfl rfl (by omega) (by omega)) (by decide) ?_
                  refine WL.x (V := Value.agg [.int .i64 (x.Tick + 1), .int .i64 (400)].toArray) (X.build Try.zeroValue31 Try.runUnderlying31 (places31 _ Try.underlying31) rfl rfl) (by decide) ?_
                  refine WL.x (V := Value.agg [.int .i64 (k + 1), .int .i64 (x.Tick + 1), .int .i64 (400)].toArray) (X.build Try.zeroValue33 Try.runUnderlying33 (places33 _ Try.underlying33) rfl rfl) (by decide) ?_
                  refine WL.tl (T.lit1 sl26 rfl rfl rfl (by decide)) (by decide) fun b73 => ?_
                  refine WL.ta (T.appendF (k := 0) (a := (Mark.mk (k + 1) ((Span.mk (x.Tick + 1) (400))))) sl26 rfl rfl rfl rfl (by first | omega | (simp; done) | (simp; omega)) (by decide)) (by decide) (fun v74 => ?_)
                  refine WL.x (X.assign rfl) (by decide) ?_
                  refine WL.nil ?_
                  refine WK.nThen ?_
                  refine WC.seq ?_
                  have he75 : ((([] : List Mark)) ++ [(Mark.mk (k + 1) ((Span.mk (x.Tick + 1) (400))))]) = (colM c.D.Rates.length k x.Tick) := (by first | exact (col_a (by omega) (by omega)).symm | exact (col_b (by omega) (by omega)).symm | exact (col_c (by omega) (by omega)).symm | (exfalso; omega))
                  rw [he75]
                  have hcc := col_can (x := c) (t := x.Tick) (by omega) (by omega) (k := k) (by omega)
                  have hd1 : canR c (colM c.D.Rates.length k x.Tick) = true → (k < (c.D.Rates.length : Int) → x.Tick < 400) → (atR c.D c.M x.Tick).1.Lo ≤ k ∧ k ≤ (atR c.D c.M x.Tick).1.Hi := (fun h1_ h2_ => (hcc.1 h2_).1 h1_)
                  have hd2 : canR c (colM c.D.Rates.length k x.Tick) = false → (k < (c.D.Rates.length : Int) → x.Tick < 400) → ¬ ((atR c.D c.M x.Tick).1.Lo ≤ k ∧ k ≤ (atR c.D c.M x.Tick).1.Hi) := (fun h1_ h2_ h3_ => by rw [(hcc.1 h2_).2 h3_] at h1_; cases h1_)
                  have hd3 := hcc.2
                  have hcl_ := colM_len c.D.Rates.length k x.Tick
                  refine WK.freezeF 0 rfl rfl (by unfold lenB; omega) (fun m76 hle77 hs78 => ?_)
                  replace hs2 := hs2.mono hle77
                  replace hs4 := hs4.mono hle77
                  replace hs6 := hs6.mono hle77
                  replace hs11 := hs11.mono hle77
                  replace hs13 := hs13.mono hle77
                  replace hs15 := hs15.mono hle77
                  refine WC.draw (π := (.cons 0 (.cons 1 (.cons 2 (.cons 3 (.cons 4 (.cons 5 (.cons 6 (.cons 7 (.cons 8 (.cons 9 (.cons 10 (.cons 11 (.cons 12 (.cons 13 (.cons 14 (.cons 15 (.cons 16 .done)))))))))))))))))) [] [] rfl (by kernel_rfl) ?_
                  refine DW.x rfl rfl (X.move rfl) (by decide) ?_
                  refine DW.x rfl rfl (X.move rfl) (by decide) ?_
                  refine DW.no rfl rfl (by decide) ?_
                  refine DW.no rfl rfl (by decide) ?_
                  refine DW.no rfl rfl (by decide) ?_
                  refine DW.x rfl rfl (X.pickF rfl rfl rfl) (by decide) ?_
                  refine DW.x rfl rfl (X.field Try.runUnderlying31 rfl Try.sizeOf3 rfl) (by decide) ?_
                  refine DW.x rfl rfl (X.loadB (k := 0) Try.isAgg3 rfl rfl rfl) (by decide) ?_
                  refine DW.x rfl rfl (X.move rfl) (by decide) ?_
                  refine DW.cond rfl rfl (X.leq rfl rfl) (by decide) (fun h79 => ?_) (fun h79 => ?_)
                  · refine DW.x rfl rfl (X.move rfl) (by decide) ?_
                    refine DW.x rfl rfl (X.move rfl) (by decide) ?_
                    refine DW.x rfl rfl (X.field Try.runUnderlying31 rfl Try.sizeOf3 rfl) (by decide) ?_
                    refine DW.x rfl rfl (X.loadB (k := 0) Try.isAgg3 rfl rfl rfl) (by decide) ?_
                    refine DW.cond rfl rfl (X.leq rfl rfl) (by decide) (fun h80 => ?_) (fun h80 => ?_)
                    · refine DW.x rfl rfl (X.pickT rfl rfl rfl) (by decide) ?_
                      refine DW.x rfl rfl (OpX.t (X.neqB Try.underlying4 rfl rfl) (by decide)) (by decide) ?_
                      refine DW.nil ?_
                      refine WK.nThen ?_
                      refine WC.condT rfl ?_
                      refine WC.seq ?_
                      refine WC.region ?_
                      refine WL.x (X.assign rfl) (by decide) ?_
                      refine WL.nil ?_
                      refine WK.nThen ?_
                      refine WC.ret ?_
                      refine WK.rBlock ?_
                      refine WK.rThen ?_
                      refine WK.rThen ?_
                      refine WK.rBlock ?_
                      refine WK.rThen ?_
                      refine WK.ret1 rfl rfl (fun w' hw' => Ret.exact hw' ?_)
                      first | rfl | (exfalso; omega) | (exfalso; contradiction) | (exfalso; have q_ := hd1 (by assumption) (by omega); omega) | (exfalso; have q_ := hd2 (by assumption) (by omega); omega) | exact (bool_true (by first | omega | assumption)).symm | exact (bool_true hq).symm
                    · refine DW.x rfl rfl (X.pickT rfl rfl rfl) (by decide) ?_
                      refine DW.x rfl rfl (OpX.f (X.neqB Try.underlying4 rfl rfl) (fun h => h rfl)) (by decide) ?_
                      refine DW.nil ?_
                      refine WK.nThen ?_
                      refine WC.condF rfl ?_
                      refine WC.skip ?_
                      refine WK.nBlock ?_
                      refine WK.nThen ?_
                      refine WC.region ?_
                      refine WL.x (X.move rfl) (by decide) ?_
                      refine WL.x (X.add rfl rfl (by omega) (by omega)) (by decide) ?_
                      refine WL.x (X.assign rfl) (by decide) ?_
                      refine WL.nil ?_
                      refine WK.nThen ?_
                      refine WK.next ((k + 1, m76)) rfl (.refl _) (.cons rfl (.cons rfl (.cons rfl (.cons rfl (.cons rfl (.cons rfl .nil)))))) ?_ ?_
                      · exact ⟨Mem.le_trans hmm hle77, by omega⟩
                      · (dsimp only; omega)
                  · refine DW.x rfl rfl (X.move rfl) (by decide) ?_
                    refine DW.no rfl rfl (by decide) ?_
                    refine DW.no rfl rfl (by decide) ?_
                    refine DW.no rfl rfl (by decide) ?_
                    refine DW.no rfl rfl (by decide) ?_
                    refine DW.x rfl rfl (X.pickF rfl rfl rfl) (by decide) ?_
                    refine DW.x rfl rfl (OpX.f (X.neqB Try.underlying4 rfl rfl) (fun h => h rfl)) (by decide) ?_
                    refine DW.nil ?_
                    refine WK.nThen ?_
                    refine WC.condF rfl ?_
                    refine WC.skip ?_
                    refine WK.nBlock ?_
                    refine WK.nThen ?_
                    refine WC.region ?_
                    refine WL.x (X.move rfl) (by decide) ?_
                    refine WL.x (X.add rfl rfl (by omega) (by omega)) (by decide) ?_
                    refine WL.x (X.assign rfl) (by decide) ?_
                    refine WL.nil ?_
                    refine WK.nThen ?_
                    refine WK.next ((k + 1, m76)) rfl (.refl _) (.cons rfl (.cons rfl (.cons rfl (.cons rfl (.cons rfl (.cons rfl .nil)))))) ?_ ?_
                    · exact ⟨Mem.le_trans hmm hle77, by omega⟩
                    · (dsimp only; omega)
              · refine WL.nil ?_
                refine WK.nThen ?_
                refine WC.condF rfl ?_
                refine WC.skip ?_
                refine WK.nThen ?_
                refine WC.seq ?_
                have he81 : (([] : List Mark)) = (colM c.D.Rates.length k x.Tick) := (by first | exact (col_a (by omega) (by omega)).symm | exact (col_b (by omega) (by omega)).symm | exact (col_c (by omega) (by omega)).symm | (exfalso; omega))
                rw [he81]
                have hcc := col_can (x := c) (t := x.Tick) (by omega) (by omega) (k := k) (by omega)
                have hd1 : canR c (colM c.D.Rates.length k x.Tick) = true → (k < (c.D.Rates.length : Int) → x.Tick < 400) → (atR c.D c.M x.Tick).1.Lo ≤ k ∧ k ≤ (atR c.D c.M x.Tick).1.Hi := (fun h1_ h2_ => (hcc.1 h2_).1 h1_)
                have hd2 : canR c (colM c.D.Rates.length k x.Tick) = false → (k < (c.D.Rates.length : Int) → x.Tick < 400) → ¬ ((atR c.D c.M x.Tick).1.Lo ≤ k ∧ k ≤ (atR c.D c.M x.Tick).1.Hi) := (fun h1_ h2_ h3_ => by rw [(hcc.1 h2_).2 h3_] at h1_; cases h1_)
                have hd3 := hcc.2
                have hcl_ := colM_len c.D.Rates.length k x.Tick
                refine WK.freezeF 0 rfl rfl (by unfold lenB; omega) (fun m82 hle83 hs84 => ?_)
                replace hs2 := hs2.mono hle83
                replace hs4 := hs4.mono hle83
                replace hs6 := hs6.mono hle83
                replace hs11 := hs11.mono hle83
                replace hs13 := hs13.mono hle83
                replace hs15 := hs15.mono hle83
                refine WC.draw (π := (.cons 0 (.cons 1 (.cons 2 (.cons 3 (.cons 4 (.cons 5 (.cons 6 (.cons 7 (.cons 8 (.cons 9 (.cons 10 (.cons 11 (.cons 12 (.cons 13 (.cons 14 (.cons 15 (.cons 16 .done)))))))))))))))))) [] [] rfl (by kernel_rfl) ?_
                refine DW.x rfl rfl (X.move rfl) (by decide) ?_
                refine DW.x rfl rfl (X.move rfl) (by decide) ?_
                refine DW.x rfl rfl (X.loadBA (k := 2) Try.isAgg28 Try.sizeOf28 rfl rfl rfl) (by decide) ?_
                refine DW.x rfl rfl (X.move rfl) (by decide) ?_
                refine DW.condb rfl rfl (X.call Try.call30 rfl (can30 _ _ c ⟨_, _, _, rfl, hs2, hs4, hs6⟩ _ _ hs84 (by first | omega | simp) (by first | omega | simp))) (by decide) (fun h85 => ?_) (fun h85 => ?_)
                · refine DW.x rfl rfl (X.pickT rfl rfl rfl) (by decide) ?_
                  refine DW.x rfl rfl (X.field Try.runUnderlying31 rfl Try.sizeOf3 rfl) (by decide) ?_
                  refine DW.x rfl rfl (X.loadB (k := 0) Try.isAgg3 rfl rfl rfl) (by decide) ?_
                  refine DW.x rfl rfl (X.move rfl) (by decide) ?_
                  refine DW.cond rfl rfl (X.leq rfl rfl) (by decide) (fun h86 => ?_) (fun h86 => ?_)
                  · refine DW.x rfl rfl (X.move rfl) (by decide) ?_
                    refine DW.x rfl rfl (X.move rfl) (by decide) ?_
                    refine DW.x rfl rfl (X.field Try.runUnderlying31 rfl Try.sizeOf3 rfl) (by decide) ?_
                    refine DW.x rfl rfl (X.loadB (k := 0) Try.isAgg3 rfl rfl rfl) (by decide) ?_
                    refine DW.cond rfl rfl (X.leq rfl rfl) (by decide) (fun h87 => ?_) (fun h87 => ?_)
                    · refine DW.x rfl rfl (X.pickT rfl rfl rfl) (by decide) ?_
                      refine DW.x rfl rfl (OpX.f (X.neqB Try.underlying4 rfl rfl) (fun h => h rfl)) (by decide) ?_
                      refine DW.nil ?_
                      refine WK.nThen ?_
                      refine WC.condF rfl ?_
                      refine WC.skip ?_
                      refine WK.nBlock ?_
                      refine WK.nThen ?_
                      refine WC.region ?_
                      refine WL.x (X.move rfl) (by decide) ?_
                      refine WL.x (X.add rfl rfl (by omega) (by omega)) (by decide) ?_
                      refine WL.x (X.assign rfl) (by decide) ?_
                      refine WL.nil ?_
                      refine WK.nThen ?_
                      refine WK.next ((k + 1, m82)) rfl (.refl _) (.cons rfl (.cons rfl (.cons rfl (.cons rfl (.cons rfl (.cons rfl .nil)))))) ?_ ?_
                      · exact ⟨Mem.le_trans hmm hle83, by omega⟩
                      · (dsimp only; omega)
                    · refine DW.x rfl rfl (X.pickT rfl rfl rfl) (by decide) ?_
                      refine DW.x rfl rfl (OpX.t (X.neqB Try.underlying4 rfl rfl) (by decide)) (by decide) ?_
                      refine DW.nil ?_
                      refine WK.nThen ?_
                      refine WC.condT rfl ?_
                      refine WC.seq ?_
                      refine WC.region ?_
                      refine WL.x (X.assign rfl) (by decide) ?_
                      refine WL.nil ?_
                      refine WK.nThen ?_
                      refine WC.ret ?_
                      refine WK.rBlock ?_
                      refine WK.rThen ?_
                      refine WK.rThen ?_
                      refine WK.rBlock ?_
                      refine WK.rThen ?_
                      refine WK.ret1 rfl rfl (fun w' hw' => Ret.exact hw' ?_)
                      first | rfl | (exfalso; omega) | (exfalso; contradiction) | (exfalso; have q_ := hd1 (by assumption) (by omega); omega) | (exfalso; have q_ := hd2 (by assumption) (by omega); omega) | exact (bool_true (by first | omega | assumption)).symm | exact (bool_true hq).symm
                  · refine DW.x rfl rfl (X.move rfl) (by decide) ?_
                    refine DW.no rfl rfl (by decide) ?_
                    refine DW.no rfl rfl (by decide) ?_
                    refine DW.no rfl rfl (by decide) ?_
                    refine DW.no rfl rfl (by decide) ?_
                    refine DW.x rfl rfl (X.pickF rfl rfl rfl) (by decide) ?_
                    refine DW.x rfl rfl (OpX.t (X.neqB Try.underlying4 rfl rfl) (by decide)) (by decide) ?_
                    refine DW.nil ?_
                    refine WK.nThen ?_
                    refine WC.condT rfl ?_
                    refine WC.seq ?_
                    refine WC.region ?_
                    refine WL.x (X.assign rfl) (by decide) ?_
                    refine WL.nil ?_
                    refine WK.nThen ?_
                    refine WC.ret ?_
                    refine WK.rBlock ?_
                    refine WK.rThen ?_
                    refine WK.rThen ?_
                    refine WK.rBlock ?_
                    refine WK.rThen ?_
                    refine WK.ret1 rfl rfl (fun w' hw' => Ret.exact hw' ?_)
                    first | rfl | (exfalso; omega) | (exfalso; contradiction) | (exfalso; have q_ := hd1 (by assumption) (by omega); omega) | (exfalso; have q_ := hd2 (by assumption) (by omega); omega) | exact (bool_true (by first | omega | assumption)).symm | exact (bool_true hq).symm
                · refine DW.x rfl rfl (X.pickT rfl rfl rfl) (by decide) ?_
                  refine DW.x rfl rfl (X.field Try.runUnderlying31 rfl Try.sizeOf3 rfl) (by decide) ?_
                  refine DW.x rfl rfl (X.loadB (k := 0) Try.isAgg3 rfl rfl rfl) (by decide) ?_
                  refine DW.x rfl rfl (X.move rfl) (by decide) ?_
                  refine DW.cond rfl rfl (X.leq rfl rfl) (by decide) (fun h88 => ?_) (fun h88 => ?_)
                  · refine DW.x rfl rfl (X.move rfl) (by decide) ?_
                    refine DW.x rfl rfl (X.move rfl) (by decide) ?_
                    refine DW.x rfl rfl (X.field Try.runUnderlying31 rfl Try.sizeOf3 rfl) (by decide) ?_
                    refine DW.x rfl rfl (X.loadB (k := 0) Try.isAgg3 rfl rfl rfl) (by decide) ?_
                    refine DW.cond rfl rfl (X.leq rfl rfl) (by decide) (fun h89 => ?_) (fun h89 => ?_)
                    · refine DW.x rfl rfl (X.pickT rfl rfl rfl) (by decide) ?_
                      refine DW.x rfl rfl (OpX.t (X.neqB Try.underlying4 rfl rfl) (by decide)) (by decide) ?_
                      refine DW.nil ?_
                      refine WK.nThen ?_
                      refine WC.condT rfl ?_
                      refine WC.seq ?_
                      refine WC.region ?_
                      refine WL.x (X.assign rfl) (by decide) ?_
                      refine WL.nil ?_
                      refine WK.nThen ?_
                      refine WC.ret ?_
                      refine WK.rBlock ?_
                      refine WK.rThen ?_
                      refine WK.rThen ?_
                      refine WK.rBlock ?_
                      refine WK.rThen ?_
                      refine WK.ret1 rfl rfl (fun w' hw' => Ret.exact hw' ?_)
                      first | rfl | (exfalso; omega) | (exfalso; contradiction) | (exfalso; have q_ := hd1 (by assumption) (by omega); omega) | (exfalso; have q_ := hd2 (by assumption) (by omega); omega) | exact (bool_true (by first | omega | assumption)).symm | exact (bool_true hq).symm
                    · refine DW.x rfl rfl (X.pickT rfl rfl rfl) (by decide) ?_
                      refine DW.x rfl rfl (OpX.f (X.neqB Try.underlying4 rfl rfl) (fun h => h rfl)) (by decide) ?_
                      refine DW.nil ?_
                      refine WK.nThen ?_
                      refine WC.condF rfl ?_
                      refine WC.skip ?_
                      refine WK.nBlock ?_
                      refine WK.nThen ?_
                      refine WC.region ?_
                      refine WL.x (X.move rfl) (by decide) ?_
                      refine WL.x (X.add rfl rfl (by omega) (by omega)) (by decide) ?_
                      refine WL.x (X.assign rfl) (by decide) ?_
                      refine WL.nil ?_
                      refine WK.nThen ?_
                      refine WK.next ((k + 1, m82)) rfl (.refl _) (.cons rfl (.cons rfl (.cons rfl (.cons rfl (.cons rfl (.cons rfl .nil)))))) ?_ ?_
                      · exact ⟨Mem.le_trans hmm hle83, by omega⟩
                      · (dsimp only; omega)
                  · refine DW.x rfl rfl (X.move rfl) (by decide) ?_
                    refine DW.no rfl rfl (by decide) ?_
                    refine DW.no rfl rfl (by decide) ?_
                    refine DW.no rfl rfl (by decide) ?_
                    refine DW.no rfl rfl (by decide) ?_
                    refine DW.x rfl rfl (X.pickF rfl rfl rfl) (by decide) ?_
                    refine DW.x rfl rfl (OpX.f (X.neqB Try.underlying4 rfl rfl) (fun h => h rfl)) (by decide) ?_
                    refine DW.nil ?_
                    refine WK.nThen ?_
                    refine WC.condF rfl ?_
                    refine WC.skip ?_
                    refine WK.nBlock ?_
                    refine WK.nThen ?_
                    refine WC.region ?_
                    refine WL.x (X.move rfl) (by decide) ?_
                    refine WL.x (X.add rfl rfl (by omega) (by omega)) (by decide) ?_
                    refine WL.x (X.assign rfl) (by decide) ?_
                    refine WL.nil ?_
                    refine WK.nThen ?_
                    refine WK.next ((k + 1, m82)) rfl (.refl _) (.cons rfl (.cons rfl (.cons rfl (.cons rfl (.cons rfl (.cons rfl .nil)))))) ?_ ?_
                    · exact ⟨Mem.le_trans hmm hle83, by omega⟩
                    · (dsimp only; omega)
          · refine WL.nil ?_
            refine WK.nThen ?_
            refine WC.condF rfl ?_
            refine WC.exit ?_
            refine WK.eThen ?_
            refine WK.eThen ?_
            refine WK.eHit ?_
            refine WK.nThen ?_
            refine WC.seq ?_
            refine WC.region ?_
            refine WL.x (X.field Try.runUnderlying28 rfl Try.sizeOf25 rfl) (by decide) ?_
            refine WL.x (X.loadBP (k := 2) (vs := [v1, v3]) Try.isAgg25 Try.sizeOf25 rfl rfl rfl rfl) (by decide) ?_
            refine WL.x (X.field Try.runUnderlying28 rfl Try.sizeOf26 rfl) (by decide) ?_
            refine WL.x (X.loadB (k := 2) Try.isAgg26 rfl rfl rfl) (by decide) ?_
            refine WL.x (X.field Try.runUnderlying36 rfl Try.sizeOf3 rfl) (by decide) ?_
            refine WL.x (X.loadB (k := 1) Try.isAgg3 rfl rfl rfl) (by decide) ?_
            refine WL.x (X.add rfl rfl (by omega) (by omega)) (by decide) ?_
            refine WL.x (X.call Try.call23 rfl (at23 _ _ c.D ⟨_, _, rfl, hs2, hs4⟩ _ _ hs6 _ )) (by decide) ?_
            refine WL.x (X.move rfl) (by decide) ?_
            refine WL.x (X.extract rfl rfl) (by decide) ?_
            refine WL.x (X.extract rfl rfl) (by decide) ?_
            refine WL.tn (T.alloc Try.zeroValue31 rfl) (by decide) fun b90 => ?_
            refine WL.ts (T.storeBA (k := 0) Try.sizeOf31 rfl rfl rfl (one_cons rfl (one_cons rfl one_nil)) rfl rfl) ?_
            refine WL.x (X.assign rfl) (by decide) ?_
            refine WL.nil ?_
            refine WK.nThen ?_
            refine WC.seq ?_
            have hnx : (atR c.D c.M (x.Tick + 1)).2 = 0 → _ := fun h_ => col_next (show (atR c.D c.M x.Tick).2 = 0 by omega) h_ (by omega)
            refine WC.region ?_
            refine WL.x (X.move rfl) (by decide) ?_
            refine WL.x (X.move rfl) (by decide) ?_
            refine WL.yes rfl rfl ?_
            refine WL.x (X.move rfl) (by decide) ?_
            refine WL.yes rfl rfl ?_
            refine WL.condn (X.neq rfl rfl) (by decide) (fun h91 => ?_) (fun h91 => ?_)
            · refine WL.yes rfl rfl ?_
              refine WL.x (X.move rfl) (by decide) ?_
              refine WL.no rfl rfl rfl (by decide) ?_
              refine WL.no rfl rfl rfl (by decide) ?_
              refine WL.no rfl rfl rfl (by decide) ?_
              refine WL.no rfl rfl rfl (by decide) ?_
              refine WL.no rfl rfl rfl (by decide) ?_
              refine WL.no rfl rfl rfl (by decide) ?_
              refine WL.noU rfl rfl (by decide) ?_
              refine WL.noU rfl rfl (by decide) ?_
              refine WL.noU rfl rfl (by decide) ?_
              refine WL.noU rfl rfl (by decide) ?_
              refine WL.noU rfl rfl (by decide) ?_
              refine WL.no rfl rfl rfl (by decide) ?_
              refine WL.yes rfl rfl ?_
              refine WL.x (X.pickT rfl rfl rfl) (by decide) ?_
              refine WL.x (X.pickT rfl rfl rfl) (by decide) ?_
              refine WL.x (X.assign rfl) (by decide) ?_
              refine WL.nil ?_
              refine WK.nThen ?_
              refine WC.ret ?_
              refine WK.ret1 rfl rfl (fun w' hw' => Ret.exact hw' ?_)
              first | rfl | (exfalso; omega) | (exfalso; contradiction) | (exfalso; have q_ := hd1 (by assumption) (by omega); omega) | (exfalso; have q_ := hd2 (by assumption) (by omega); omega) | exact (bool_true (by first | omega | assumption)).symm | exact (bool_true hq).symm
            · refine WL.yes rfl rfl ?_
              refine WL.x (X.move rfl) (by decide) ?_
              refine WL.yes rfl rfl ?_
              refine WL.x (X.field Try.runUnderlying31 rfl Try.sizeOf3 rfl) (by decide) ?_
              refine WL.yes rfl rfl ?_
              refine WL.x (X.loadB (k := 1) Try.isAgg3 rfl rfl rfl) (by decide) ?_
              refine WL.yes rfl rfl ?_
              refine WL.x (X.field Try.runUnderlying31 rfl Try.sizeOf3 rfl) (by decide) ?_
              refine WL.yes rfl rfl ?_
              refine WL.x (X.loadB (k := 0) Try.isAgg3 rfl rfl rfl) (by decide) ?_
              refine WL.yes rfl rfl ?_
              refine WL.cond (X.leq rfl rfl) (by decide) (fun h92 => ?_) (fun h92 => ?_)
              · refine WL.yes rfl rfl ?_
                refine WL.x (X.move rfl) (by decide) ?_
                refine WL.yes rfl rfl ?_
                refine WL.x (X.field Try.runUnderlying31 rfl Try.sizeOf3 rfl) (by decide) ?_
                refine WL.yes rfl rfl ?_
                refine WL.x (X.loadB (k := 1) Try.isAgg3 rfl rfl rfl) (by decide) ?_
                refine WL.yes rfl rfl ?_
                refine WL.x (X.field Try.runUnderlying31 rfl Try.sizeOf3 rfl) (by decide) ?_
                refine WL.yes rfl rfl ?_
                refine WL.x (X.loadB (k := 0) Try.isAgg3 rfl rfl rfl) (by decide) ?_
                refine WL.yes rfl rfl ?_
                refine WL.x (X.leq rfl rfl) (by decide) ?_
                refine WL.yes rfl rfl ?_
                refine WL.x (X.pickT rfl rfl rfl) (by decide) ?_
                refine WL.yes rfl rfl ?_
                refine WL.x (X.pickF rfl rfl rfl) (by decide) ?_
                refine WL.x (X.pickT rfl rfl rfl) (by decide) ?_
                refine WL.x (X.assign rfl) (by decide) ?_
                refine WL.nil ?_
                refine WK.nThen ?_
                refine WC.ret ?_
                refine WK.ret1 rfl rfl (fun w' hw' => Ret.exact hw' ?_)
                first | rfl | (exfalso; omega) | (exfalso; contradiction) | (exfalso; have q_ := hd1 (by assumption) (by omega); omega) | (exfalso; have q_ := hd2 (by assumption) (by omega); omega) | exact (bool_true (by first | omega | assumption)).symm | exact (bool_true hq).symm
              · refine WL.yes rfl rfl ?_
                refine WL.x (X.move rfl) (by decide) ?_
                refine WL.no rfl rfl rfl (by decide) ?_
                refine WL.no rfl rfl rfl (by decide) ?_
                refine WL.no rfl rfl rfl (by decide) ?_
                refine WL.no rfl rfl rfl (by decide) ?_
                refine WL.no rfl rfl rfl (by decide) ?_
                refine WL.yes rfl rfl ?_
                refine WL.x (X.pickF rfl rfl rfl) (by decide) ?_
                refine WL.yes rfl rfl ?_
                refine WL.x (X.pickF rfl rfl rfl) (by decide) ?_
                refine WL.x (X.pickT rfl rfl rfl) (by decide) ?_
                refine WL.x (X.assign rfl) (by decide) ?_
                refine WL.nil ?_
                refine WK.nThen ?_
                refine WC.ret ?_
                refine WK.ret1 rfl rfl (fun w' hw' => Ret.exact hw' ?_)
                first | rfl | (exfalso; omega) | (exfalso; contradiction) | (exfalso; have q_ := hd1 (by assumption) (by omega); omega) | (exfalso; have q_ := hd2 (by assumption) (by omega); omega) | exact (bool_true (by first | omega | assumption)).symm | exact (bool_true hq).symm
  · refine WL.x (X.not rfl) (by decide) ?_
    refine WL.x (X.move rfl) (by decide) ?_
    refine WL.no rfl rfl rfl (by decide) ?_
    refine WL.no rfl rfl rfl (by decide) ?_
    refine WL.no rfl rfl rfl (by decide) ?_
    refine WL.no rfl rfl rfl (by decide) ?_
    refine WL.x (X.pickT rfl rfl rfl) (by decide) ?_
    refine WL.nil ?_
    refine WK.nThen ?_
    refine WC.condT rfl ?_
    refine WC.seq ?_
    refine WC.region ?_
    refine WL.x (X.move rfl) (by decide) ?_
    refine WL.x (X.assign rfl) (by decide) ?_
    refine WL.nil ?_
    refine WK.nThen ?_
    refine WC.ret ?_
    refine WK.rThen ?_
    refine WK.ret1 rfl rfl (fun w' hw' => Ret.exact hw' ?_)
    first | rfl | (exfalso; omega) | (exfalso; contradiction) | (exfalso; have q_ := hd1 (by assumption) (by omega); omega) | (exfalso; have q_ := hd2 (by assumption) (by omega); omega) | exact (bool_true (by first | omega | assumption)).symm | exact (bool_true hq).symm
end Go.Proofs.C2
