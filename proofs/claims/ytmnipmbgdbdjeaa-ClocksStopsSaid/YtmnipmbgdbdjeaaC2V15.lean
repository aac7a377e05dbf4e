/- The walk of the statement ClocksStops: its function answers true. -/
import Derived.Test.YtmnipmbgdbdjeaaC2Br
import Derived.Test.YtmnipmbgdbdjeaaC2W10
import Derived.Test.YtmnipmbgdbdjeaaC2LH
namespace Go.Proofs.C2
open Go Go.Kx
set_option linter.unusedSimpArgs false
set_option linter.unusedVariables false
set_option maxRecDepth 20000 in
set_option maxHeartbeats 4000000 in
theorem law15 (m : Mem) (cc : List Value) (c : Clk) (hc : Enc.rd m cc c) (cx : List Value) (x : Ask) (hx : Enc.rd m cx x) (column : Int) (most : Int)  (ok0 : Rng.ok c) (ok1 : Rng.ok x) (lo2 : -9223372036854775808 ≤ column) (hi2 : column ≤ 9223372036854775807) (lo3 : -9223372036854775808 ≤ most) (hi3 : most ≤ 9223372036854775807) : Exact Try.prog 15 #[.agg cc.toArray, .agg cx.toArray, .int .i64 (column), .int .i64 (most)] m (.bool true) := by
  obtain ⟨v1, v3, v5, rfl, hs2, hs4, hs6⟩ := hc
  have hl7 := hs2.le
  have hl8 := hs4.le
  have hl9 := hs6.le
  obtain ⟨v10, v12, v14, rfl, hs11, hs13, hs15⟩ := hx
  have hl16 := hs11.le
  have hl17 := hs13.le
  have hl18 := hs15.le
  refine Exact.start Try.func15 rfl Try.ntmps15 rfl fun wld => ?_
  refine WC.seq ?_
  refine WC.region ?_
  refine WL.tn (T.boxB rfl rfl) (by decide) fun b19 => ?_
  refine WL.tn (T.boxB rfl rfl) (by decide) fun b20 => ?_
  refine WL.x (X.assign rfl) (by decide) ?_
  refine WL.nil ?_
  refine WK.nThen ?_
  refine WC.seq ?_
  refine WC.region ?_
  refine WL.x (X.call Try.call19 rfl (awake19 _  )) (by decide) ?_
  refine WL.x (X.assign rfl) (by decide) ?_
  refine WL.nil ?_
  refine WK.nThen ?_
  refine WC.seq ?_
  refine WC.seq ?_
  refine WC.region ?_
  refine WL.x (X.loadBA (k := 1) Try.isAgg28 Try.sizeOf28 rfl rfl rfl) (by decide) ?_
  refine WL.cond (X.call Try.call20 rfl (few20 _ _ c ⟨_, _, _, rfl, hs2, hs4, hs6⟩ )) (by decide) (fun h21 => ?_) (fun h21 => ?_)
  · refine WL.x (X.not rfl) (by decide) ?_
    refine WL.x (X.move rfl) (by decide) ?_
    refine WL.yes rfl rfl ?_
    refine WL.x (X.loadBA (k := 0) Try.isAgg36 Try.sizeOf36 rfl rfl rfl) (by decide) ?_
    refine WL.yes rfl rfl ?_
    refine WL.cond (X.call Try.call42 rfl (light42 _ _ x ⟨_, _, _, rfl, hs11, hs13, hs15⟩ )) (by decide) (fun h22 => ?_) (fun h22 => ?_)
    · refine WL.yes rfl rfl ?_
      refine WL.x (X.not rfl) (by decide) ?_
      refine WL.x (X.pickF rfl rfl rfl) (by decide) ?_
      refine WL.nil ?_
      refine WK.nThen ?_
      refine WC.condF rfl ?_
      refine WC.skip ?_
      refine WK.nThen ?_
      refine WC.seq ?_
      have hlt := (‹lightA x› : lightA x)
      unfold lightA at hlt
      refine WC.region ?_
      refine WL.x (X.field Try.runUnderlying28 rfl Try.sizeOf25 rfl) (by decide) ?_
      refine WL.x (X.loadBP (k := 1) (vs := [v1, v3]) Try.isAgg25 Try.sizeOf25 rfl rfl rfl rfl) (by decide) ?_
      refine WL.x (X.move rfl) (by decide) ?_
      refine WL.x (X.move rfl) (by decide) ?_
      refine WL.x (V := Value.agg [.int .i64 (0), .int .i64 (most)].toArray) (X.build Try.zeroValue31 Try.runUnderlying31 (places31 _ Try.underlying31) rfl rfl) (by decide) ?_
      refine WL.x (V := Value.agg [.int .i64 (column), .int .i64 (0), .int .i64 (most)].toArray) (X.build Try.zeroValue34 Try.runUnderlying34 (places34 _ Try.underlying34) rfl rfl) (by decide) ?_
      refine WL.tm (T.call Try.call57 rfl (wind57 _ _ c.D ⟨_, _, rfl, hs2, hs4⟩ _ ((Stop.mk (column) ((Span.mk (0) (most))))) rfl )) (by decide) fun m23 r24 hle25 hR26 => ?_
      obtain ⟨c27, rfl, hc28⟩ := hR26
      replace hs2 := hs2.mono hle25
      replace hs4 := hs4.mono hle25
      replace hs6 := hs6.mono hle25
      replace hs11 := hs11.mono hle25
      replace hs13 := hs13.mono hle25
      replace hs15 := hs15.mono hle25
      obtain ⟨v29, v31, rfl, hs30, hs32⟩ := hc28
      have hl33 := hs30.le
      have hl34 := hs32.le
      refine WL.x (X.move rfl) (by decide) ?_
      refine WL.x (X.extract rfl rfl) (by decide) ?_
      refine WL.x (X.extract rfl rfl) (by decide) ?_
      refine WL.tn (T.alloc Try.zeroValue25 rfl) (by decide) fun b35 => ?_
      refine WL.ts (T.storeBA (k := 0) Try.sizeOf25 rfl rfl rfl (one_cons hs30.one (one_cons hs32.one one_nil)) rfl rfl) ?_
      refine WL.x (X.assign rfl) (by decide) ?_
      refine WL.nil ?_
      refine WK.nThen ?_
      refine WC.seq ?_
      refine WC.seq ?_
      refine WC.region ?_
      refine WL.x (X.move rfl) (by decide) ?_
      refine WL.condn (X.neq rfl rfl) (by decide) (fun h36 => ?_) (fun h36 => ?_)
      · refine WL.nil ?_
        refine WK.nThen ?_
        refine WC.condT rfl ?_
        refine WC.seq ?_
        refine WC.region ?_
        refine WL.x (X.move rfl) (by decide) ?_
        refine WL.x (X.assign rfl) (by decide) ?_
        refine WL.nil ?_
        refine WK.nThen ?_
        refine WC.ret ?_
        refine WK.rThen ?_
        refine WK.ret1 rfl rfl (fun w' hw' => Ret.exact hw' ?_)
        first | rfl | (exfalso; omega) | (exfalso; contradiction) | (exfalso; have q_ := hkeep (by omega); contradiction) | exact (bool_true (by omega)).symm
      · refine WL.nil ?_
        refine WK.nThen ?_
        refine WC.condF rfl ?_
        refine WC.skip ?_
        refine WK.nThen ?_
        refine WC.seq ?_
        refine WC.region ?_
        refine WL.x (X.loadBA (k := 0) Try.isAgg25 Try.sizeOf25 rfl rfl rfl) (by decide) ?_
        refine WL.x (X.field Try.runUnderlying28 rfl Try.sizeOf26 rfl) (by decide) ?_
        refine WL.x (X.loadB (k := 2) Try.isAgg26 rfl rfl rfl) (by decide) ?_
        refine WL.x (V := Value.agg [v29, v31, v5].toArray) (X.build Try.zeroValue28 Try.runUnderlying28 (places28 _ Try.underlying28) rfl (by simp only [Instr.fill, one_cells hs6.one, one_cells hs30.one, one_cells hs32.one]; rfl)) (by decide) ?_
        refine WL.tn (T.alloc Try.zeroValue28 rfl) (by decide) fun b37 => ?_
        refine WL.ts (T.storeBA (k := 0) Try.sizeOf28 rfl rfl rfl (one_cons hs30.one (one_cons hs32.one (one_cons hs6.one one_nil))) rfl rfl) ?_
        refine WL.nil ?_
        refine WK.nThen ?_
        refine WC.seq ?_
        refine WC.seq ?_
        have hw0 : (winR c.D ⟨column, ⟨0, most⟩⟩).2 = 0 := (by omega)
        have hkeep := stop_keep (m := c.M) hw0 rfl x.One
        refine WC.region ?_
        refine WL.x (X.loadBA (k := 3) Try.isAgg28 Try.sizeOf28 rfl rfl rfl) (by decide) ?_
        refine WL.x (X.field Try.runUnderlying36 rfl Try.sizeOf29 rfl) (by decide) ?_
        refine WL.x (X.loadB (k := 2) Try.isAgg29 rfl rfl rfl) (by decide) ?_
        refine WL.cond (X.call Try.call48 rfl (is48 _ _ c ⟨_, _, _, rfl, hs2, hs4, hs6⟩ _ _ hs11 )) (by decide) (fun h38 => ?_) (fun h38 => ?_)
        · refine WL.x (X.move rfl) (by decide) ?_
          refine WL.yes rfl rfl ?_
          refine WL.x (X.loadBA (k := 0) Try.isAgg28 Try.sizeOf28 rfl rfl rfl) (by decide) ?_
          refine WL.yes rfl rfl ?_
          refine WL.x (X.field Try.runUnderlying36 rfl Try.sizeOf29 rfl) (by decide) ?_
          refine WL.yes rfl rfl ?_
          refine WL.x (X.loadB (k := 2) Try.isAgg29 rfl rfl rfl) (by decide) ?_
          refine WL.yes rfl rfl ?_
          refine WL.cond (X.call Try.call48 rfl (is48 _ _ ((Clk.mk ((winR c.D (((Stop.mk (column) ((Span.mk (0) (most))))))).1) (c.M))) ⟨_, _, _, rfl, hs30, hs32, hs6⟩ _ _ hs11 )) (by decide) (fun h39 => ?_) (fun h39 => ?_)
          · refine WL.yes rfl rfl ?_
            refine WL.x (X.not rfl) (by decide) ?_
            refine WL.x (X.pickT rfl rfl rfl) (by decide) ?_
            refine WL.nil ?_
            refine WK.nThen ?_
            refine WC.condF rfl ?_
            refine WC.skip ?_
            refine WK.nThen ?_
            refine WC.seq ?_
            refine WC.region ?_
            refine WL.x (X.field Try.runUnderlying28 rfl Try.sizeOf25 rfl) (by decide) ?_
            refine WL.x (X.loadBP (k := 3) (vs := [v1, v3]) Try.isAgg25 Try.sizeOf25 rfl rfl rfl rfl) (by decide) ?_
            refine WL.x (X.field Try.runUnderlying28 rfl Try.sizeOf26 rfl) (by decide) ?_
            refine WL.x (X.loadB (k := 3) Try.isAgg26 rfl rfl rfl) (by decide) ?_
            refine WL.x (X.field Try.runUnderlying36 rfl Try.sizeOf3 rfl) (by decide) ?_
            refine WL.x (X.loadB (k := 2) Try.isAgg3 rfl rfl rfl) (by decide) ?_
            refine WL.x (X.field Try.runUnderlying36 rfl Try.sizeOf3 rfl) (by decide) ?_
            refine WL.x (X.loadB (k := 2) Try.isAgg3 rfl rfl rfl) (by decide) ?_
            refine WL.x (X.call Try.call21 rfl (between21 _ _ c.D ⟨_, _, rfl, hs2, hs4⟩ _ _ hs6 _ _ )) (by decide) ?_
            refine WL.x (X.move rfl) (by decide) ?_
            refine WL.x (X.extract rfl rfl) (by decide) ?_
            refine WL.x (X.extract rfl rfl) (by decide) ?_
            refine WL.tn (T.alloc Try.zeroValue31 rfl) (by decide) fun b40 => ?_
            refine WL.ts (T.storeBA (k := 0) Try.sizeOf31 rfl rfl rfl (one_cons rfl (one_cons rfl one_nil)) rfl rfl) ?_
            refine WL.x (X.assign rfl) (by decide) ?_
            refine WL.nil ?_
            refine WK.nThen ?_
            refine WC.seq ?_
            refine WC.region ?_
            refine WL.x (X.loadBA (k := 2) Try.isAgg25 Try.sizeOf25 rfl rfl rfl) (by decide) ?_
            refine WL.x (X.field Try.runUnderlying28 rfl Try.sizeOf26 rfl) (by decide) ?_
            refine WL.x (X.loadB (k := 4) Try.isAgg26 rfl rfl rfl) (by decide) ?_
            refine WL.x (X.field Try.runUnderlying36 rfl Try.sizeOf3 rfl) (by decide) ?_
            refine WL.x (X.loadB (k := 3) Try.isAgg3 rfl rfl rfl) (by decide) ?_
            refine WL.x (X.field Try.runUnderlying36 rfl Try.sizeOf3 rfl) (by decide) ?_
            refine WL.x (X.loadB (k := 3) Try.isAgg3 rfl rfl rfl) (by decide) ?_
            refine WL.x (X.call Try.call21 rfl (between21 _ _ ((winR c.D (((Stop.mk (column) ((Span.mk (0) (most))))))).1) ⟨_, _, rfl, hs30, hs32⟩ _ _ hs6 _ _ )) (by decide) ?_
            refine WL.x (X.move rfl) (by decide) ?_
            refine WL.x (X.extract rfl rfl) (by decide) ?_
            refine WL.x (X.extract rfl rfl) (by decide) ?_
            refine WL.tn (T.alloc Try.zeroValue31 rfl) (by decide) fun b41 => ?_
            refine WL.ts (T.storeBA (k := 0) Try.sizeOf31 rfl rfl rfl (one_cons rfl (one_cons rfl one_nil)) rfl rfl) ?_
            refine WL.x (X.assign rfl) (by decide) ?_
            refine WL.nil ?_
            refine WK.nThen ?_
            refine WC.seq ?_
            refine WC.region ?_
            refine WL.x (X.field Try.runUnderlying28 rfl Try.sizeOf25 rfl) (by decide) ?_
            refine WL.x (X.loadBP (k := 5) (vs := [v1, v3]) Try.isAgg25 Try.sizeOf25 rfl rfl rfl rfl) (by decide) ?_
            refine WL.x (X.field Try.runUnderlying28 rfl Try.sizeOf26 rfl) (by decide) ?_
            refine WL.x (X.loadB (k := 5) Try.isAgg26 rfl rfl rfl) (by decide) ?_
            refine WL.x (X.field Try.runUnderlying36 rfl Try.sizeOf3 rfl) (by decide) ?_
            refine WL.x (X.loadB (k := 4) Try.isAgg3 rfl rfl rfl) (by decide) ?_
            refine WL.x (X.call Try.call23 rfl (at23 _ _ c.D ⟨_, _, rfl, hs2, hs4⟩ _ _ hs6 _ )) (by decide) ?_
            refine WL.x (X.move rfl) (by decide) ?_
            refine WL.x (X.extract rfl rfl) (by decide) ?_
            refine WL.x (X.extract rfl rfl) (by decide) ?_
            refine WL.tn (T.alloc Try.zeroValue31 rfl) (by decide) fun b42 => ?_
            refine WL.ts (T.storeBA (k := 0) Try.sizeOf31 rfl rfl rfl (one_cons rfl (one_cons rfl one_nil)) rfl rfl) ?_
            refine WL.x (X.assign rfl) (by decide) ?_
            refine WL.nil ?_
            refine WK.nThen ?_
            refine WC.seq ?_
            refine WC.region ?_
            refine WL.x (X.loadBA (k := 4) Try.isAgg25 Try.sizeOf25 rfl rfl rfl) (by decide) ?_
            refine WL.x (X.field Try.runUnderlying28 rfl Try.sizeOf26 rfl) (by decide) ?_
            refine WL.x (X.loadB (k := 6) Try.isAgg26 rfl rfl rfl) (by decide) ?_
            refine WL.x (X.field Try.runUnderlying36 rfl Try.sizeOf3 rfl) (by decide) ?_
            refine WL.x (X.loadB (k := 5) Try.isAgg3 rfl rfl rfl) (by decide) ?_
            refine WL.x (X.call Try.call23 rfl (at23 _ _ ((winR c.D (((Stop.mk (column) ((Span.mk (0) (most))))))).1) ⟨_, _, rfl, hs30, hs32⟩ _ _ hs6 _ )) (by decide) ?_
            refine WL.x (X.move rfl) (by decide) ?_
            refine WL.x (X.extract rfl rfl) (by decide) ?_
            refine WL.x (X.extract rfl rfl) (by decide) ?_
            refine WL.tn (T.alloc Try.zeroValue31 rfl) (by decide) fun b43 => ?_
            refine WL.ts (T.storeBA (k := 0) Try.sizeOf31 rfl rfl rfl (one_cons rfl (one_cons rfl one_nil)) rfl rfl) ?_
            refine WL.x (X.assign rfl) (by decide) ?_
            refine WL.nil ?_
            refine WK.nThen ?_
            refine WC.seq ?_
            refine WC.seq ?_
            have hbt : (betR c.D c.M x.A x.B).2 = 0 → _ := fun h_ => stop_bet (m := c.M) (a := x.A) (b := x.B) hw0 rfl h_
            have hat : (atR c.D c.M x.Tick).2 = 0 → _ := fun h_ => stop_at (m := c.M) (t := x.Tick) hw0 rfl h_
            refine WC.region ?_
            refine WL.x (X.move rfl) (by decide) ?_
            refine WL.cond (X.eql rfl rfl) (by decide) (fun h44 => ?_) (fun h44 => ?_)
            · refine WL.x (X.move rfl) (by decide) ?_
              refine WL.yes rfl rfl ?_
              refine WL.x (X.move rfl) (by decide) ?_
              refine WL.yes rfl rfl ?_
              refine WL.condn (X.neq rfl rfl) (by decide) (fun h45 => ?_) (fun h45 => ?_)
              · refine WL.yes rfl rfl ?_
                refine WL.x (X.move rfl) (by decide) ?_
                refine WL.no rfl rfl rfl (by decide) ?_
                refine WL.no rfl rfl rfl (by decide) ?_
                refine WL.no rfl rfl rfl (by decide) ?_
                refine WL.no rfl rfl rfl (by decide) ?_
                refine WL.no rfl rfl rfl (by decide) ?_
                refine WL.yes rfl rfl ?_
                refine WL.x (X.pickT rfl rfl rfl) (by decide) ?_
                refine WL.yes rfl rfl ?_
                refine WL.x (X.move rfl) (by decide) ?_
                refine WL.no rfl rfl rfl (by decide) ?_
                refine WL.no rfl rfl rfl (by decide) ?_
                refine WL.no rfl rfl rfl (by decide) ?_
                refine WL.no rfl rfl rfl (by decide) ?_
                refine WL.no rfl rfl rfl (by decide) ?_
                refine WL.yes rfl rfl ?_
                refine WL.x (X.pickT rfl rfl rfl) (by decide) ?_
                refine WL.x (X.pickT rfl rfl rfl) (by decide) ?_
                refine WL.nil ?_
                refine WK.nThen ?_
                refine WC.condT rfl ?_
                refine WC.seq ?_
                refine WC.region ?_
                refine WL.x (X.assign rfl) (by decide) ?_
                refine WL.nil ?_
                refine WK.nThen ?_
                refine WC.ret ?_
                refine WK.rThen ?_
                refine WK.ret1 rfl rfl (fun w' hw' => Ret.exact hw' ?_)
                first | rfl | (exfalso; omega) | (exfalso; contradiction) | (exfalso; have q_ := hkeep (by omega); contradiction) | exact (bool_true (by omega)).symm
              · refine WL.yes rfl rfl ?_
                refine WL.x (X.move rfl) (by decide) ?_
                refine WL.yes rfl rfl ?_
                refine WL.x (X.field Try.runUnderlying31 rfl Try.sizeOf3 rfl) (by decide) ?_
                refine WL.yes rfl rfl ?_
                refine WL.x (X.loadB (k := 2) Try.isAgg3 rfl rfl rfl) (by decide) ?_
                refine WL.yes rfl rfl ?_
                refine WL.x (X.field Try.runUnderlying31 rfl Try.sizeOf3 rfl) (by decide) ?_
                refine WL.yes rfl rfl ?_
                refine WL.x (X.loadB (k := 3) Try.isAgg3 rfl rfl rfl) (by decide) ?_
                refine WL.yes rfl rfl ?_
                refine WL.cond (X.gtr rfl rfl) (by decide) (fun h46 => ?_) (fun h46 => ?_)
                · refine WL.yes rfl rfl ?_
                  refine WL.x (X.pickF rfl rfl rfl) (by decide) ?_
                  refine WL.yes rfl rfl ?_
                  refine WL.x (X.move rfl) (by decide) ?_
                  refine WL.no rfl rfl rfl (by decide) ?_
                  refine WL.no rfl rfl rfl (by decide) ?_
                  refine WL.no rfl rfl rfl (by decide) ?_
                  refine WL.no rfl rfl rfl (by decide) ?_
                  refine WL.no rfl rfl rfl (by decide) ?_
                  refine WL.yes rfl rfl ?_
                  refine WL.x (X.pickT rfl rfl rfl) (by decide) ?_
                  refine WL.x (X.pickT rfl rfl rfl) (by decide) ?_
                  refine WL.nil ?_
                  refine WK.nThen ?_
                  refine WC.condT rfl ?_
                  refine WC.seq ?_
                  refine WC.region ?_
                  refine WL.x (X.assign rfl) (by decide) ?_
                  refine WL.nil ?_
                  refine WK.nThen ?_
                  refine WC.ret ?_
                  refine WK.rThen ?_
                  refine WK.ret1 rfl rfl (fun w' hw' => Ret.exact hw' ?_)
                  first | rfl | (exfalso; omega) | (exfalso; contradiction) | (exfalso; have q_ := hkeep (by omega); contradiction) | exact (bool_true (by omega)).symm
                · refine WL.yes rfl rfl ?_
                  refine WL.x (X.pickF rfl rfl rfl) (by decide) ?_
                  refine WL.yes rfl rfl ?_
                  refine WL.x (X.move rfl) (by decide) ?_
                  refine WL.yes rfl rfl ?_
                  refine WL.x (X.field Try.runUnderlying31 rfl Try.sizeOf3 rfl) (by decide) ?_
                  refine WL.yes rfl rfl ?_
                  refine WL.x (X.loadB (k := 2) Try.isAgg3 rfl rfl rfl) (by decide) ?_
                  refine WL.yes rfl rfl ?_
                  refine WL.x (X.field Try.runUnderlying31 rfl Try.sizeOf3 rfl) (by decide) ?_
                  refine WL.yes rfl rfl ?_
                  refine WL.x (X.loadB (k := 3) Try.isAgg3 rfl rfl rfl) (by decide) ?_
                  refine WL.yes rfl rfl ?_
                  refine WL.cond (X.lss rfl rfl) (by decide) (fun h47 => ?_) (fun h47 => ?_)
                  · refine WL.yes rfl rfl ?_
                    refine WL.x (X.pickF rfl rfl rfl) (by decide) ?_
                    refine WL.x (X.pickT rfl rfl rfl) (by decide) ?_
                    refine WL.nil ?_
                    refine WK.nThen ?_
                    refine WC.condT rfl ?_
                    refine WC.seq ?_
                    refine WC.region ?_
                    refine WL.x (X.assign rfl) (by decide) ?_
                    refine WL.nil ?_
                    refine WK.nThen ?_
                    refine WC.ret ?_
                    refine WK.rThen ?_
                    refine WK.ret1 rfl rfl (fun w' hw' => Ret.exact hw' ?_)
                    first | rfl | (exfalso; omega) | (exfalso; contradiction) | (exfalso; have q_ := hkeep (by omega); contradiction) | exact (bool_true (by omega)).symm
                  · refine WL.yes rfl rfl ?_
                    refine WL.x (X.pickF rfl rfl rfl) (by decide) ?_
                    refine WL.x (X.pickT rfl rfl rfl) (by decide) ?_
                    refine WL.nil ?_
                    refine WK.nThen ?_
                    refine WC.condF rfl ?_
                    refine WC.skip ?_
                    refine WK.nThen ?_
                    refine WC.seq ?_
                    refine WC.region ?_
                    refine WL.x (X.move rfl) (by decide) ?_
                    refine WL.x (X.move rfl) (by decide) ?_
                    refine WL.yes rfl rfl ?_
                    refine WL.x (X.move rfl) (by decide) ?_
                    refine WL.yes rfl rfl ?_
                    refine WL.condn (X.neq rfl rfl) (by decide) (fun h48 => ?_) (fun h48 => ?_)
                    · refine WL.yes rfl rfl ?_
                      refine WL.x (X.move rfl) (by decide) ?_
                      refine WL.no rfl rfl rfl (by decide) ?_
                      refine WL.no rfl rfl rfl (by decide) ?_
                      refine WL.no rfl rfl rfl (by decide) ?_
                      refine WL.noU rfl rfl (by decide) ?_
                      refine WL.noU rfl rfl (by decide) ?_
                      refine WL.noU rfl rfl (by decide) ?_
                      refine WL.noU rfl rfl (by decide) ?_
                      refine WL.noU rfl rfl (by decide) ?_
                      refine WL.no rfl rfl rfl (by decide) ?_
                      refine WL.no rfl rfl rfl (by decide) ?_
                      refine WL.noU rfl rfl (by decide) ?_
                      refine WL.noU rfl rfl (by decide) ?_
                      refine WL.noU rfl rfl (by decide) ?_
                      refine WL.noU rfl rfl (by decide) ?_
                      refine WL.noU rfl rfl (by decide) ?_
                      refine WL.no rfl rfl rfl (by decide) ?_
                      refine WL.yes rfl rfl ?_
                      refine WL.x (X.pickT rfl rfl rfl) (by decide) ?_
                      refine WL.x (X.pickT rfl rfl rfl) (by decide) ?_
                      refine WL.x (X.assign rfl) (by decide) ?_
                      refine WL.nil ?_
                      refine WK.nThen ?_
                      refine WC.ret ?_
                      refine WK.ret1 rfl rfl (fun w' hw' => Ret.exact hw' ?_)
                      first | rfl | (exfalso; omega) | (exfalso; contradiction) | (exfalso; have q_ := hkeep (by omega); contradiction) | exact (bool_true (by omega)).symm
                    · refine WL.yes rfl rfl ?_
                      refine WL.x (X.move rfl) (by decide) ?_
                      refine WL.yes rfl rfl ?_
                      refine WL.x (X.move rfl) (by decide) ?_
                      refine WL.yes rfl rfl ?_
                      refine WL.cond (X.eql rfl rfl) (by decide) (fun h49 => ?_) (fun h49 => ?_)
                      · refine WL.yes rfl rfl ?_
                        refine WL.x (X.move rfl) (by decide) ?_
                        refine WL.yes rfl rfl ?_
                        refine WL.x (X.field Try.runUnderlying31 rfl Try.sizeOf3 rfl) (by decide) ?_
                        refine WL.yes rfl rfl ?_
                        refine WL.x (X.loadB (k := 0) Try.isAgg3 rfl rfl rfl) (by decide) ?_
                        refine WL.yes rfl rfl ?_
                        refine WL.x (X.field Try.runUnderlying31 rfl Try.sizeOf3 rfl) (by decide) ?_
                        refine WL.yes rfl rfl ?_
                        refine WL.x (X.loadB (k := 1) Try.isAgg3 rfl rfl rfl) (by decide) ?_
                        refine WL.yes rfl rfl ?_
                        refine WL.cond (X.leq rfl rfl) (by decide) (fun h50 => ?_) (fun h50 => ?_)
                        · refine WL.yes rfl rfl ?_
                          refine WL.x (X.pickT rfl rfl rfl) (by decide) ?_
                          refine WL.yes rfl rfl ?_
                          refine WL.x (X.move rfl) (by decide) ?_
                          refine WL.yes rfl rfl ?_
                          refine WL.x (X.field Try.runUnderlying31 rfl Try.sizeOf3 rfl) (by decide) ?_
                          refine WL.yes rfl rfl ?_
                          refine WL.x (X.loadB (k := 0) Try.isAgg3 rfl rfl rfl) (by decide) ?_
                          refine WL.yes rfl rfl ?_
                          refine WL.x (X.field Try.runUnderlying31 rfl Try.sizeOf3 rfl) (by decide) ?_
                          refine WL.yes rfl rfl ?_
                          refine WL.x (X.loadB (k := 1) Try.isAgg3 rfl rfl rfl) (by decide) ?_
                          refine WL.yes rfl rfl ?_
                          refine WL.x (X.geq rfl rfl) (by decide) ?_
                          refine WL.yes rfl rfl ?_
                          refine WL.x (X.pickT rfl rfl rfl) (by decide) ?_
                          refine WL.yes rfl rfl ?_
                          refine WL.x (X.pickF rfl rfl rfl) (by decide) ?_
                          refine WL.x (X.pickT rfl rfl rfl) (by decide) ?_
                          refine WL.x (X.assign rfl) (by decide) ?_
                          refine WL.nil ?_
                          refine WK.nThen ?_
                          refine WC.ret ?_
                          refine WK.ret1 rfl rfl (fun w' hw' => Ret.exact hw' ?_)
                          first | rfl | (exfalso; omega) | (exfalso; contradiction) | (exfalso; have q_ := hkeep (by omega); contradiction) | exact (bool_true (by omega)).symm
                        · refine WL.yes rfl rfl ?_
                          refine WL.x (X.pickT rfl rfl rfl) (by decide) ?_
                          refine WL.yes rfl rfl ?_
                          refine WL.x (X.move rfl) (by decide) ?_
                          refine WL.no rfl rfl rfl (by decide) ?_
                          refine WL.no rfl rfl rfl (by decide) ?_
                          refine WL.no rfl rfl rfl (by decide) ?_
                          refine WL.no rfl rfl rfl (by decide) ?_
                          refine WL.no rfl rfl rfl (by decide) ?_
                          refine WL.yes rfl rfl ?_
                          refine WL.x (X.pickF rfl rfl rfl) (by decide) ?_
                          refine WL.yes rfl rfl ?_
                          refine WL.x (X.pickF rfl rfl rfl) (by decide) ?_
                          refine WL.x (X.pickT rfl rfl rfl) (by decide) ?_
                          refine WL.x (X.assign rfl) (by decide) ?_
                          refine WL.nil ?_
                          refine WK.nThen ?_
                          refine WC.ret ?_
                          refine WK.ret1 rfl rfl (fun w' hw' => Ret.exact hw' ?_)
                          first | rfl | (exfalso; omega) | (exfalso; contradiction) | (exfalso; have q_ := hkeep (by omega); contradiction) | exact (bool_true (by omega)).symm
                      · refine WL.yes rfl rfl ?_
                        refine WL.x (X.move rfl) (by decide) ?_
                        refine WL.no rfl rfl rfl (by decide) ?_
                        refine WL.no rfl rfl rfl (by decide) ?_
                        refine WL.no rfl rfl rfl (by decide) ?_
                        refine WL.no rfl rfl rfl (by decide) ?_
                        refine WL.no rfl rfl rfl (by decide) ?_
                        refine WL.yes rfl rfl ?_
                        refine WL.x (X.pickF rfl rfl rfl) (by decide) ?_
                        refine WL.yes rfl rfl ?_
                        refine WL.x (X.move rfl) (by decide) ?_
                        refine WL.no rfl rfl rfl (by decide) ?_
                        refine WL.no rfl rfl rfl (by decide) ?_
                        refine WL.no rfl rfl rfl (by decide) ?_
                        refine WL.no rfl rfl rfl (by decide) ?_
                        refine WL.no rfl rfl rfl (by decide) ?_
                        refine WL.yes rfl rfl ?_
                        refine WL.x (X.pickF rfl rfl rfl) (by decide) ?_
                        refine WL.yes rfl rfl ?_
                        refine WL.x (X.pickF rfl rfl rfl) (by decide) ?_
                        refine WL.x (X.pickT rfl rfl rfl) (by decide) ?_
                        refine WL.x (X.assign rfl) (by decide) ?_
                        refine WL.nil ?_
                        refine WK.nThen ?_
                        refine WC.ret ?_
                        refine WK.ret1 rfl rfl (fun w' hw' => Ret.exact hw' ?_)
                        first | rfl | (exfalso; omega) | (exfalso; contradiction) | (exfalso; have q_ := hkeep (by omega); contradiction) | exact (bool_true (by omega)).symm
            · refine WL.x (X.move rfl) (by decide) ?_
              refine WL.no rfl rfl rfl (by decide) ?_
              refine WL.no rfl rfl rfl (by decide) ?_
              refine WL.no rfl rfl rfl (by decide) ?_
              refine WL.noU rfl rfl (by decide) ?_
              refine WL.noU rfl rfl (by decide) ?_
              refine WL.noU rfl rfl (by decide) ?_
              refine WL.noU rfl rfl (by decide) ?_
              refine WL.noU rfl rfl (by decide) ?_
              refine WL.no rfl rfl rfl (by decide) ?_
              refine WL.no rfl rfl rfl (by decide) ?_
              refine WL.noU rfl rfl (by decide) ?_
              refine WL.noU rfl rfl (by decide) ?_
              refine WL.noU rfl rfl (by decide) ?_
              refine WL.noU rfl rfl (by decide) ?_
              refine WL.noU rfl rfl (by decide) ?_
              refine WL.no rfl rfl rfl (by decide) ?_
              refine WL.x (X.pickF rfl rfl rfl) (by decide) ?_
              refine WL.nil ?_
              refine WK.nThen ?_
              refine WC.condF rfl ?_
              refine WC.skip ?_
              refine WK.nThen ?_
              refine WC.seq ?_
              refine WC.region ?_
              refine WL.x (X.move rfl) (by decide) ?_
              refine WL.x (X.move rfl) (by decide) ?_
              refine WL.yes rfl rfl ?_
              refine WL.x (X.move rfl) (by decide) ?_
              refine WL.yes rfl rfl ?_
              refine WL.condn (X.neq rfl rfl) (by decide) (fun h51 => ?_) (fun h51 => ?_)
              · refine WL.yes rfl rfl ?_
                refine WL.x (X.move rfl) (by decide) ?_
                refine WL.no rfl rfl rfl (by decide) ?_
                refine WL.no rfl rfl rfl (by decide) ?_
                refine WL.no rfl rfl rfl (by decide) ?_
                refine WL.noU rfl rfl (by decide) ?_
                refine WL.noU rfl rfl (by decide) ?_
                refine WL.noU rfl rfl (by decide) ?_
                refine WL.noU rfl rfl (by decide) ?_
                refine WL.noU rfl rfl (by decide) ?_
                refine WL.no rfl rfl rfl (by decide) ?_
                refine WL.no rfl rfl rfl (by decide) ?_
                refine WL.noU rfl rfl (by decide) ?_
                refine WL.noU rfl rfl (by decide) ?_
                refine WL.noU rfl rfl (by decide) ?_
                refine WL.noU rfl rfl (by decide) ?_
                refine WL.noU rfl rfl (by decide) ?_
                refine WL.no rfl rfl rfl (by decide) ?_
                refine WL.yes rfl rfl ?_
                refine WL.x (X.pickT rfl rfl rfl) (by decide) ?_
                refine WL.x (X.pickT rfl rfl rfl) (by decide) ?_
                refine WL.x (X.assign rfl) (by decide) ?_
                refine WL.nil ?_
                refine WK.nThen ?_
                refine WC.ret ?_
                refine WK.ret1 rfl rfl (fun w' hw' => Ret.exact hw' ?_)
                first | rfl | (exfalso; omega) | (exfalso; contradiction) | (exfalso; have q_ := hkeep (by omega); contradiction) | exact (bool_true (by omega)).symm
              · refine WL.yes rfl rfl ?_
                refine WL.x (X.move rfl) (by decide) ?_
                refine WL.yes rfl rfl ?_
                refine WL.x (X.move rfl) (by decide) ?_
                refine WL.yes rfl rfl ?_
                refine WL.cond (X.eql rfl rfl) (by decide) (fun h52 => ?_) (fun h52 => ?_)
                · refine WL.yes rfl rfl ?_
                  refine WL.x (X.move rfl) (by decide) ?_
                  refine WL.yes rfl rfl ?_
                  refine WL.x (X.field Try.runUnderlying31 rfl Try.sizeOf3 rfl) (by decide) ?_
                  refine WL.yes rfl rfl ?_
                  refine WL.x (X.loadB (k := 0) Try.isAgg3 rfl rfl rfl) (by decide) ?_
                  refine WL.yes rfl rfl ?_
                  refine WL.x (X.field Try.runUnderlying31 rfl Try.sizeOf3 rfl) (by decide) ?_
                  refine WL.yes rfl rfl ?_
                  refine WL.x (X.loadB (k := 1) Try.isAgg3 rfl rfl rfl) (by decide) ?_
                  refine WL.yes rfl rfl ?_
                  refine WL.cond (X.leq rfl rfl) (by decide) (fun h53 => ?_) (fun h53 => ?_)
                  · refine WL.yes rfl rfl ?_
                    refine WL.x (X.pickT rfl rfl rfl) (by decide) ?_
                    refine WL.yes rfl rfl ?_
                    refine WL.x (X.move rfl) (by decide) ?_
                    refine WL.yes rfl rfl ?_
                    refine WL.x (X.field Try.runUnderlying31 rfl Try.sizeOf3 rfl) (by decide) ?_
                    refine WL.yes rfl rfl ?_
                    refine WL.x (X.loadB (k := 0) Try.isAgg3 rfl rfl rfl) (by decide) ?_
                    refine WL.yes rfl rfl ?_
                    refine WL.x (X.field Try.runUnderlying31 rfl Try.sizeOf3 rfl) (by decide) ?_
                    refine WL.yes rfl rfl ?_
                    refine WL.x (X.loadB (k := 1) Try.isAgg3 rfl rfl rfl) (by decide) ?_
                    refine WL.yes rfl rfl ?_
                    refine WL.x (X.geq rfl rfl) (by decide) ?_
                    refine WL.yes rfl rfl ?_
                    refine WL.x (X.pickT rfl rfl rfl) (by decide) ?_
                    refine WL.yes rfl rfl ?_
                    refine WL.x (X.pickF rfl rfl rfl) (by decide) ?_
                    refine WL.x (X.pickT rfl rfl rfl) (by decide) ?_
                    refine WL.x (X.assign rfl) (by decide) ?_
                    refine WL.nil ?_
                    refine WK.nThen ?_
                    refine WC.ret ?_
                    refine WK.ret1 rfl rfl (fun w' hw' => Ret.exact hw' ?_)
                    first | rfl | (exfalso; omega) | (exfalso; contradiction) | (exfalso; have q_ := hkeep (by omega); contradiction) | exact (bool_true (by omega)).symm
                  · refine WL.yes rfl rfl ?_
                    refine WL.x (X.pickT rfl rfl rfl) (by decide) ?_
                    refine WL.yes rfl rfl ?_
                    refine WL.x (X.move rfl) (by decide) ?_
                    refine WL.no rfl rfl rfl (by decide) ?_
                    refine WL.no rfl rfl rfl (by decide) ?_
                    refine WL.no rfl rfl rfl (by decide) ?_
                    refine WL.no rfl rfl rfl (by decide) ?_
                    refine WL.no rfl rfl rfl (by decide) ?_
                    refine WL.yes rfl rfl ?_
                    refine WL.x (X.pickF rfl rfl rfl) (by decide) ?_
                    refine WL.yes rfl rfl ?_
                    refine WL.x (X.pickF rfl rfl rfl) (by decide) ?_
                    refine WL.x (X.pickT rfl rfl rfl) (by decide) ?_
                    refine WL.x (X.assign rfl) (by decide) ?_
                    refine WL.nil ?_
                    refine WK.nThen ?_
                    refine WC.ret ?_
                    refine WK.ret1 rfl rfl (fun w' hw' => Ret.exact hw' ?_)
                    first | rfl | (exfalso; omega) | (exfalso; contradiction) | (exfalso; have q_ := hkeep (by omega); contradiction) | exact (bool_true (by omega)).symm
                · refine WL.yes rfl rfl ?_
                  refine WL.x (X.move rfl) (by decide) ?_
                  refine WL.no rfl rfl rfl (by decide) ?_
                  refine WL.no rfl rfl rfl (by decide) ?_
                  refine WL.no rfl rfl rfl (by decide) ?_
                  refine WL.no rfl rfl rfl (by decide) ?_
                  refine WL.no rfl rfl rfl (by decide) ?_
                  refine WL.yes rfl rfl ?_
                  refine WL.x (X.pickF rfl rfl rfl) (by decide) ?_
                  refine WL.yes rfl rfl ?_
                  refine WL.x (X.move rfl) (by decide) ?_
                  refine WL.no rfl rfl rfl (by decide) ?_
                  refine WL.no rfl rfl rfl (by decide) ?_
                  refine WL.no rfl rfl rfl (by decide) ?_
                  refine WL.no rfl rfl rfl (by decide) ?_
                  refine WL.no rfl rfl rfl (by decide) ?_
                  refine WL.yes rfl rfl ?_
                  refine WL.x (X.pickF rfl rfl rfl) (by decide) ?_
                  refine WL.yes rfl rfl ?_
                  refine WL.x (X.pickF rfl rfl rfl) (by decide) ?_
                  refine WL.x (X.pickT rfl rfl rfl) (by decide) ?_
                  refine WL.x (X.assign rfl) (by decide) ?_
                  refine WL.nil ?_
                  refine WK.nThen ?_
                  refine WC.ret ?_
                  refine WK.ret1 rfl rfl (fun w' hw' => Ret.exact hw' ?_)
                  first | rfl | (exfalso; omega) | (exfalso; contradiction) | (exfalso; have q_ := hkeep (by omega); contradiction) | exact (bool_true (by omega)).symm
          · refine WL.yes rfl rfl ?_
            refine WL.x (X.not rfl) (by decide) ?_
            refine WL.x (X.pickT rfl rfl rfl) (by decide) ?_
            refine WL.nil ?_
            refine WK.nThen ?_
            refine WC.condT rfl ?_
            refine WC.seq ?_
            refine WC.region ?_
            refine WL.x (X.assign rfl) (by decide) ?_
            refine WL.nil ?_
            refine WK.nThen ?_
            refine WC.ret ?_
            refine WK.rThen ?_
            refine WK.ret1 rfl rfl (fun w' hw' => Ret.exact hw' ?_)
            first | rfl | (exfalso; omega) | (exfalso; contradiction) | (exfalso; have q_ := hkeep (by omega); contradiction) | exact (bool_true (by omega)).symm
        · refine WL.x (X.move rfl) (by decide) ?_
          refine WL.no rfl rfl rfl (by decide) ?_
          refine WL.no rfl rfl rfl (by decide) ?_
          refine WL.no rfl rfl rfl (by decide) ?_
          refine WL.no rfl rfl rfl (by decide) ?_
          refine WL.no rfl rfl rfl (by decide) ?_
          refine WL.x (X.pickF rfl rfl rfl) (by decide) ?_
          refine WL.nil ?_
          refine WK.nThen ?_
          refine WC.condF rfl ?_
          refine WC.skip ?_
          refine WK.nThen ?_
          refine WC.seq ?_
          refine WC.region ?_
          refine WL.x (X.field Try.runUnderlying28 rfl Try.sizeOf25 rfl) (by decide) ?_
          refine WL.x (X.loadBP (k := 3) (vs := [v1, v3]) Try.isAgg25 Try.sizeOf25 rfl rfl rfl rfl) (by decide) ?_
          refine WL.x (X.field Try.runUnderlying28 rfl Try.sizeOf26 rfl) (by decide) ?_
          refine WL.x (X.loadB (k := 3) Try.isAgg26 rfl rfl rfl) (by decide) ?_
          refine WL.x (X.field Try.runUnderlying36 rfl Try.sizeOf3 rfl) (by decide) ?_
          refine WL.x (X.loadB (k := 2) Try.isAgg3 rfl rfl rfl) (by decide) ?_
          refine WL.x (X.field Try.runUnderlying36 rfl Try.sizeOf3 rfl) (by decide) ?_
          refine WL.x (X.loadB (k := 2) Try.isAgg3 rfl rfl rfl) (by decide) ?_
          refine WL.x (X.call Try.call21 rfl (between21 _ _ c.D ⟨_, _, rfl, hs2, hs4⟩ _ _ hs6 _ _ )) (by decide) ?_
          refine WL.x (X.move rfl) (by decide) ?_
          refine WL.x (X.extract rfl rfl) (by decide) ?_
          refine WL.x (X.extract rfl rfl) (by decide) ?_
          refine WL.tn (T.alloc Try.zeroValue31 rfl) (by decide) fun b54 => ?_
          refine WL.ts (T.storeBA (k := 0) Try.sizeOf31 rfl rfl rfl (one_cons rfl (one_cons rfl one_nil)) rfl rfl) ?_
          refine WL.x (X.assign rfl) (by decide) ?_
          refine WL.nil ?_
          refine WK.nThen ?_
          refine WC.seq ?_
          refine WC.region ?_
          refine WL.x (X.loadBA (k := 2) Try.isAgg25 Try.sizeOf25 rfl rfl rfl) (by decide) ?_
          refine WL.x (X.field Try.runUnderlying28 rfl Try.sizeOf26 rfl) (by decide) ?_
          refine WL.x (X.loadB (k := 4) Try.isAgg26 rfl rfl rfl) (by decide) ?_
          refine WL.x (X.field Try.runUnderlying36 rfl Try.sizeOf3 rfl) (by decide) ?_
          refine WL.x (X.loadB (k := 3) Try.isAgg3 rfl rfl rfl) (by decide) ?_
          refine WL.x (X.field Try.runUnderlying36 rfl Try.sizeOf3 rfl) (by decide) ?_
          refine WL.x (X.loadB (k := 3) Try.isAgg3 rfl rfl rfl) (by decide) ?_
          refine WL.x (X.call Try.call21 rfl (between21 _ _ ((winR c.D (((Stop.mk (column) ((Span.mk (0) (most))))))).1) ⟨_, _, rfl, hs30, hs32⟩ _ _ hs6 _ _ )) (by decide) ?_
          refine WL.x (X.move rfl) (by decide) ?_
          refine WL.x (X.extract rfl rfl) (by decide) ?_
          refine WL.x (X.extract rfl rfl) (by decide) ?_
          refine WL.tn (T.alloc Try.zeroValue31 rfl) (by decide) fun b55 => ?_
          refine WL.ts (T.storeBA (k := 0) Try.sizeOf31 rfl rfl rfl (one_cons rfl (one_cons rfl one_nil)) rfl rfl) ?_
          refine WL.x (X.assign rfl) (by decide) ?_
          refine WL.nil ?_
          refine WK.nThen ?_
          refine WC.seq ?_
          refine WC.region ?_
          refine WL.x (X.field Try.runUnderlying28 rfl Try.sizeOf25 rfl) (by decide) ?_
          refine WL.x (X.loadBP (k := 5) (vs := [v1, v3]) Try.isAgg25 Try.sizeOf25 rfl rfl rfl rfl) (by decide) ?_
          refine WL.x (X.field Try.runUnderlying28 rfl Try.sizeOf26 rfl) (by decide) ?_
          refine WL.x (X.loadB (k := 5) Try.isAgg26 rfl rfl rfl) (by decide) ?_
          refine WL.x (X.field Try.runUnderlying36 rfl Try.sizeOf3 rfl) (by decide) ?_
          refine WL.x (X.loadB (k := 4) Try.isAgg3 rfl rfl rfl) (by decide) ?_
          refine WL.x (X.call Try.call23 rfl (at23 _ _ c.D ⟨_, _, rfl, hs2, hs4⟩ _ _ hs6 _ )) (by decide) ?_
          refine WL.x (X.move rfl) (by decide) ?_
          refine WL.x (X.extract rfl rfl) (by decide) ?_
          refine WL.x (X.extract rfl rfl) (by decide) ?_
          refine WL.tn (T.alloc Try.zeroValue31 rfl) (by decide) fun b56 => ?_
          refine WL.ts (T.storeBA (k := 0) Try.sizeOf31 rfl rfl rfl (one_cons rfl (one_cons rfl one_nil)) rfl rfl) ?_
          refine WL.x (X.assign rfl) (by decide) ?_
          refine WL.nil ?_
          refine WK.nThen ?_
          refine WC.seq ?_
          refine WC.region ?_
          refine WL.x (X.loadBA (k := 4) Try.isAgg25 Try.sizeOf25 rfl rfl rfl) (by decide) ?_
          refine WL.x (X.field Try.runUnderlying28 rfl Try.sizeOf26 rfl) (by decide) ?_
          refine WL.x (X.loadB (k := 6) Try.isAgg26 rfl rfl rfl) (by decide) ?_
          refine WL.x (X.field Try.runUnderlying36 rfl Try.sizeOf3 rfl) (by decide) ?_
          refine WL.x (X.loadB (k := 5) Try.isAgg3 rfl rfl rfl) (by decide) ?_
          refine WL.x (X.call Try.call23 rfl (at23 _ _ ((winR c.D (((Stop.mk (column) ((Span.mk (0) (most))))))).1) ⟨_, _, rfl, hs30, hs32⟩ _ _ hs6 _ )) (by decide) ?_
          refine WL.x (X.move rfl) (by decide) ?_
          refine WL.x (X.extract rfl rfl) (by decide) ?_
          refine WL.x (X.extract rfl rfl) (by decide) ?_
          refine WL.tn (T.alloc Try.zeroValue31 rfl) (by decide) fun b57 => ?_
          refine WL.ts (T.storeBA (k := 0) Try.sizeOf31 rfl rfl rfl (one_cons rfl (one_cons rfl one_nil)) rfl rfl) ?_
          refine WL.x (X.assign rfl) (by decide) ?_
          refine WL.nil ?_
          refine WK.nThen ?_
          refine WC.seq ?_
          refine WC.seq ?_
          have hbt : (betR c.D c.M x.A x.B).2 = 0 → _ := fun h_ => stop_bet (m := c.M) (a := x.A) (b := x.B) hw0 rfl h_
          have hat : (atR c.D c.M x.Tick).2 = 0 → _ := fun h_ => stop_at (m := c.M) (t := x.Tick) hw0 rfl h_
          refine WC.region ?_
          refine WL.x (X.move rfl) (by decide) ?_
          refine WL.cond (X.eql rfl rfl) (by decide) (fun h58 => ?_) (fun h58 => ?_)
          · refine WL.x (X.move rfl) (by decide) ?_
            refine WL.yes rfl rfl ?_
            refine WL.x (X.move rfl) (by decide) ?_
            refine WL.yes rfl rfl ?_
            refine WL.condn (X.neq rfl rfl) (by decide) (fun h59 => ?_) (fun h59 => ?_)
            · refine WL.yes rfl rfl ?_
              refine WL.x (X.move rfl) (by decide) ?_
              refine WL.no rfl rfl rfl (by decide) ?_
              refine WL.no rfl rfl rfl (by decide) ?_
              refine WL.no rfl rfl rfl (by decide) ?_
              refine WL.no rfl rfl rfl (by decide) ?_
              refine WL.no rfl rfl rfl (by decide) ?_
              refine WL.yes rfl rfl ?_
              refine WL.x (X.pickT rfl rfl rfl) (by decide) ?_
              refine WL.yes rfl rfl ?_
              refine WL.x (X.move rfl) (by decide) ?_
              refine WL.no rfl rfl rfl (by decide) ?_
              refine WL.no rfl rfl rfl (by decide) ?_
              refine WL.no rfl rfl rfl (by decide) ?_
              refine WL.no rfl rfl rfl (by decide) ?_
              refine WL.no rfl rfl rfl (by decide) ?_
              refine WL.yes rfl rfl ?_
              refine WL.x (X.pickT rfl rfl rfl) (by decide) ?_
              refine WL.x (X.pickT rfl rfl rfl) (by decide) ?_
              refine WL.nil ?_
              refine WK.nThen ?_
              refine WC.condT rfl ?_
              refine WC.seq ?_
              refine WC.region ?_
              refine WL.x (X.assign rfl) (by decide) ?_
              refine WL.nil ?_
              refine WK.nThen ?_
              refine WC.ret ?_
              refine WK.rThen ?_
              refine WK.ret1 rfl rfl (fun w' hw' => Ret.exact hw' ?_)
              first | rfl | (exfalso; omega) | (exfalso; contradiction) | (exfalso; have q_ := hkeep (by omega); contradiction) | exact (bool_true (by omega)).symm
            · refine WL.yes rfl rfl ?_
              refine WL.x (X.move rfl) (by decide) ?_
              refine WL.yes rfl rfl ?_
              refine WL.x (X.field Try.runUnderlying31 rfl Try.sizeOf3 rfl) (by decide) ?_
              refine WL.yes rfl rfl ?_
              refine WL.x (X.loadB (k := 2) Try.isAgg3 rfl rfl rfl) (by decide) ?_
              refine WL.yes rfl rfl ?_
              refine WL.x (X.field Try.runUnderlying31 rfl Try.sizeOf3 rfl) (by decide) ?_
              refine WL.yes rfl rfl ?_
              refine WL.x (X.loadB (k := 3) Try.isAgg3 rfl rfl rfl) (by decide) ?_
              refine WL.yes rfl rfl ?_
              refine WL.cond (X.gtr rfl rfl) (by decide) (fun h60 => ?_) (fun h60 => ?_)
              · refine WL.yes rfl rfl ?_
                refine WL.x (X.pickF rfl rfl rfl) (by decide) ?_
                refine WL.yes rfl rfl ?_
                refine WL.x (X.move rfl) (by decide) ?_
                refine WL.no rfl rfl rfl (by decide) ?_
                refine WL.no rfl rfl rfl (by decide) ?_
                refine WL.no rfl rfl rfl (by decide) ?_
                refine WL.no rfl rfl rfl (by decide) ?_
                refine WL.no rfl rfl rfl (by decide) ?_
                refine WL.yes rfl rfl ?_
                refine WL.x (X.pickT rfl rfl rfl) (by decide) ?_
                refine WL.x (X.pickT rfl rfl rfl) (by decide) ?_
                refine WL.nil ?_
                refine WK.nThen ?_
                refine WC.condT rfl ?_
                refine WC.seq ?_
                refine WC.region ?_
                refine WL.x (X.assign rfl) (by decide) ?_
                refine WL.nil ?_
                refine WK.nThen ?_
                refine WC.ret ?_
                refine WK.rThen ?_
                refine WK.ret1 rfl rfl (fun w' hw' => Ret.exact hw' ?_)
                first | rfl | (exfalso; omega) | (exfalso; contradiction) | (exfalso; have q_ := hkeep (by omega); contradiction) | exact (bool_true (by omega)).symm
              · refine WL.yes rfl rfl ?_
                refine WL.x (X.pickF rfl rfl rfl) (by decide) ?_
                refine WL.yes rfl rfl ?_
                refine WL.x (X.move rfl) (by decide) ?_
                refine WL.yes rfl rfl ?_
                refine WL.x (X.field Try.runUnderlying31 rfl Try.sizeOf3 rfl) (by decide) ?_
                refine WL.yes rfl rfl ?_
                refine WL.x (X.loadB (k := 2) Try.isAgg3 rfl rfl rfl) (by decide) ?_
                refine WL.yes rfl rfl ?_
                refine WL.x (X.field Try.runUnderlying31 rfl Try.sizeOf3 rfl) (by decide) ?_
                refine WL.yes rfl rfl ?_
                refine WL.x (X.loadB (k := 3) Try.isAgg3 rfl rfl rfl) (by decide) ?_
                refine WL.yes rfl rfl ?_
                refine WL.cond (X.lss rfl rfl) (by decide) (fun h61 => ?_) (fun h61 => ?_)
                · refine WL.yes rfl rfl ?_
                  refine WL.x (X.pickF rfl rfl rfl) (by decide) ?_
                  refine WL.x (X.pickT rfl rfl rfl) (by decide) ?_
                  refine WL.nil ?_
                  refine WK.nThen ?_
                  refine WC.condT rfl ?_
                  refine WC.seq ?_
                  refine WC.region ?_
                  refine WL.x (X.assign rfl) (by decide) ?_
                  refine WL.nil ?_
                  refine WK.nThen ?_
                  refine WC.ret ?_
                  refine WK.rThen ?_
                  refine WK.ret1 rfl rfl (fun w' hw' => Ret.exact hw' ?_)
                  first | rfl | (exfalso; omega) | (exfalso; contradiction) | (exfalso; have q_ := hkeep (by omega); contradiction) | exact (bool_true (by omega)).symm
                · refine WL.yes rfl rfl ?_
                  refine WL.x (X.pickF rfl rfl rfl) (by decide) ?_
                  refine WL.x (X.pickT rfl rfl rfl) (by decide) ?_
                  refine WL.nil ?_
                  refine WK.nThen ?_
                  refine WC.condF rfl ?_
                  refine WC.skip ?_
                  refine WK.nThen ?_
                  refine WC.seq ?_
                  refine WC.region ?_
                  refine WL.x (X.move rfl) (by decide) ?_
                  refine WL.x (X.move rfl) (by decide) ?_
                  refine WL.yes rfl rfl ?_
                  refine WL.x (X.move rfl) (by decide) ?_
                  refine WL.yes rfl rfl ?_
                  refine WL.condn (X.neq rfl rfl) (by decide) (fun h62 => ?_) (fun h62 => ?_)
                  · refine WL.yes rfl rfl ?_
                    refine WL.x (X.move rfl) (by decide) ?_
                    refine WL.no rfl rfl rfl (by decide) ?_
                    refine WL.no rfl rfl rfl (by decide) ?_
                    refine WL.no rfl rfl rfl (by decide) ?_
                    refine WL.noU rfl rfl (by decide) ?_
                    refine WL.noU rfl rfl (by decide) ?_
                    refine WL.noU rfl rfl (by decide) ?_
                    refine WL.noU rfl rfl (by decide) ?_
                    refine WL.noU rfl rfl (by decide) ?_
                    refine WL.no rfl rfl rfl (by decide) ?_
                    refine WL.no rfl rfl rfl (by decide) ?_
                    refine WL.noU rfl rfl (by decide) ?_
                    refine WL.noU rfl rfl (by decide) ?_
                    refine WL.noU rfl rfl (by decide) ?_
                    refine WL.noU rfl rfl (by decide) ?_
                    refine WL.noU rfl rfl (by decide) ?_
                    refine WL.no rfl rfl rfl (by decide) ?_
                    refine WL.yes rfl rfl ?_
                    refine WL.x (X.pickT rfl rfl rfl) (by decide) ?_
                    refine WL.x (X.pickT rfl rfl rfl) (by decide) ?_
                    refine WL.x (X.assign rfl) (by decide) ?_
                    refine WL.nil ?_
                    refine WK.nThen ?_
                    refine WC.ret ?_
                    refine WK.ret1 rfl rfl (fun w' hw' => Ret.exact hw' ?_)
                    first | rfl | (exfalso; omega) | (exfalso; contradiction) | (exfalso; have q_ := hkeep (by omega); contradiction) | exact (bool_true (by omega)).symm
                  · refine WL.yes rfl rfl ?_
                    refine WL.x (X.move rfl) (by decide) ?_
                    refine WL.yes rfl rfl ?_
                    refine WL.x (X.move rfl) (by decide) ?_
                    refine WL.yes rfl rfl ?_
                    refine WL.cond (X.eql rfl rfl) (by decide) (fun h63 => ?_) (fun h63 => ?_)
                    · refine WL.yes rfl rfl ?_
                      refine WL.x (X.move rfl) (by decide) ?_
                      refine WL.yes rfl rfl ?_
                      refine WL.x (X.field Try.runUnderlying31 rfl Try.sizeOf3 rfl) (by decide) ?_
                      refine WL.yes rfl rfl ?_
                      refine WL.x (X.loadB (k := 0) Try.isAgg3 rfl rfl rfl) (by decide) ?_
                      refine WL.yes rfl rfl ?_
                      refine WL.x (X.field Try.runUnderlying31 rfl Try.sizeOf3 rfl) (by decide) ?_
                      refine WL.yes rfl rfl ?_
                      refine WL.x (X.loadB (k := 1) Try.isAgg3 rfl rfl rfl) (by decide) ?_
                      refine WL.yes rfl rfl ?_
                      refine WL.cond (X.leq rfl rfl) (by decide) (fun h64 => ?_) (fun h64 => ?_)
                      · refine WL.yes rfl rfl ?_
                        refine WL.x (X.pickT rfl rfl rfl) (by decide) ?_
                        refine WL.yes rfl rfl ?_
                        refine WL.x (X.move rfl) (by decide) ?_
                        refine WL.yes rfl rfl ?_
                        refine WL.x (X.field Try.runUnderlying31 rfl Try.sizeOf3 rfl) (by decide) ?_
                        refine WL.yes rfl rfl ?_
                        refine WL.x (X.loadB (k := 0) Try.isAgg3 rfl rfl rfl) (by decide) ?_
                        refine WL.yes rfl rfl ?_
                        refine WL.x (X.field Try.runUnderlying31 rfl Try.sizeOf3 rfl) (by decide) ?_
                        refine WL.yes rfl rfl ?_
                        refine WL.x (X.loadB (k := 1) Try.isAgg3 rfl rfl rfl) (by decide) ?_
                        refine WL.yes rfl rfl ?_
                        refine WL.x (X.geq rfl rfl) (by decide) ?_
                        refine WL.yes rfl rfl ?_
                        refine WL.x (X.pickT rfl rfl rfl) (by decide) ?_
                        refine WL.yes rfl rfl ?_
                        refine WL.x (X.pickF rfl rfl rfl) (by decide) ?_
                        refine WL.x (X.pickT rfl rfl rfl) (by decide) ?_
                        refine WL.x (X.assign rfl) (by decide) ?_
                        refine WL.nil ?_
                        refine WK.nThen ?_
                        refine WC.ret ?_
                        refine WK.ret1 rfl rfl (fun w' hw' => Ret.exact hw' ?_)
                        first | rfl | (exfalso; omega) | (exfalso; contradiction) | (exfalso; have q_ := hkeep (by omega); contradiction) | exact (bool_true (by omega)).symm
                      · refine WL.yes rfl rfl ?_
                        refine WL.x (X.pickT rfl rfl rfl) (by decide) ?_
                        refine WL.yes rfl rfl ?_
                        refine WL.x (X.move rfl) (by decide) ?_
                        refine WL.no rfl rfl rfl (by decide) ?_
                        refine WL.no rfl rfl rfl (by decide) ?_
                        refine WL.no rfl rfl rfl (by decide) ?_
                        refine WL.no rfl rfl rfl (by decide) ?_
                        refine WL.no rfl rfl rfl (by decide) ?_
                        refine WL.yes rfl rfl ?_
                        refine WL.x (X.pickF rfl rfl rfl) (by decide) ?_
                        refine WL.yes rfl rfl ?_
                        refine WL.x (X.pickF rfl rfl rfl) (by decide) ?_
                        refine WL.x (X.pickT rfl rfl rfl) (by decide) ?_
                        refine WL.x (X.assign rfl) (by decide) ?_
                        refine WL.nil ?_
                        refine WK.nThen ?_
                        refine WC.ret ?_
                        refine WK.ret1 rfl rfl (fun w' hw' => Ret.exact hw' ?_)
                        first | rfl | (exfalso; omega) | (exfalso; contradiction) | (exfalso; have q_ := hkeep (by omega); contradiction) | exact (bool_true (by omega)).symm
                    · refine WL.yes rfl rfl ?_
                      refine WL.x (X.move rfl) (by decide) ?_
                      refine WL.no rfl rfl rfl (by decide) ?_
                      refine WL.no rfl rfl rfl (by decide) ?_
                      refine WL.no rfl rfl rfl (by decide) ?_
                      refine WL.no rfl rfl rfl (by decide) ?_
                      refine WL.no rfl rfl rfl (by decide) ?_
                      refine WL.yes rfl rfl ?_
                      refine WL.x (X.pickF rfl rfl rfl) (by decide) ?_
                      refine WL.yes rfl rfl ?_
                      refine WL.x (X.move rfl) (by decide) ?_
                      refine WL.no rfl rfl rfl (by decide) ?_
                      refine WL.no rfl rfl rfl (by decide) ?_
                      refine WL.no rfl rfl rfl (by decide) ?_
                      refine WL.no rfl rfl rfl (by decide) ?_
                      refine WL.no rfl rfl rfl (by decide) ?_
                      refine WL.yes rfl rfl ?_
                      refine WL.x (X.pickF rfl rfl rfl) (by decide) ?_
                      refine WL.yes rfl rfl ?_
                      refine WL.x (X.pickF rfl rfl rfl) (by decide) ?_
                      refine WL.x (X.pickT rfl rfl rfl) (by decide) ?_
                      refine WL.x (X.assign rfl) (by decide) ?_
                      refine WL.nil ?_
                      refine WK.nThen ?_
                      refine WC.ret ?_
                      refine WK.ret1 rfl rfl (fun w' hw' => Ret.exact hw' ?_)
                      first | rfl | (exfalso; omega) | (exfalso; contradiction) | (exfalso; have q_ := hkeep (by omega); contradiction) | exact (bool_true (by omega)).symm
          · refine WL.x (X.move rfl) (by decide) ?_
            refine WL.no rfl rfl rfl (by decide) ?_
            refine WL.no rfl rfl rfl (by decide) ?_
            refine WL.no rfl rfl rfl (by decide) ?_
            refine WL.noU rfl rfl (by decide) ?_
            refine WL.noU rfl rfl (by decide) ?_
            refine WL.noU rfl rfl (by decide) ?_
            refine WL.noU rfl rfl (by decide) ?_
            refine WL.noU rfl rfl (by decide) ?_
            refine WL.no rfl rfl rfl (by decide) ?_
            refine WL.no rfl rfl rfl (by decide) ?_
            refine WL.noU rfl rfl (by decide) ?_
            refine WL.noU rfl rfl (by decide) ?_
            refine WL.noU rfl rfl (by decide) ?_
            refine WL.noU rfl rfl (by decide) ?_
            refine WL.noU rfl rfl (by decide) ?_
            refine WL.no rfl rfl rfl (by decide) ?_
            refine WL.x (X.pickF rfl rfl rfl) (by decide) ?_
            refine WL.nil ?_
            refine WK.nThen ?_
            refine WC.condF rfl ?_
            refine WC.skip ?_
            refine WK.nThen ?_
            refine WC.seq ?_
            refine WC.region ?_
            refine WL.x (X.move rfl) (by decide) ?_
            refine WL.x (X.move rfl) (by decide) ?_
            refine WL.yes rfl rfl ?_
            refine WL.x (X.move rfl) (by decide) ?_
            refine WL.yes rfl rfl ?_
            refine WL.condn (X.neq rfl rfl) (by decide) (fun h65 => ?_) (fun h65 => ?_)
            · refine WL.yes rfl rfl ?_
              refine WL.x (X.move rfl) (by decide) ?_
              refine WL.no rfl rfl rfl (by decide) ?_
              refine WL.no rfl rfl rfl (by decide) ?_
              refine WL.no rfl rfl rfl (by decide) ?_
              refine WL.noU rfl rfl (by decide) ?_
              refine WL.noU rfl rfl (by decide) ?_
              refine WL.noU rfl rfl (by decide) ?_
              refine WL.noU rfl rfl (by decide) ?_
              refine WL.noU rfl rfl (by decide) ?_
              refine WL.no rfl rfl rfl (by decide) ?_
              refine WL.no rfl rfl rfl (by decide) ?_
              refine WL.noU rfl rfl (by decide) ?_
              refine WL.noU rfl rfl (by decide) ?_
              refine WL.noU rfl rfl (by decide) ?_
              refine WL.noU rfl rfl (by decide) ?_
              refine WL.noU rfl rfl (by decide) ?_
              refine WL.no rfl rfl rfl (by decide) ?_
              refine WL.yes rfl rfl ?_
              refine WL.x (X.pickT rfl rfl rfl) (by decide) ?_
              refine WL.x (X.pickT rfl rfl rfl) (by decide) ?_
              refine WL.x (X.assign rfl) (by decide) ?_
              refine WL.nil ?_
              refine WK.nThen ?_
              refine WC.ret ?_
              refine WK.ret1 rfl rfl (fun w' hw' => Ret.exact hw' ?_)
              first | rfl | (exfalso; omega) | (exfalso; contradiction) | (exfalso; have q_ := hkeep (by omega); contradiction) | exact (bool_true (by omega)).symm
            · refine WL.yes rfl rfl ?_
              refine WL.x (X.move rfl) (by decide) ?_
              refine WL.yes rfl rfl ?_
              refine WL.x (X.move rfl) (by decide) ?_
              refine WL.yes rfl rfl ?_
              refine WL.cond (X.eql rfl rfl) (by decide) (fun h66 => ?_) (fun h66 => ?_)
              · refine WL.yes rfl rfl ?_
                refine WL.x (X.move rfl) (by decide) ?_
                refine WL.yes rfl rfl ?_
                refine WL.x (X.field Try.runUnderlying31 rfl Try.sizeOf3 rfl) (by decide) ?_
                refine WL.yes rfl rfl ?_
                refine WL.x (X.loadB (k := 0) Try.isAgg3 rfl rfl rfl) (by decide) ?_
                refine WL.yes rfl rfl ?_
                refine WL.x (X.field Try.runUnderlying31 rfl Try.sizeOf3 rfl) (by decide) ?_
                refine WL.yes rfl rfl ?_
                refine WL.x (X.loadB (k := 1) Try.isAgg3 rfl rfl rfl) (by decide) ?_
                refine WL.yes rfl rfl ?_
                refine WL.cond (X.leq rfl rfl) (by decide) (fun h67 => ?_) (fun h67 => ?_)
                · refine WL.yes rfl rfl ?_
                  refine WL.x (X.pickT rfl rfl rfl) (by decide) ?_
                  refine WL.yes rfl rfl ?_
                  refine WL.x (X.move rfl) (by decide) ?_
                  refine WL.yes rfl rfl ?_
                  refine WL.x (X.field Try.runUnderlying31 rfl Try.sizeOf3 rfl) (by decide) ?_
                  refine WL.yes rfl rfl ?_
                  refine WL.x (X.loadB (k := 0) Try.isAgg3 rfl rfl rfl) (by decide) ?_
                  refine WL.yes rfl rfl ?_
                  refine WL.x (X.field Try.runUnderlying31 rfl Try.sizeOf3 rfl) (by decide) ?_
                  refine WL.yes rfl rfl ?_
                  refine WL.x (X.loadB (k := 1) Try.isAgg3 rfl rfl rfl) (by decide) ?_
                  refine WL.yes rfl rfl ?_
                  refine WL.x (X.geq rfl rfl) (by decide) ?_
                  refine WL.yes rfl rfl ?_
                  refine WL.x (X.pickT rfl rfl rfl) (by decide) ?_
                  refine WL.yes rfl rfl ?_
                  refine WL.x (X.pickF rfl rfl rfl) (by decide) ?_
                  refine WL.x (X.pickT rfl rfl rfl) (by decide) ?_
                  refine WL.x (X.assign rfl) (by decide) ?_
                  refine WL.nil ?_
                  refine WK.nThen ?_
                  refine WC.ret ?_
                  refine WK.ret1 rfl rfl (fun w' hw' => Ret.exact hw' ?_)
                  first | rfl | (exfalso; omega) | (exfalso; contradiction) | (exfalso; have q_ := hkeep (by omega); contradiction) | exact (bool_true (by omega)).symm
                · refine WL.yes rfl rfl ?_
                  refine WL.x (X.pickT rfl rfl rfl) (by decide) ?_
                  refine WL.yes rfl rfl ?_
                  refine WL.x (X.move rfl) (by decide) ?_
                  refine WL.no rfl rfl rfl (by decide) ?_
                  refine WL.no rfl rfl rfl (by decide) ?_
                  refine WL.no rfl rfl rfl (by decide) ?_
                  refine WL.no rfl rfl rfl (by decide) ?_
                  refine WL.no rfl rfl rfl (by decide) ?_
                  refine WL.yes rfl rfl ?_
                  refine WL.x (X.pickF rfl rfl rfl) (by decide) ?_
                  refine WL.yes rfl rfl ?_
                  refine WL.x (X.pickF rfl rfl rfl) (by decide) ?_
                  refine WL.x (X.pickT rfl rfl rfl) (by decide) ?_
                  refine WL.x (X.assign rfl) (by decide) ?_
                  refine WL.nil ?_
                  refine WK.nThen ?_
                  refine WC.ret ?_
                  refine WK.ret1 rfl rfl (fun w' hw' => Ret.exact hw' ?_)
                  first | rfl | (exfalso; omega) | (exfalso; contradiction) | (exfalso; have q_ := hkeep (by omega); contradiction) | exact (bool_true (by omega)).symm
              · refine WL.yes rfl rfl ?_
                refine WL.x (X.move rfl) (by decide) ?_
                refine WL.no rfl rfl rfl (by decide) ?_
                refine WL.no rfl rfl rfl (by decide) ?_
                refine WL.no rfl rfl rfl (by decide) ?_
                refine WL.no rfl rfl rfl (by decide) ?_
                refine WL.no rfl rfl rfl (by decide) ?_
                refine WL.yes rfl rfl ?_
                refine WL.x (X.pickF rfl rfl rfl) (by decide) ?_
                refine WL.yes rfl rfl ?_
                refine WL.x (X.move rfl) (by decide) ?_
                refine WL.no rfl rfl rfl (by decide) ?_
                refine WL.no rfl rfl rfl (by decide) ?_
                refine WL.no rfl rfl rfl (by decide) ?_
                refine WL.no rfl rfl rfl (by decide) ?_
                refine WL.no rfl rfl rfl (by decide) ?_
                refine WL.yes rfl rfl ?_
                refine WL.x (X.pickF rfl rfl rfl) (by decide) ?_
                refine WL.yes rfl rfl ?_
                refine WL.x (X.pickF rfl rfl rfl) (by decide) ?_
                refine WL.x (X.pickT rfl rfl rfl) (by decide) ?_
                refine WL.x (X.assign rfl) (by decide) ?_
                refine WL.nil ?_
                refine WK.nThen ?_
                refine WC.ret ?_
                refine WK.ret1 rfl rfl (fun w' hw' => Ret.exact hw' ?_)
                first | rfl | (exfalso; omega) | (exfalso; contradiction) | (exfalso; have q_ := hkeep (by omega); contradiction) | exact (bool_true (by omega)).symm
    · refine WL.yes rfl rfl ?_
      refine WL.x (X.not rfl) (by decide) ?_
      refine WL.x (X.pickF rfl rfl rfl) (by decide) ?_
      refine WL.nil ?_
      refine WK.nThen ?_
      refine WC.condT rfl ?_
      refine WC.seq ?_
      refine WC.region ?_
      refine WL.x (X.move rfl) (by decide) ?_
      refine WL.x (X.assign rfl) (by decide) ?_
      refine WL.nil ?_
      refine WK.nThen ?_
      refine WC.ret ?_
      refine WK.rThen ?_
      refine WK.ret1 rfl rfl (fun w' hw' => Ret.exact hw' ?_)
      first | rfl | (exfalso; omega) | (exfalso; contradiction) | (exfalso; have q_ := hkeep (by omega); contradiction) | exact (bool_true (by omega)).symm
  · refine WL.x (X.not rfl) (by decide) ?_
    refine WL.x (X.move rfl) (by decide) ?_
    refine WL.no rfl rfl rfl (by decide) ?_
    refine WL.no rfl rfl rfl (by decide) ?_
    refine WL.no rfl rfl rfl (by decide) ?_
    refine WL.x (X.pickT rfl rfl rfl) (by decide) ?_
    refine WL.nil ?_
    refine WK.nThen ?_
    refine WC.condT rfl ?_
    refine WC.seq ?_
    refine WC.region ?_
    refine WL.x (X.move rfl) (by decide) ?_
    refine WL.x (X.assign rfl) (by decide) ?_
    refine WL.nil ?_
    refine WK.nThen ?_
    refine WC.ret ?_
    refine WK.rThen ?_
    refine WK.ret1 rfl rfl (fun w' hw' => Ret.exact hw' ?_)
    first | rfl | (exfalso; omega) | (exfalso; contradiction) | (exfalso; have q_ := hkeep (by omega); contradiction) | exact (bool_true (by omega)).symm
end Go.Proofs.C2
