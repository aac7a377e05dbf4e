/- The walk of the statement CenturyBreaks: its function answers true. -/
import Derived.Test.YtednficclnjmjaaC8Br
import Derived.Test.YtednficclnjmjaaC8W9
import Derived.Test.YtednficclnjmjaaC8LBreak
namespace Go.Proofs.C8
open Go Go.Kx
set_option linter.unusedSimpArgs false
set_option linter.unusedVariables false
theorem law8 (m : Mem) (cs : List Value) (s : Ser) (hs : Enc.rd m cs s) (ct : List Value) (t : Ser) (ht : Enc.rd m ct t) (cx : List Value) (x : Rl) (hx : Enc.rd m cx x) (cy : List Value) (y : Rl) (hy : Enc.rd m cy y) (least : Int)  (ok0 : Rng.ok s) (ok1 : Rng.ok t) (ok2 : Rng.ok x) (ok3 : Rng.ok y) (lo4 : -9223372036854775808 ≤ least) (hi4 : least ≤ 9223372036854775807) : Exact Try.prog 8 #[.agg cs.toArray, .agg ct.toArray, .agg cx.toArray, .agg cy.toArray, .int .i64 (least)] m (.bool true) := by
  obtain ⟨v1, v3, rfl, hs2, hs4⟩ := hs
  have hl5 := hs2.le
  have hl6 := hs4.le
  obtain ⟨v7, v9, rfl, hs8, hs10⟩ := ht
  have hl11 := hs8.le
  have hl12 := hs10.le
  obtain ⟨v13, v15, rfl, hs14, hs16⟩ := hx
  have hl17 := hs14.le
  have hl18 := hs16.le
  obtain ⟨v19, v21, rfl, hs20, hs22⟩ := hy
  have hl23 := hs20.le
  have hl24 := hs22.le
  refine Exact.start Try.func8 rfl Try.ntmps8 rfl fun wld => ?_
  refine WC.seq ?_
  refine WC.region ?_
  refine WL.tn (T.boxB rfl rfl) (by decide) fun b25 => ?_
  refine WL.tn (T.boxB rfl rfl) (by decide) fun b26 => ?_
  refine WL.tn (T.boxB rfl rfl) (by decide) fun b27 => ?_
  refine WL.tn (T.boxB rfl rfl) (by decide) fun b28 => ?_
  refine WL.x (X.assign rfl) (by decide) ?_
  refine WL.nil ?_
  refine WK.nThen ?_
  refine WC.seq ?_
  refine WC.region ?_
  refine WL.x (X.call Try.call21 rfl (awake21 _  )) (by decide) ?_
  refine WL.x (X.assign rfl) (by decide) ?_
  refine WL.nil ?_
  refine WK.nThen ?_
  refine WC.seq ?_
  refine WC.seq ?_
  refine WC.region ?_
  refine WL.x (X.loadBA (k := 3) Try.isAgg25 Try.sizeOf25 rfl rfl rfl) (by decide) ?_
  refine WL.cond (X.call Try.call22 rfl (few22 _ _ s ⟨_, _, rfl, hs2, hs4⟩ )) (by decide) (fun h29 => ?_) (fun h29 => ?_)
  · refine WL.x (X.not rfl) (by decide) ?_
    refine WL.x (X.move rfl) (by decide) ?_
    refine WL.yes rfl rfl ?_
    refine WL.x (X.loadBA (k := 2) Try.isAgg25 Try.sizeOf25 rfl rfl rfl) (by decide) ?_
    refine WL.yes rfl rfl ?_
    refine WL.cond (X.call Try.call22 rfl (few22 _ _ t ⟨_, _, rfl, hs8, hs10⟩ )) (by decide) (fun h30 => ?_) (fun h30 => ?_)
    · refine WL.yes rfl rfl ?_
      refine WL.x (X.not rfl) (by decide) ?_
      refine WL.x (X.pickF rfl rfl rfl) (by decide) ?_
      refine WL.x (X.move rfl) (by decide) ?_
      refine WL.yes rfl rfl ?_
      refine WL.x (X.loadBA (k := 1) Try.isAgg52 Try.sizeOf52 rfl rfl rfl) (by decide) ?_
      refine WL.yes rfl rfl ?_
      refine WL.cond (X.call Try.call38 rfl (light38 _ _ x ⟨_, _, rfl, hs14, hs16⟩ )) (by decide) (fun h31 => ?_) (fun h31 => ?_)
      · refine WL.yes rfl rfl ?_
        refine WL.x (X.not rfl) (by decide) ?_
        refine WL.x (X.pickF rfl rfl rfl) (by decide) ?_
        refine WL.x (X.move rfl) (by decide) ?_
        refine WL.yes rfl rfl ?_
        refine WL.x (X.loadBA (k := 0) Try.isAgg52 Try.sizeOf52 rfl rfl rfl) (by decide) ?_
        refine WL.yes rfl rfl ?_
        refine WL.cond (X.call Try.call38 rfl (light38 _ _ y ⟨_, _, rfl, hs20, hs22⟩ )) (by decide) (fun h32 => ?_) (fun h32 => ?_)
        · refine WL.yes rfl rfl ?_
          refine WL.x (X.not rfl) (by decide) ?_
          refine WL.x (X.pickF rfl rfl rfl) (by decide) ?_
          refine WL.nil ?_
          refine WK.nThen ?_
          refine WC.condF rfl ?_
          refine WC.skip ?_
          refine WK.nThen ?_
          refine WC.seq ?_
          refine WC.region ?_
          refine WL.x (X.loadBA (k := 3) Try.isAgg25 Try.sizeOf25 rfl rfl rfl) (by decide) ?_
          refine WL.x (X.loadBA (k := 2) Try.isAgg25 Try.sizeOf25 rfl rfl rfl) (by decide) ?_
          refine WL.x (X.move rfl) (by decide) ?_
          refine WL.tm (T.call Try.call23 rfl (break23 _ _ s ⟨_, _, rfl, hs2, hs4⟩ _ t ⟨_, _, rfl, hs8, hs10⟩ _ )) (by decide) fun m33 r34 hle35 hR36 => ?_
          obtain ⟨v37, rfl, hs38⟩ := hR36
          replace hs2 := hs2.mono hle35
          replace hs4 := hs4.mono hle35
          replace hs8 := hs8.mono hle35
          replace hs10 := hs10.mono hle35
          replace hs14 := hs14.mono hle35
          replace hs16 := hs16.mono hle35
          replace hs20 := hs20.mono hle35
          replace hs22 := hs22.mono hle35
          have hl39 := hs38.le
          refine WL.x (X.move rfl) (by decide) ?_
          refine WL.x (X.extract rfl rfl) (by decide) ?_
          refine WL.x (X.extract rfl rfl) (by decide) ?_
          refine WL.x (X.assign rfl) (by decide) ?_
          refine WL.x (X.assign rfl) (by decide) ?_
          refine WL.nil ?_
          refine WK.nThen ?_
          refine WC.seq ?_
          refine WC.region ?_
          refine WL.x (X.loadBA (k := 3) Try.isAgg25 Try.sizeOf25 rfl rfl rfl) (by decide) ?_
          refine WL.x (X.field Try.runUnderlying52 rfl Try.sizeOf28 rfl) (by decide) ?_
          refine WL.x (X.loadB (k := 1) Try.isAgg28 rfl rfl rfl) (by decide) ?_
          refine WL.x (X.field Try.runUnderlying52 rfl Try.sizeOf28 rfl) (by decide) ?_
          refine WL.x (X.loadB (k := 1) Try.isAgg28 rfl rfl rfl) (by decide) ?_
          refine WL.tm (T.call Try.call39 rfl (even39 _ _ s ⟨_, _, rfl, hs2, hs4⟩ _ _ hs14 _ _ hs16 )) (by decide) fun m40 r41 hle42 hR43 => ?_
          obtain ⟨v44, rfl, hs45⟩ := hR43
          replace hs2 := hs2.mono hle42
          replace hs4 := hs4.mono hle42
          replace hs8 := hs8.mono hle42
          replace hs10 := hs10.mono hle42
          replace hs14 := hs14.mono hle42
          replace hs16 := hs16.mono hle42
          replace hs20 := hs20.mono hle42
          replace hs22 := hs22.mono hle42
          replace hs38 := hs38.mono hle42
          have hl46 := hs45.le
          refine WL.x (X.move rfl) (by decide) ?_
          refine WL.x (X.extract rfl rfl) (by decide) ?_
          refine WL.x (X.extract rfl rfl) (by decide) ?_
          refine WL.x (X.assign rfl) (by decide) ?_
          refine WL.x (X.assign rfl) (by decide) ?_
          refine WL.nil ?_
          refine WK.nThen ?_
          refine WC.seq ?_
          refine WC.region ?_
          refine WL.x (X.loadBA (k := 2) Try.isAgg25 Try.sizeOf25 rfl rfl rfl) (by decide) ?_
          refine WL.x (X.field Try.runUnderlying52 rfl Try.sizeOf28 rfl) (by decide) ?_
          refine WL.x (X.loadB (k := 0) Try.isAgg28 rfl rfl rfl) (by decide) ?_
          refine WL.x (X.field Try.runUnderlying52 rfl Try.sizeOf28 rfl) (by decide) ?_
          refine WL.x (X.loadB (k := 0) Try.isAgg28 rfl rfl rfl) (by decide) ?_
          refine WL.tm (T.call Try.call39 rfl (even39 _ _ t ⟨_, _, rfl, hs8, hs10⟩ _ _ hs20 _ _ hs22 )) (by decide) fun m47 r48 hle49 hR50 => ?_
          obtain ⟨v51, rfl, hs52⟩ := hR50
          replace hs2 := hs2.mono hle49
          replace hs4 := hs4.mono hle49
          replace hs8 := hs8.mono hle49
          replace hs10 := hs10.mono hle49
          replace hs14 := hs14.mono hle49
          replace hs16 := hs16.mono hle49
          replace hs20 := hs20.mono hle49
          replace hs22 := hs22.mono hle49
          replace hs38 := hs38.mono hle49
          replace hs45 := hs45.mono hle49
          have hl53 := hs52.le
          refine WL.x (X.move rfl) (by decide) ?_
          refine WL.x (X.extract rfl rfl) (by decide) ?_
          refine WL.x (X.extract rfl rfl) (by decide) ?_
          refine WL.x (X.assign rfl) (by decide) ?_
          refine WL.x (X.assign rfl) (by decide) ?_
          refine WL.nil ?_
          refine WK.nThen ?_
          refine WC.seq ?_
          refine WC.seq ?_
          refine WC.region ?_
          refine WL.x (X.move rfl) (by decide) ?_
          refine WL.condn (X.neq rfl rfl) (by decide) (fun h54 => ?_) (fun h54 => ?_)
          · refine WL.x (X.move rfl) (by decide) ?_
            refine WL.no rfl rfl rfl (by decide) ?_
            refine WL.no rfl rfl rfl (by decide) ?_
            refine WL.x (X.pickT rfl rfl rfl) (by decide) ?_
            refine WL.x (X.move rfl) (by decide) ?_
            refine WL.no rfl rfl rfl (by decide) ?_
            refine WL.no rfl rfl rfl (by decide) ?_
            refine WL.x (X.pickT rfl rfl rfl) (by decide) ?_
            refine WL.nil ?_
            refine WK.nThen ?_
            refine WC.condT rfl ?_
            refine WC.seq ?_
            refine WC.region ?_
            refine WL.x (X.move rfl) (by decide) ?_
            refine WL.x (X.assign rfl) (by decide) ?_
            refine WL.nil ?_
            refine WK.nThen ?_
            refine WC.ret ?_
            refine WK.rThen ?_
            refine WK.ret1 rfl rfl (fun w' hw' => Ret.exact hw' ?_)
            first | rfl | (exfalso; omega) | exact (bool_true (by omega)).symm
          · refine WL.x (X.move rfl) (by decide) ?_
            refine WL.yes rfl rfl ?_
            refine WL.x (X.move rfl) (by decide) ?_
            refine WL.yes rfl rfl ?_
            refine WL.condn (X.neq rfl rfl) (by decide) (fun h55 => ?_) (fun h55 => ?_)
            · refine WL.x (X.pickF rfl rfl rfl) (by decide) ?_
              refine WL.x (X.move rfl) (by decide) ?_
              refine WL.no rfl rfl rfl (by decide) ?_
              refine WL.no rfl rfl rfl (by decide) ?_
              refine WL.x (X.pickT rfl rfl rfl) (by decide) ?_
              refine WL.nil ?_
              refine WK.nThen ?_
              refine WC.condT rfl ?_
              refine WC.seq ?_
              refine WC.region ?_
              refine WL.x (X.move rfl) (by decide) ?_
              refine WL.x (X.assign rfl) (by decide) ?_
              refine WL.nil ?_
              refine WK.nThen ?_
              refine WC.ret ?_
              refine WK.rThen ?_
              refine WK.ret1 rfl rfl (fun w' hw' => Ret.exact hw' ?_)
              first | rfl | (exfalso; omega) | exact (bool_true (by omega)).symm
            · refine WL.x (X.pickF rfl rfl rfl) (by decide) ?_
              refine WL.x (X.move rfl) (by decide) ?_
              refine WL.yes rfl rfl ?_
              refine WL.x (X.move rfl) (by decide) ?_
              refine WL.yes rfl rfl ?_
              refine WL.condn (X.neq rfl rfl) (by decide) (fun h56 => ?_) (fun h56 => ?_)
              · refine WL.x (X.pickF rfl rfl rfl) (by decide) ?_
                refine WL.nil ?_
                refine WK.nThen ?_
                refine WC.condT rfl ?_
                refine WC.seq ?_
                refine WC.region ?_
                refine WL.x (X.move rfl) (by decide) ?_
                refine WL.x (X.assign rfl) (by decide) ?_
                refine WL.nil ?_
                refine WK.nThen ?_
                refine WC.ret ?_
                refine WK.rThen ?_
                refine WK.ret1 rfl rfl (fun w' hw' => Ret.exact hw' ?_)
                first | rfl | (exfalso; omega) | exact (bool_true (by omega)).symm
              · refine WL.x (X.pickF rfl rfl rfl) (by decide) ?_
                refine WL.nil ?_
                refine WK.nThen ?_
                refine WC.condF rfl ?_
                refine WC.skip ?_
                refine WK.nThen ?_
                refine WC.seq ?_
                have hb := brkR_ok (s := s) (t := t) (least := least) (by omega)
                have he := evenR_ok (s := s) (lv := x.Levels) (sh := x.Shifts) (by omega)
                have hek := he.1
                have hea := he.2.1
                have her : (evenR s x.Levels x.Shifts).1 = evenL s x.Levels x.Shifts := (by rw [he.2.2])
                have hel := evenL_len s x.Levels x.Shifts
                have heb := evenL_bd hek hea
                have hen := hek.nV
                have hf := evenR_ok (s := t) (lv := y.Levels) (sh := y.Shifts) (by omega)
                have hfk := hf.1
                have hfa := hf.2.1
                have hfr : (evenR t y.Levels y.Shifts).1 = evenL t y.Levels y.Shifts := (by rw [hf.2.2])
                have hfl := evenL_len t y.Levels y.Shifts
                have hfb := evenL_bd hfk hfa
                have hfn := hfk.nV
                have hbr : (brkR s t least).1 = brkN s t least (comL s t).length := (by rw [hb.2.2])
                have hcl := comL_len s t
                have hbl := brkN_len s t least (comL s t).length
                have htl := tm_len s (comL s t)
                have hdl := df_len (evenL s x.Levels x.Shifts) (evenL t y.Levels y.Shifts) (comL s t)
                have hdb := fun i h => df_bd (s := s) (t := t) hek hea hfk hfa (i := i) h
                rw [hbr] at hs38
                rw [her] at hs45
                rw [hfr] at hs52
                refine WC.region ?_
                refine WL.x (X.loadBA (k := 3) Try.isAgg25 Try.sizeOf25 rfl rfl rfl) (by decide) ?_
                refine WL.x (X.loadBA (k := 2) Try.isAgg25 Try.sizeOf25 rfl rfl rfl) (by decide) ?_
                refine WL.x (X.move rfl) (by decide) ?_
                refine WL.x (X.move rfl) (by decide) ?_
                refine WL.tm (T.call Try.call47 rfl (differences47 _ _ s ⟨_, _, rfl, hs2, hs4⟩ _ t ⟨_, _, rfl, hs8, hs10⟩ _ _ hs45 _ _ hs52 (by assumption) (by assumption) (by omega) (by omega) (by assumption) (by assumption))) (by decide) fun m57 r58 hle59 hR60 => ?_
                obtain ⟨v61, v63, rfl, hs62, hs64⟩ := hR60
                replace hs2 := hs2.mono hle59
                replace hs4 := hs4.mono hle59
                replace hs8 := hs8.mono hle59
                replace hs10 := hs10.mono hle59
                replace hs14 := hs14.mono hle59
                replace hs16 := hs16.mono hle59
                replace hs20 := hs20.mono hle59
                replace hs22 := hs22.mono hle59
                replace hs38 := hs38.mono hle59
                replace hs45 := hs45.mono hle59
                replace hs52 := hs52.mono hle59
                have hl65 := hs62.le
                have hl66 := hs64.le
                refine WL.x (X.move rfl) (by decide) ?_
                refine WL.x (X.extract rfl rfl) (by decide) ?_
                refine WL.x (X.extract rfl rfl) (by decide) ?_
                refine WL.x (X.assign rfl) (by decide) ?_
                refine WL.x (X.assign rfl) (by decide) ?_
                refine WL.nil ?_
                refine WK.nThen ?_
                refine WC.seq ?_
                refine WC.region ?_
                refine WL.x (X.assign rfl) (by decide) ?_
                refine WL.nil ?_
                refine WK.nThen ?_
                refine WC.seq ?_
                refine WC.seq ?_
                refine WC.region ?_
                refine WL.x (X.assign rfl) (by decide) ?_
                refine WL.nil ?_
                refine WK.nThen ?_
                refine WC.block ?_
                refine WC.loop (G := Nat × Nat) (fun (i, a) => (comL s t).length + 1 - i) (fun (i, a) => m57) (fun (i, a) => [blk b28 52 [v19, v21], blk b27 52 [v13, v15], blk b26 25 [v7, v9], blk b25 25 [v1, v3]]) (fun (i, a) => [(4, .int .i64 (least)), (11, .bool true), (12, v37), (18, v61), (19, v63), (20, .int .i64 (↑a)), (21, .int .i64 (↑i))]) (fun (i, a) => (1 ≤ i ∧ (i ≤ (comL s t).length ∨ i = 1)) ∧ a = (brkN s t least i).length) ((1, 0)) rfl (.refl _) (.cons rfl (.cons rfl (.cons rfl (.cons rfl (.cons rfl (.cons rfl (.cons rfl .nil))))))) ?_ ?_
                · exact ⟨by omega, by simp [brkN]⟩
                · rintro ⟨i, a⟩ hF67
                  show WK _ _ m57 [blk b28 52 [v19, v21], blk b27 52 [v13, v15], blk b26 25 [v7, v9], blk b25 25 [v1, v3]] [(4, .int .i64 (least)), (11, .bool true), (12, v37), (18, v61), (19, v63), (20, .int .i64 (↑a)), (21, .int .i64 (↑i))] _
                  replace hF67 : (1 ≤ i ∧ (i ≤ (comL s t).length ∨ i = 1)) ∧ a = (brkN s t least i).length := hF67
                  obtain ⟨hi, hat⟩ := hF67
                  have hbi := brkN_le s t least (i := i) (n := (comL s t).length)
                  refine WC.seq ?_
                  refine WC.seq ?_
                  refine WC.region ?_
                  refine WL.x (X.move rfl) (by decide) ?_
                  refine WL.x (X.move rfl) (by decide) ?_
                  refine WL.x (X.len Try.runUnderlying28 rfl hs64) (by decide) ?_
                  refine WL.cond (X.lss rfl rfl) (by decide) (fun h68 => ?_) (fun h68 => ?_)
                  · refine WL.nil ?_
                    refine WK.nThen ?_
                    refine WC.condT rfl ?_
                    refine WC.skip ?_
                    refine WK.nThen ?_
                    refine WC.seq ?_
                    refine WC.block ?_
                    refine WC.seq ?_
                    refine WC.draw (π := (.cons 0 (.cons 1 (.cons 2 (.cons 3 (.cons 4 (.cons 5 (.cons 6 (.cons 7 (.cons 8 (.cons 9 (.cons 10 (.cons 11 (.cons 12 (.cons 13 (.cons 14 .done)))))))))))))))) [] [] rfl (by kernel_rfl) ?_
                    refine DW.x rfl rfl (X.move rfl) (by decide) ?_
                    refine DW.x rfl rfl (X.move rfl) (by decide) ?_
                    refine DW.x rfl rfl (X.len Try.runUnderlying28 rfl hs38) (by decide) ?_
                    refine DW.cond rfl rfl (X.lss rfl rfl) (by decide) (fun h69 => ?_) (fun h69 => ?_)
                    · refine DW.x rfl rfl (X.move rfl) (by decide) ?_
                      refine DW.x rfl rfl (X.move rfl) (by decide) ?_
                      refine DW.x rfl rfl (X.move rfl) (by decide) ?_
                      refine DW.xe rfl rfl (E.idxN a Try.runUnderlying28 Try.sizeOf3 rfl rfl hs38 (by omega)) (by decide) (fun p70 hp71 => ?_)
                      refine DW.x rfl rfl (X.loadInt Try.isAgg3 rfl hp71) (by decide) ?_
                      refine DW.x rfl rfl (X.move rfl) (by decide) ?_
                      refine DW.x rfl rfl (X.move rfl) (by decide) ?_
                      refine DW.xe rfl rfl (E.idxN i Try.runUnderlying28 Try.sizeOf3 rfl rfl hs62 (by omega)) (by decide) (fun p72 hp73 => ?_)
                      refine DW.x rfl rfl (X.loadInt Try.isAgg3 rfl hp73) (by decide) ?_
                      refine DW.cond rfl rfl (X.eql rfl rfl) (by decide) (fun h74 => ?_) (fun h74 => ?_)
                      · refine DW.x rfl rfl (X.pickT rfl rfl rfl) (by decide) ?_
                        refine DW.nil ?_
                        refine WK.nThen ?_
                        refine WC.condT rfl ?_
                        refine WC.seq ?_
                        refine WC.region ?_
                        refine WL.x (X.move rfl) (by decide) ?_
                        refine WL.x (X.add rfl rfl (by omega) (by omega)) (by decide) ?_
                        refine WL.x (X.assign rfl) (by decide) ?_
                        refine WL.nil ?_
                        refine WK.nThen ?_
                        refine WC.seq ?_
                        have hbp := brk_is hek hat (by omega) (by omega) (by omega)
                        have hre := brk_real hea hfa (least := least) (i := i) (by omega) (by omega) hbp
                        have hd1 := hdb i (by omega)
                        have hd2 := hdb (i - 1) (by omega)
                        refine WC.draw (π := (.cons 0 (.cons 1 (.cons 2 (.cons 3 (.cons 4 (.cons 5 (.cons 6 (.cons 7 (.cons 8 (.cons 9 (.cons 10 .done)))))))))))) [] [] rfl (by kernel_rfl) ?_
                        refine DW.x rfl rfl (X.move rfl) (by decide) ?_
                        refine DW.x rfl rfl (X.move rfl) (by decide) ?_
                        refine DW.xe rfl rfl (E.idxN i Try.runUnderlying28 Try.sizeOf3 rfl rfl hs64 (by omega)) (by decide) (fun p75 hp76 => ?_)
                        refine DW.x rfl rfl (X.loadInt Try.isAgg3 rfl hp76) (by decide) ?_
                        refine DW.x rfl rfl (X.move rfl) (by decide) ?_
                        refine DW.x rfl rfl (X.move rfl) (by decide) ?_
                        refine DW.x rfl rfl (X.sub rfl rfl (by omega) (by omega)) (by decide) ?_
                        refine DW.xe rfl rfl (E.idxE (i - 1) Try.runUnderlying28 Try.sizeOf3 rfl rfl hs64 (by omega) (by omega)) (by decide) (fun p77 hp78 => ?_)
                        refine DW.x rfl rfl (X.loadInt Try.isAgg3 rfl hp78) (by decide) ?_
                        refine DW.x rfl rfl (X.sub rfl rfl (by omega) (by omega)) (by decide) ?_
                        refine DW.x rfl rfl (X.assign rfl) (by decide) ?_
                        refine DW.nil ?_
                        refine WK.nThen ?_
                        refine WC.seq ?_
                        refine WC.region ?_
                        refine WL.x (X.move rfl) (by decide) ?_
                        refine WL.x (X.move rfl) (by decide) ?_
                        refine WL.cond (X.lss rfl rfl) (by decide) (fun h79 => ?_) (fun h79 => ?_)
                        · refine WL.x (X.move rfl) (by decide) ?_
                          refine WL.yes rfl rfl ?_
                          refine WL.x (X.move rfl) (by decide) ?_
                          refine WL.yes rfl rfl ?_
                          refine WL.x (X.move rfl) (by decide) ?_
                          refine WL.yes rfl rfl ?_
                          refine WL.x (X.neg rfl (by omega) (by omega)) (by decide) ?_
                          refine WL.yes rfl rfl ?_
                          refine WL.cond (X.gtr rfl rfl) (by decide) (fun h80 => ?_) (fun h80 => ?_)
                          · refine WL.x (X.pickT rfl rfl rfl) (by decide) ?_
                            refine WL.nil ?_
                            refine WK.nThen ?_
                            refine WC.condT rfl ?_
                            refine WC.seq ?_
                            refine WC.region ?_
                            refine WL.x (X.assign rfl) (by decide) ?_
                            refine WL.nil ?_
                            refine WK.nThen ?_
                            refine WC.ret ?_
                            refine WK.rBlock ?_
                            refine WK.rThen ?_
                            refine WK.rThen ?_
                            refine WK.rBlock ?_
                            refine WK.rThen ?_
                            refine WK.ret1 rfl rfl (fun w' hw' => Ret.exact hw' ?_)
                            first | rfl | (exfalso; omega) | exact (bool_true (by omega)).symm
                          · refine WL.x (X.pickT rfl rfl rfl) (by decide) ?_
                            refine WL.nil ?_
                            refine WK.nThen ?_
                            refine WC.condF rfl ?_
                            refine WC.skip ?_
                            refine WK.nBlock ?_
                            refine WK.nThen ?_
                            refine WC.region ?_
                            refine WL.x (X.move rfl) (by decide) ?_
                            refine WL.x (X.add rfl rfl (by omega) (by omega)) (by decide) ?_
                            refine WL.x (X.assign rfl) (by decide) ?_
                            refine WL.nil ?_
                            refine WK.nThen ?_
                            refine WK.next ((i + 1, a + 1)) rfl (.refl _) (.cons rfl (.cons rfl (.cons rfl (.cons rfl (.cons rfl (.cons rfl (.cons rfl .nil))))))) ?_ ?_
                            · first | exact ⟨by omega, (brk_step_yes hek hat (by omega) (by omega) (by omega) (by omega)).symm⟩ | exact ⟨by omega, (brk_step_no (n := (comL s t).length) (by omega) (by omega) hat rfl (fun h => by first | omega | (have h2 := h.2; contradiction))).symm⟩
                            · (dsimp only; omega)
                        · refine WL.x (X.move rfl) (by decide) ?_
                          refine WL.no rfl rfl rfl (by decide) ?_
                          refine WL.no rfl rfl rfl (by decide) ?_
                          refine WL.no rfl rfl rfl (by decide) ?_
                          refine WL.no rfl rfl rfl (by decide) ?_
                          refine WL.x (X.pickF rfl rfl rfl) (by decide) ?_
                          refine WL.nil ?_
                          refine WK.nThen ?_
                          refine WC.condF rfl ?_
                          refine WC.skip ?_
                          refine WK.nBlock ?_
                          refine WK.nThen ?_
                          refine WC.region ?_
                          refine WL.x (X.move rfl) (by decide) ?_
                          refine WL.x (X.add rfl rfl (by omega) (by omega)) (by decide) ?_
                          refine WL.x (X.assign rfl) (by decide) ?_
                          refine WL.nil ?_
                          refine WK.nThen ?_
                          refine WK.next ((i + 1, a + 1)) rfl (.refl _) (.cons rfl (.cons rfl (.cons rfl (.cons rfl (.cons rfl (.cons rfl (.cons rfl .nil))))))) ?_ ?_
                          · first | exact ⟨by omega, (brk_step_yes hek hat (by omega) (by omega) (by omega) (by omega)).symm⟩ | exact ⟨by omega, (brk_step_no (n := (comL s t).length) (by omega) (by omega) hat rfl (fun h => by first | omega | (have h2 := h.2; contradiction))).symm⟩
                          · (dsimp only; omega)
                      · refine DW.x rfl rfl (X.pickT rfl rfl rfl) (by decide) ?_
                        refine DW.nil ?_
                        refine WK.nThen ?_
                        refine WC.condF rfl ?_
                        refine WC.skip ?_
                        refine WK.nBlock ?_
                        refine WK.nThen ?_
                        refine WC.region ?_
                        refine WL.x (X.move rfl) (by decide) ?_
                        refine WL.x (X.add rfl rfl (by omega) (by omega)) (by decide) ?_
                        refine WL.x (X.assign rfl) (by decide) ?_
                        refine WL.nil ?_
                        refine WK.nThen ?_
                        refine WK.next ((i + 1, a)) rfl (.refl _) (.cons rfl (.cons rfl (.cons rfl (.cons rfl (.cons rfl (.cons rfl (.cons rfl .nil))))))) ?_ ?_
                        · first | exact ⟨by omega, (brk_step_yes hek hat (by omega) (by omega) (by omega) (by omega)).symm⟩ | exact ⟨by omega, (brk_step_no (n := (comL s t).length) (by omega) (by omega) hat rfl (fun h => by first | omega | (have h2 := h.2; contradiction))).symm⟩
                        · (dsimp only; omega)
                    · refine DW.x rfl rfl (X.move rfl) (by decide) ?_
                      refine DW.no rfl rfl (by decide) ?_
                      refine DW.no rfl rfl (by decide) ?_
                      refine DW.no rfl rfl (by decide) ?_
                      refine DW.no rfl rfl (by decide) ?_
                      refine DW.no rfl rfl (by decide) ?_
                      refine DW.no rfl rfl (by decide) ?_
                      refine DW.no rfl rfl (by decide) ?_
                      refine DW.no rfl rfl (by decide) ?_
                      refine DW.no rfl rfl (by decide) ?_
                      refine DW.x rfl rfl (X.pickF rfl rfl rfl) (by decide) ?_
                      refine DW.nil ?_
                      refine WK.nThen ?_
                      refine WC.condF rfl ?_
                      refine WC.skip ?_
                      refine WK.nBlock ?_
                      refine WK.nThen ?_
                      refine WC.region ?_
                      refine WL.x (X.move rfl) (by decide) ?_
                      refine WL.x (X.add rfl rfl (by omega) (by omega)) (by decide) ?_
                      refine WL.x (X.assign rfl) (by decide) ?_
                      refine WL.nil ?_
                      refine WK.nThen ?_
                      refine WK.next ((i + 1, a)) rfl (.refl _) (.cons rfl (.cons rfl (.cons rfl (.cons rfl (.cons rfl (.cons rfl (.cons rfl .nil))))))) ?_ ?_
                      · first | exact ⟨by omega, (brk_step_yes hek hat (by omega) (by omega) (by omega) (by omega)).symm⟩ | exact ⟨by omega, (brk_step_no (n := (comL s t).length) (by omega) (by omega) hat rfl (fun h => by first | omega | (have h2 := h.2; contradiction))).symm⟩
                      · (dsimp only; omega)
                  · refine WL.nil ?_
                    refine WK.nThen ?_
                    refine WC.condF rfl ?_
                    refine WC.exit ?_
                    refine WK.eThen ?_
                    refine WK.eThen ?_
                    refine WK.eHit ?_
                    refine WK.nThen ?_
                    refine WC.seq ?_
                    have hfin := brk_fin (s := s) (t := t) (least := least) hi (by omega)
                    refine WC.region ?_
                    refine WL.x (X.move rfl) (by decide) ?_
                    refine WL.x (X.move rfl) (by decide) ?_
                    refine WL.yes rfl rfl ?_
                    refine WL.x (X.move rfl) (by decide) ?_
                    refine WL.yes rfl rfl ?_
                    refine WL.x (X.move rfl) (by decide) ?_
                    refine WL.yes rfl rfl ?_
                    refine WL.x (X.len Try.runUnderlying28 rfl hs38) (by decide) ?_
                    refine WL.yes rfl rfl ?_
                    refine WL.x (X.eql rfl rfl) (by decide) ?_
                    refine WL.x (X.pickT rfl rfl rfl) (by decide) ?_
                    refine WL.x (X.assign rfl) (by decide) ?_
                    refine WL.nil ?_
                    refine WK.nThen ?_
                    refine WC.ret ?_
                    refine WK.ret1 rfl rfl (fun w' hw' => Ret.exact hw' ?_)
                    first | rfl | (exfalso; omega) | exact (bool_true (by omega)).symm
        · refine WL.yes rfl rfl ?_
          refine WL.x (X.not rfl) (by decide) ?_
          refine WL.x (X.pickF rfl rfl rfl) (by decide) ?_
          refine WL.nil ?_
          refine WK.nThen ?_
          refine WC.condT rfl ?_
          refine WC.seq ?_
          refine WC.region ?_
          refine WL.x (X.move rfl) (by decide) ?_
          refine WL.x (X.assign rfl) (by decide) ?_
          refine WL.nil ?_
          refine WK.nThen ?_
          refine WC.ret ?_
          refine WK.rThen ?_
          refine WK.ret1 rfl rfl (fun w' hw' => Ret.exact hw' ?_)
          first | rfl | (exfalso; omega) | exact (bool_true (by omega)).symm
      · refine WL.yes rfl rfl ?_
        refine WL.x (X.not rfl) (by decide) ?_
        refine WL.x (X.pickF rfl rfl rfl) (by decide) ?_
        refine WL.x (X.move rfl) (by decide) ?_
        refine WL.no rfl rfl rfl (by decide) ?_
        refine WL.no rfl rfl rfl (by decide) ?_
        refine WL.no rfl rfl rfl (by decide) ?_
        refine WL.x (X.pickT rfl rfl rfl) (by decide) ?_
        refine WL.nil ?_
        refine WK.nThen ?_
        refine WC.condT rfl ?_
        refine WC.seq ?_
        refine WC.region ?_
        refine WL.x (X.move rfl) (by decide) ?_
        refine WL.x (X.assign rfl) (by decide) ?_
        refine WL.nil ?_
        refine WK.nThen ?_
        refine WC.ret ?_
        refine WK.rThen ?_
        refine WK.ret1 rfl rfl (fun w' hw' => Ret.exact hw' ?_)
        first | rfl | (exfalso; omega) | exact (bool_true (by omega)).symm
    · refine WL.yes rfl rfl ?_
      refine WL.x (X.not rfl) (by decide) ?_
      refine WL.x (X.pickF rfl rfl rfl) (by decide) ?_
      refine WL.x (X.move rfl) (by decide) ?_
      refine WL.no rfl rfl rfl (by decide) ?_
      refine WL.no rfl rfl rfl (by decide) ?_
      refine WL.no rfl rfl rfl (by decide) ?_
      refine WL.x (X.pickT rfl rfl rfl) (by decide) ?_
      refine WL.x (X.move rfl) (by decide) ?_
      refine WL.no rfl rfl rfl (by decide) ?_
      refine WL.no rfl rfl rfl (by decide) ?_
      refine WL.no rfl rfl rfl (by decide) ?_
      refine WL.x (X.pickT rfl rfl rfl) (by decide) ?_
      refine WL.nil ?_
      refine WK.nThen ?_
      refine WC.condT rfl ?_
      refine WC.seq ?_
      refine WC.region ?_
      refine WL.x (X.move rfl) (by decide) ?_
      refine WL.x (X.assign rfl) (by decide) ?_
      refine WL.nil ?_
      refine WK.nThen ?_
      refine WC.ret ?_
      refine WK.rThen ?_
      refine WK.ret1 rfl rfl (fun w' hw' => Ret.exact hw' ?_)
      first | rfl | (exfalso; omega) | exact (bool_true (by omega)).symm
  · refine WL.x (X.not rfl) (by decide) ?_
    refine WL.x (X.move rfl) (by decide) ?_
    refine WL.no rfl rfl rfl (by decide) ?_
    refine WL.no rfl rfl rfl (by decide) ?_
    refine WL.no rfl rfl rfl (by decide) ?_
    refine WL.x (X.pickT rfl rfl rfl) (by decide) ?_
    refine WL.x (X.move rfl) (by decide) ?_
    refine WL.no rfl rfl rfl (by decide) ?_
    refine WL.no rfl rfl rfl (by decide) ?_
    refine WL.no rfl rfl rfl (by decide) ?_
    refine WL.x (X.pickT rfl rfl rfl) (by decide) ?_
    refine WL.x (X.move rfl) (by decide) ?_
    refine WL.no rfl rfl rfl (by decide) ?_
    refine WL.no rfl rfl rfl (by decide) ?_
    refine WL.no rfl rfl rfl (by decide) ?_
    refine WL.x (X.pickT rfl rfl rfl) (by decide) ?_
    refine WL.nil ?_
    refine WK.nThen ?_
    refine WC.condT rfl ?_
    refine WC.seq ?_
    refine WC.region ?_
    refine WL.x (X.move rfl) (by decide) ?_
    refine WL.x (X.assign rfl) (by decide) ?_
    refine WL.nil ?_
    refine WK.nThen ?_
    refine WC.ret ?_
    refine WK.rThen ?_
    refine WK.ret1 rfl rfl (fun w' hw' => Ret.exact hw' ?_)
    first | rfl | (exfalso; omega) | exact (bool_true (by omega)).symm
end Go.Proofs.C8
