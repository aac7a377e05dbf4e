/- The walk of the statement CenturyFalls: its function answers true. -/
import Derived.Test.YtednficclnjmjaaC8Br
import Derived.Test.YtednficclnjmjaaC8W9
import Derived.Test.YtednficclnjmjaaC8LFall
namespace Go.Proofs.C8
open Go Go.Kx
set_option linter.unusedSimpArgs false
set_option linter.unusedVariables false
set_option maxRecDepth 20000 in
set_option maxHeartbeats 4000000 in
theorem law7 (m : Mem) (cs : List Value) (s : Ser) (hs : Enc.rd m cs s) (cx : List Value) (x : Rl) (hx : Enc.rd m cx x)  (ok0 : Rng.ok s) (ok1 : Rng.ok x) : Exact Try.prog 7 #[.agg cs.toArray, .agg cx.toArray] m (.bool true) := by
  obtain ⟨v1, v3, rfl, hs2, hs4⟩ := hs
  have hl5 := hs2.le
  have hl6 := hs4.le
  obtain ⟨v7, v9, rfl, hs8, hs10⟩ := hx
  have hl11 := hs8.le
  have hl12 := hs10.le
  refine Exact.start Try.func7 rfl Try.ntmps7 rfl fun wld => ?_
  refine WC.seq ?_
  refine WC.region ?_
  refine WL.tn (T.boxB rfl rfl) (by decide) fun b13 => ?_
  refine WL.tn (T.boxB rfl rfl) (by decide) fun b14 => ?_
  refine WL.x (X.assign rfl) (by decide) ?_
  refine WL.nil ?_
  refine WK.nThen ?_
  refine WC.seq ?_
  refine WC.region ?_
  refine WL.x (X.call Try.call21 rfl (awake21 _  )) (by decide) ?_
  refine WL.x (X.assign rfl) (by decide) ?_
  refine WL.nil ?_
  refine WK.nThen ?_
  refine WC.seq ?_
  refine WC.seq ?_
  refine WC.region ?_
  refine WL.x (X.loadBA (k := 1) Try.isAgg25 Try.sizeOf25 rfl rfl rfl) (by decide) ?_
  refine WL.cond (X.call Try.call22 rfl (few22 _ _ s ⟨_, _, rfl, hs2, hs4⟩ )) (by decide) (fun h15 => ?_) (fun h15 => ?_)
  · refine WL.x (X.not rfl) (by decide) ?_
    refine WL.x (X.move rfl) (by decide) ?_
    refine WL.yes rfl rfl ?_
    refine WL.x (X.loadBA (k := 0) Try.isAgg52 Try.sizeOf52 rfl rfl rfl) (by decide) ?_
    refine WL.yes rfl rfl ?_
    refine WL.cond (X.call Try.call38 rfl (light38 _ _ x ⟨_, _, rfl, hs8, hs10⟩ )) (by decide) (fun h16 => ?_) (fun h16 => ?_)
    · refine WL.yes rfl rfl ?_
      refine WL.x (X.not rfl) (by decide) ?_
      refine WL.x (X.pickF rfl rfl rfl) (by decide) ?_
      refine WL.nil ?_
      refine WK.nThen ?_
      refine WC.condF rfl ?_
      refine WC.skip ?_
      refine WK.nThen ?_
      refine WC.seq ?_
      refine WC.region ?_
      refine WL.x (X.loadBA (k := 1) Try.isAgg25 Try.sizeOf25 rfl rfl rfl) (by decide) ?_
      refine WL.tm (T.call Try.call30 rfl (mono30 _ _ s ⟨_, _, rfl, hs2, hs4⟩ )) (by decide) fun m17 r18 hle19 hR20 => ?_
      obtain ⟨v21, rfl, hs22⟩ := hR20
      replace hs2 := hs2.mono hle19
      replace hs4 := hs4.mono hle19
      replace hs8 := hs8.mono hle19
      replace hs10 := hs10.mono hle19
      have hl23 := hs22.le
      refine WL.x (X.move rfl) (by decide) ?_
      refine WL.x (X.extract rfl rfl) (by decide) ?_
      refine WL.x (X.extract rfl rfl) (by decide) ?_
      refine WL.x (X.assign rfl) (by decide) ?_
      refine WL.x (X.assign rfl) (by decide) ?_
      refine WL.nil ?_
      refine WK.nThen ?_
      refine WC.seq ?_
      refine WC.region ?_
      refine WL.x (X.loadBA (k := 1) Try.isAgg25 Try.sizeOf25 rfl rfl rfl) (by decide) ?_
      refine WL.tm (T.call Try.call32 rfl (falls32 _ _ s ⟨_, _, rfl, hs2, hs4⟩ )) (by decide) fun m24 r25 hle26 hR27 => ?_
      obtain ⟨v28, rfl, hs29⟩ := hR27
      replace hs2 := hs2.mono hle26
      replace hs4 := hs4.mono hle26
      replace hs8 := hs8.mono hle26
      replace hs10 := hs10.mono hle26
      replace hs22 := hs22.mono hle26
      have hl30 := hs29.le
      refine WL.x (X.move rfl) (by decide) ?_
      refine WL.x (X.extract rfl rfl) (by decide) ?_
      refine WL.x (X.extract rfl rfl) (by decide) ?_
      refine WL.x (X.assign rfl) (by decide) ?_
      refine WL.x (X.assign rfl) (by decide) ?_
      refine WL.nil ?_
      refine WK.nThen ?_
      refine WC.seq ?_
      refine WC.seq ?_
      refine WC.region ?_
      refine WL.x (X.loadBA (k := 1) Try.isAgg25 Try.sizeOf25 rfl rfl rfl) (by decide) ?_
      refine WL.x (X.call Try.call34 rfl (check34 _ _ s ⟨_, _, rfl, hs2, hs4⟩ )) (by decide) ?_
      refine WL.x (X.move rfl) (by decide) ?_
      refine WL.x (X.extract rfl rfl) (by decide) ?_
      refine WL.x (X.extract rfl rfl) (by decide) ?_
      refine WL.x (X.assign rfl) (by decide) ?_
      refine WL.x (X.assign rfl) (by decide) ?_
      refine WL.nil ?_
      refine WK.nThen ?_
      refine WC.seq ?_
      refine WC.region ?_
      refine WL.x (X.move rfl) (by decide) ?_
      refine WL.condn (X.neq rfl rfl) (by decide) (fun h31 => ?_) (fun h31 => ?_)
      · refine WL.nil ?_
        refine WK.nThen ?_
        refine WC.condT rfl ?_
        refine WC.seq ?_
        have hcb : chkE s ≠ 0 := (by show (chk s).1 ≠ 0; omega)
        have hme := monoR_err hcb
        have hme2 : (monoR s).2 = (chk s).1 := (by rw [hme]; rfl)
        have hfe := fallR_err hcb
        have hfe2 : (fallR s).2 = (chk s).1 := (by rw [hfe]; rfl)
        refine WC.region ?_
        refine WL.x (X.move rfl) (by decide) ?_
        refine WL.x (X.move rfl) (by decide) ?_
        refine WL.yes rfl rfl ?_
        refine WL.x (X.move rfl) (by decide) ?_
        refine WL.yes rfl rfl ?_
        refine WL.x (X.move rfl) (by decide) ?_
        refine WL.yes rfl rfl ?_
        refine WL.cond (X.eql rfl rfl) (by decide) (fun h32 => ?_) (fun h32 => ?_)
        · refine WL.x (X.pickT rfl rfl rfl) (by decide) ?_
          refine WL.x (X.move rfl) (by decide) ?_
          refine WL.yes rfl rfl ?_
          refine WL.x (X.move rfl) (by decide) ?_
          refine WL.yes rfl rfl ?_
          refine WL.x (X.move rfl) (by decide) ?_
          refine WL.yes rfl rfl ?_
          refine WL.x (X.eql rfl rfl) (by decide) ?_
          refine WL.x (X.pickT rfl rfl rfl) (by decide) ?_
          refine WL.x (X.assign rfl) (by decide) ?_
          refine WL.nil ?_
          refine WK.nThen ?_
          refine WC.ret ?_
          refine WK.rThen ?_
          refine WK.ret1 rfl rfl (fun w' hw' => Ret.exact hw' ?_)
          first | rfl | (exfalso; omega) | (exfalso; contradiction) | exact (bool_true (by omega)).symm | exact (bool_true (by assumption)).symm
        · refine WL.x (X.pickT rfl rfl rfl) (by decide) ?_
          refine WL.x (X.move rfl) (by decide) ?_
          refine WL.no rfl rfl rfl (by decide) ?_
          refine WL.no rfl rfl rfl (by decide) ?_
          refine WL.no rfl rfl rfl (by decide) ?_
          refine WL.x (X.pickF rfl rfl rfl) (by decide) ?_
          refine WL.x (X.assign rfl) (by decide) ?_
          refine WL.nil ?_
          refine WK.nThen ?_
          refine WC.ret ?_
          refine WK.rThen ?_
          refine WK.ret1 rfl rfl (fun w' hw' => Ret.exact hw' ?_)
          first | rfl | (exfalso; omega) | (exfalso; contradiction) | exact (bool_true (by omega)).symm | exact (bool_true (by assumption)).symm
      · refine WL.nil ?_
        refine WK.nThen ?_
        refine WC.condF rfl ?_
        refine WC.skip ?_
        refine WK.nThen ?_
        refine WC.seq ?_
        refine WC.seq ?_
        have hok := Ok.of (s := s) (by show (chk s).1 = 0; omega)
        have hnV := hok.nV
        have hmf := mono_fall hok
        refine WC.region ?_
        refine WL.x (X.move rfl) (by decide) ?_
        refine WL.x (X.eql rfl rfl) (by decide) ?_
        refine WL.x (X.move rfl) (by decide) ?_
        refine WL.x (X.eql rfl rfl) (by decide) ?_
        refine WL.x (OpX.f (X.neqB Try.underlying4 rfl rfl) (fun h => h (decide_eq_decide.2 (by omega)))) (by decide) ?_
        refine WL.x (X.move rfl) (by decide) ?_
        refine WL.yes rfl rfl ?_
        refine WL.x (X.move rfl) (by decide) ?_
        refine WL.yes rfl rfl ?_
        refine WL.condn (X.neq rfl rfl) (by decide) (fun h33 => ?_) (fun h33 => ?_)
        · refine WL.yes rfl rfl ?_
          refine WL.x (X.move rfl) (by decide) ?_
          refine WL.yes rfl rfl ?_
          refine WL.x (X.move rfl) (by decide) ?_
          refine WL.yes rfl rfl ?_
          refine WL.condn (X.neq rfl rfl) (by decide) (fun h34 => ?_) (fun h34 => ?_)
          · refine WL.yes rfl rfl ?_
            refine WL.x (X.pickT rfl rfl rfl) (by decide) ?_
            refine WL.x (X.pickF rfl rfl rfl) (by decide) ?_
            refine WL.x (X.move rfl) (by decide) ?_
            refine WL.no rfl rfl rfl (by decide) ?_
            refine WL.no rfl rfl rfl (by decide) ?_
            refine WL.no rfl rfl rfl (by decide) ?_
            refine WL.noU rfl rfl (by decide) ?_
            refine WL.noU rfl rfl (by decide) ?_
            refine WL.no rfl rfl rfl (by decide) ?_
            refine WL.x (X.pickT rfl rfl rfl) (by decide) ?_
            refine WL.nil ?_
            refine WK.nThen ?_
            refine WC.condT rfl ?_
            refine WC.seq ?_
            refine WC.region ?_
            refine WL.x (X.assign rfl) (by decide) ?_
            refine WL.nil ?_
            refine WK.nThen ?_
            refine WC.ret ?_
            refine WK.rThen ?_
            refine WK.ret1 rfl rfl (fun w' hw' => Ret.exact hw' ?_)
            first | rfl | (exfalso; omega) | (exfalso; contradiction) | exact (bool_true (by omega)).symm | exact (bool_true (by assumption)).symm
          · refine WL.yes rfl rfl ?_
            refine WL.x (X.pickT rfl rfl rfl) (by decide) ?_
            refine WL.x (X.pickF rfl rfl rfl) (by decide) ?_
            refine WL.x (X.move rfl) (by decide) ?_
            refine WL.yes rfl rfl ?_
            refine WL.x (X.move rfl) (by decide) ?_
            refine WL.yes rfl rfl ?_
            refine WL.condn (X.neq rfl rfl) (by decide) (fun h35 => ?_) (fun h35 => ?_)
            · refine WL.yes rfl rfl ?_
              refine WL.x (X.move rfl) (by decide) ?_
              refine WL.yes rfl rfl ?_
              refine WL.x (X.move rfl) (by decide) ?_
              refine WL.yes rfl rfl ?_
              refine WL.condn (X.neq rfl rfl) (by decide) (fun h36 => ?_) (fun h36 => ?_)
              · refine WL.yes rfl rfl ?_
                refine WL.x (X.pickT rfl rfl rfl) (by decide) ?_
                refine WL.x (X.pickF rfl rfl rfl) (by decide) ?_
                refine WL.nil ?_
                refine WK.nThen ?_
                refine WC.condT rfl ?_
                refine WC.seq ?_
                refine WC.region ?_
                refine WL.x (X.assign rfl) (by decide) ?_
                refine WL.nil ?_
                refine WK.nThen ?_
                refine WC.ret ?_
                refine WK.rThen ?_
                refine WK.ret1 rfl rfl (fun w' hw' => Ret.exact hw' ?_)
                first | rfl | (exfalso; omega) | (exfalso; contradiction) | exact (bool_true (by omega)).symm | exact (bool_true (by assumption)).symm
              · refine WL.yes rfl rfl ?_
                refine WL.x (X.pickT rfl rfl rfl) (by decide) ?_
                refine WL.x (X.pickF rfl rfl rfl) (by decide) ?_
                refine WL.nil ?_
                refine WK.nThen ?_
                refine WC.condF rfl ?_
                refine WC.skip ?_
                refine WK.nThen ?_
                refine WC.seq ?_
                refine WC.region ?_
                refine WL.x (X.loadBA (k := 1) Try.isAgg25 Try.sizeOf25 rfl rfl rfl) (by decide) ?_
                refine WL.x (X.field Try.runUnderlying52 rfl Try.sizeOf28 rfl) (by decide) ?_
                refine WL.x (X.loadB (k := 0) Try.isAgg28 rfl rfl rfl) (by decide) ?_
                refine WL.x (X.field Try.runUnderlying52 rfl Try.sizeOf28 rfl) (by decide) ?_
                refine WL.x (X.loadB (k := 0) Try.isAgg28 rfl rfl rfl) (by decide) ?_
                refine WL.tm (T.call Try.call39 rfl (even39 _ _ s ⟨_, _, rfl, hs2, hs4⟩ _ _ hs8 _ _ hs10 )) (by decide) fun m37 r38 hle39 hR40 => ?_
                obtain ⟨v41, rfl, hs42⟩ := hR40
                replace hs2 := hs2.mono hle39
                replace hs4 := hs4.mono hle39
                replace hs8 := hs8.mono hle39
                replace hs10 := hs10.mono hle39
                replace hs22 := hs22.mono hle39
                replace hs29 := hs29.mono hle39
                have hl43 := hs42.le
                refine WL.x (X.move rfl) (by decide) ?_
                refine WL.x (X.extract rfl rfl) (by decide) ?_
                refine WL.x (X.extract rfl rfl) (by decide) ?_
                refine WL.x (X.assign rfl) (by decide) ?_
                refine WL.x (X.assign rfl) (by decide) ?_
                refine WL.nil ?_
                refine WK.nThen ?_
                refine WC.seq ?_
                refine WC.seq ?_
                refine WC.region ?_
                refine WL.x (X.move rfl) (by decide) ?_
                refine WL.cond (X.eql rfl rfl) (by decide) (fun h44 => ?_) (fun h44 => ?_)
                · refine WL.nil ?_
                  refine WK.nThen ?_
                  refine WC.condT rfl ?_
                  refine WC.seq ?_
                  refine WC.seq ?_
                  have hfr := fall_real hok (by omega)
                  have hf2 := hfr.1
                  have hf3 := hfr.2.1
                  refine WC.draw (π := (.cons 0 (.cons 1 (.cons 2 (.cons 3 (.cons 4 (.cons 5 (.cons 6 (.cons 7 (.cons 8 (.cons 9 (.cons 10 (.cons 11 .done))))))))))))) [] [] rfl (by kernel_rfl) ?_
                  refine DW.x rfl rfl (X.move rfl) (by decide) ?_
                  refine DW.x rfl rfl (X.len Try.runUnderlying28 rfl hs29) (by decide) ?_
                  refine DW.condn rfl rfl (X.neq rfl rfl) (by decide) (fun h45 => ?_) (fun h45 => ?_)
                  · refine DW.x rfl rfl (X.move rfl) (by decide) ?_
                    refine DW.no rfl rfl (by decide) ?_
                    refine DW.no rfl rfl (by decide) ?_
                    refine DW.no rfl rfl (by decide) ?_
                    refine DW.no rfl rfl (by decide) ?_
                    refine DW.no rfl rfl (by decide) ?_
                    refine DW.no rfl rfl (by decide) ?_
                    refine DW.no rfl rfl (by decide) ?_
                    refine DW.x rfl rfl (X.pickT rfl rfl rfl) (by decide) ?_
                    refine DW.nil ?_
                    refine WK.nThen ?_
                    refine WC.condT rfl ?_
                    refine WC.seq ?_
                    refine WC.region ?_
                    refine WL.x (X.assign rfl) (by decide) ?_
                    refine WL.nil ?_
                    refine WK.nThen ?_
                    refine WC.ret ?_
                    refine WK.rThen ?_
                    refine WK.rThen ?_
                    refine WK.ret1 rfl rfl (fun w' hw' => Ret.exact hw' ?_)
                    first | rfl | (exfalso; omega) | (exfalso; contradiction) | exact (bool_true (by omega)).symm | exact (bool_true (by assumption)).symm
                  · refine DW.x rfl rfl (X.move rfl) (by decide) ?_
                    refine DW.x rfl rfl (X.move rfl) (by decide) ?_
                    refine DW.xe rfl rfl (E.idxN 0 Try.runUnderlying28 Try.sizeOf3 rfl rfl hs29 (by omega)) (by decide) (fun p46 hp47 => ?_)
                    refine DW.x rfl rfl (X.loadInt Try.isAgg3 rfl hp47) (by decide) ?_
                    refine DW.x rfl rfl (X.move rfl) (by decide) ?_
                    refine DW.xe rfl rfl (E.idxN 1 Try.runUnderlying28 Try.sizeOf3 rfl rfl hs29 (by omega)) (by decide) (fun p48 hp49 => ?_)
                    refine DW.x rfl rfl (X.loadInt Try.isAgg3 rfl hp49) (by decide) ?_
                    refine DW.cond rfl rfl (X.geq rfl rfl) (by decide) (fun h50 => ?_) (fun h50 => ?_)
                    · refine DW.x rfl rfl (X.pickF rfl rfl rfl) (by decide) ?_
                      refine DW.nil ?_
                      refine WK.nThen ?_
                      refine WC.condT rfl ?_
                      refine WC.seq ?_
                      refine WC.region ?_
                      refine WL.x (X.assign rfl) (by decide) ?_
                      refine WL.nil ?_
                      refine WK.nThen ?_
                      refine WC.ret ?_
                      refine WK.rThen ?_
                      refine WK.rThen ?_
                      refine WK.ret1 rfl rfl (fun w' hw' => Ret.exact hw' ?_)
                      first | rfl | (exfalso; omega) | (exfalso; contradiction) | exact (bool_true (by omega)).symm | exact (bool_true (by assumption)).symm
                    · refine DW.x rfl rfl (X.pickF rfl rfl rfl) (by decide) ?_
                      refine DW.nil ?_
                      refine WK.nThen ?_
                      refine WC.condF rfl ?_
                      refine WC.skip ?_
                      refine WK.nThen ?_
                      have hml : (evenR s x.Levels x.Shifts).1.length ≤ 1000 ∧ ∀ i, i < (evenR s x.Levels x.Shifts).1.length → -1000000 ≤ gt (evenR s x.Levels x.Shifts).1 i ∧ gt (evenR s x.Levels x.Shifts).1 i ≤ 1000000 := even_small s x.Levels x.Shifts
                      have hml1 := hml.1
                      have hml2 := hml.2
                      refine WC.cut (G := Mem × Nat × Nat) (fun (m51, b55, b56) => m51) (fun (m51, b55, b56) => [blk b56 33 [.int .i64 ((meanR s (((evenR s x.Levels x.Shifts).1)) (((Span.mk (gt ((fallR s).1) 0) (gt ((fallR s).1) 0))))).2.1.Lo), .int .i64 ((meanR s (((evenR s x.Levels x.Shifts).1)) (((Span.mk (gt ((fallR s).1) 0) (gt ((fallR s).1) 0))))).2.1.Hi)], blk b55 45 [.int .i64 ((meanR s (((evenR s x.Levels x.Shifts).1)) (((Span.mk (gt ((fallR s).1) 0) (gt ((fallR s).1) 0))))).1.Num), .int .i64 ((meanR s (((evenR s x.Levels x.Shifts).1)) (((Span.mk (gt ((fallR s).1) 0) (gt ((fallR s).1) 0))))).1.Den)], blk b14 52 [v7, v9], blk b13 25 [v1, v3]]) (fun (m51, b55, b56) => [(2, .pointer (some ⟨b13, 0, none⟩)), (5, .bool true), (8, v28), (12, v41), (13, .int .i64 ((evenR s x.Levels x.Shifts).2)), (14, .pointer (some ⟨b55, 0, none⟩)), (16, .bool (decide (0 < (meanR s (((evenR s x.Levels x.Shifts).1)) (((Span.mk (gt ((fallR s).1) 0) (gt ((fallR s).1) 0))))).1.Den)))]) (fun (m51, b55, b56) => m37.le m51 ∧ Sl (α := Int) m51 v7 x.Levels ∧ Sl (α := Int) m51 v9 x.Shifts ∧ Sl (α := Val) m51 v1 s.Values ∧ Sl (α := Shf) m51 v3 s.Shifts) ?_ ?_
                      · refine WC.draw (π := (.cons 0 (.cons 1 (.cons 2 (.cons 3 (.cons 4 (.cons 5 (.cons 6 (.cons 7 (.cons 8 (.cons 9 (.cons 10 (.cons 11 (.cons 12 (.cons 13 (.fork (.cons 14 (.cons 15 (.cons 16 (.cons 17 (.cons 18 .done))))) (.cons 15 (.cons 14 (.cons 16 (.cons 17 (.cons 18 .done))))))))))))))))))))) [14, 15, 16, 17] [16, 17] rfl (by kernel_rfl) ?_
                        refine DW.x rfl rfl (X.loadBA (k := 1) Try.isAgg25 Try.sizeOf25 rfl rfl rfl) (by decide) ?_
                        refine DW.x rfl rfl (X.move rfl) (by decide) ?_
                        refine DW.x rfl rfl (X.move rfl) (by decide) ?_
                        refine DW.xe rfl rfl (E.idxN 0 Try.runUnderlying28 Try.sizeOf3 rfl rfl hs29 (by omega)) (by decide) (fun p52 hp53 => ?_)
                        refine DW.x rfl rfl (X.loadInt Try.isAgg3 rfl hp53) (by decide) ?_
                        refine DW.x rfl rfl (X.move rfl) (by decide) ?_
                        refine DW.xe rfl rfl (E.idxN 0 Try.runUnderlying28 Try.sizeOf3 rfl rfl hs29 (by omega)) (by decide) (fun p54 hp55 => ?_)
                        refine DW.x rfl rfl (X.loadInt Try.isAgg3 rfl hp55) (by decide) ?_
                        refine DW.x (V := Value.agg [.int .i64 (gt ((fallR s).1) 0), .int .i64 (gt ((fallR s).1) 0)].toArray) rfl rfl (X.build Try.zeroValue33 Try.runUnderlying33 (places33 _ Try.underlying33) rfl rfl) (by decide) ?_
                        refine DW.x rfl rfl (X.call Try.call40 rfl (mean40 _ _ s ⟨_, _, rfl, hs2, hs4⟩ _ _ hs42 _ ((Span.mk (gt ((fallR s).1) 0) (gt ((fallR s).1) 0))) rfl (by omega) (by assumption))) (by decide) ?_
                        refine DW.x rfl rfl (X.move rfl) (by decide) ?_
                        refine DW.x rfl rfl (X.extract rfl rfl) (by decide) ?_
                        refine DW.x rfl rfl (X.extract rfl rfl) (by decide) ?_
                        refine DW.x rfl rfl (X.extract rfl rfl) (by decide) ?_
                        refine DW.fork (List.cons_ne_nil _ _) ?_ ?_
                        · refine DW.tn rfl rfl rfl (T.alloc Try.zeroValue45 rfl) (by decide) fun b56 => ?_
                          refine DW.tn rfl rfl rfl (T.alloc Try.zeroValue33 rfl) (by decide) fun b57 => ?_
                          refine DW.ts rfl rfl rfl rfl (T.storeBA (k := 1) Try.sizeOf45 rfl rfl rfl (one_cons rfl (one_cons rfl one_nil)) rfl rfl) ?_
                          refine DW.ts rfl rfl rfl rfl (T.storeBA (k := 0) Try.sizeOf33 rfl rfl rfl (one_cons rfl (one_cons rfl one_nil)) rfl rfl) ?_
                          refine DW.x rfl rfl (X.assign rfl) (by decide) ?_
                          refine DW.nil ?_
                          refine WK.nThen ?_
                          exact WK.meet (m37, b56, b57) rfl (.refl _) (.cons rfl (.cons rfl (.cons rfl (.cons rfl (.cons rfl (.cons rfl (.cons rfl .nil))))))) ⟨(Mem.le_refl _), hs8, hs10, hs2, hs4⟩
                        · refine DW.tn rfl rfl rfl (T.alloc Try.zeroValue33 rfl) (by decide) fun b58 => ?_
                          refine DW.tn rfl rfl rfl (T.alloc Try.zeroValue45 rfl) (by decide) fun b59 => ?_
                          refine DW.ts rfl rfl rfl rfl (T.storeBA (k := 0) Try.sizeOf45 rfl rfl rfl (one_cons rfl (one_cons rfl one_nil)) rfl rfl) ?_
                          refine DW.ts rfl rfl rfl rfl (T.storeBA (k := 1) Try.sizeOf33 rfl rfl rfl (one_cons rfl (one_cons rfl one_nil)) rfl rfl) ?_
                          refine DW.x rfl rfl (X.assign rfl) (by decide) ?_
                          refine DW.nil ?_
                          refine WK.nThen ?_
                          refine WK.perm [blk b58 33 [.int .i64 ((meanR s (((evenR s x.Levels x.Shifts).1)) (((Span.mk (gt ((fallR s).1) 0) (gt ((fallR s).1) 0))))).2.1.Lo), .int .i64 ((meanR s (((evenR s x.Levels x.Shifts).1)) (((Span.mk (gt ((fallR s).1) 0) (gt ((fallR s).1) 0))))).2.1.Hi)], blk b59 45 [.int .i64 ((meanR s (((evenR s x.Levels x.Shifts).1)) (((Span.mk (gt ((fallR s).1) 0) (gt ((fallR s).1) 0))))).1.Num), .int .i64 ((meanR s (((evenR s x.Levels x.Shifts).1)) (((Span.mk (gt ((fallR s).1) 0) (gt ((fallR s).1) 0))))).1.Den)], blk b14 52 [v7, v9], blk b13 25 [v1, v3]] ((List.Perm.cons _ (.refl _)).trans (List.perm_middle (l₁ := [blk b59 45 [.int .i64 ((meanR s (((evenR s x.Levels x.Shifts).1)) (((Span.mk (gt ((fallR s).1) 0) (gt ((fallR s).1) 0))))).1.Num), .int .i64 ((meanR s (((evenR s x.Levels x.Shifts).1)) (((Span.mk (gt ((fallR s).1) 0) (gt ((fallR s).1) 0))))).1.Den)]]) (l₂ := [blk b14 52 [v7, v9], blk b13 25 [v1, v3]]) (a := blk b58 33 [.int .i64 ((meanR s (((evenR s x.Levels x.Shifts).1)) (((Span.mk (gt ((fallR s).1) 0) (gt ((fallR s).1) 0))))).2.1.Lo), .int .i64 ((meanR s (((evenR s x.Levels x.Shifts).1)) (((Span.mk (gt ((fallR s).1) 0) (gt ((fallR s).1) 0))))).2.1.Hi)])).symm) ?_
                          exact WK.meet (m37, b59, b58) rfl (.refl _) (.cons rfl (.cons rfl (.cons rfl (.cons rfl (.cons rfl (.cons rfl (.cons rfl .nil))))))) ⟨(Mem.le_refl _), hs8, hs10, hs2, hs4⟩
                      · rintro ⟨m51, b55, b56⟩ ⟨hle60, hs61, hs62, hs63, hs64⟩
                        show WK _ _ m51 [blk b56 33 [.int .i64 ((meanR s (((evenR s x.Levels x.Shifts).1)) (((Span.mk (gt ((fallR s).1) 0) (gt ((fallR s).1) 0))))).2.1.Lo), .int .i64 ((meanR s (((evenR s x.Levels x.Shifts).1)) (((Span.mk (gt ((fallR s).1) 0) (gt ((fallR s).1) 0))))).2.1.Hi)], blk b55 45 [.int .i64 ((meanR s (((evenR s x.Levels x.Shifts).1)) (((Span.mk (gt ((fallR s).1) 0) (gt ((fallR s).1) 0))))).1.Num), .int .i64 ((meanR s (((evenR s x.Levels x.Shifts).1)) (((Span.mk (gt ((fallR s).1) 0) (gt ((fallR s).1) 0))))).1.Den)], blk b14 52 [v7, v9], blk b13 25 [v1, v3]] [(2, .pointer (some ⟨b13, 0, none⟩)), (5, .bool true), (8, v28), (12, v41), (13, .int .i64 ((evenR s x.Levels x.Shifts).2)), (14, .pointer (some ⟨b55, 0, none⟩)), (16, .bool (decide (0 < (meanR s (((evenR s x.Levels x.Shifts).1)) (((Span.mk (gt ((fallR s).1) 0) (gt ((fallR s).1) 0))))).1.Den)))] _
                        replace hs2 := hs2.mono hle60
                        replace hs4 := hs4.mono hle60
                        replace hs8 := hs8.mono hle60
                        replace hs10 := hs10.mono hle60
                        replace hs22 := hs22.mono hle60
                        replace hs29 := hs29.mono hle60
                        replace hs42 := hs42.mono hle60
                        replace hp47 := hp47.mono hle60
                        replace hp49 := hp49.mono hle60
                        have hl65 := hs61.le
                        have hl66 := hs62.le
                        have hl67 := hs63.le
                        have hl68 := hs64.le
                        refine WC.cut (G := Mem × Nat × Nat) (fun (m69, b73, b74) => m69) (fun (m69, b73, b74) => [blk b74 33 [.int .i64 ((meanR s (((evenR s x.Levels x.Shifts).1)) (((Span.mk (gt ((fallR s).1) 1) (gt ((fallR s).1) 1))))).2.1.Lo), .int .i64 ((meanR s (((evenR s x.Levels x.Shifts).1)) (((Span.mk (gt ((fallR s).1) 1) (gt ((fallR s).1) 1))))).2.1.Hi)], blk b73 45 [.int .i64 ((meanR s (((evenR s x.Levels x.Shifts).1)) (((Span.mk (gt ((fallR s).1) 1) (gt ((fallR s).1) 1))))).1.Num), .int .i64 ((meanR s (((evenR s x.Levels x.Shifts).1)) (((Span.mk (gt ((fallR s).1) 1) (gt ((fallR s).1) 1))))).1.Den)], blk b56 33 [.int .i64 ((meanR s (((evenR s x.Levels x.Shifts).1)) (((Span.mk (gt ((fallR s).1) 0) (gt ((fallR s).1) 0))))).2.1.Lo), .int .i64 ((meanR s (((evenR s x.Levels x.Shifts).1)) (((Span.mk (gt ((fallR s).1) 0) (gt ((fallR s).1) 0))))).2.1.Hi)], blk b55 45 [.int .i64 ((meanR s (((evenR s x.Levels x.Shifts).1)) (((Span.mk (gt ((fallR s).1) 0) (gt ((fallR s).1) 0))))).1.Num), .int .i64 ((meanR s (((evenR s x.Levels x.Shifts).1)) (((Span.mk (gt ((fallR s).1) 0) (gt ((fallR s).1) 0))))).1.Den)], blk b14 52 [v7, v9], blk b13 25 [v1, v3]]) (fun (m69, b73, b74) => [(5, .bool true), (12, v41), (13, .int .i64 ((evenR s x.Levels x.Shifts).2)), (14, .pointer (some ⟨b55, 0, none⟩)), (16, .bool (decide (0 < (meanR s (((evenR s x.Levels x.Shifts).1)) (((Span.mk (gt ((fallR s).1) 0) (gt ((fallR s).1) 0))))).1.Den))), (17, .pointer (some ⟨b73, 0, none⟩)), (19, .bool (decide (0 < (meanR s (((evenR s x.Levels x.Shifts).1)) (((Span.mk (gt ((fallR s).1) 1) (gt ((fallR s).1) 1))))).1.Den)))]) (fun (m69, b73, b74) => m51.le m69 ∧ Sl (α := Int) m69 v7 x.Levels ∧ Sl (α := Int) m69 v9 x.Shifts ∧ Sl (α := Val) m69 v1 s.Values ∧ Sl (α := Shf) m69 v3 s.Shifts) ?_ ?_
                        · refine WC.draw (π := (.cons 0 (.cons 1 (.cons 2 (.cons 3 (.cons 4 (.cons 5 (.cons 6 (.cons 7 (.cons 8 (.cons 9 (.cons 10 (.cons 11 (.cons 12 (.cons 13 (.fork (.cons 14 (.cons 15 (.cons 16 (.cons 17 (.cons 18 .done))))) (.cons 15 (.cons 14 (.cons 16 (.cons 17 (.cons 18 .done))))))))))))))))))))) [14, 15, 16, 17] [16, 17] rfl (by kernel_rfl) ?_
                          refine DW.x rfl rfl (X.loadBA (k := 3) Try.isAgg25 Try.sizeOf25 rfl rfl rfl) (by decide) ?_
                          refine DW.x rfl rfl (X.move rfl) (by decide) ?_
                          refine DW.x rfl rfl (X.move rfl) (by decide) ?_
                          refine DW.xe rfl rfl (E.idxN 1 Try.runUnderlying28 Try.sizeOf3 rfl rfl hs29 (by omega)) (by decide) (fun p70 hp71 => ?_)
                          refine DW.x rfl rfl (X.loadInt Try.isAgg3 rfl hp71) (by decide) ?_
                          refine DW.x rfl rfl (X.move rfl) (by decide) ?_
                          refine DW.xe rfl rfl (E.idxN 1 Try.runUnderlying28 Try.sizeOf3 rfl rfl hs29 (by omega)) (by decide) (fun p72 hp73 => ?_)
                          refine DW.x rfl rfl (X.loadInt Try.isAgg3 rfl hp73) (by decide) ?_
                          refine DW.x (V := Value.agg [.int .i64 (gt ((fallR s).1) 1), .int .i64 (gt ((fallR s).1) 1)].toArray) rfl rfl (X.build Try.zeroValue33 Try.runUnderlying33 (places33 _ Try.underlying33) rfl rfl) (by decide) ?_
                          refine DW.x rfl rfl (X.call Try.call40 rfl (mean40 _ _ s ⟨_, _, rfl, hs63, hs64⟩ _ _ hs42 _ ((Span.mk (gt ((fallR s).1) 1) (gt ((fallR s).1) 1))) rfl (by omega) (by assumption))) (by decide) ?_
                          refine DW.x rfl rfl (X.move rfl) (by decide) ?_
                          refine DW.x rfl rfl (X.extract rfl rfl) (by decide) ?_
                          refine DW.x rfl rfl (X.extract rfl rfl) (by decide) ?_
                          refine DW.x rfl rfl (X.extract rfl rfl) (by decide) ?_
                          refine DW.fork (List.cons_ne_nil _ _) ?_ ?_
                          · refine DW.tn rfl rfl rfl (T.alloc Try.zeroValue45 rfl) (by decide) fun b74 => ?_
                            refine DW.tn rfl rfl rfl (T.alloc Try.zeroValue33 rfl) (by decide) fun b75 => ?_
                            refine DW.ts rfl rfl rfl rfl (T.storeBA (k := 1) Try.sizeOf45 rfl rfl rfl (one_cons rfl (one_cons rfl one_nil)) rfl rfl) ?_
                            refine DW.ts rfl rfl rfl rfl (T.storeBA (k := 0) Try.sizeOf33 rfl rfl rfl (one_cons rfl (one_cons rfl one_nil)) rfl rfl) ?_
                            refine DW.x rfl rfl (X.assign rfl) (by decide) ?_
                            refine DW.nil ?_
                            refine WK.nThen ?_
                            exact WK.meet (m51, b74, b75) rfl (.refl _) (.cons rfl (.cons rfl (.cons rfl (.cons rfl (.cons rfl (.cons rfl (.cons rfl .nil))))))) ⟨(Mem.le_refl _), hs61, hs62, hs63, hs64⟩
                          · refine DW.tn rfl rfl rfl (T.alloc Try.zeroValue33 rfl) (by decide) fun b76 => ?_
                            refine DW.tn rfl rfl rfl (T.alloc Try.zeroValue45 rfl) (by decide) fun b77 => ?_
                            refine DW.ts rfl rfl rfl rfl (T.storeBA (k := 0) Try.sizeOf45 rfl rfl rfl (one_cons rfl (one_cons rfl one_nil)) rfl rfl) ?_
                            refine DW.ts rfl rfl rfl rfl (T.storeBA (k := 1) Try.sizeOf33 rfl rfl rfl (one_cons rfl (one_cons rfl one_nil)) rfl rfl) ?_
                            refine DW.x rfl rfl (X.assign rfl) (by decide) ?_
                            refine DW.nil ?_
                            refine WK.nThen ?_
                            refine WK.perm [blk b76 33 [.int .i64 ((meanR s (((evenR s x.Levels x.Shifts).1)) (((Span.mk (gt ((fallR s).1) 1) (gt ((fallR s).1) 1))))).2.1.Lo), .int .i64 ((meanR s (((evenR s x.Levels x.Shifts).1)) (((Span.mk (gt ((fallR s).1) 1) (gt ((fallR s).1) 1))))).2.1.Hi)], blk b77 45 [.int .i64 ((meanR s (((evenR s x.Levels x.Shifts).1)) (((Span.mk (gt ((fallR s).1) 1) (gt ((fallR s).1) 1))))).1.Num), .int .i64 ((meanR s (((evenR s x.Levels x.Shifts).1)) (((Span.mk (gt ((fallR s).1) 1) (gt ((fallR s).1) 1))))).1.Den)], blk b56 33 [.int .i64 ((meanR s (((evenR s x.Levels x.Shifts).1)) (((Span.mk (gt ((fallR s).1) 0) (gt ((fallR s).1) 0))))).2.1.Lo), .int .i64 ((meanR s (((evenR s x.Levels x.Shifts).1)) (((Span.mk (gt ((fallR s).1) 0) (gt ((fallR s).1) 0))))).2.1.Hi)], blk b55 45 [.int .i64 ((meanR s (((evenR s x.Levels x.Shifts).1)) (((Span.mk (gt ((fallR s).1) 0) (gt ((fallR s).1) 0))))).1.Num), .int .i64 ((meanR s (((evenR s x.Levels x.Shifts).1)) (((Span.mk (gt ((fallR s).1) 0) (gt ((fallR s).1) 0))))).1.Den)], blk b14 52 [v7, v9], blk b13 25 [v1, v3]] ((List.Perm.cons _ (.refl _)).trans (List.perm_middle (l₁ := [blk b77 45 [.int .i64 ((meanR s (((evenR s x.Levels x.Shifts).1)) (((Span.mk (gt ((fallR s).1) 1) (gt ((fallR s).1) 1))))).1.Num), .int .i64 ((meanR s (((evenR s x.Levels x.Shifts).1)) (((Span.mk (gt ((fallR s).1) 1) (gt ((fallR s).1) 1))))).1.Den)]]) (l₂ := [blk b56 33 [.int .i64 ((meanR s (((evenR s x.Levels x.Shifts).1)) (((Span.mk (gt ((fallR s).1) 0) (gt ((fallR s).1) 0))))).2.1.Lo), .int .i64 ((meanR s (((evenR s x.Levels x.Shifts).1)) (((Span.mk (gt ((fallR s).1) 0) (gt ((fallR s).1) 0))))).2.1.Hi)], blk b55 45 [.int .i64 ((meanR s (((evenR s x.Levels x.Shifts).1)) (((Span.mk (gt ((fallR s).1) 0) (gt ((fallR s).1) 0))))).1.Num), .int .i64 ((meanR s (((evenR s x.Levels x.Shifts).1)) (((Span.mk (gt ((fallR s).1) 0) (gt ((fallR s).1) 0))))).1.Den)], blk b14 52 [v7, v9], blk b13 25 [v1, v3]]) (a := blk b76 33 [.int .i64 ((meanR s (((evenR s x.Levels x.Shifts).1)) (((Span.mk (gt ((fallR s).1) 1) (gt ((fallR s).1) 1))))).2.1.Lo), .int .i64 ((meanR s (((evenR s x.Levels x.Shifts).1)) (((Span.mk (gt ((fallR s).1) 1) (gt ((fallR s).1) 1))))).2.1.Hi)])).symm) ?_
                            exact WK.meet (m51, b77, b76) rfl (.refl _) (.cons rfl (.cons rfl (.cons rfl (.cons rfl (.cons rfl (.cons rfl (.cons rfl .nil))))))) ⟨(Mem.le_refl _), hs61, hs62, hs63, hs64⟩
                        · rintro ⟨m69, b73, b74⟩ ⟨hle78, hs79, hs80, hs81, hs82⟩
                          show WK _ _ m69 [blk b74 33 [.int .i64 ((meanR s (((evenR s x.Levels x.Shifts).1)) (((Span.mk (gt ((fallR s).1) 1) (gt ((fallR s).1) 1))))).2.1.Lo), .int .i64 ((meanR s (((evenR s x.Levels x.Shifts).1)) (((Span.mk (gt ((fallR s).1) 1) (gt ((fallR s).1) 1))))).2.1.Hi)], blk b73 45 [.int .i64 ((meanR s (((evenR s x.Levels x.Shifts).1)) (((Span.mk (gt ((fallR s).1) 1) (gt ((fallR s).1) 1))))).1.Num), .int .i64 ((meanR s (((evenR s x.Levels x.Shifts).1)) (((Span.mk (gt ((fallR s).1) 1) (gt ((fallR s).1) 1))))).1.Den)], blk b56 33 [.int .i64 ((meanR s (((evenR s x.Levels x.Shifts).1)) (((Span.mk (gt ((fallR s).1) 0) (gt ((fallR s).1) 0))))).2.1.Lo), .int .i64 ((meanR s (((evenR s x.Levels x.Shifts).1)) (((Span.mk (gt ((fallR s).1) 0) (gt ((fallR s).1) 0))))).2.1.Hi)], blk b55 45 [.int .i64 ((meanR s (((evenR s x.Levels x.Shifts).1)) (((Span.mk (gt ((fallR s).1) 0) (gt ((fallR s).1) 0))))).1.Num), .int .i64 ((meanR s (((evenR s x.Levels x.Shifts).1)) (((Span.mk (gt ((fallR s).1) 0) (gt ((fallR s).1) 0))))).1.Den)], blk b14 52 [v7, v9], blk b13 25 [v1, v3]] [(5, .bool true), (12, v41), (13, .int .i64 ((evenR s x.Levels x.Shifts).2)), (14, .pointer (some ⟨b55, 0, none⟩)), (16, .bool (decide (0 < (meanR s (((evenR s x.Levels x.Shifts).1)) (((Span.mk (gt ((fallR s).1) 0) (gt ((fallR s).1) 0))))).1.Den))), (17, .pointer (some ⟨b73, 0, none⟩)), (19, .bool (decide (0 < (meanR s (((evenR s x.Levels x.Shifts).1)) (((Span.mk (gt ((fallR s).1) 1) (gt ((fallR s).1) 1))))).1.Den)))] _
                          replace hs2 := hs2.mono hle78
                          replace hs4 := hs4.mono hle78
                          replace hs8 := hs8.mono hle78
                          replace hs10 := hs10.mono hle78
                          replace hs22 := hs22.mono hle78
                          replace hs29 := hs29.mono hle78
                          replace hs42 := hs42.mono hle78
                          replace hp47 := hp47.mono hle78
                          replace hp49 := hp49.mono hle78
                          replace hs61 := hs61.mono hle78
                          replace hs62 := hs62.mono hle78
                          replace hs63 := hs63.mono hle78
                          replace hs64 := hs64.mono hle78
                          have hl83 := hs79.le
                          have hl84 := hs80.le
                          have hl85 := hs81.le
                          have hl86 := hs82.le
                          refine WC.seq ?_
                          refine WC.region ?_
                          refine WL.x (X.move rfl) (by decide) ?_
                          refine WL.x (X.move rfl) (by decide) ?_
                          refine WL.yes rfl rfl ?_
                          refine WL.x (X.move rfl) (by decide) ?_
                          refine WL.yes rfl rfl ?_
                          refine WL.condn (X.neq rfl rfl) (by decide) (fun h87 => ?_) (fun h87 => ?_)
                          · refine WL.yes rfl rfl ?_
                            refine WL.x (X.move rfl) (by decide) ?_
                            refine WL.no rfl rfl rfl (by decide) ?_
                            refine WL.no rfl rfl rfl (by decide) ?_
                            refine WL.noU rfl rfl (by decide) ?_
                            refine WL.no rfl rfl rfl (by decide) ?_
                            refine WL.no rfl rfl rfl (by decide) ?_
                            refine WL.noU rfl rfl (by decide) ?_
                            refine WL.noU rfl rfl (by decide) ?_
                            refine WL.noU rfl rfl (by decide) ?_
                            refine WL.noU rfl rfl (by decide) ?_
                            refine WL.noU rfl rfl (by decide) ?_
                            refine WL.no rfl rfl rfl (by decide) ?_
                            refine WL.no rfl rfl rfl (by decide) ?_
                            refine WL.noU rfl rfl (by decide) ?_
                            refine WL.noU rfl rfl (by decide) ?_
                            refine WL.noU rfl rfl (by decide) ?_
                            refine WL.no rfl rfl rfl (by decide) ?_
                            refine WL.yes rfl rfl ?_
                            refine WL.x (X.pickT rfl rfl rfl) (by decide) ?_
                            refine WL.x (X.pickT rfl rfl rfl) (by decide) ?_
                            refine WL.x (X.assign rfl) (by decide) ?_
                            refine WL.nil ?_
                            refine WK.nThen ?_
                            refine WC.ret ?_
                            refine WK.rThen ?_
                            refine WK.ret1 rfl rfl (fun w' hw' => Ret.exact hw' ?_)
                            first | rfl | (exfalso; omega) | (exfalso; contradiction) | exact (bool_true (by omega)).symm | exact (bool_true (by assumption)).symm
                          · have he := evenR_ok (s := s) (lv := x.Levels) (sh := x.Shifts) (by omega)
                            have hek := he.1
                            have hea := he.2.1
                            have her : (evenR s x.Levels x.Shifts).1 = evenL s x.Levels x.Shifts := (by rw [he.2.2])
                            have hel := evenL_len s x.Levels x.Shifts
                            have heb := evenL_bd hek hea
                            have hen := hek.nV
                            have hq := hfr.2.2 _ _ hea
                            rw [← her] at hq
                            have hq1 := hq.1
                            have hq2 := hq.2.1
                            have hq3 := hq.2.2.1
                            have hq4 := hq.2.2.2
                            refine WL.yes rfl rfl ?_
                            refine WL.x (X.move rfl) (by decide) ?_
                            refine WL.yes rfl rfl ?_
                            refine WL.x (X.move rfl) (by decide) ?_
                            refine WL.yes rfl rfl ?_
                            refine WL.cond (X.move rfl) (by decide) (fun h88 => ?_) (fun h88 => ?_)
                            · refine WL.yes rfl rfl ?_
                              refine WL.x (X.move rfl) (by decide) ?_
                              refine WL.yes rfl rfl ?_
                              refine WL.x (X.pickT rfl rfl rfl) (by decide) ?_
                              refine WL.yes rfl rfl ?_
                              refine WL.cond (X.move rfl) (by decide) (fun h89 => ?_) (fun h89 => ?_)
                              · refine WL.yes rfl rfl ?_
                                refine WL.x (X.field Try.runUnderlying45 rfl Try.sizeOf3 rfl) (by decide) ?_
                                refine WL.yes rfl rfl ?_
                                refine WL.x (X.loadB (k := 1) Try.isAgg3 rfl rfl rfl) (by decide) ?_
                                refine WL.yes rfl rfl ?_
                                refine WL.x (X.field Try.runUnderlying45 rfl Try.sizeOf3 rfl) (by decide) ?_
                                refine WL.yes rfl rfl ?_
                                refine WL.x (X.loadB (k := 3) Try.isAgg3 rfl rfl rfl) (by decide) ?_
                                refine WL.yes rfl rfl ?_
                                refine WL.cond (X.lss rfl rfl) (by decide) (fun h90 => ?_) (fun h90 => ?_)
                                · refine WL.yes rfl rfl ?_
                                  refine WL.x (X.pickT rfl rfl rfl) (by decide) ?_
                                  refine WL.yes rfl rfl ?_
                                  refine WL.x (X.move rfl) (by decide) ?_
                                  refine WL.yes rfl rfl ?_
                                  refine WL.x (X.move rfl) (by decide) ?_
                                  refine WL.yes rfl rfl ?_
                                  refine WL.x (X.call Try.call46 rfl (rises46 _ _ _ hs42 )) (by decide) ?_
                                  refine WL.yes rfl rfl ?_
                                  refine WL.x (X.notp rfl) (by decide) ?_
                                  refine WL.yes rfl rfl ?_
                                  refine WL.x (X.pickT rfl rfl rfl) (by decide) ?_
                                  refine WL.yes rfl rfl ?_
                                  refine WL.x (X.pickF rfl rfl rfl) (by decide) ?_
                                  refine WL.x (X.pickT rfl rfl rfl) (by decide) ?_
                                  refine WL.x (X.assign rfl) (by decide) ?_
                                  refine WL.nil ?_
                                  refine WK.nThen ?_
                                  refine WC.ret ?_
                                  refine WK.rThen ?_
                                  refine WK.ret1 rfl rfl (fun w' hw' => Ret.exact hw' ?_)
                                  first | rfl | (exfalso; omega) | (exfalso; contradiction) | exact (bool_true (by omega)).symm | exact (bool_true (by assumption)).symm
                                · refine WL.yes rfl rfl ?_
                                  refine WL.x (X.pickT rfl rfl rfl) (by decide) ?_
                                  refine WL.yes rfl rfl ?_
                                  refine WL.x (X.move rfl) (by decide) ?_
                                  refine WL.no rfl rfl rfl (by decide) ?_
                                  refine WL.no rfl rfl rfl (by decide) ?_
                                  refine WL.no rfl rfl rfl (by decide) ?_
                                  refine WL.yes rfl rfl ?_
                                  refine WL.x (X.pickF rfl rfl rfl) (by decide) ?_
                                  refine WL.yes rfl rfl ?_
                                  refine WL.x (X.pickF rfl rfl rfl) (by decide) ?_
                                  refine WL.x (X.pickT rfl rfl rfl) (by decide) ?_
                                  refine WL.x (X.assign rfl) (by decide) ?_
                                  refine WL.nil ?_
                                  refine WK.nThen ?_
                                  refine WC.ret ?_
                                  refine WK.rThen ?_
                                  refine WK.ret1 rfl rfl (fun w' hw' => Ret.exact hw' ?_)
                                  first | rfl | (exfalso; omega) | (exfalso; contradiction) | exact (bool_true (by omega)).symm | exact (bool_true (by assumption)).symm
                              · refine WL.no rfl rfl rfl (by decide) ?_
                                refine WL.no rfl rfl rfl (by decide) ?_
                                refine WL.no rfl rfl rfl (by decide) ?_
                                refine WL.no rfl rfl rfl (by decide) ?_
                                refine WL.no rfl rfl rfl (by decide) ?_
                                refine WL.yes rfl rfl ?_
                                refine WL.x (X.pickF rfl rfl rfl) (by decide) ?_
                                refine WL.yes rfl rfl ?_
                                refine WL.x (X.move rfl) (by decide) ?_
                                refine WL.no rfl rfl rfl (by decide) ?_
                                refine WL.no rfl rfl rfl (by decide) ?_
                                refine WL.no rfl rfl rfl (by decide) ?_
                                refine WL.yes rfl rfl ?_
                                refine WL.x (X.pickF rfl rfl rfl) (by decide) ?_
                                refine WL.yes rfl rfl ?_
                                refine WL.x (X.pickF rfl rfl rfl) (by decide) ?_
                                refine WL.x (X.pickT rfl rfl rfl) (by decide) ?_
                                refine WL.x (X.assign rfl) (by decide) ?_
                                refine WL.nil ?_
                                refine WK.nThen ?_
                                refine WC.ret ?_
                                refine WK.rThen ?_
                                refine WK.ret1 rfl rfl (fun w' hw' => Ret.exact hw' ?_)
                                first | rfl | (exfalso; omega) | (exfalso; contradiction) | exact (bool_true (by omega)).symm | exact (bool_true (by assumption)).symm
                            · refine WL.no rfl rfl rfl (by decide) ?_
                              refine WL.yes rfl rfl ?_
                              refine WL.x (X.pickF rfl rfl rfl) (by decide) ?_
                              refine WL.yes rfl rfl ?_
                              refine WL.x (X.move rfl) (by decide) ?_
                              refine WL.no rfl rfl rfl (by decide) ?_
                              refine WL.no rfl rfl rfl (by decide) ?_
                              refine WL.no rfl rfl rfl (by decide) ?_
                              refine WL.no rfl rfl rfl (by decide) ?_
                              refine WL.no rfl rfl rfl (by decide) ?_
                              refine WL.yes rfl rfl ?_
                              refine WL.x (X.pickF rfl rfl rfl) (by decide) ?_
                              refine WL.yes rfl rfl ?_
                              refine WL.x (X.move rfl) (by decide) ?_
                              refine WL.no rfl rfl rfl (by decide) ?_
                              refine WL.no rfl rfl rfl (by decide) ?_
                              refine WL.no rfl rfl rfl (by decide) ?_
                              refine WL.yes rfl rfl ?_
                              refine WL.x (X.pickF rfl rfl rfl) (by decide) ?_
                              refine WL.yes rfl rfl ?_
                              refine WL.x (X.pickF rfl rfl rfl) (by decide) ?_
                              refine WL.x (X.pickT rfl rfl rfl) (by decide) ?_
                              refine WL.x (X.assign rfl) (by decide) ?_
                              refine WL.nil ?_
                              refine WK.nThen ?_
                              refine WC.ret ?_
                              refine WK.rThen ?_
                              refine WK.ret1 rfl rfl (fun w' hw' => Ret.exact hw' ?_)
                              first | rfl | (exfalso; omega) | (exfalso; contradiction) | exact (bool_true (by omega)).symm | exact (bool_true (by assumption)).symm
                · refine WL.nil ?_
                  refine WK.nThen ?_
                  refine WC.condF rfl ?_
                  refine WC.skip ?_
                  refine WK.nThen ?_
                  refine WC.seq ?_
                  refine WC.seq ?_
                  have hlm := mono_least hok (by omega)
                  have hlm1 := hlm.1
                  have hlm2 := hlm.2.1
                  refine WC.region ?_
                  refine WL.x (X.move rfl) (by decide) ?_
                  refine WL.x (X.len Try.runUnderlying28 rfl hs22) (by decide) ?_
                  refine WL.x (X.field Try.runUnderlying25 rfl Try.sizeOf22 rfl) (by decide) ?_
                  refine WL.x (X.loadB (k := 1) Try.isAgg22 rfl rfl rfl) (by decide) ?_
                  refine WL.x (X.len Try.runUnderlying22 rfl hs2) (by decide) ?_
                  refine WL.condn (X.neq rfl rfl) (by decide) (fun h91 => ?_) (fun h91 => ?_)
                  · refine WL.x (X.move rfl) (by decide) ?_
                    refine WL.no rfl rfl rfl (by decide) ?_
                    refine WL.no rfl rfl rfl (by decide) ?_
                    refine WL.no rfl rfl rfl (by decide) ?_
                    refine WL.x (X.pickT rfl rfl rfl) (by decide) ?_
                    refine WL.nil ?_
                    refine WK.nThen ?_
                    refine WC.condT rfl ?_
                    refine WC.seq ?_
                    refine WC.region ?_
                    refine WL.x (X.assign rfl) (by decide) ?_
                    refine WL.nil ?_
                    refine WK.nThen ?_
                    refine WC.ret ?_
                    refine WK.rThen ?_
                    refine WK.ret1 rfl rfl (fun w' hw' => Ret.exact hw' ?_)
                    first | rfl | (exfalso; omega) | (exfalso; contradiction) | exact (bool_true (by omega)).symm | exact (bool_true (by assumption)).symm
                  · refine WL.x (X.move rfl) (by decide) ?_
                    refine WL.yes rfl rfl ?_
                    refine WL.x (X.move rfl) (by decide) ?_
                    refine WL.yes rfl rfl ?_
                    refine WL.cond (X.call Try.call46 rfl (rises46 _ _ _ hs22 )) (by decide) (fun h92 => ?_) (fun h92 => ?_)
                    · refine WL.yes rfl rfl ?_
                      refine WL.x (X.not rfl) (by decide) ?_
                      refine WL.x (X.pickF rfl rfl rfl) (by decide) ?_
                      refine WL.nil ?_
                      refine WK.nThen ?_
                      refine WC.condF rfl ?_
                      refine WC.skip ?_
                      refine WK.nThen ?_
                      refine WC.seq ?_
                      refine WC.seq ?_
                      refine WC.region ?_
                      refine WL.x (X.assign rfl) (by decide) ?_
                      refine WL.nil ?_
                      refine WK.nThen ?_
                      refine WC.block ?_
                      refine WC.loop (G := Nat) (fun i => (evenR s x.Levels x.Shifts).1.length - i) (fun i => m37) (fun i => [blk b14 52 [v7, v9], blk b13 25 [v1, v3]]) (fun i => [(5, .bool true), (6, v21), (12, v41), (13, .int .i64 ((evenR s x.Levels x.Shifts).2)), (20, .int .i64 (↑i))]) (fun i => i ≤ (evenR s x.Levels x.Shifts).1.length) 0 rfl (.refl _) (.cons rfl (.cons rfl (.cons rfl (.cons rfl (.cons rfl .nil))))) ?_ ?_
                      · exact Nat.zero_le _
                      · rintro i hF93
                        show WK _ _ m37 [blk b14 52 [v7, v9], blk b13 25 [v1, v3]] [(5, .bool true), (6, v21), (12, v41), (13, .int .i64 ((evenR s x.Levels x.Shifts).2)), (20, .int .i64 (↑i))] _
                        replace hF93 : i ≤ (evenR s x.Levels x.Shifts).1.length := hF93
                        have hi := hF93
                        refine WC.seq ?_
                        refine WC.seq ?_
                        refine WC.region ?_
                        refine WL.x (X.move rfl) (by decide) ?_
                        refine WL.x (X.move rfl) (by decide) ?_
                        refine WL.x (X.len Try.runUnderlying28 rfl hs42) (by decide) ?_
                        refine WL.cond (X.lss rfl rfl) (by decide) (fun h94 => ?_) (fun h94 => ?_)
                        · refine WL.x (X.move rfl) (by decide) ?_
                          refine WL.yes rfl rfl ?_
                          refine WL.x (X.move rfl) (by decide) ?_
                          refine WL.yes rfl rfl ?_
                          refine WL.cond (X.eql rfl rfl) (by decide) (fun h95 => ?_) (fun h95 => ?_)
                          · refine WL.x (X.pickT rfl rfl rfl) (by decide) ?_
                            refine WL.x (X.move rfl) (by decide) ?_
                            refine WL.yes rfl rfl ?_
                            refine WL.x (X.move rfl) (by decide) ?_
                            refine WL.yes rfl rfl ?_
                            refine WL.cond (X.call Try.call46 rfl (rises46 _ _ _ hs42 )) (by decide) (fun h96 => ?_) (fun h96 => ?_)
                            · refine WL.x (X.pickT rfl rfl rfl) (by decide) ?_
                              refine WL.nil ?_
                              refine WK.nThen ?_
                              refine WC.condT rfl ?_
                              refine WC.skip ?_
                              refine WK.nThen ?_
                              refine WC.seq ?_
                              refine WC.block ?_
                              refine WC.seq ?_
                              have he := evenR_ok (s := s) (lv := x.Levels) (sh := x.Shifts) (by omega)
                              have hek := he.1
                              have hea := he.2.1
                              have her : (evenR s x.Levels x.Shifts).1 = evenL s x.Levels x.Shifts := (by rw [he.2.2])
                              have hel := evenL_len s x.Levels x.Shifts
                              have heb := evenL_bd hek hea
                              have hen := hek.nV
                              have hrl : (evenR s x.Levels x.Shifts).1.length = s.Values.length := (by rw [her]; exact hel)
                              have hrs : risesP (evenR s x.Levels x.Shifts).1 := (by assumption)
                              have hle2 := hlm.2.2 _ _ hea (by rw [← her]; exact hrs) i (by omega)
                              rw [← her] at hle2
                              refine WC.draw (π := (.cons 0 (.cons 1 (.cons 2 (.cons 3 (.cons 4 (.cons 5 (.cons 6 (.cons 7 (.cons 8 .done)))))))))) [] [] rfl (by kernel_rfl) ?_
                              refine DW.x rfl rfl (X.move rfl) (by decide) ?_
                              refine DW.x rfl rfl (X.move rfl) (by decide) ?_
                              refine DW.xe rfl rfl (E.idxN i Try.runUnderlying28 Try.sizeOf3 rfl rfl hs42 (by omega)) (by decide) (fun p97 hp98 => ?_)
                              refine DW.x rfl rfl (X.loadInt Try.isAgg3 rfl hp98) (by decide) ?_
                              refine DW.x rfl rfl (X.move rfl) (by decide) ?_
                              refine DW.x rfl rfl (X.move rfl) (by decide) ?_
                              refine DW.xe rfl rfl (E.idxN i Try.runUnderlying28 Try.sizeOf3 rfl rfl hs22 (by omega)) (by decide) (fun p99 hp100 => ?_)
                              refine DW.x rfl rfl (X.loadInt Try.isAgg3 rfl hp100) (by decide) ?_
                              refine DW.cond rfl rfl (X.lss rfl rfl) (by decide) (fun h101 => ?_) (fun h101 => ?_)
                              · refine DW.nil ?_
                                refine WK.nThen ?_
                                refine WC.condT rfl ?_
                                refine WC.seq ?_
                                refine WC.region ?_
                                refine WL.x (X.assign rfl) (by decide) ?_
                                refine WL.nil ?_
                                refine WK.nThen ?_
                                refine WC.ret ?_
                                refine WK.rBlock ?_
                                refine WK.rThen ?_
                                refine WK.rThen ?_
                                refine WK.rBlock ?_
                                refine WK.rThen ?_
                                refine WK.ret1 rfl rfl (fun w' hw' => Ret.exact hw' ?_)
                                first | rfl | (exfalso; omega) | (exfalso; contradiction) | exact (bool_true (by omega)).symm | exact (bool_true (by assumption)).symm
                              · refine DW.nil ?_
                                refine WK.nThen ?_
                                refine WC.condF rfl ?_
                                refine WC.skip ?_
                                refine WK.nBlock ?_
                                refine WK.nThen ?_
                                refine WC.region ?_
                                refine WL.x (X.move rfl) (by decide) ?_
                                refine WL.x (X.add rfl rfl (by omega) (by omega)) (by decide) ?_
                                refine WL.x (X.assign rfl) (by decide) ?_
                                refine WL.nil ?_
                                refine WK.nThen ?_
                                refine WK.next (i + 1) rfl (.refl _) (.cons rfl (.cons rfl (.cons rfl (.cons rfl (.cons rfl .nil))))) ?_ ?_
                                · omega
                                · omega
                            · refine WL.x (X.pickT rfl rfl rfl) (by decide) ?_
                              refine WL.nil ?_
                              refine WK.nThen ?_
                              refine WC.condF rfl ?_
                              refine WC.exit ?_
                              refine WK.eThen ?_
                              refine WK.eThen ?_
                              refine WK.eHit ?_
                              refine WK.nThen ?_
                              refine WC.seq ?_
                              refine WC.region ?_
                              refine WL.x (X.move rfl) (by decide) ?_
                              refine WL.x (X.assign rfl) (by decide) ?_
                              refine WL.nil ?_
                              refine WK.nThen ?_
                              refine WC.ret ?_
                              refine WK.ret1 rfl rfl (fun w' hw' => Ret.exact hw' ?_)
                              first | rfl | (exfalso; omega) | (exfalso; contradiction) | exact (bool_true (by omega)).symm | exact (bool_true (by assumption)).symm
                          · refine WL.x (X.pickT rfl rfl rfl) (by decide) ?_
                            refine WL.x (X.move rfl) (by decide) ?_
                            refine WL.no rfl rfl rfl (by decide) ?_
                            refine WL.no rfl rfl rfl (by decide) ?_
                            refine WL.x (X.pickF rfl rfl rfl) (by decide) ?_
                            refine WL.nil ?_
                            refine WK.nThen ?_
                            refine WC.condF rfl ?_
                            refine WC.exit ?_
                            refine WK.eThen ?_
                            refine WK.eThen ?_
                            refine WK.eHit ?_
                            refine WK.nThen ?_
                            refine WC.seq ?_
                            refine WC.region ?_
                            refine WL.x (X.move rfl) (by decide) ?_
                            refine WL.x (X.assign rfl) (by decide) ?_
                            refine WL.nil ?_
                            refine WK.nThen ?_
                            refine WC.ret ?_
                            refine WK.ret1 rfl rfl (fun w' hw' => Ret.exact hw' ?_)
                            first | rfl | (exfalso; omega) | (exfalso; contradiction) | exact (bool_true (by omega)).symm | exact (bool_true (by assumption)).symm
                        · refine WL.x (X.move rfl) (by decide) ?_
                          refine WL.no rfl rfl rfl (by decide) ?_
                          refine WL.no rfl rfl rfl (by decide) ?_
                          refine WL.x (X.pickF rfl rfl rfl) (by decide) ?_
                          refine WL.x (X.move rfl) (by decide) ?_
                          refine WL.no rfl rfl rfl (by decide) ?_
                          refine WL.no rfl rfl rfl (by decide) ?_
                          refine WL.x (X.pickF rfl rfl rfl) (by decide) ?_
                          refine WL.nil ?_
                          refine WK.nThen ?_
                          refine WC.condF rfl ?_
                          refine WC.exit ?_
                          refine WK.eThen ?_
                          refine WK.eThen ?_
                          refine WK.eHit ?_
                          refine WK.nThen ?_
                          refine WC.seq ?_
                          refine WC.region ?_
                          refine WL.x (X.move rfl) (by decide) ?_
                          refine WL.x (X.assign rfl) (by decide) ?_
                          refine WL.nil ?_
                          refine WK.nThen ?_
                          refine WC.ret ?_
                          refine WK.ret1 rfl rfl (fun w' hw' => Ret.exact hw' ?_)
                          first | rfl | (exfalso; omega) | (exfalso; contradiction) | exact (bool_true (by omega)).symm | exact (bool_true (by assumption)).symm
                    · refine WL.yes rfl rfl ?_
                      refine WL.x (X.not rfl) (by decide) ?_
                      refine WL.x (X.pickF rfl rfl rfl) (by decide) ?_
                      refine WL.nil ?_
                      refine WK.nThen ?_
                      refine WC.condT rfl ?_
                      refine WC.seq ?_
                      refine WC.region ?_
                      refine WL.x (X.assign rfl) (by decide) ?_
                      refine WL.nil ?_
                      refine WK.nThen ?_
                      refine WC.ret ?_
                      refine WK.rThen ?_
                      refine WK.ret1 rfl rfl (fun w' hw' => Ret.exact hw' ?_)
                      first | rfl | (exfalso; omega) | (exfalso; contradiction) | exact (bool_true (by omega)).symm | exact (bool_true (by assumption)).symm
            · refine WL.yes rfl rfl ?_
              refine WL.x (X.move rfl) (by decide) ?_
              refine WL.no rfl rfl rfl (by decide) ?_
              refine WL.no rfl rfl rfl (by decide) ?_
              refine WL.yes rfl rfl ?_
              refine WL.x (X.pickF rfl rfl rfl) (by decide) ?_
              refine WL.x (X.pickF rfl rfl rfl) (by decide) ?_
              refine WL.nil ?_
              refine WK.nThen ?_
              refine WC.condF rfl ?_
              refine WC.skip ?_
              refine WK.nThen ?_
              refine WC.seq ?_
              refine WC.region ?_
              refine WL.x (X.loadBA (k := 1) Try.isAgg25 Try.sizeOf25 rfl rfl rfl) (by decide) ?_
              refine WL.x (X.field Try.runUnderlying52 rfl Try.sizeOf28 rfl) (by decide) ?_
              refine WL.x (X.loadB (k := 0) Try.isAgg28 rfl rfl rfl) (by decide) ?_
              refine WL.x (X.field Try.runUnderlying52 rfl Try.sizeOf28 rfl) (by decide) ?_
              refine WL.x (X.loadB (k := 0) Try.isAgg28 rfl rfl rfl) (by decide) ?_
              refine WL.tm (T.call Try.call39 rfl (even39 _ _ s ⟨_, _, rfl, hs2, hs4⟩ _ _ hs8 _ _ hs10 )) (by decide) fun m102 r103 hle104 hR105 => ?_
              obtain ⟨v106, rfl, hs107⟩ := hR105
              replace hs2 := hs2.mono hle104
              replace hs4 := hs4.mono hle104
              replace hs8 := hs8.mono hle104
              replace hs10 := hs10.mono hle104
              replace hs22 := hs22.mono hle104
              replace hs29 := hs29.mono hle104
              have hl108 := hs107.le
              refine WL.x (X.move rfl) (by decide) ?_
              refine WL.x (X.extract rfl rfl) (by decide) ?_
              refine WL.x (X.extract rfl rfl) (by decide) ?_
              refine WL.x (X.assign rfl) (by decide) ?_
              refine WL.x (X.assign rfl) (by decide) ?_
              refine WL.nil ?_
              refine WK.nThen ?_
              refine WC.seq ?_
              refine WC.seq ?_
              refine WC.region ?_
              refine WL.x (X.move rfl) (by decide) ?_
              refine WL.cond (X.eql rfl rfl) (by decide) (fun h109 => ?_) (fun h109 => ?_)
              · refine WL.nil ?_
                refine WK.nThen ?_
                refine WC.condT rfl ?_
                refine WC.seq ?_
                refine WC.seq ?_
                have hfr := fall_real hok (by omega)
                have hf2 := hfr.1
                have hf3 := hfr.2.1
                refine WC.draw (π := (.cons 0 (.cons 1 (.cons 2 (.cons 3 (.cons 4 (.cons 5 (.cons 6 (.cons 7 (.cons 8 (.cons 9 (.cons 10 (.cons 11 .done))))))))))))) [] [] rfl (by kernel_rfl) ?_
                refine DW.x rfl rfl (X.move rfl) (by decide) ?_
                refine DW.x rfl rfl (X.len Try.runUnderlying28 rfl hs29) (by decide) ?_
                refine DW.condn rfl rfl (X.neq rfl rfl) (by decide) (fun h110 => ?_) (fun h110 => ?_)
                · refine DW.x rfl rfl (X.move rfl) (by decide) ?_
                  refine DW.no rfl rfl (by decide) ?_
                  refine DW.no rfl rfl (by decide) ?_
                  refine DW.no rfl rfl (by decide) ?_
                  refine DW.no rfl rfl (by decide) ?_
                  refine DW.no rfl rfl (by decide) ?_
                  refine DW.no rfl rfl (by decide) ?_
                  refine DW.no rfl rfl (by decide) ?_
                  refine DW.x rfl rfl (X.pickT rfl rfl rfl) (by decide) ?_
                  refine DW.nil ?_
                  refine WK.nThen ?_
                  refine WC.condT rfl ?_
                  refine WC.seq ?_
                  refine WC.region ?_
                  refine WL.x (X.assign rfl) (by decide) ?_
                  refine WL.nil ?_
                  refine WK.nThen ?_
                  refine WC.ret ?_
                  refine WK.rThen ?_
                  refine WK.rThen ?_
                  refine WK.ret1 rfl rfl (fun w' hw' => Ret.exact hw' ?_)
                  first | rfl | (exfalso; omega) | (exfalso; contradiction) | exact (bool_true (by omega)).symm | exact (bool_true (by assumption)).symm
                · refine DW.x rfl rfl (X.move rfl) (by decide) ?_
                  refine DW.x rfl rfl (X.move rfl) (by decide) ?_
                  refine DW.xe rfl rfl (E.idxN 0 Try.runUnderlying28 Try.sizeOf3 rfl rfl hs29 (by omega)) (by decide) (fun p111 hp112 => ?_)
                  refine DW.x rfl rfl (X.loadInt Try.isAgg3 rfl hp112) (by decide) ?_
                  refine DW.x rfl rfl (X.move rfl) (by decide) ?_
                  refine DW.xe rfl rfl (E.idxN 1 Try.runUnderlying28 Try.sizeOf3 rfl rfl hs29 (by omega)) (by decide) (fun p113 hp114 => ?_)
                  refine DW.x rfl rfl (X.loadInt Try.isAgg3 rfl hp114) (by decide) ?_
                  refine DW.cond rfl rfl (X.geq rfl rfl) (by decide) (fun h115 => ?_) (fun h115 => ?_)
                  · refine DW.x rfl rfl (X.pickF rfl rfl rfl) (by decide) ?_
                    refine DW.nil ?_
                    refine WK.nThen ?_
                    refine WC.condT rfl ?_
                    refine WC.seq ?_
                    refine WC.region ?_
                    refine WL.x (X.assign rfl) (by decide) ?_
                    refine WL.nil ?_
                    refine WK.nThen ?_
                    refine WC.ret ?_
                    refine WK.rThen ?_
                    refine WK.rThen ?_
                    refine WK.ret1 rfl rfl (fun w' hw' => Ret.exact hw' ?_)
                    first | rfl | (exfalso; omega) | (exfalso; contradiction) | exact (bool_true (by omega)).symm | exact (bool_true (by assumption)).symm
                  · refine DW.x rfl rfl (X.pickF rfl rfl rfl) (by decide) ?_
                    refine DW.nil ?_
                    refine WK.nThen ?_
                    refine WC.condF rfl ?_
                    refine WC.skip ?_
                    refine WK.nThen ?_
                    have hml : (evenR s x.Levels x.Shifts).1.length ≤ 1000 ∧ ∀ i, i < (evenR s x.Levels x.Shifts).1.length → -1000000 ≤ gt (evenR s x.Levels x.Shifts).1 i ∧ gt (evenR s x.Levels x.Shifts).1 i ≤ 1000000 := even_small s x.Levels x.Shifts
                    have hml1 := hml.1
                    have hml2 := hml.2
                    refine WC.cut (G := Mem × Nat × Nat) (fun (m116, b120, b121) => m116) (fun (m116, b120, b121) => [blk b121 33 [.int .i64 ((meanR s (((evenR s x.Levels x.Shifts).1)) (((Span.mk (gt ((fallR s).1) 0) (gt ((fallR s).1) 0))))).2.1.Lo), .int .i64 ((meanR s (((evenR s x.Levels x.Shifts).1)) (((Span.mk (gt ((fallR s).1) 0) (gt ((fallR s).1) 0))))).2.1.Hi)], blk b120 45 [.int .i64 ((meanR s (((evenR s x.Levels x.Shifts).1)) (((Span.mk (gt ((fallR s).1) 0) (gt ((fallR s).1) 0))))).1.Num), .int .i64 ((meanR s (((evenR s x.Levels x.Shifts).1)) (((Span.mk (gt ((fallR s).1) 0) (gt ((fallR s).1) 0))))).1.Den)], blk b14 52 [v7, v9], blk b13 25 [v1, v3]]) (fun (m116, b120, b121) => [(2, .pointer (some ⟨b13, 0, none⟩)), (5, .bool true), (8, v28), (12, v106), (13, .int .i64 ((evenR s x.Levels x.Shifts).2)), (14, .pointer (some ⟨b120, 0, none⟩)), (16, .bool (decide (0 < (meanR s (((evenR s x.Levels x.Shifts).1)) (((Span.mk (gt ((fallR s).1) 0) (gt ((fallR s).1) 0))))).1.Den)))]) (fun (m116, b120, b121) => m102.le m116 ∧ Sl (α := Int) m116 v7 x.Levels ∧ Sl (α := Int) m116 v9 x.Shifts ∧ Sl (α := Val) m116 v1 s.Values ∧ Sl (α := Shf) m116 v3 s.Shifts) ?_ ?_
                    · refine WC.draw (π := (.cons 0 (.cons 1 (.cons 2 (.cons 3 (.cons 4 (.cons 5 (.cons 6 (.cons 7 (.cons 8 (.cons 9 (.cons 10 (.cons 11 (.cons 12 (.cons 13 (.fork (.cons 14 (.cons 15 (.cons 16 (.cons 17 (.cons 18 .done))))) (.cons 15 (.cons 14 (.cons 16 (.cons 17 (.cons 18 .done))))))))))))))))))))) [14, 15, 16, 17] [16, 17] rfl (by kernel_rfl) ?_
                      refine DW.x rfl rfl (X.loadBA (k := 1) Try.isAgg25 Try.sizeOf25 rfl rfl rfl) (by decide) ?_
                      refine DW.x rfl rfl (X.move rfl) (by decide) ?_
                      refine DW.x rfl rfl (X.move rfl) (by decide) ?_
                      refine DW.xe rfl rfl (E.idxN 0 Try.runUnderlying28 Try.sizeOf3 rfl rfl hs29 (by omega)) (by decide) (fun p117 hp118 => ?_)
                      refine DW.x rfl rfl (X.loadInt Try.isAgg3 rfl hp118) (by decide) ?_
                      refine DW.x rfl rfl (X.move rfl) (by decide) ?_
                      refine DW.xe rfl rfl (E.idxN 0 Try.runUnderlying28 Try.sizeOf3 rfl rfl hs29 (by omega)) (by decide) (fun p119 hp120 => ?_)
                      refine DW.x rfl rfl (X.loadInt Try.isAgg3 rfl hp120) (by decide) ?_
                      refine DW.x (V := Value.agg [.int .i64 (gt ((fallR s).1) 0), .int .i64 (gt ((fallR s).1) 0)].toArray) rfl rfl (X.build Try.zeroValue33 Try.runUnderlying33 (places33 _ Try.underlying33) rfl rfl) (by decide) ?_
                      refine DW.x rfl rfl (X.call Try.call40 rfl (mean40 _ _ s ⟨_, _, rfl, hs2, hs4⟩ _ _ hs107 _ ((Span.mk (gt ((fallR s).1) 0) (gt ((fallR s).1) 0))) rfl (by omega) (by assumption))) (by decide) ?_
                      refine DW.x rfl rfl (X.move rfl) (by decide) ?_
                      refine DW.x rfl rfl (X.extract rfl rfl) (by decide) ?_
                      refine DW.x rfl rfl (X.extract rfl rfl) (by decide) ?_
                      refine DW.x rfl rfl (X.extract rfl rfl) (by decide) ?_
                      refine DW.fork (List.cons_ne_nil _ _) ?_ ?_
                      · refine DW.tn rfl rfl rfl (T.alloc Try.zeroValue45 rfl) (by decide) fun b121 => ?_
                        refine DW.tn rfl rfl rfl (T.alloc Try.zeroValue33 rfl) (by decide) fun b122 => ?_
                        refine DW.ts rfl rfl rfl rfl (T.storeBA (k := 1) Try.sizeOf45 rfl rfl rfl (one_cons rfl (one_cons rfl one_nil)) rfl rfl) ?_
                        refine DW.ts rfl rfl rfl rfl (T.storeBA (k := 0) Try.sizeOf33 rfl rfl rfl (one_cons rfl (one_cons rfl one_nil)) rfl rfl) ?_
                        refine DW.x rfl rfl (X.assign rfl) (by decide) ?_
                        refine DW.nil ?_
                        refine WK.nThen ?_
                        exact WK.meet (m102, b121, b122) rfl (.refl _) (.cons rfl (.cons rfl (.cons rfl (.cons rfl (.cons rfl (.cons rfl (.cons rfl .nil))))))) ⟨(Mem.le_refl _), hs8, hs10, hs2, hs4⟩
                      · refine DW.tn rfl rfl rfl (T.alloc Try.zeroValue33 rfl) (by decide) fun b123 => ?_
                        refine DW.tn rfl rfl rfl (T.alloc Try.zeroValue45 rfl) (by decide) fun b124 => ?_
                        refine DW.ts rfl rfl rfl rfl (T.storeBA (k := 0) Try.sizeOf45 rfl rfl rfl (one_cons rfl (one_cons rfl one_nil)) rfl rfl) ?_
                        refine DW.ts rfl rfl rfl rfl (T.storeBA (k := 1) Try.sizeOf33 rfl rfl rfl (one_cons rfl (one_cons rfl one_nil)) rfl rfl) ?_
                        refine DW.x rfl rfl (X.assign rfl) (by decide) ?_
                        refine DW.nil ?_
                        refine WK.nThen ?_
                        refine WK.perm [blk b123 33 [.int .i64 ((meanR s (((evenR s x.Levels x.Shifts).1)) (((Span.mk (gt ((fallR s).1) 0) (gt ((fallR s).1) 0))))).2.1.Lo), .int .i64 ((meanR s (((evenR s x.Levels x.Shifts).1)) (((Span.mk (gt ((fallR s).1) 0) (gt ((fallR s).1) 0))))).2.1.Hi)], blk b124 45 [.int .i64 ((meanR s (((evenR s x.Levels x.Shifts).1)) (((Span.mk (gt ((fallR s).1) 0) (gt ((fallR s).1) 0))))).1.Num), .int .i64 ((meanR s (((evenR s x.Levels x.Shifts).1)) (((Span.mk (gt ((fallR s).1) 0) (gt ((fallR s).1) 0))))).1.Den)], blk b14 52 [v7, v9], blk b13 25 [v1, v3]] ((List.Perm.cons _ (.refl _)).trans (List.perm_middle (l₁ := [blk b124 45 [.int .i64 ((meanR s (((evenR s x.Levels x.Shifts).1)) (((Span.mk (gt ((fallR s).1) 0) (gt ((fallR s).1) 0))))).1.Num), .int .i64 ((meanR s (((evenR s x.Levels x.Shifts).1)) (((Span.mk (gt ((fallR s).1) 0) (gt ((fallR s).1) 0))))).1.Den)]]) (l₂ := [blk b14 52 [v7, v9], blk b13 25 [v1, v3]]) (a := blk b123 33 [.int .i64 ((meanR s (((evenR s x.Levels x.Shifts).1)) (((Span.mk (gt ((fallR s).1) 0) (gt ((fallR s).1) 0))))).2.1.Lo), .int .i64 ((meanR s (((evenR s x.Levels x.Shifts).1)) (((Span.mk (gt ((fallR s).1) 0) (gt ((fallR s).1) 0))))).2.1.Hi)])).symm) ?_
                        exact WK.meet (m102, b124, b123) rfl (.refl _) (.cons rfl (.cons rfl (.cons rfl (.cons rfl (.cons rfl (.cons rfl (.cons rfl .nil))))))) ⟨(Mem.le_refl _), hs8, hs10, hs2, hs4⟩
                    · rintro ⟨m116, b120, b121⟩ ⟨hle125, hs126, hs127, hs128, hs129⟩
                      show WK _ _ m116 [blk b121 33 [.int .i64 ((meanR s (((evenR s x.Levels x.Shifts).1)) (((Span.mk (gt ((fallR s).1) 0) (gt ((fallR s).1) 0))))).2.1.Lo), .int .i64 ((meanR s (((evenR s x.Levels x.Shifts).1)) (((Span.mk (gt ((fallR s).1) 0) (gt ((fallR s).1) 0))))).2.1.Hi)], blk b120 45 [.int .i64 ((meanR s (((evenR s x.Levels x.Shifts).1)) (((Span.mk (gt ((fallR s).1) 0) (gt ((fallR s).1) 0))))).1.Num), .int .i64 ((meanR s (((evenR s x.Levels x.Shifts).1)) (((Span.mk (gt ((fallR s).1) 0) (gt ((fallR s).1) 0))))).1.Den)], blk b14 52 [v7, v9], blk b13 25 [v1, v3]] [(2, .pointer (some ⟨b13, 0, none⟩)), (5, .bool true), (8, v28), (12, v106), (13, .int .i64 ((evenR s x.Levels x.Shifts).2)), (14, .pointer (some ⟨b120, 0, none⟩)), (16, .bool (decide (0 < (meanR s (((evenR s x.Levels x.Shifts).1)) (((Span.mk (gt ((fallR s).1) 0) (gt ((fallR s).1) 0))))).1.Den)))] _
                      replace hs2 := hs2.mono hle125
                      replace hs4 := hs4.mono hle125
                      replace hs8 := hs8.mono hle125
                      replace hs10 := hs10.mono hle125
                      replace hs22 := hs22.mono hle125
                      replace hs29 := hs29.mono hle125
                      replace hs107 := hs107.mono hle125
                      replace hp112 := hp112.mono hle125
                      replace hp114 := hp114.mono hle125
                      have hl130 := hs126.le
                      have hl131 := hs127.le
                      have hl132 := hs128.le
                      have hl133 := hs129.le
                      refine WC.cut (G := Mem × Nat × Nat) (fun (m134, b138, b139) => m134) (fun (m134, b138, b139) => [blk b139 33 [.int .i64 ((meanR s (((evenR s x.Levels x.Shifts).1)) (((Span.mk (gt ((fallR s).1) 1) (gt ((fallR s).1) 1))))).2.1.Lo), .int .i64 ((meanR s (((evenR s x.Levels x.Shifts).1)) (((Span.mk (gt ((fallR s).1) 1) (gt ((fallR s).1) 1))))).2.1.Hi)], blk b138 45 [.int .i64 ((meanR s (((evenR s x.Levels x.Shifts).1)) (((Span.mk (gt ((fallR s).1) 1) (gt ((fallR s).1) 1))))).1.Num), .int .i64 ((meanR s (((evenR s x.Levels x.Shifts).1)) (((Span.mk (gt ((fallR s).1) 1) (gt ((fallR s).1) 1))))).1.Den)], blk b121 33 [.int .i64 ((meanR s (((evenR s x.Levels x.Shifts).1)) (((Span.mk (gt ((fallR s).1) 0) (gt ((fallR s).1) 0))))).2.1.Lo), .int .i64 ((meanR s (((evenR s x.Levels x.Shifts).1)) (((Span.mk (gt ((fallR s).1) 0) (gt ((fallR s).1) 0))))).2.1.Hi)], blk b120 45 [.int .i64 ((meanR s (((evenR s x.Levels x.Shifts).1)) (((Span.mk (gt ((fallR s).1) 0) (gt ((fallR s).1) 0))))).1.Num), .int .i64 ((meanR s (((evenR s x.Levels x.Shifts).1)) (((Span.mk (gt ((fallR s).1) 0) (gt ((fallR s).1) 0))))).1.Den)], blk b14 52 [v7, v9], blk b13 25 [v1, v3]]) (fun (m134, b138, b139) => [(5, .bool true), (12, v106), (13, .int .i64 ((evenR s x.Levels x.Shifts).2)), (14, .pointer (some ⟨b120, 0, none⟩)), (16, .bool (decide (0 < (meanR s (((evenR s x.Levels x.Shifts).1)) (((Span.mk (gt ((fallR s).1) 0) (gt ((fallR s).1) 0))))).1.Den))), (17, .pointer (some ⟨b138, 0, none⟩)), (19, .bool (decide (0 < (meanR s (((evenR s x.Levels x.Shifts).1)) (((Span.mk (gt ((fallR s).1) 1) (gt ((fallR s).1) 1))))).1.Den)))]) (fun (m134, b138, b139) => m116.le m134 ∧ Sl (α := Int) m134 v7 x.Levels ∧ Sl (α := Int) m134 v9 x.Shifts ∧ Sl (α := Val) m134 v1 s.Values ∧ Sl (α := Shf) m134 v3 s.Shifts) ?_ ?_
                      · refine WC.draw (π := (.cons 0 (.cons 1 (.cons 2 (.cons 3 (.cons 4 (.cons 5 (.cons 6 (.cons 7 (.cons 8 (.cons 9 (.cons 10 (.cons 11 (.cons 12 (.cons 13 (.fork (.cons 14 (.cons 15 (.cons 16 (.cons 17 (.cons 18 .done))))) (.cons 15 (.cons 14 (.cons 16 (.cons 17 (.cons 18 .done))))))))))))))))))))) [14, 15, 16, 17] [16, 17] rfl (by kernel_rfl) ?_
                        refine DW.x rfl rfl (X.loadBA (k := 3) Try.isAgg25 Try.sizeOf25 rfl rfl rfl) (by decide) ?_
                        refine DW.x rfl rfl (X.move rfl) (by decide) ?_
                        refine DW.x rfl rfl (X.move rfl) (by decide) ?_
                        refine DW.xe rfl rfl (E.idxN 1 Try.runUnderlying28 Try.sizeOf3 rfl rfl hs29 (by omega)) (by decide) (fun p135 hp136 => ?_)
                        refine DW.x rfl rfl (X.loadInt Try.isAgg3 rfl hp136) (by decide) ?_
                        refine DW.x rfl rfl (X.move rfl) (by decide) ?_
                        refine DW.xe rfl rfl (E.idxN 1 Try.runUnderlying28 Try.sizeOf3 rfl rfl hs29 (by omega)) (by decide) (fun p137 hp138 => ?_)
                        refine DW.x rfl rfl (X.loadInt Try.isAgg3 rfl hp138) (by decide) ?_
                        refine DW.x (V := Value.agg [.int .i64 (gt ((fallR s).1) 1), .int .i64 (gt ((fallR s).1) 1)].toArray) rfl rfl (X.build Try.zeroValue33 Try.runUnderlying33 (places33 _ Try.underlying33) rfl rfl) (by decide) ?_
                        refine DW.x rfl rfl (X.call Try.call40 rfl (mean40 _ _ s ⟨_, _, rfl, hs128, hs129⟩ _ _ hs107 _ ((Span.mk (gt ((fallR s).1) 1) (gt ((fallR s).1) 1))) rfl (by omega) (by assumption))) (by decide) ?_
                        refine DW.x rfl rfl (X.move rfl) (by decide) ?_
                        refine DW.x rfl rfl (X.extract rfl rfl) (by decide) ?_
                        refine DW.x rfl rfl (X.extract rfl rfl) (by decide) ?_
                        refine DW.x rfl rfl (X.extract rfl rfl) (by decide) ?_
                        refine DW.fork (List.cons_ne_nil _ _) ?_ ?_
                        · refine DW.tn rfl rfl rfl (T.alloc Try.zeroValue45 rfl) (by decide) fun b139 => ?_
                          refine DW.tn rfl rfl rfl (T.alloc Try.zeroValue33 rfl) (by decide) fun b140 => ?_
                          refine DW.ts rfl rfl rfl rfl (T.storeBA (k := 1) Try.sizeOf45 rfl rfl rfl (one_cons rfl (one_cons rfl one_nil)) rfl rfl) ?_
                          refine DW.ts rfl rfl rfl rfl (T.storeBA (k := 0) Try.sizeOf33 rfl rfl rfl (one_cons rfl (one_cons rfl one_nil)) rfl rfl) ?_
                          refine DW.x rfl rfl (X.assign rfl) (by decide) ?_
                          refine DW.nil ?_
                          refine WK.nThen ?_
                          exact WK.meet (m116, b139, b140) rfl (.refl _) (.cons rfl (.cons rfl (.cons rfl (.cons rfl (.cons rfl (.cons rfl (.cons rfl .nil))))))) ⟨(Mem.le_refl _), hs126, hs127, hs128, hs129⟩
                        · refine DW.tn rfl rfl rfl (T.alloc Try.zeroValue33 rfl) (by decide) fun b141 => ?_
                          refine DW.tn rfl rfl rfl (T.alloc Try.zeroValue45 rfl) (by decide) fun b142 => ?_
                          refine DW.ts rfl rfl rfl rfl (T.storeBA (k := 0) Try.sizeOf45 rfl rfl rfl (one_cons rfl (one_cons rfl one_nil)) rfl rfl) ?_
                          refine DW.ts rfl rfl rfl rfl (T.storeBA (k := 1) Try.sizeOf33 rfl rfl rfl (one_cons rfl (one_cons rfl one_nil)) rfl rfl) ?_
                          refine DW.x rfl rfl (X.assign rfl) (by decide) ?_
                          refine DW.nil ?_
                          refine WK.nThen ?_
                          refine WK.perm [blk b141 33 [.int .i64 ((meanR s (((evenR s x.Levels x.Shifts).1)) (((Span.mk (gt ((fallR s).1) 1) (gt ((fallR s).1) 1))))).2.1.Lo), .int .i64 ((meanR s (((evenR s x.Levels x.Shifts).1)) (((Span.mk (gt ((fallR s).1) 1) (gt ((fallR s).1) 1))))).2.1.Hi)], blk b142 45 [.int .i64 ((meanR s (((evenR s x.Levels x.Shifts).1)) (((Span.mk (gt ((fallR s).1) 1) (gt ((fallR s).1) 1))))).1.Num), .int .i64 ((meanR s (((evenR s x.Levels x.Shifts).1)) (((Span.mk (gt ((fallR s).1) 1) (gt ((fallR s).1) 1))))).1.Den)], blk b121 33 [.int .i64 ((meanR s (((evenR s x.Levels x.Shifts).1)) (((Span.mk (gt ((fallR s).1) 0) (gt ((fallR s).1) 0))))).2.1.Lo), .int .i64 ((meanR s (((evenR s x.Levels x.Shifts).1)) (((Span.mk (gt ((fallR s).1) 0) (gt ((fallR s).1) 0))))).2.1.Hi)], blk b120 45 [.int .i64 ((meanR s (((evenR s x.Levels x.Shifts).1)) (((Span.mk (gt ((fallR s).1) 0) (gt ((fallR s).1) 0))))).1.Num), .int .i64 ((meanR s (((evenR s x.Levels x.Shifts).1)) (((Span.mk (gt ((fallR s).1) 0) (gt ((fallR s).1) 0))))).1.Den)], blk b14 52 [v7, v9], blk b13 25 [v1, v3]] ((List.Perm.cons _ (.refl _)).trans (List.perm_middle (l₁ := [blk b142 45 [.int .i64 ((meanR s (((evenR s x.Levels x.Shifts).1)) (((Span.mk (gt ((fallR s).1) 1) (gt ((fallR s).1) 1))))).1.Num), .int .i64 ((meanR s (((evenR s x.Levels x.Shifts).1)) (((Span.mk (gt ((fallR s).1) 1) (gt ((fallR s).1) 1))))).1.Den)]]) (l₂ := [blk b121 33 [.int .i64 ((meanR s (((evenR s x.Levels x.Shifts).1)) (((Span.mk (gt ((fallR s).1) 0) (gt ((fallR s).1) 0))))).2.1.Lo), .int .i64 ((meanR s (((evenR s x.Levels x.Shifts).1)) (((Span.mk (gt ((fallR s).1) 0) (gt ((fallR s).1) 0))))).2.1.Hi)], blk b120 45 [.int .i64 ((meanR s (((evenR s x.Levels x.Shifts).1)) (((Span.mk (gt ((fallR s).1) 0) (gt ((fallR s).1) 0))))).1.Num), .int .i64 ((meanR s (((evenR s x.Levels x.Shifts).1)) (((Span.mk (gt ((fallR s).1) 0) (gt ((fallR s).1) 0))))).1.Den)], blk b14 52 [v7, v9], blk b13 25 [v1, v3]]) (a := blk b141 33 [.int .i64 ((meanR s (((evenR s x.Levels x.Shifts).1)) (((Span.mk (gt ((fallR s).1) 1) (gt ((fallR s).1) 1))))).2.1.Lo), .int .i64 ((meanR s (((evenR s x.Levels x.Shifts).1)) (((Span.mk (gt ((fallR s).1) 1) (gt ((fallR s).1) 1))))).2.1.Hi)])).symm) ?_
                          exact WK.meet (m116, b142, b141) rfl (.refl _) (.cons rfl (.cons rfl (.cons rfl (.cons rfl (.cons rfl (.cons rfl (.cons rfl .nil))))))) ⟨(Mem.le_refl _), hs126, hs127, hs128, hs129⟩
                      · rintro ⟨m134, b138, b139⟩ ⟨hle143, hs144, hs145, hs146, hs147⟩
                        show WK _ _ m134 [blk b139 33 [.int .i64 ((meanR s (((evenR s x.Levels x.Shifts).1)) (((Span.mk (gt ((fallR s).1) 1) (gt ((fallR s).1) 1))))).2.1.Lo), .int .i64 ((meanR s (((evenR s x.Levels x.Shifts).1)) (((Span.mk (gt ((fallR s).1) 1) (gt ((fallR s).1) 1))))).2.1.Hi)], blk b138 45 [.int .i64 ((meanR s (((evenR s x.Levels x.Shifts).1)) (((Span.mk (gt ((fallR s).1) 1) (gt ((fallR s).1) 1))))).1.Num), .int .i64 ((meanR s (((evenR s x.Levels x.Shifts).1)) (((Span.mk (gt ((fallR s).1) 1) (gt ((fallR s).1) 1))))).1.Den)], blk b121 33 [.int .i64 ((meanR s (((evenR s x.Levels x.Shifts).1)) (((Span.mk (gt ((fallR s).1) 0) (gt ((fallR s).1) 0))))).2.1.Lo), .int .i64 ((meanR s (((evenR s x.Levels x.Shifts).1)) (((Span.mk (gt ((fallR s).1) 0) (gt ((fallR s).1) 0))))).2.1.Hi)], blk b120 45 [.int .i64 ((meanR s (((evenR s x.Levels x.Shifts).1)) (((Span.mk (gt ((fallR s).1) 0) (gt ((fallR s).1) 0))))).1.Num), .int .i64 ((meanR s (((evenR s x.Levels x.Shifts).1)) (((Span.mk (gt ((fallR s).1) 0) (gt ((fallR s).1) 0))))).1.Den)], blk b14 52 [v7, v9], blk b13 25 [v1, v3]] [(5, .bool true), (12, v106), (13, .int .i64 ((evenR s x.Levels x.Shifts).2)), (14, .pointer (some ⟨b120, 0, none⟩)), (16, .bool (decide (0 < (meanR s (((evenR s x.Levels x.Shifts).1)) (((Span.mk (gt ((fallR s).1) 0) (gt ((fallR s).1) 0))))).1.Den))), (17, .pointer (some ⟨b138, 0, none⟩)), (19, .bool (decide (0 < (meanR s (((evenR s x.Levels x.Shifts).1)) (((Span.mk (gt ((fallR s).1) 1) (gt ((fallR s).1) 1))))).1.Den)))] _
                        replace hs2 := hs2.mono hle143
                        replace hs4 := hs4.mono hle143
                        replace hs8 := hs8.mono hle143
                        replace hs10 := hs10.mono hle143
                        replace hs22 := hs22.mono hle143
                        replace hs29 := hs29.mono hle143
                        replace hs107 := hs107.mono hle143
                        replace hp112 := hp112.mono hle143
                        replace hp114 := hp114.mono hle143
                        replace hs126 := hs126.mono hle143
                        replace hs127 := hs127.mono hle143
                        replace hs128 := hs128.mono hle143
                        replace hs129 := hs129.mono hle143
                        have hl148 := hs144.le
                        have hl149 := hs145.le
                        have hl150 := hs146.le
                        have hl151 := hs147.le
                        refine WC.seq ?_
                        refine WC.region ?_
                        refine WL.x (X.move rfl) (by decide) ?_
                        refine WL.x (X.move rfl) (by decide) ?_
                        refine WL.yes rfl rfl ?_
                        refine WL.x (X.move rfl) (by decide) ?_
                        refine WL.yes rfl rfl ?_
                        refine WL.condn (X.neq rfl rfl) (by decide) (fun h152 => ?_) (fun h152 => ?_)
                        · refine WL.yes rfl rfl ?_
                          refine WL.x (X.move rfl) (by decide) ?_
                          refine WL.no rfl rfl rfl (by decide) ?_
                          refine WL.no rfl rfl rfl (by decide) ?_
                          refine WL.noU rfl rfl (by decide) ?_
                          refine WL.no rfl rfl rfl (by decide) ?_
                          refine WL.no rfl rfl rfl (by decide) ?_
                          refine WL.noU rfl rfl (by decide) ?_
                          refine WL.noU rfl rfl (by decide) ?_
                          refine WL.noU rfl rfl (by decide) ?_
                          refine WL.noU rfl rfl (by decide) ?_
                          refine WL.noU rfl rfl (by decide) ?_
                          refine WL.no rfl rfl rfl (by decide) ?_
                          refine WL.no rfl rfl rfl (by decide) ?_
                          refine WL.noU rfl rfl (by decide) ?_
                          refine WL.noU rfl rfl (by decide) ?_
                          refine WL.noU rfl rfl (by decide) ?_
                          refine WL.no rfl rfl rfl (by decide) ?_
                          refine WL.yes rfl rfl ?_
                          refine WL.x (X.pickT rfl rfl rfl) (by decide) ?_
                          refine WL.x (X.pickT rfl rfl rfl) (by decide) ?_
                          refine WL.x (X.assign rfl) (by decide) ?_
                          refine WL.nil ?_
                          refine WK.nThen ?_
                          refine WC.ret ?_
                          refine WK.rThen ?_
                          refine WK.ret1 rfl rfl (fun w' hw' => Ret.exact hw' ?_)
                          first | rfl | (exfalso; omega) | (exfalso; contradiction) | exact (bool_true (by omega)).symm | exact (bool_true (by assumption)).symm
                        · have he := evenR_ok (s := s) (lv := x.Levels) (sh := x.Shifts) (by omega)
                          have hek := he.1
                          have hea := he.2.1
                          have her : (evenR s x.Levels x.Shifts).1 = evenL s x.Levels x.Shifts := (by rw [he.2.2])
                          have hel := evenL_len s x.Levels x.Shifts
                          have heb := evenL_bd hek hea
                          have hen := hek.nV
                          have hq := hfr.2.2 _ _ hea
                          rw [← her] at hq
                          have hq1 := hq.1
                          have hq2 := hq.2.1
                          have hq3 := hq.2.2.1
                          have hq4 := hq.2.2.2
                          refine WL.yes rfl rfl ?_
                          refine WL.x (X.move rfl) (by decide) ?_
                          refine WL.yes rfl rfl ?_
                          refine WL.x (X.move rfl) (by decide) ?_
                          refine WL.yes rfl rfl ?_
                          refine WL.cond (X.move rfl) (by decide) (fun h153 => ?_) (fun h153 => ?_)
                          · refine WL.yes rfl rfl ?_
                            refine WL.x (X.move rfl) (by decide) ?_
                            refine WL.yes rfl rfl ?_
                            refine WL.x (X.pickT rfl rfl rfl) (by decide) ?_
                            refine WL.yes rfl rfl ?_
                            refine WL.cond (X.move rfl) (by decide) (fun h154 => ?_) (fun h154 => ?_)
                            · refine WL.yes rfl rfl ?_
                              refine WL.x (X.field Try.runUnderlying45 rfl Try.sizeOf3 rfl) (by decide) ?_
                              refine WL.yes rfl rfl ?_
                              refine WL.x (X.loadB (k := 1) Try.isAgg3 rfl rfl rfl) (by decide) ?_
                              refine WL.yes rfl rfl ?_
                              refine WL.x (X.field Try.runUnderlying45 rfl Try.sizeOf3 rfl) (by decide) ?_
                              refine WL.yes rfl rfl ?_
                              refine WL.x (X.loadB (k := 3) Try.isAgg3 rfl rfl rfl) (by decide) ?_
                              refine WL.yes rfl rfl ?_
                              refine WL.cond (X.lss rfl rfl) (by decide) (fun h155 => ?_) (fun h155 => ?_)
                              · refine WL.yes rfl rfl ?_
                                refine WL.x (X.pickT rfl rfl rfl) (by decide) ?_
                                refine WL.yes rfl rfl ?_
                                refine WL.x (X.move rfl) (by decide) ?_
                                refine WL.yes rfl rfl ?_
                                refine WL.x (X.move rfl) (by decide) ?_
                                refine WL.yes rfl rfl ?_
                                refine WL.x (X.call Try.call46 rfl (rises46 _ _ _ hs107 )) (by decide) ?_
                                refine WL.yes rfl rfl ?_
                                refine WL.x (X.notp rfl) (by decide) ?_
                                refine WL.yes rfl rfl ?_
                                refine WL.x (X.pickT rfl rfl rfl) (by decide) ?_
                                refine WL.yes rfl rfl ?_
                                refine WL.x (X.pickF rfl rfl rfl) (by decide) ?_
                                refine WL.x (X.pickT rfl rfl rfl) (by decide) ?_
                                refine WL.x (X.assign rfl) (by decide) ?_
                                refine WL.nil ?_
                                refine WK.nThen ?_
                                refine WC.ret ?_
                                refine WK.rThen ?_
                                refine WK.ret1 rfl rfl (fun w' hw' => Ret.exact hw' ?_)
                                first | rfl | (exfalso; omega) | (exfalso; contradiction) | exact (bool_true (by omega)).symm | exact (bool_true (by assumption)).symm
                              · refine WL.yes rfl rfl ?_
                                refine WL.x (X.pickT rfl rfl rfl) (by decide) ?_
                                refine WL.yes rfl rfl ?_
                                refine WL.x (X.move rfl) (by decide) ?_
                                refine WL.no rfl rfl rfl (by decide) ?_
                                refine WL.no rfl rfl rfl (by decide) ?_
                                refine WL.no rfl rfl rfl (by decide) ?_
                                refine WL.yes rfl rfl ?_
                                refine WL.x (X.pickF rfl rfl rfl) (by decide) ?_
                                refine WL.yes rfl rfl ?_
                                refine WL.x (X.pickF rfl rfl rfl) (by decide) ?_
                                refine WL.x (X.pickT rfl rfl rfl) (by decide) ?_
                                refine WL.x (X.assign rfl) (by decide) ?_
                                refine WL.nil ?_
                                refine WK.nThen ?_
                                refine WC.ret ?_
                                refine WK.rThen ?_
                                refine WK.ret1 rfl rfl (fun w' hw' => Ret.exact hw' ?_)
                                first | rfl | (exfalso; omega) | (exfalso; contradiction) | exact (bool_true (by omega)).symm | exact (bool_true (by assumption)).symm
                            · refine WL.no rfl rfl rfl (by decide) ?_
                              refine WL.no rfl rfl rfl (by decide) ?_
                              refine WL.no rfl rfl rfl (by decide) ?_
                              refine WL.no rfl rfl rfl (by decide) ?_
                              refine WL.no rfl rfl rfl (by decide) ?_
                              refine WL.yes rfl rfl ?_
                              refine WL.x (X.pickF rfl rfl rfl) (by decide) ?_
                              refine WL.yes rfl rfl ?_
                              refine WL.x (X.move rfl) (by decide) ?_
                              refine WL.no rfl rfl rfl (by decide) ?_
                              refine WL.no rfl rfl rfl (by decide) ?_
                              refine WL.no rfl rfl rfl (by decide) ?_
                              refine WL.yes rfl rfl ?_
                              refine WL.x (X.pickF rfl rfl rfl) (by decide) ?_
                              refine WL.yes rfl rfl ?_
                              refine WL.x (X.pickF rfl rfl rfl) (by decide) ?_
                              refine WL.x (X.pickT rfl rfl rfl) (by decide) ?_
                              refine WL.x (X.assign rfl) (by decide) ?_
                              refine WL.nil ?_
                              refine WK.nThen ?_
                              refine WC.ret ?_
                              refine WK.rThen ?_
                              refine WK.ret1 rfl rfl (fun w' hw' => Ret.exact hw' ?_)
                              first | rfl | (exfalso; omega) | (exfalso; contradiction) | exact (bool_true (by omega)).symm | exact (bool_true (by assumption)).symm
                          · refine WL.no rfl rfl rfl (by decide) ?_
                            refine WL.yes rfl rfl ?_
                            refine WL.x (X.pickF rfl rfl rfl) (by decide) ?_
                            refine WL.yes rfl rfl ?_
                            refine WL.x (X.move rfl) (by decide) ?_
                            refine WL.no rfl rfl rfl (by decide) ?_
                            refine WL.no rfl rfl rfl (by decide) ?_
                            refine WL.no rfl rfl rfl (by decide) ?_
                            refine WL.no rfl rfl rfl (by decide) ?_
                            refine WL.no rfl rfl rfl (by decide) ?_
                            refine WL.yes rfl rfl ?_
                            refine WL.x (X.pickF rfl rfl rfl) (by decide) ?_
                            refine WL.yes rfl rfl ?_
                            refine WL.x (X.move rfl) (by decide) ?_
                            refine WL.no rfl rfl rfl (by decide) ?_
                            refine WL.no rfl rfl rfl (by decide) ?_
                            refine WL.no rfl rfl rfl (by decide) ?_
                            refine WL.yes rfl rfl ?_
                            refine WL.x (X.pickF rfl rfl rfl) (by decide) ?_
                            refine WL.yes rfl rfl ?_
                            refine WL.x (X.pickF rfl rfl rfl) (by decide) ?_
                            refine WL.x (X.pickT rfl rfl rfl) (by decide) ?_
                            refine WL.x (X.assign rfl) (by decide) ?_
                            refine WL.nil ?_
                            refine WK.nThen ?_
                            refine WC.ret ?_
                            refine WK.rThen ?_
                            refine WK.ret1 rfl rfl (fun w' hw' => Ret.exact hw' ?_)
                            first | rfl | (exfalso; omega) | (exfalso; contradiction) | exact (bool_true (by omega)).symm | exact (bool_true (by assumption)).symm
              · refine WL.nil ?_
                refine WK.nThen ?_
                refine WC.condF rfl ?_
                refine WC.skip ?_
                refine WK.nThen ?_
                refine WC.seq ?_
                refine WC.seq ?_
                have hlm := mono_least hok (by omega)
                have hlm1 := hlm.1
                have hlm2 := hlm.2.1
                refine WC.region ?_
                refine WL.x (X.move rfl) (by decide) ?_
                refine WL.x (X.len Try.runUnderlying28 rfl hs22) (by decide) ?_
                refine WL.x (X.field Try.runUnderlying25 rfl Try.sizeOf22 rfl) (by decide) ?_
                refine WL.x (X.loadB (k := 1) Try.isAgg22 rfl rfl rfl) (by decide) ?_
                refine WL.x (X.len Try.runUnderlying22 rfl hs2) (by decide) ?_
                refine WL.condn (X.neq rfl rfl) (by decide) (fun h156 => ?_) (fun h156 => ?_)
                · refine WL.x (X.move rfl) (by decide) ?_
                  refine WL.no rfl rfl rfl (by decide) ?_
                  refine WL.no rfl rfl rfl (by decide) ?_
                  refine WL.no rfl rfl rfl (by decide) ?_
                  refine WL.x (X.pickT rfl rfl rfl) (by decide) ?_
                  refine WL.nil ?_
                  refine WK.nThen ?_
                  refine WC.condT rfl ?_
                  refine WC.seq ?_
                  refine WC.region ?_
                  refine WL.x (X.assign rfl) (by decide) ?_
                  refine WL.nil ?_
                  refine WK.nThen ?_
                  refine WC.ret ?_
                  refine WK.rThen ?_
                  refine WK.ret1 rfl rfl (fun w' hw' => Ret.exact hw' ?_)
                  first | rfl | (exfalso; omega) | (exfalso; contradiction) | exact (bool_true (by omega)).symm | exact (bool_true (by assumption)).symm
                · refine WL.x (X.move rfl) (by decide) ?_
                  refine WL.yes rfl rfl ?_
                  refine WL.x (X.move rfl) (by decide) ?_
                  refine WL.yes rfl rfl ?_
                  refine WL.cond (X.call Try.call46 rfl (rises46 _ _ _ hs22 )) (by decide) (fun h157 => ?_) (fun h157 => ?_)
                  · refine WL.yes rfl rfl ?_
                    refine WL.x (X.not rfl) (by decide) ?_
                    refine WL.x (X.pickF rfl rfl rfl) (by decide) ?_
                    refine WL.nil ?_
                    refine WK.nThen ?_
                    refine WC.condF rfl ?_
                    refine WC.skip ?_
                    refine WK.nThen ?_
                    refine WC.seq ?_
                    refine WC.seq ?_
                    refine WC.region ?_
                    refine WL.x (X.assign rfl) (by decide) ?_
                    refine WL.nil ?_
                    refine WK.nThen ?_
                    refine WC.block ?_
                    refine WC.loop (G := Nat) (fun i => (evenR s x.Levels x.Shifts).1.length - i) (fun i => m102) (fun i => [blk b14 52 [v7, v9], blk b13 25 [v1, v3]]) (fun i => [(5, .bool true), (6, v21), (12, v106), (13, .int .i64 ((evenR s x.Levels x.Shifts).2)), (20, .int .i64 (↑i))]) (fun i => i ≤ (evenR s x.Levels x.Shifts).1.length) 0 rfl (.refl _) (.cons rfl (.cons rfl (.cons rfl (.cons rfl (.cons rfl .nil))))) ?_ ?_
                    · exact Nat.zero_le _
                    · rintro i hF158
                      show WK _ _ m102 [blk b14 52 [v7, v9], blk b13 25 [v1, v3]] [(5, .bool true), (6, v21), (12, v106), (13, .int .i64 ((evenR s x.Levels x.Shifts).2)), (20, .int .i64 (↑i))] _
                      replace hF158 : i ≤ (evenR s x.Levels x.Shifts).1.length := hF158
                      have hi := hF158
                      refine WC.seq ?_
                      refine WC.seq ?_
                      refine WC.region ?_
                      refine WL.x (X.move rfl) (by decide) ?_
                      refine WL.x (X.move rfl) (by decide) ?_
                      refine WL.x (X.len Try.runUnderlying28 rfl hs107) (by decide) ?_
                      refine WL.cond (X.lss rfl rfl) (by decide) (fun h159 => ?_) (fun h159 => ?_)
                      · refine WL.x (X.move rfl) (by decide) ?_
                        refine WL.yes rfl rfl ?_
                        refine WL.x (X.move rfl) (by decide) ?_
                        refine WL.yes rfl rfl ?_
                        refine WL.cond (X.eql rfl rfl) (by decide) (fun h160 => ?_) (fun h160 => ?_)
                        · refine WL.x (X.pickT rfl rfl rfl) (by decide) ?_
                          refine WL.x (X.move rfl) (by decide) ?_
                          refine WL.yes rfl rfl ?_
                          refine WL.x (X.move rfl) (by decide) ?_
                          refine WL.yes rfl rfl ?_
                          refine WL.cond (X.call Try.call46 rfl (rises46 _ _ _ hs107 )) (by decide) (fun h161 => ?_) (fun h161 => ?_)
                          · refine WL.x (X.pickT rfl rfl rfl) (by decide) ?_
                            refine WL.nil ?_
                            refine WK.nThen ?_
                            refine WC.condT rfl ?_
                            refine WC.skip ?_
                            refine WK.nThen ?_
                            refine WC.seq ?_
                            refine WC.block ?_
                            refine WC.seq ?_
                            have he := evenR_ok (s := s) (lv := x.Levels) (sh := x.Shifts) (by omega)
                            have hek := he.1
                            have hea := he.2.1
                            have her : (evenR s x.Levels x.Shifts).1 = evenL s x.Levels x.Shifts := (by rw [he.2.2])
                            have hel := evenL_len s x.Levels x.Shifts
                            have heb := evenL_bd hek hea
                            have hen := hek.nV
                            have hrl : (evenR s x.Levels x.Shifts).1.length = s.Values.length := (by rw [her]; exact hel)
                            have hrs : risesP (evenR s x.Levels x.Shifts).1 := (by assumption)
                            have hle2 := hlm.2.2 _ _ hea (by rw [← her]; exact hrs) i (by omega)
                            rw [← her] at hle2
                            refine WC.draw (π := (.cons 0 (.cons 1 (.cons 2 (.cons 3 (.cons 4 (.cons 5 (.cons 6 (.cons 7 (.cons 8 .done)))))))))) [] [] rfl (by kernel_rfl) ?_
                            refine DW.x rfl rfl (X.move rfl) (by decide) ?_
                            refine DW.x rfl rfl (X.move rfl) (by decide) ?_
                            refine DW.xe rfl rfl (E.idxN i Try.runUnderlying28 Try.sizeOf3 rfl rfl hs107 (by omega)) (by decide) (fun p162 hp163 => ?_)
                            refine DW.x rfl rfl (X.loadInt Try.isAgg3 rfl hp163) (by decide) ?_
                            refine DW.x rfl rfl (X.move rfl) (by decide) ?_
                            refine DW.x rfl rfl (X.move rfl) (by decide) ?_
                            refine DW.xe rfl rfl (E.idxN i Try.runUnderlying28 Try.sizeOf3 rfl rfl hs22 (by omega)) (by decide) (fun p164 hp165 => ?_)
                            refine DW.x rfl rfl (X.loadInt Try.isAgg3 rfl hp165) (by decide) ?_
                            refine DW.cond rfl rfl (X.lss rfl rfl) (by decide) (fun h166 => ?_) (fun h166 => ?_)
                            · refine DW.nil ?_
                              refine WK.nThen ?_
                              refine WC.condT rfl ?_
                              refine WC.seq ?_
                              refine WC.region ?_
                              refine WL.x (X.assign rfl) (by decide) ?_
                              refine WL.nil ?_
                              refine WK.nThen ?_
                              refine WC.ret ?_
                              refine WK.rBlock ?_
                              refine WK.rThen ?_
                              refine WK.rThen ?_
                              refine WK.rBlock ?_
                              refine WK.rThen ?_
                              refine WK.ret1 rfl rfl (fun w' hw' => Ret.exact hw' ?_)
                              first | rfl | (exfalso; omega) | (exfalso; contradiction) | exact (bool_true (by omega)).symm | exact (bool_true (by assumption)).symm
                            · refine DW.nil ?_
                              refine WK.nThen ?_
                              refine WC.condF rfl ?_
                              refine WC.skip ?_
                              refine WK.nBlock ?_
                              refine WK.nThen ?_
                              refine WC.region ?_
                              refine WL.x (X.move rfl) (by decide) ?_
                              refine WL.x (X.add rfl rfl (by omega) (by omega)) (by decide) ?_
                              refine WL.x (X.assign rfl) (by decide) ?_
                              refine WL.nil ?_
                              refine WK.nThen ?_
                              refine WK.next (i + 1) rfl (.refl _) (.cons rfl (.cons rfl (.cons rfl (.cons rfl (.cons rfl .nil))))) ?_ ?_
                              · omega
                              · omega
                          · refine WL.x (X.pickT rfl rfl rfl) (by decide) ?_
                            refine WL.nil ?_
                            refine WK.nThen ?_
                            refine WC.condF rfl ?_
                            refine WC.exit ?_
                            refine WK.eThen ?_
                            refine WK.eThen ?_
                            refine WK.eHit ?_
                            refine WK.nThen ?_
                            refine WC.seq ?_
                            refine WC.region ?_
                            refine WL.x (X.move rfl) (by decide) ?_
                            refine WL.x (X.assign rfl) (by decide) ?_
                            refine WL.nil ?_
                            refine WK.nThen ?_
                            refine WC.ret ?_
                            refine WK.ret1 rfl rfl (fun w' hw' => Ret.exact hw' ?_)
                            first | rfl | (exfalso; omega) | (exfalso; contradiction) | exact (bool_true (by omega)).symm | exact (bool_true (by assumption)).symm
                        · refine WL.x (X.pickT rfl rfl rfl) (by decide) ?_
                          refine WL.x (X.move rfl) (by decide) ?_
                          refine WL.no rfl rfl rfl (by decide) ?_
                          refine WL.no rfl rfl rfl (by decide) ?_
                          refine WL.x (X.pickF rfl rfl rfl) (by decide) ?_
                          refine WL.nil ?_
                          refine WK.nThen ?_
                          refine WC.condF rfl ?_
                          refine WC.exit ?_
                          refine WK.eThen ?_
                          refine WK.eThen ?_
                          refine WK.eHit ?_
                          refine WK.nThen ?_
                          refine WC.seq ?_
                          refine WC.region ?_
                          refine WL.x (X.move rfl) (by decide) ?_
                          refine WL.x (X.assign rfl) (by decide) ?_
                          refine WL.nil ?_
                          refine WK.nThen ?_
                          refine WC.ret ?_
                          refine WK.ret1 rfl rfl (fun w' hw' => Ret.exact hw' ?_)
                          first | rfl | (exfalso; omega) | (exfalso; contradiction) | exact (bool_true (by omega)).symm | exact (bool_true (by assumption)).symm
                      · refine WL.x (X.move rfl) (by decide) ?_
                        refine WL.no rfl rfl rfl (by decide) ?_
                        refine WL.no rfl rfl rfl (by decide) ?_
                        refine WL.x (X.pickF rfl rfl rfl) (by decide) ?_
                        refine WL.x (X.move rfl) (by decide) ?_
                        refine WL.no rfl rfl rfl (by decide) ?_
                        refine WL.no rfl rfl rfl (by decide) ?_
                        refine WL.x (X.pickF rfl rfl rfl) (by decide) ?_
                        refine WL.nil ?_
                        refine WK.nThen ?_
                        refine WC.condF rfl ?_
                        refine WC.exit ?_
                        refine WK.eThen ?_
                        refine WK.eThen ?_
                        refine WK.eHit ?_
                        refine WK.nThen ?_
                        refine WC.seq ?_
                        refine WC.region ?_
                        refine WL.x (X.move rfl) (by decide) ?_
                        refine WL.x (X.assign rfl) (by decide) ?_
                        refine WL.nil ?_
                        refine WK.nThen ?_
                        refine WC.ret ?_
                        refine WK.ret1 rfl rfl (fun w' hw' => Ret.exact hw' ?_)
                        first | rfl | (exfalso; omega) | (exfalso; contradiction) | exact (bool_true (by omega)).symm | exact (bool_true (by assumption)).symm
                  · refine WL.yes rfl rfl ?_
                    refine WL.x (X.not rfl) (by decide) ?_
                    refine WL.x (X.pickF rfl rfl rfl) (by decide) ?_
                    refine WL.nil ?_
                    refine WK.nThen ?_
                    refine WC.condT rfl ?_
                    refine WC.seq ?_
                    refine WC.region ?_
                    refine WL.x (X.assign rfl) (by decide) ?_
                    refine WL.nil ?_
                    refine WK.nThen ?_
                    refine WC.ret ?_
                    refine WK.rThen ?_
                    refine WK.ret1 rfl rfl (fun w' hw' => Ret.exact hw' ?_)
                    first | rfl | (exfalso; omega) | (exfalso; contradiction) | exact (bool_true (by omega)).symm | exact (bool_true (by assumption)).symm
        · refine WL.yes rfl rfl ?_
          refine WL.x (X.move rfl) (by decide) ?_
          refine WL.no rfl rfl rfl (by decide) ?_
          refine WL.no rfl rfl rfl (by decide) ?_
          refine WL.yes rfl rfl ?_
          refine WL.x (X.pickF rfl rfl rfl) (by decide) ?_
          refine WL.x (X.pickF rfl rfl rfl) (by decide) ?_
          refine WL.x (X.move rfl) (by decide) ?_
          refine WL.yes rfl rfl ?_
          refine WL.x (X.move rfl) (by decide) ?_
          refine WL.yes rfl rfl ?_
          refine WL.condn (X.neq rfl rfl) (by decide) (fun h167 => ?_) (fun h167 => ?_)
          · refine WL.yes rfl rfl ?_
            refine WL.x (X.move rfl) (by decide) ?_
            refine WL.yes rfl rfl ?_
            refine WL.x (X.move rfl) (by decide) ?_
            refine WL.yes rfl rfl ?_
            refine WL.condn (X.neq rfl rfl) (by decide) (fun h168 => ?_) (fun h168 => ?_)
            · refine WL.yes rfl rfl ?_
              refine WL.x (X.pickT rfl rfl rfl) (by decide) ?_
              refine WL.x (X.pickF rfl rfl rfl) (by decide) ?_
              refine WL.nil ?_
              refine WK.nThen ?_
              refine WC.condT rfl ?_
              refine WC.seq ?_
              refine WC.region ?_
              refine WL.x (X.assign rfl) (by decide) ?_
              refine WL.nil ?_
              refine WK.nThen ?_
              refine WC.ret ?_
              refine WK.rThen ?_
              refine WK.ret1 rfl rfl (fun w' hw' => Ret.exact hw' ?_)
              first | rfl | (exfalso; omega) | (exfalso; contradiction) | exact (bool_true (by omega)).symm | exact (bool_true (by assumption)).symm
            · refine WL.yes rfl rfl ?_
              refine WL.x (X.pickT rfl rfl rfl) (by decide) ?_
              refine WL.x (X.pickF rfl rfl rfl) (by decide) ?_
              refine WL.nil ?_
              refine WK.nThen ?_
              refine WC.condF rfl ?_
              refine WC.skip ?_
              refine WK.nThen ?_
              refine WC.seq ?_
              refine WC.region ?_
              refine WL.x (X.loadBA (k := 1) Try.isAgg25 Try.sizeOf25 rfl rfl rfl) (by decide) ?_
              refine WL.x (X.field Try.runUnderlying52 rfl Try.sizeOf28 rfl) (by decide) ?_
              refine WL.x (X.loadB (k := 0) Try.isAgg28 rfl rfl rfl) (by decide) ?_
              refine WL.x (X.field Try.runUnderlying52 rfl Try.sizeOf28 rfl) (by decide) ?_
              refine WL.x (X.loadB (k := 0) Try.isAgg28 rfl rfl rfl) (by decide) ?_
              refine WL.tm (T.call Try.call39 rfl (even39 _ _ s ⟨_, _, rfl, hs2, hs4⟩ _ _ hs8 _ _ hs10 )) (by decide) fun m169 r170 hle171 hR172 => ?_
              obtain ⟨v173, rfl, hs174⟩ := hR172
              replace hs2 := hs2.mono hle171
              replace hs4 := hs4.mono hle171
              replace hs8 := hs8.mono hle171
              replace hs10 := hs10.mono hle171
              replace hs22 := hs22.mono hle171
              replace hs29 := hs29.mono hle171
              have hl175 := hs174.le
              refine WL.x (X.move rfl) (by decide) ?_
              refine WL.x (X.extract rfl rfl) (by decide) ?_
              refine WL.x (X.extract rfl rfl) (by decide) ?_
              refine WL.x (X.assign rfl) (by decide) ?_
              refine WL.x (X.assign rfl) (by decide) ?_
              refine WL.nil ?_
              refine WK.nThen ?_
              refine WC.seq ?_
              refine WC.seq ?_
              refine WC.region ?_
              refine WL.x (X.move rfl) (by decide) ?_
              refine WL.cond (X.eql rfl rfl) (by decide) (fun h176 => ?_) (fun h176 => ?_)
              · refine WL.nil ?_
                refine WK.nThen ?_
                refine WC.condT rfl ?_
                refine WC.seq ?_
                refine WC.seq ?_
                have hfr := fall_real hok (by omega)
                have hf2 := hfr.1
                have hf3 := hfr.2.1
                refine WC.draw (π := (.cons 0 (.cons 1 (.cons 2 (.cons 3 (.cons 4 (.cons 5 (.cons 6 (.cons 7 (.cons 8 (.cons 9 (.cons 10 (.cons 11 .done))))))))))))) [] [] rfl (by kernel_rfl) ?_
                refine DW.x rfl rfl (X.move rfl) (by decide) ?_
                refine DW.x rfl rfl (X.len Try.runUnderlying28 rfl hs29) (by decide) ?_
                refine DW.condn rfl rfl (X.neq rfl rfl) (by decide) (fun h177 => ?_) (fun h177 => ?_)
                · refine DW.x rfl rfl (X.move rfl) (by decide) ?_
                  refine DW.no rfl rfl (by decide) ?_
                  refine DW.no rfl rfl (by decide) ?_
                  refine DW.no rfl rfl (by decide) ?_
                  refine DW.no rfl rfl (by decide) ?_
                  refine DW.no rfl rfl (by decide) ?_
                  refine DW.no rfl rfl (by decide) ?_
                  refine DW.no rfl rfl (by decide) ?_
                  refine DW.x rfl rfl (X.pickT rfl rfl rfl) (by decide) ?_
                  refine DW.nil ?_
                  refine WK.nThen ?_
                  refine WC.condT rfl ?_
                  refine WC.seq ?_
                  refine WC.region ?_
                  refine WL.x (X.assign rfl) (by decide) ?_
                  refine WL.nil ?_
                  refine WK.nThen ?_
                  refine WC.ret ?_
                  refine WK.rThen ?_
                  refine WK.rThen ?_
                  refine WK.ret1 rfl rfl (fun w' hw' => Ret.exact hw' ?_)
                  first | rfl | (exfalso; omega) | (exfalso; contradiction) | exact (bool_true (by omega)).symm | exact (bool_true (by assumption)).symm
                · refine DW.x rfl rfl (X.move rfl) (by decide) ?_
                  refine DW.x rfl rfl (X.move rfl) (by decide) ?_
                  refine DW.xe rfl rfl (E.idxN 0 Try.runUnderlying28 Try.sizeOf3 rfl rfl hs29 (by omega)) (by decide) (fun p178 hp179 => ?_)
                  refine DW.x rfl rfl (X.loadInt Try.isAgg3 rfl hp179) (by decide) ?_
                  refine DW.x rfl rfl (X.move rfl) (by decide) ?_
                  refine DW.xe rfl rfl (E.idxN 1 Try.runUnderlying28 Try.sizeOf3 rfl rfl hs29 (by omega)) (by decide) (fun p180 hp181 => ?_)
                  refine DW.x rfl rfl (X.loadInt Try.isAgg3 rfl hp181) (by decide) ?_
                  refine DW.cond rfl rfl (X.geq rfl rfl) (by decide) (fun h182 => ?_) (fun h182 => ?_)
                  · refine DW.x rfl rfl (X.pickF rfl rfl rfl) (by decide) ?_
                    refine DW.nil ?_
                    refine WK.nThen ?_
                    refine WC.condT rfl ?_
                    refine WC.seq ?_
                    refine WC.region ?_
                    refine WL.x (X.assign rfl) (by decide) ?_
                    refine WL.nil ?_
                    refine WK.nThen ?_
                    refine WC.ret ?_
                    refine WK.rThen ?_
                    refine WK.rThen ?_
                    refine WK.ret1 rfl rfl (fun w' hw' => Ret.exact hw' ?_)
                    first | rfl | (exfalso; omega) | (exfalso; contradiction) | exact (bool_true (by omega)).symm | exact (bool_true (by assumption)).symm
                  · refine DW.x rfl rfl (X.pickF rfl rfl rfl) (by decide) ?_
                    refine DW.nil ?_
                    refine WK.nThen ?_
                    refine WC.condF rfl ?_
                    refine WC.skip ?_
                    refine WK.nThen ?_
                    have hml : (evenR s x.Levels x.Shifts).1.length ≤ 1000 ∧ ∀ i, i < (evenR s x.Levels x.Shifts).1.length → -1000000 ≤ gt (evenR s x.Levels x.Shifts).1 i ∧ gt (evenR s x.Levels x.Shifts).1 i ≤ 1000000 := even_small s x.Levels x.Shifts
                    have hml1 := hml.1
                    have hml2 := hml.2
                    refine WC.cut (G := Mem × Nat × Nat) (fun (m183, b187, b188) => m183) (fun (m183, b187, b188) => [blk b188 33 [.int .i64 ((meanR s (((evenR s x.Levels x.Shifts).1)) (((Span.mk (gt ((fallR s).1) 0) (gt ((fallR s).1) 0))))).2.1.Lo), .int .i64 ((meanR s (((evenR s x.Levels x.Shifts).1)) (((Span.mk (gt ((fallR s).1) 0) (gt ((fallR s).1) 0))))).2.1.Hi)], blk b187 45 [.int .i64 ((meanR s (((evenR s x.Levels x.Shifts).1)) (((Span.mk (gt ((fallR s).1) 0) (gt ((fallR s).1) 0))))).1.Num), .int .i64 ((meanR s (((evenR s x.Levels x.Shifts).1)) (((Span.mk (gt ((fallR s).1) 0) (gt ((fallR s).1) 0))))).1.Den)], blk b14 52 [v7, v9], blk b13 25 [v1, v3]]) (fun (m183, b187, b188) => [(2, .pointer (some ⟨b13, 0, none⟩)), (5, .bool true), (8, v28), (12, v173), (13, .int .i64 ((evenR s x.Levels x.Shifts).2)), (14, .pointer (some ⟨b187, 0, none⟩)), (16, .bool (decide (0 < (meanR s (((evenR s x.Levels x.Shifts).1)) (((Span.mk (gt ((fallR s).1) 0) (gt ((fallR s).1) 0))))).1.Den)))]) (fun (m183, b187, b188) => m169.le m183 ∧ Sl (α := Int) m183 v7 x.Levels ∧ Sl (α := Int) m183 v9 x.Shifts ∧ Sl (α := Val) m183 v1 s.Values ∧ Sl (α := Shf) m183 v3 s.Shifts) ?_ ?_
                    · refine WC.draw (π := (.cons 0 (.cons 1 (.cons 2 (.cons 3 (.cons 4 (.cons 5 (.cons 6 (.cons 7 (.cons 8 (.cons 9 (.cons 10 (.cons 11 (.cons 12 (.cons 13 (.fork (.cons 14 (.cons 15 (.cons 16 (.cons 17 (.cons 18 .done))))) (.cons 15 (.cons 14 (.cons 16 (.cons 17 (.cons 18 .done))))))))))))))))))))) [14, 15, 16, 17] [16, 17] rfl (by kernel_rfl) ?_
                      refine DW.x rfl rfl (X.loadBA (k := 1) Try.isAgg25 Try.sizeOf25 rfl rfl rfl) (by decide) ?_
                      refine DW.x rfl rfl (X.move rfl) (by decide) ?_
                      refine DW.x rfl rfl (X.move rfl) (by decide) ?_
                      refine DW.xe rfl rfl (E.idxN 0 Try.runUnderlying28 Try.sizeOf3 rfl rfl hs29 (by omega)) (by decide) (fun p184 hp185 => ?_)
                      refine DW.x rfl rfl (X.loadInt Try.isAgg3 rfl hp185) (by decide) ?_
                      refine DW.x rfl rfl (X.move rfl) (by decide) ?_
                      refine DW.xe rfl rfl (E.idxN 0 Try.runUnderlying28 Try.sizeOf3 rfl rfl hs29 (by omega)) (by decide) (fun p186 hp187 => ?_)
                      refine DW.x rfl rfl (X.loadInt Try.isAgg3 rfl hp187) (by decide) ?_
                      refine DW.x (V := Value.agg [.int .i64 (gt ((fallR s).1) 0), .int .i64 (gt ((fallR s).1) 0)].toArray) rfl rfl (X.build Try.zeroValue33 Try.runUnderlying33 (places33 _ Try.underlying33) rfl rfl) (by decide) ?_
                      refine DW.x rfl rfl (X.call Try.call40 rfl (mean40 _ _ s ⟨_, _, rfl, hs2, hs4⟩ _ _ hs174 _ ((Span.mk (gt ((fallR s).1) 0) (gt ((fallR s).1) 0))) rfl (by omega) (by assumption))) (by decide) ?_
                      refine DW.x rfl rfl (X.move rfl) (by decide) ?_
                      refine DW.x rfl rfl (X.extract rfl rfl) (by decide) ?_
                      refine DW.x rfl rfl (X.extract rfl rfl) (by decide) ?_
                      refine DW.x rfl rfl (X.extract rfl rfl) (by decide) ?_
                      refine DW.fork (List.cons_ne_nil _ _) ?_ ?_
                      · refine DW.tn rfl rfl rfl (T.alloc Try.zeroValue45 rfl) (by decide) fun b188 => ?_
                        refine DW.tn rfl rfl rfl (T.alloc Try.zeroValue33 rfl) (by decide) fun b189 => ?_
                        refine DW.ts rfl rfl rfl rfl (T.storeBA (k := 1) Try.sizeOf45 rfl rfl rfl (one_cons rfl (one_cons rfl one_nil)) rfl rfl) ?_
                        refine DW.ts rfl rfl rfl rfl (T.storeBA (k := 0) Try.sizeOf33 rfl rfl rfl (one_cons rfl (one_cons rfl one_nil)) rfl rfl) ?_
                        refine DW.x rfl rfl (X.assign rfl) (by decide) ?_
                        refine DW.nil ?_
                        refine WK.nThen ?_
                        exact WK.meet (m169, b188, b189) rfl (.refl _) (.cons rfl (.cons rfl (.cons rfl (.cons rfl (.cons rfl (.cons rfl (.cons rfl .nil))))))) ⟨(Mem.le_refl _), hs8, hs10, hs2, hs4⟩
                      · refine DW.tn rfl rfl rfl (T.alloc Try.zeroValue33 rfl) (by decide) fun b190 => ?_
                        refine DW.tn rfl rfl rfl (T.alloc Try.zeroValue45 rfl) (by decide) fun b191 => ?_
                        refine DW.ts rfl rfl rfl rfl (T.storeBA (k := 0) Try.sizeOf45 rfl rfl rfl (one_cons rfl (one_cons rfl one_nil)) rfl rfl) ?_
                        refine DW.ts rfl rfl rfl rfl (T.storeBA (k := 1) Try.sizeOf33 rfl rfl rfl (one_cons rfl (one_cons rfl one_nil)) rfl rfl) ?_
                        refine DW.x rfl rfl (X.assign rfl) (by decide) ?_
                        refine DW.nil ?_
                        refine WK.nThen ?_
                        refine WK.perm [blk b190 33 [.int .i64 ((meanR s (((evenR s x.Levels x.Shifts).1)) (((Span.mk (gt ((fallR s).1) 0) (gt ((fallR s).1) 0))))).2.1.Lo), .int .i64 ((meanR s (((evenR s x.Levels x.Shifts).1)) (((Span.mk (gt ((fallR s).1) 0) (gt ((fallR s).1) 0))))).2.1.Hi)], blk b191 45 [.int .i64 ((meanR s (((evenR s x.Levels x.Shifts).1)) (((Span.mk (gt ((fallR s).1) 0) (gt ((fallR s).1) 0))))).1.Num), .int .i64 ((meanR s (((evenR s x.Levels x.Shifts).1)) (((Span.mk (gt ((fallR s).1) 0) (gt ((fallR s).1) 0))))).1.Den)], blk b14 52 [v7, v9], blk b13 25 [v1, v3]] ((List.Perm.cons _ (.refl _)).trans (List.perm_middle (l₁ := [blk b191 45 [.int .i64 ((meanR s (((evenR s x.Levels x.Shifts).1)) (((Span.mk (gt ((fallR s).1) 0) (gt ((fallR s).1) 0))))).1.Num), .int .i64 ((meanR s (((evenR s x.Levels x.Shifts).1)) (((Span.mk (gt ((fallR s).1) 0) (gt ((fallR s).1) 0))))).1.Den)]]) (l₂ := [blk b14 52 [v7, v9], blk b13 25 [v1, v3]]) (a := blk b190 33 [.int .i64 ((meanR s (((evenR s x.Levels x.Shifts).1)) (((Span.mk (gt ((fallR s).1) 0) (gt ((fallR s).1) 0))))).2.1.Lo), .int .i64 ((meanR s (((evenR s x.Levels x.Shifts).1)) (((Span.mk (gt ((fallR s).1) 0) (gt ((fallR s).1) 0))))).2.1.Hi)])).symm) ?_
                        exact WK.meet (m169, b191, b190) rfl (.refl _) (.cons rfl (.cons rfl (.cons rfl (.cons rfl (.cons rfl (.cons rfl (.cons rfl .nil))))))) ⟨(Mem.le_refl _), hs8, hs10, hs2, hs4⟩
                    · rintro ⟨m183, b187, b188⟩ ⟨hle192, hs193, hs194, hs195, hs196⟩
                      show WK _ _ m183 [blk b188 33 [.int .i64 ((meanR s (((evenR s x.Levels x.Shifts).1)) (((Span.mk (gt ((fallR s).1) 0) (gt ((fallR s).1) 0))))).2.1.Lo), .int .i64 ((meanR s (((evenR s x.Levels x.Shifts).1)) (((Span.mk (gt ((fallR s).1) 0) (gt ((fallR s).1) 0))))).2.1.Hi)], blk b187 45 [.int .i64 ((meanR s (((evenR s x.Levels x.Shifts).1)) (((Span.mk (gt ((fallR s).1) 0) (gt ((fallR s).1) 0))))).1.Num), .int .i64 ((meanR s (((evenR s x.Levels x.Shifts).1)) (((Span.mk (gt ((fallR s).1) 0) (gt ((fallR s).1) 0))))).1.Den)], blk b14 52 [v7, v9], blk b13 25 [v1, v3]] [(2, .pointer (some ⟨b13, 0, none⟩)), (5, .bool true), (8, v28), (12, v173), (13, .int .i64 ((evenR s x.Levels x.Shifts).2)), (14, .pointer (some ⟨b187, 0, none⟩)), (16, .bool (decide (0 < (meanR s (((evenR s x.Levels x.Shifts).1)) (((Span.mk (gt ((fallR s).1) 0) (gt ((fallR s).1) 0))))).1.Den)))] _
                      replace hs2 := hs2.mono hle192
                      replace hs4 := hs4.mono hle192
                      replace hs8 := hs8.mono hle192
                      replace hs10 := hs10.mono hle192
                      replace hs22 := hs22.mono hle192
                      replace hs29 := hs29.mono hle192
                      replace hs174 := hs174.mono hle192
                      replace hp179 := hp179.mono hle192
                      replace hp181 := hp181.mono hle192
                      have hl197 := hs193.le
                      have hl198 := hs194.le
                      have hl199 := hs195.le
                      have hl200 := hs196.le
                      refine WC.cut (G := Mem × Nat × Nat) (fun (m201, b205, b206) => m201) (fun (m201, b205, b206) => [blk b206 33 [.int .i64 ((meanR s (((evenR s x.Levels x.Shifts).1)) (((Span.mk (gt ((fallR s).1) 1) (gt ((fallR s).1) 1))))).2.1.Lo), .int .i64 ((meanR s (((evenR s x.Levels x.Shifts).1)) (((Span.mk (gt ((fallR s).1) 1) (gt ((fallR s).1) 1))))).2.1.Hi)], blk b205 45 [.int .i64 ((meanR s (((evenR s x.Levels x.Shifts).1)) (((Span.mk (gt ((fallR s).1) 1) (gt ((fallR s).1) 1))))).1.Num), .int .i64 ((meanR s (((evenR s x.Levels x.Shifts).1)) (((Span.mk (gt ((fallR s).1) 1) (gt ((fallR s).1) 1))))).1.Den)], blk b188 33 [.int .i64 ((meanR s (((evenR s x.Levels x.Shifts).1)) (((Span.mk (gt ((fallR s).1) 0) (gt ((fallR s).1) 0))))).2.1.Lo), .int .i64 ((meanR s (((evenR s x.Levels x.Shifts).1)) (((Span.mk (gt ((fallR s).1) 0) (gt ((fallR s).1) 0))))).2.1.Hi)], blk b187 45 [.int .i64 ((meanR s (((evenR s x.Levels x.Shifts).1)) (((Span.mk (gt ((fallR s).1) 0) (gt ((fallR s).1) 0))))).1.Num), .int .i64 ((meanR s (((evenR s x.Levels x.Shifts).1)) (((Span.mk (gt ((fallR s).1) 0) (gt ((fallR s).1) 0))))).1.Den)], blk b14 52 [v7, v9], blk b13 25 [v1, v3]]) (fun (m201, b205, b206) => [(5, .bool true), (12, v173), (13, .int .i64 ((evenR s x.Levels x.Shifts).2)), (14, .pointer (some ⟨b187, 0, none⟩)), (16, .bool (decide (0 < (meanR s (((evenR s x.Levels x.Shifts).1)) (((Span.mk (gt ((fallR s).1) 0) (gt ((fallR s).1) 0))))).1.Den))), (17, .pointer (some ⟨b205, 0, none⟩)), (19, .bool (decide (0 < (meanR s (((evenR s x.Levels x.Shifts).1)) (((Span.mk (gt ((fallR s).1) 1) (gt ((fallR s).1) 1))))).1.Den)))]) (fun (m201, b205, b206) => m183.le m201 ∧ Sl (α := Int) m201 v7 x.Levels ∧ Sl (α := Int) m201 v9 x.Shifts ∧ Sl (α := Val) m201 v1 s.Values ∧ Sl (α := Shf) m201 v3 s.Shifts) ?_ ?_
                      · refine WC.draw (π := (.cons 0 (.cons 1 (.cons 2 (.cons 3 (.cons 4 (.cons 5 (.cons 6 (.cons 7 (.cons 8 (.cons 9 (.cons 10 (.cons 11 (.cons 12 (.cons 13 (.fork (.cons 14 (.cons 15 (.cons 16 (.cons 17 (.cons 18 .done))))) (.cons 15 (.cons 14 (.cons 16 (.cons 17 (.cons 18 .done))))))))))))))))))))) [14, 15, 16, 17] [16, 17] rfl (by kernel_rfl) ?_
                        refine DW.x rfl rfl (X.loadBA (k := 3) Try.isAgg25 Try.sizeOf25 rfl rfl rfl) (by decide) ?_
                        refine DW.x rfl rfl (X.move rfl) (by decide) ?_
                        refine DW.x rfl rfl (X.move rfl) (by decide) ?_
                        refine DW.xe rfl rfl (E.idxN 1 Try.runUnderlying28 Try.sizeOf3 rfl rfl hs29 (by omega)) (by decide) (fun p202 hp203 => ?_)
                        refine DW.x rfl rfl (X.loadInt Try.isAgg3 rfl hp203) (by decide) ?_
                        refine DW.x rfl rfl (X.move rfl) (by decide) ?_
                        refine DW.xe rfl rfl (E.idxN 1 Try.runUnderlying28 Try.sizeOf3 rfl rfl hs29 (by omega)) (by decide) (fun p204 hp205 => ?_)
                        refine DW.x rfl rfl (X.loadInt Try.isAgg3 rfl hp205) (by decide) ?_
                        refine DW.x (V := Value.agg [.int .i64 (gt ((fallR s).1) 1), .int .i64 (gt ((fallR s).1) 1)].toArray) rfl rfl (X.build Try.zeroValue33 Try.runUnderlying33 (places33 _ Try.underlying33) rfl rfl) (by decide) ?_
                        refine DW.x rfl rfl (X.call Try.call40 rfl (mean40 _ _ s ⟨_, _, rfl, hs195, hs196⟩ _ _ hs174 _ ((Span.mk (gt ((fallR s).1) 1) (gt ((fallR s).1) 1))) rfl (by omega) (by assumption))) (by decide) ?_
                        refine DW.x rfl rfl (X.move rfl) (by decide) ?_
                        refine DW.x rfl rfl (X.extract rfl rfl) (by decide) ?_
                        refine DW.x rfl rfl (X.extract rfl rfl) (by decide) ?_
                        refine DW.x rfl rfl (X.extract rfl rfl) (by decide) ?_
                        refine DW.fork (List.cons_ne_nil _ _) ?_ ?_
                        · refine DW.tn rfl rfl rfl (T.alloc Try.zeroValue45 rfl) (by decide) fun b206 => ?_
                          refine DW.tn rfl rfl rfl (T.alloc Try.zeroValue33 rfl) (by decide) fun b207 => ?_
                          refine DW.ts rfl rfl rfl rfl (T.storeBA (k := 1) Try.sizeOf45 rfl rfl rfl (one_cons rfl (one_cons rfl one_nil)) rfl rfl) ?_
                          refine DW.ts rfl rfl rfl rfl (T.storeBA (k := 0) Try.sizeOf33 rfl rfl rfl (one_cons rfl (one_cons rfl one_nil)) rfl rfl) ?_
                          refine DW.x rfl rfl (X.assign rfl) (by decide) ?_
                          refine DW.nil ?_
                          refine WK.nThen ?_
                          exact WK.meet (m183, b206, b207) rfl (.refl _) (.cons rfl (.cons rfl (.cons rfl (.cons rfl (.cons rfl (.cons rfl (.cons rfl .nil))))))) ⟨(Mem.le_refl _), hs193, hs194, hs195, hs196⟩
                        · refine DW.tn rfl rfl rfl (T.alloc Try.zeroValue33 rfl) (by decide) fun b208 => ?_
                          refine DW.tn rfl rfl rfl (T.alloc Try.zeroValue45 rfl) (by decide) fun b209 => ?_
                          refine DW.ts rfl rfl rfl rfl (T.storeBA (k := 0) Try.sizeOf45 rfl rfl rfl (one_cons rfl (one_cons rfl one_nil)) rfl rfl) ?_
                          refine DW.ts rfl rfl rfl rfl (T.storeBA (k := 1) Try.sizeOf33 rfl rfl rfl (one_cons rfl (one_cons rfl one_nil)) rfl rfl) ?_
                          refine DW.x rfl rfl (X.assign rfl) (by decide) ?_
                          refine DW.nil ?_
                          refine WK.nThen ?_
                          refine WK.perm [blk b208 33 [.int .i64 ((meanR s (((evenR s x.Levels x.Shifts).1)) (((Span.mk (gt ((fallR s).1) 1) (gt ((fallR s).1) 1))))).2.1.Lo), .int .i64 ((meanR s (((evenR s x.Levels x.Shifts).1)) (((Span.mk (gt ((fallR s).1) 1) (gt ((fallR s).1) 1))))).2.1.Hi)], blk b209 45 [.int .i64 ((meanR s (((evenR s x.Levels x.Shifts).1)) (((Span.mk (gt ((fallR s).1) 1) (gt ((fallR s).1) 1))))).1.Num), .int .i64 ((meanR s (((evenR s x.Levels x.Shifts).1)) (((Span.mk (gt ((fallR s).1) 1) (gt ((fallR s).1) 1))))).1.Den)], blk b188 33 [.int .i64 ((meanR s (((evenR s x.Levels x.Shifts).1)) (((Span.mk (gt ((fallR s).1) 0) (gt ((fallR s).1) 0))))).2.1.Lo), .int .i64 ((meanR s (((evenR s x.Levels x.Shifts).1)) (((Span.mk (gt ((fallR s).1) 0) (gt ((fallR s).1) 0))))).2.1.Hi)], blk b187 45 [.int .i64 ((meanR s (((evenR s x.Levels x.Shifts).1)) (((Span.mk (gt ((fallR s).1) 0) (gt ((fallR s).1) 0))))).1.Num), .int .i64 ((meanR s (((evenR s x.Levels x.Shifts).1)) (((Span.mk (gt ((fallR s).1) 0) (gt ((fallR s).1) 0))))).1.Den)], blk b14 52 [v7, v9], blk b13 25 [v1, v3]] ((List.Perm.cons _ (.refl _)).trans (List.perm_middle (l₁ := [blk b209 45 [.int .i64 ((meanR s (((evenR s x.Levels x.Shifts).1)) (((Span.mk (gt ((fallR s).1) 1) (gt ((fallR s).1) 1))))).1.Num), .int .i64 ((meanR s (((evenR s x.Levels x.Shifts).1)) (((Span.mk (gt ((fallR s).1) 1) (gt ((fallR s).1) 1))))).1.Den)]]) (l₂ := [blk b188 33 [.int .i64 ((meanR s (((evenR s x.Levels x.Shifts).1)) (((Span.mk (gt ((fallR s).1) 0) (gt ((fallR s).1) 0))))).2.1.Lo), .int .i64 ((meanR s (((evenR s x.Levels x.Shifts).1)) (((Span.mk (gt ((fallR s).1) 0) (gt ((fallR s).1) 0))))).2.1.Hi)], blk b187 45 [.int .i64 ((meanR s (((evenR s x.Levels x.Shifts).1)) (((Span.mk (gt ((fallR s).1) 0) (gt ((fallR s).1) 0))))).1.Num), .int .i64 ((meanR s (((evenR s x.Levels x.Shifts).1)) (((Span.mk (gt ((fallR s).1) 0) (gt ((fallR s).1) 0))))).1.Den)], blk b14 52 [v7, v9], blk b13 25 [v1, v3]]) (a := blk b208 33 [.int .i64 ((meanR s (((evenR s x.Levels x.Shifts).1)) (((Span.mk (gt ((fallR s).1) 1) (gt ((fallR s).1) 1))))).2.1.Lo), .int .i64 ((meanR s (((evenR s x.Levels x.Shifts).1)) (((Span.mk (gt ((fallR s).1) 1) (gt ((fallR s).1) 1))))).2.1.Hi)])).symm) ?_
                          exact WK.meet (m183, b209, b208) rfl (.refl _) (.cons rfl (.cons rfl (.cons rfl (.cons rfl (.cons rfl (.cons rfl (.cons rfl .nil))))))) ⟨(Mem.le_refl _), hs193, hs194, hs195, hs196⟩
                      · rintro ⟨m201, b205, b206⟩ ⟨hle210, hs211, hs212, hs213, hs214⟩
                        show WK _ _ m201 [blk b206 33 [.int .i64 ((meanR s (((evenR s x.Levels x.Shifts).1)) (((Span.mk (gt ((fallR s).1) 1) (gt ((fallR s).1) 1))))).2.1.Lo), .int .i64 ((meanR s (((evenR s x.Levels x.Shifts).1)) (((Span.mk (gt ((fallR s).1) 1) (gt ((fallR s).1) 1))))).2.1.Hi)], blk b205 45 [.int .i64 ((meanR s (((evenR s x.Levels x.Shifts).1)) (((Span.mk (gt ((fallR s).1) 1) (gt ((fallR s).1) 1))))).1.Num), .int .i64 ((meanR s (((evenR s x.Levels x.Shifts).1)) (((Span.mk (gt ((fallR s).1) 1) (gt ((fallR s).1) 1))))).1.Den)], blk b188 33 [.int .i64 ((meanR s (((evenR s x.Levels x.Shifts).1)) (((Span.mk (gt ((fallR s).1) 0) (gt ((fallR s).1) 0))))).2.1.Lo), .int .i64 ((meanR s (((evenR s x.Levels x.Shifts).1)) (((Span.mk (gt ((fallR s).1) 0) (gt ((fallR s).1) 0))))).2.1.Hi)], blk b187 45 [.int .i64 ((meanR s (((evenR s x.Levels x.Shifts).1)) (((Span.mk (gt ((fallR s).1) 0) (gt ((fallR s).1) 0))))).1.Num), .int .i64 ((meanR s (((evenR s x.Levels x.Shifts).1)) (((Span.mk (gt ((fallR s).1) 0) (gt ((fallR s).1) 0))))).1.Den)], blk b14 52 [v7, v9], blk b13 25 [v1, v3]] [(5, .bool true), (12, v173), (13, .int .i64 ((evenR s x.Levels x.Shifts).2)), (14, .pointer (some ⟨b187, 0, none⟩)), (16, .bool (decide (0 < (meanR s (((evenR s x.Levels x.Shifts).1)) (((Span.mk (gt ((fallR s).1) 0) (gt ((fallR s).1) 0))))).1.Den))), (17, .pointer (some ⟨b205, 0, none⟩)), (19, .bool (decide (0 < (meanR s (((evenR s x.Levels x.Shifts).1)) (((Span.mk (gt ((fallR s).1) 1) (gt ((fallR s).1) 1))))).1.Den)))] _
                        replace hs2 := hs2.mono hle210
                        replace hs4 := hs4.mono hle210
                        replace hs8 := hs8.mono hle210
                        replace hs10 := hs10.mono hle210
                        replace hs22 := hs22.mono hle210
                        replace hs29 := hs29.mono hle210
                        replace hs174 := hs174.mono hle210
                        replace hp179 := hp179.mono hle210
                        replace hp181 := hp181.mono hle210
                        replace hs193 := hs193.mono hle210
                        replace hs194 := hs194.mono hle210
                        replace hs195 := hs195.mono hle210
                        replace hs196 := hs196.mono hle210
                        have hl215 := hs211.le
                        have hl216 := hs212.le
                        have hl217 := hs213.le
                        have hl218 := hs214.le
                        refine WC.seq ?_
                        refine WC.region ?_
                        refine WL.x (X.move rfl) (by decide) ?_
                        refine WL.x (X.move rfl) (by decide) ?_
                        refine WL.yes rfl rfl ?_
                        refine WL.x (X.move rfl) (by decide) ?_
                        refine WL.yes rfl rfl ?_
                        refine WL.condn (X.neq rfl rfl) (by decide) (fun h219 => ?_) (fun h219 => ?_)
                        · refine WL.yes rfl rfl ?_
                          refine WL.x (X.move rfl) (by decide) ?_
                          refine WL.no rfl rfl rfl (by decide) ?_
                          refine WL.no rfl rfl rfl (by decide) ?_
                          refine WL.noU rfl rfl (by decide) ?_
                          refine WL.no rfl rfl rfl (by decide) ?_
                          refine WL.no rfl rfl rfl (by decide) ?_
                          refine WL.noU rfl rfl (by decide) ?_
                          refine WL.noU rfl rfl (by decide) ?_
                          refine WL.noU rfl rfl (by decide) ?_
                          refine WL.noU rfl rfl (by decide) ?_
                          refine WL.noU rfl rfl (by decide) ?_
                          refine WL.no rfl rfl rfl (by decide) ?_
                          refine WL.no rfl rfl rfl (by decide) ?_
                          refine WL.noU rfl rfl (by decide) ?_
                          refine WL.noU rfl rfl (by decide) ?_
                          refine WL.noU rfl rfl (by decide) ?_
                          refine WL.no rfl rfl rfl (by decide) ?_
                          refine WL.yes rfl rfl ?_
                          refine WL.x (X.pickT rfl rfl rfl) (by decide) ?_
                          refine WL.x (X.pickT rfl rfl rfl) (by decide) ?_
                          refine WL.x (X.assign rfl) (by decide) ?_
                          refine WL.nil ?_
                          refine WK.nThen ?_
                          refine WC.ret ?_
                          refine WK.rThen ?_
                          refine WK.ret1 rfl rfl (fun w' hw' => Ret.exact hw' ?_)
                          first | rfl | (exfalso; omega) | (exfalso; contradiction) | exact (bool_true (by omega)).symm | exact (bool_true (by assumption)).symm
                        · have he := evenR_ok (s := s) (lv := x.Levels) (sh := x.Shifts) (by omega)
                          have hek := he.1
                          have hea := he.2.1
                          have her : (evenR s x.Levels x.Shifts).1 = evenL s x.Levels x.Shifts := (by rw [he.2.2])
                          have hel := evenL_len s x.Levels x.Shifts
                          have heb := evenL_bd hek hea
                          have hen := hek.nV
                          have hq := hfr.2.2 _ _ hea
                          rw [← her] at hq
                          have hq1 := hq.1
                          have hq2 := hq.2.1
                          have hq3 := hq.2.2.1
                          have hq4 := hq.2.2.2
                          refine WL.yes rfl rfl ?_
                          refine WL.x (X.move rfl) (by decide) ?_
                          refine WL.yes rfl rfl ?_
                          refine WL.x (X.move rfl) (by decide) ?_
                          refine WL.yes rfl rfl ?_
                          refine WL.cond (X.move rfl) (by decide) (fun h220 => ?_) (fun h220 => ?_)
                          · refine WL.yes rfl rfl ?_
                            refine WL.x (X.move rfl) (by decide) ?_
                            refine WL.yes rfl rfl ?_
                            refine WL.x (X.pickT rfl rfl rfl) (by decide) ?_
                            refine WL.yes rfl rfl ?_
                            refine WL.cond (X.move rfl) (by decide) (fun h221 => ?_) (fun h221 => ?_)
                            · refine WL.yes rfl rfl ?_
                              refine WL.x (X.field Try.runUnderlying45 rfl Try.sizeOf3 rfl) (by decide) ?_
                              refine WL.yes rfl rfl ?_
                              refine WL.x (X.loadB (k := 1) Try.isAgg3 rfl rfl rfl) (by decide) ?_
                              refine WL.yes rfl rfl ?_
                              refine WL.x (X.field Try.runUnderlying45 rfl Try.sizeOf3 rfl) (by decide) ?_
                              refine WL.yes rfl rfl ?_
                              refine WL.x (X.loadB (k := 3) Try.isAgg3 rfl rfl rfl) (by decide) ?_
                              refine WL.yes rfl rfl ?_
                              refine WL.cond (X.lss rfl rfl) (by decide) (fun h222 => ?_) (fun h222 => ?_)
                              · refine WL.yes rfl rfl ?_
                                refine WL.x (X.pickT rfl rfl rfl) (by decide) ?_
                                refine WL.yes rfl rfl ?_
                                refine WL.x (X.move rfl) (by decide) ?_
                                refine WL.yes rfl rfl ?_
                                refine WL.x (X.move rfl) (by decide) ?_
                                refine WL.yes rfl rfl ?_
                                refine WL.x (X.call Try.call46 rfl (rises46 _ _ _ hs174 )) (by decide) ?_
                                refine WL.yes rfl rfl ?_
                                refine WL.x (X.notp rfl) (by decide) ?_
                                refine WL.yes rfl rfl ?_
                                refine WL.x (X.pickT rfl rfl rfl) (by decide) ?_
                                refine WL.yes rfl rfl ?_
                                refine WL.x (X.pickF rfl rfl rfl) (by decide) ?_
                                refine WL.x (X.pickT rfl rfl rfl) (by decide) ?_
                                refine WL.x (X.assign rfl) (by decide) ?_
                                refine WL.nil ?_
                                refine WK.nThen ?_
                                refine WC.ret ?_
                                refine WK.rThen ?_
                                refine WK.ret1 rfl rfl (fun w' hw' => Ret.exact hw' ?_)
                                first | rfl | (exfalso; omega) | (exfalso; contradiction) | exact (bool_true (by omega)).symm | exact (bool_true (by assumption)).symm
                              · refine WL.yes rfl rfl ?_
                                refine WL.x (X.pickT rfl rfl rfl) (by decide) ?_
                                refine WL.yes rfl rfl ?_
                                refine WL.x (X.move rfl) (by decide) ?_
                                refine WL.no rfl rfl rfl (by decide) ?_
                                refine WL.no rfl rfl rfl (by decide) ?_
                                refine WL.no rfl rfl rfl (by decide) ?_
                                refine WL.yes rfl rfl ?_
                                refine WL.x (X.pickF rfl rfl rfl) (by decide) ?_
                                refine WL.yes rfl rfl ?_
                                refine WL.x (X.pickF rfl rfl rfl) (by decide) ?_
                                refine WL.x (X.pickT rfl rfl rfl) (by decide) ?_
                                refine WL.x (X.assign rfl) (by decide) ?_
                                refine WL.nil ?_
                                refine WK.nThen ?_
                                refine WC.ret ?_
                                refine WK.rThen ?_
                                refine WK.ret1 rfl rfl (fun w' hw' => Ret.exact hw' ?_)
                                first | rfl | (exfalso; omega) | (exfalso; contradiction) | exact (bool_true (by omega)).symm | exact (bool_true (by assumption)).symm
                            · refine WL.no rfl rfl rfl (by decide) ?_
                              refine WL.no rfl rfl rfl (by decide) ?_
                              refine WL.no rfl rfl rfl (by decide) ?_
                              refine WL.no rfl rfl rfl (by decide) ?_
                              refine WL.no rfl rfl rfl (by decide) ?_
                              refine WL.yes rfl rfl ?_
                              refine WL.x (X.pickF rfl rfl rfl) (by decide) ?_
                              refine WL.yes rfl rfl ?_
                              refine WL.x (X.move rfl) (by decide) ?_
                              refine WL.no rfl rfl rfl (by decide) ?_
                              refine WL.no rfl rfl rfl (by decide) ?_
                              refine WL.no rfl rfl rfl (by decide) ?_
                              refine WL.yes rfl rfl ?_
                              refine WL.x (X.pickF rfl rfl rfl) (by decide) ?_
                              refine WL.yes rfl rfl ?_
                              refine WL.x (X.pickF rfl rfl rfl) (by decide) ?_
                              refine WL.x (X.pickT rfl rfl rfl) (by decide) ?_
                              refine WL.x (X.assign rfl) (by decide) ?_
                              refine WL.nil ?_
                              refine WK.nThen ?_
                              refine WC.ret ?_
                              refine WK.rThen ?_
                              refine WK.ret1 rfl rfl (fun w' hw' => Ret.exact hw' ?_)
                              first | rfl | (exfalso; omega) | (exfalso; contradiction) | exact (bool_true (by omega)).symm | exact (bool_true (by assumption)).symm
                          · refine WL.no rfl rfl rfl (by decide) ?_
                            refine WL.yes rfl rfl ?_
                            refine WL.x (X.pickF rfl rfl rfl) (by decide) ?_
                            refine WL.yes rfl rfl ?_
                            refine WL.x (X.move rfl) (by decide) ?_
                            refine WL.no rfl rfl rfl (by decide) ?_
                            refine WL.no rfl rfl rfl (by decide) ?_
                            refine WL.no rfl rfl rfl (by decide) ?_
                            refine WL.no rfl rfl rfl (by decide) ?_
                            refine WL.no rfl rfl rfl (by decide) ?_
                            refine WL.yes rfl rfl ?_
                            refine WL.x (X.pickF rfl rfl rfl) (by decide) ?_
                            refine WL.yes rfl rfl ?_
                            refine WL.x (X.move rfl) (by decide) ?_
                            refine WL.no rfl rfl rfl (by decide) ?_
                            refine WL.no rfl rfl rfl (by decide) ?_
                            refine WL.no rfl rfl rfl (by decide) ?_
                            refine WL.yes rfl rfl ?_
                            refine WL.x (X.pickF rfl rfl rfl) (by decide) ?_
                            refine WL.yes rfl rfl ?_
                            refine WL.x (X.pickF rfl rfl rfl) (by decide) ?_
                            refine WL.x (X.pickT rfl rfl rfl) (by decide) ?_
                            refine WL.x (X.assign rfl) (by decide) ?_
                            refine WL.nil ?_
                            refine WK.nThen ?_
                            refine WC.ret ?_
                            refine WK.rThen ?_
                            refine WK.ret1 rfl rfl (fun w' hw' => Ret.exact hw' ?_)
                            first | rfl | (exfalso; omega) | (exfalso; contradiction) | exact (bool_true (by omega)).symm | exact (bool_true (by assumption)).symm
              · refine WL.nil ?_
                refine WK.nThen ?_
                refine WC.condF rfl ?_
                refine WC.skip ?_
                refine WK.nThen ?_
                refine WC.seq ?_
                refine WC.seq ?_
                have hlm := mono_least hok (by omega)
                have hlm1 := hlm.1
                have hlm2 := hlm.2.1
                refine WC.region ?_
                refine WL.x (X.move rfl) (by decide) ?_
                refine WL.x (X.len Try.runUnderlying28 rfl hs22) (by decide) ?_
                refine WL.x (X.field Try.runUnderlying25 rfl Try.sizeOf22 rfl) (by decide) ?_
                refine WL.x (X.loadB (k := 1) Try.isAgg22 rfl rfl rfl) (by decide) ?_
                refine WL.x (X.len Try.runUnderlying22 rfl hs2) (by decide) ?_
                refine WL.condn (X.neq rfl rfl) (by decide) (fun h223 => ?_) (fun h223 => ?_)
                · refine WL.x (X.move rfl) (by decide) ?_
                  refine WL.no rfl rfl rfl (by decide) ?_
                  refine WL.no rfl rfl rfl (by decide) ?_
                  refine WL.no rfl rfl rfl (by decide) ?_
                  refine WL.x (X.pickT rfl rfl rfl) (by decide) ?_
                  refine WL.nil ?_
                  refine WK.nThen ?_
                  refine WC.condT rfl ?_
                  refine WC.seq ?_
                  refine WC.region ?_
                  refine WL.x (X.assign rfl) (by decide) ?_
                  refine WL.nil ?_
                  refine WK.nThen ?_
                  refine WC.ret ?_
                  refine WK.rThen ?_
                  refine WK.ret1 rfl rfl (fun w' hw' => Ret.exact hw' ?_)
                  first | rfl | (exfalso; omega) | (exfalso; contradiction) | exact (bool_true (by omega)).symm | exact (bool_true (by assumption)).symm
                · refine WL.x (X.move rfl) (by decide) ?_
                  refine WL.yes rfl rfl ?_
                  refine WL.x (X.move rfl) (by decide) ?_
                  refine WL.yes rfl rfl ?_
                  refine WL.cond (X.call Try.call46 rfl (rises46 _ _ _ hs22 )) (by decide) (fun h224 => ?_) (fun h224 => ?_)
                  · refine WL.yes rfl rfl ?_
                    refine WL.x (X.not rfl) (by decide) ?_
                    refine WL.x (X.pickF rfl rfl rfl) (by decide) ?_
                    refine WL.nil ?_
                    refine WK.nThen ?_
                    refine WC.condF rfl ?_
                    refine WC.skip ?_
                    refine WK.nThen ?_
                    refine WC.seq ?_
                    refine WC.seq ?_
                    refine WC.region ?_
                    refine WL.x (X.assign rfl) (by decide) ?_
                    refine WL.nil ?_
                    refine WK.nThen ?_
                    refine WC.block ?_
                    refine WC.loop (G := Nat) (fun i => (evenR s x.Levels x.Shifts).1.length - i) (fun i => m169) (fun i => [blk b14 52 [v7, v9], blk b13 25 [v1, v3]]) (fun i => [(5, .bool true), (6, v21), (12, v173), (13, .int .i64 ((evenR s x.Levels x.Shifts).2)), (20, .int .i64 (↑i))]) (fun i => i ≤ (evenR s x.Levels x.Shifts).1.length) 0 rfl (.refl _) (.cons rfl (.cons rfl (.cons rfl (.cons rfl (.cons rfl .nil))))) ?_ ?_
                    · exact Nat.zero_le _
                    · rintro i hF225
                      show WK _ _ m169 [blk b14 52 [v7, v9], blk b13 25 [v1, v3]] [(5, .bool true), (6, v21), (12, v173), (13, .int .i64 ((evenR s x.Levels x.Shifts).2)), (20, .int .i64 (↑i))] _
                      replace hF225 : i ≤ (evenR s x.Levels x.Shifts).1.length := hF225
                      have hi := hF225
                      refine WC.seq ?_
                      refine WC.seq ?_
                      refine WC.region ?_
                      refine WL.x (X.move rfl) (by decide) ?_
                      refine WL.x (X.move rfl) (by decide) ?_
                      refine WL.x (X.len Try.runUnderlying28 rfl hs174) (by decide) ?_
                      refine WL.cond (X.lss rfl rfl) (by decide) (fun h226 => ?_) (fun h226 => ?_)
                      · refine WL.x (X.move rfl) (by decide) ?_
                        refine WL.yes rfl rfl ?_
                        refine WL.x (X.move rfl) (by decide) ?_
                        refine WL.yes rfl rfl ?_
                        refine WL.cond (X.eql rfl rfl) (by decide) (fun h227 => ?_) (fun h227 => ?_)
                        · refine WL.x (X.pickT rfl rfl rfl) (by decide) ?_
                          refine WL.x (X.move rfl) (by decide) ?_
                          refine WL.yes rfl rfl ?_
                          refine WL.x (X.move rfl) (by decide) ?_
                          refine WL.yes rfl rfl ?_
                          refine WL.cond (X.call Try.call46 rfl (rises46 _ _ _ hs174 )) (by decide) (fun h228 => ?_) (fun h228 => ?_)
                          · refine WL.x (X.pickT rfl rfl rfl) (by decide) ?_
                            refine WL.nil ?_
                            refine WK.nThen ?_
                            refine WC.condT rfl ?_
                            refine WC.skip ?_
                            refine WK.nThen ?_
                            refine WC.seq ?_
                            refine WC.block ?_
                            refine WC.seq ?_
                            have he := evenR_ok (s := s) (lv := x.Levels) (sh := x.Shifts) (by omega)
                            have hek := he.1
                            have hea := he.2.1
                            have her : (evenR s x.Levels x.Shifts).1 = evenL s x.Levels x.Shifts := (by rw [he.2.2])
                            have hel := evenL_len s x.Levels x.Shifts
                            have heb := evenL_bd hek hea
                            have hen := hek.nV
                            have hrl : (evenR s x.Levels x.Shifts).1.length = s.Values.length := (by rw [her]; exact hel)
                            have hrs : risesP (evenR s x.Levels x.Shifts).1 := (by assumption)
                            have hle2 := hlm.2.2 _ _ hea (by rw [← her]; exact hrs) i (by omega)
                            rw [← her] at hle2
                            refine WC.draw (π := (.cons 0 (.cons 1 (.cons 2 (.cons 3 (.cons 4 (.cons 5 (.cons 6 (.cons 7 (.cons 8 .done)))))))))) [] [] rfl (by kernel_rfl) ?_
                            refine DW.x rfl rfl (X.move rfl) (by decide) ?_
                            refine DW.x rfl rfl (X.move rfl) (by decide) ?_
                            refine DW.xe rfl rfl (E.idxN i Try.runUnderlying28 Try.sizeOf3 rfl rfl hs174 (by omega)) (by decide) (fun p229 hp230 => ?_)
                            refine DW.x rfl rfl (X.loadInt Try.isAgg3 rfl hp230) (by decide) ?_
                            refine DW.x rfl rfl (X.move rfl) (by decide) ?_
                            refine DW.x rfl rfl (X.move rfl) (by decide) ?_
                            refine DW.xe rfl rfl (E.idxN i Try.runUnderlying28 Try.sizeOf3 rfl rfl hs22 (by omega)) (by decide) (fun p231 hp232 => ?_)
                            refine DW.x rfl rfl (X.loadInt Try.isAgg3 rfl hp232) (by decide) ?_
                            refine DW.cond rfl rfl (X.lss rfl rfl) (by decide) (fun h233 => ?_) (fun h233 => ?_)
                            · refine DW.nil ?_
                              refine WK.nThen ?_
                              refine WC.condT rfl ?_
                              refine WC.seq ?_
                              refine WC.region ?_
                              refine WL.x (X.assign rfl) (by decide) ?_
                              refine WL.nil ?_
                              refine WK.nThen ?_
                              refine WC.ret ?_
                              refine WK.rBlock ?_
                              refine WK.rThen ?_
                              refine WK.rThen ?_
                              refine WK.rBlock ?_
                              refine WK.rThen ?_
                              refine WK.ret1 rfl rfl (fun w' hw' => Ret.exact hw' ?_)
                              first | rfl | (exfalso; omega) | (exfalso; contradiction) | exact (bool_true (by omega)).symm | exact (bool_true (by assumption)).symm
                            · refine DW.nil ?_
                              refine WK.nThen ?_
                              refine WC.condF rfl ?_
                              refine WC.skip ?_
                              refine WK.nBlock ?_
                              refine WK.nThen ?_
                              refine WC.region ?_
                              refine WL.x (X.move rfl) (by decide) ?_
                              refine WL.x (X.add rfl rfl (by omega) (by omega)) (by decide) ?_
                              refine WL.x (X.assign rfl) (by decide) ?_
                              refine WL.nil ?_
                              refine WK.nThen ?_
                              refine WK.next (i + 1) rfl (.refl _) (.cons rfl (.cons rfl (.cons rfl (.cons rfl (.cons rfl .nil))))) ?_ ?_
                              · omega
                              · omega
                          · refine WL.x (X.pickT rfl rfl rfl) (by decide) ?_
                            refine WL.nil ?_
                            refine WK.nThen ?_
                            refine WC.condF rfl ?_
                            refine WC.exit ?_
                            refine WK.eThen ?_
                            refine WK.eThen ?_
                            refine WK.eHit ?_
                            refine WK.nThen ?_
                            refine WC.seq ?_
                            refine WC.region ?_
                            refine WL.x (X.move rfl) (by decide) ?_
                            refine WL.x (X.assign rfl) (by decide) ?_
                            refine WL.nil ?_
                            refine WK.nThen ?_
                            refine WC.ret ?_
                            refine WK.ret1 rfl rfl (fun w' hw' => Ret.exact hw' ?_)
                            first | rfl | (exfalso; omega) | (exfalso; contradiction) | exact (bool_true (by omega)).symm | exact (bool_true (by assumption)).symm
                        · refine WL.x (X.pickT rfl rfl rfl) (by decide) ?_
                          refine WL.x (X.move rfl) (by decide) ?_
                          refine WL.no rfl rfl rfl (by decide) ?_
                          refine WL.no rfl rfl rfl (by decide) ?_
                          refine WL.x (X.pickF rfl rfl rfl) (by decide) ?_
                          refine WL.nil ?_
                          refine WK.nThen ?_
                          refine WC.condF rfl ?_
                          refine WC.exit ?_
                          refine WK.eThen ?_
                          refine WK.eThen ?_
                          refine WK.eHit ?_
                          refine WK.nThen ?_
                          refine WC.seq ?_
                          refine WC.region ?_
                          refine WL.x (X.move rfl) (by decide) ?_
                          refine WL.x (X.assign rfl) (by decide) ?_
                          refine WL.nil ?_
                          refine WK.nThen ?_
                          refine WC.ret ?_
                          refine WK.ret1 rfl rfl (fun w' hw' => Ret.exact hw' ?_)
                          first | rfl | (exfalso; omega) | (exfalso; contradiction) | exact (bool_true (by omega)).symm | exact (bool_true (by assumption)).symm
                      · refine WL.x (X.move rfl) (by decide) ?_
                        refine WL.no rfl rfl rfl (by decide) ?_
                        refine WL.no rfl rfl rfl (by decide) ?_
                        refine WL.x (X.pickF rfl rfl rfl) (by decide) ?_
                        refine WL.x (X.move rfl) (by decide) ?_
                        refine WL.no rfl rfl rfl (by decide) ?_
                        refine WL.no rfl rfl rfl (by decide) ?_
                        refine WL.x (X.pickF rfl rfl rfl) (by decide) ?_
                        refine WL.nil ?_
                        refine WK.nThen ?_
                        refine WC.condF rfl ?_
                        refine WC.exit ?_
                        refine WK.eThen ?_
                        refine WK.eThen ?_
                        refine WK.eHit ?_
                        refine WK.nThen ?_
                        refine WC.seq ?_
                        refine WC.region ?_
                        refine WL.x (X.move rfl) (by decide) ?_
                        refine WL.x (X.assign rfl) (by decide) ?_
                        refine WL.nil ?_
                        refine WK.nThen ?_
                        refine WC.ret ?_
                        refine WK.ret1 rfl rfl (fun w' hw' => Ret.exact hw' ?_)
                        first | rfl | (exfalso; omega) | (exfalso; contradiction) | exact (bool_true (by omega)).symm | exact (bool_true (by assumption)).symm
                  · refine WL.yes rfl rfl ?_
                    refine WL.x (X.not rfl) (by decide) ?_
                    refine WL.x (X.pickF rfl rfl rfl) (by decide) ?_
                    refine WL.nil ?_
                    refine WK.nThen ?_
                    refine WC.condT rfl ?_
                    refine WC.seq ?_
                    refine WC.region ?_
                    refine WL.x (X.assign rfl) (by decide) ?_
                    refine WL.nil ?_
                    refine WK.nThen ?_
                    refine WC.ret ?_
                    refine WK.rThen ?_
                    refine WK.ret1 rfl rfl (fun w' hw' => Ret.exact hw' ?_)
                    first | rfl | (exfalso; omega) | (exfalso; contradiction) | exact (bool_true (by omega)).symm | exact (bool_true (by assumption)).symm
          · refine WL.yes rfl rfl ?_
            refine WL.x (X.move rfl) (by decide) ?_
            refine WL.no rfl rfl rfl (by decide) ?_
            refine WL.no rfl rfl rfl (by decide) ?_
            refine WL.yes rfl rfl ?_
            refine WL.x (X.pickF rfl rfl rfl) (by decide) ?_
            refine WL.x (X.pickF rfl rfl rfl) (by decide) ?_
            refine WL.nil ?_
            refine WK.nThen ?_
            refine WC.condF rfl ?_
            refine WC.skip ?_
            refine WK.nThen ?_
            refine WC.seq ?_
            refine WC.region ?_
            refine WL.x (X.loadBA (k := 1) Try.isAgg25 Try.sizeOf25 rfl rfl rfl) (by decide) ?_
            refine WL.x (X.field Try.runUnderlying52 rfl Try.sizeOf28 rfl) (by decide) ?_
            refine WL.x (X.loadB (k := 0) Try.isAgg28 rfl rfl rfl) (by decide) ?_
            refine WL.x (X.field Try.runUnderlying52 rfl Try.sizeOf28 rfl) (by decide) ?_
            refine WL.x (X.loadB (k := 0) Try.isAgg28 rfl rfl rfl) (by decide) ?_
            refine WL.tm (T.call Try.call39 rfl (even39 _ _ s ⟨_, _, rfl, hs2, hs4⟩ _ _ hs8 _ _ hs10 )) (by decide) fun m234 r235 hle236 hR237 => ?_
            obtain ⟨v238, rfl, hs239⟩ := hR237
            replace hs2 := hs2.mono hle236
            replace hs4 := hs4.mono hle236
            replace hs8 := hs8.mono hle236
            replace hs10 := hs10.mono hle236
            replace hs22 := hs22.mono hle236
            replace hs29 := hs29.mono hle236
            have hl240 := hs239.le
            refine WL.x (X.move rfl) (by decide) ?_
            refine WL.x (X.extract rfl rfl) (by decide) ?_
            refine WL.x (X.extract rfl rfl) (by decide) ?_
            refine WL.x (X.assign rfl) (by decide) ?_
            refine WL.x (X.assign rfl) (by decide) ?_
            refine WL.nil ?_
            refine WK.nThen ?_
            refine WC.seq ?_
            refine WC.seq ?_
            refine WC.region ?_
            refine WL.x (X.move rfl) (by decide) ?_
            refine WL.cond (X.eql rfl rfl) (by decide) (fun h241 => ?_) (fun h241 => ?_)
            · refine WL.nil ?_
              refine WK.nThen ?_
              refine WC.condT rfl ?_
              refine WC.seq ?_
              refine WC.seq ?_
              have hfr := fall_real hok (by omega)
              have hf2 := hfr.1
              have hf3 := hfr.2.1
              refine WC.draw (π := (.cons 0 (.cons 1 (.cons 2 (.cons 3 (.cons 4 (.cons 5 (.cons 6 (.cons 7 (.cons 8 (.cons 9 (.cons 10 (.cons 11 .done))))))))))))) [] [] rfl (by kernel_rfl) ?_
              refine DW.x rfl rfl (X.move rfl) (by decide) ?_
              refine DW.x rfl rfl (X.len Try.runUnderlying28 rfl hs29) (by decide) ?_
              refine DW.condn rfl rfl (X.neq rfl rfl) (by decide) (fun h242 => ?_) (fun h242 => ?_)
              · refine DW.x rfl rfl (X.move rfl) (by decide) ?_
                refine DW.no rfl rfl (by decide) ?_
                refine DW.no rfl rfl (by decide) ?_
                refine DW.no rfl rfl (by decide) ?_
                refine DW.no rfl rfl (by decide) ?_
                refine DW.no rfl rfl (by decide) ?_
                refine DW.no rfl rfl (by decide) ?_
                refine DW.no rfl rfl (by decide) ?_
                refine DW.x rfl rfl (X.pickT rfl rfl rfl) (by decide) ?_
                refine DW.nil ?_
                refine WK.nThen ?_
                refine WC.condT rfl ?_
                refine WC.seq ?_
                refine WC.region ?_
                refine WL.x (X.assign rfl) (by decide) ?_
                refine WL.nil ?_
                refine WK.nThen ?_
                refine WC.ret ?_
                refine WK.rThen ?_
                refine WK.rThen ?_
                refine WK.ret1 rfl rfl (fun w' hw' => Ret.exact hw' ?_)
                first | rfl | (exfalso; omega) | (exfalso; contradiction) | exact (bool_true (by omega)).symm | exact (bool_true (by assumption)).symm
              · refine DW.x rfl rfl (X.move rfl) (by decide) ?_
                refine DW.x rfl rfl (X.move rfl) (by decide) ?_
                refine DW.xe rfl rfl (E.idxN 0 Try.runUnderlying28 Try.sizeOf3 rfl rfl hs29 (by omega)) (by decide) (fun p243 hp244 => ?_)
                refine DW.x rfl rfl (X.loadInt Try.isAgg3 rfl hp244) (by decide) ?_
                refine DW.x rfl rfl (X.move rfl) (by decide) ?_
                refine DW.xe rfl rfl (E.idxN 1 Try.runUnderlying28 Try.sizeOf3 rfl rfl hs29 (by omega)) (by decide) (fun p245 hp246 => ?_)
                refine DW.x rfl rfl (X.loadInt Try.isAgg3 rfl hp246) (by decide) ?_
                refine DW.cond rfl rfl (X.geq rfl rfl) (by decide) (fun h247 => ?_) (fun h247 => ?_)
                · refine DW.x rfl rfl (X.pickF rfl rfl rfl) (by decide) ?_
                  refine DW.nil ?_
                  refine WK.nThen ?_
                  refine WC.condT rfl ?_
                  refine WC.seq ?_
                  refine WC.region ?_
                  refine WL.x (X.assign rfl) (by decide) ?_
                  refine WL.nil ?_
                  refine WK.nThen ?_
                  refine WC.ret ?_
                  refine WK.rThen ?_
                  refine WK.rThen ?_
                  refine WK.ret1 rfl rfl (fun w' hw' => Ret.exact hw' ?_)
                  first | rfl | (exfalso; omega) | (exfalso; contradiction) | exact (bool_true (by omega)).symm | exact (bool_true (by assumption)).symm
                · refine DW.x rfl rfl (X.pickF rfl rfl rfl) (by decide) ?_
                  refine DW.nil ?_
                  refine WK.nThen ?_
                  refine WC.condF rfl ?_
                  refine WC.skip ?_
                  refine WK.nThen ?_
                  have hml : (evenR s x.Levels x.Shifts).1.length ≤ 1000 ∧ ∀ i, i < (evenR s x.Levels x.Shifts).1.length → -1000000 ≤ gt (evenR s x.Levels x.Shifts).1 i ∧ gt (evenR s x.Levels x.Shifts).1 i ≤ 1000000 := even_small s x.Levels x.Shifts
                  have hml1 := hml.1
                  have hml2 := hml.2
                  refine WC.cut (G := Mem × Nat × Nat) (fun (m248, b252, b253) => m248) (fun (m248, b252, b253) => [blk b253 33 [.int .i64 ((meanR s (((evenR s x.Levels x.Shifts).1)) (((Span.mk (gt ((fallR s).1) 0) (gt ((fallR s).1) 0))))).2.1.Lo), .int .i64 ((meanR s (((evenR s x.Levels x.Shifts).1)) (((Span.mk (gt ((fallR s).1) 0) (gt ((fallR s).1) 0))))).2.1.Hi)], blk b252 45 [.int .i64 ((meanR s (((evenR s x.Levels x.Shifts).1)) (((Span.mk (gt ((fallR s).1) 0) (gt ((fallR s).1) 0))))).1.Num), .int .i64 ((meanR s (((evenR s x.Levels x.Shifts).1)) (((Span.mk (gt ((fallR s).1) 0) (gt ((fallR s).1) 0))))).1.Den)], blk b14 52 [v7, v9], blk b13 25 [v1, v3]]) (fun (m248, b252, b253) => [(2, .pointer (some ⟨b13, 0, none⟩)), (5, .bool true), (8, v28), (12, v238), (13, .int .i64 ((evenR s x.Levels x.Shifts).2)), (14, .pointer (some ⟨b252, 0, none⟩)), (16, .bool (decide (0 < (meanR s (((evenR s x.Levels x.Shifts).1)) (((Span.mk (gt ((fallR s).1) 0) (gt ((fallR s).1) 0))))).1.Den)))]) (fun (m248, b252, b253) => m234.le m248 ∧ Sl (α := Int) m248 v7 x.Levels ∧ Sl (α := Int) m248 v9 x.Shifts ∧ Sl (α := Val) m248 v1 s.Values ∧ Sl (α := Shf) m248 v3 s.Shifts) ?_ ?_
                  · refine WC.draw (π := (.cons 0 (.cons 1 (.cons 2 (.cons 3 (.cons 4 (.cons 5 (.cons 6 (.cons 7 (.cons 8 (.cons 9 (.cons 10 (.cons 11 (.cons 12 (.cons 13 (.fork (.cons 14 (.cons 15 (.cons 16 (.cons 17 (.cons 18 .done))))) (.cons 15 (.cons 14 (.cons 16 (.cons 17 (.cons 18 .done))))))))))))))))))))) [14, 15, 16, 17] [16, 17] rfl (by kernel_rfl) ?_
                    refine DW.x rfl rfl (X.loadBA (k := 1) Try.isAgg25 Try.sizeOf25 rfl rfl rfl) (by decide) ?_
                    refine DW.x rfl rfl (X.move rfl) (by decide) ?_
                    refine DW.x rfl rfl (X.move rfl) (by decide) ?_
                    refine DW.xe rfl rfl (E.idxN 0 Try.runUnderlying28 Try.sizeOf3 rfl rfl hs29 (by omega)) (by decide) (fun p249 hp250 => ?_)
                    refine DW.x rfl rfl (X.loadInt Try.isAgg3 rfl hp250) (by decide) ?_
                    refine DW.x rfl rfl (X.move rfl) (by decide) ?_
                    refine DW.xe rfl rfl (E.idxN 0 Try.runUnderlying28 Try.sizeOf3 rfl rfl hs29 (by omega)) (by decide) (fun p251 hp252 => ?_)
                    refine DW.x rfl rfl (X.loadInt Try.isAgg3 rfl hp252) (by decide) ?_
                    refine DW.x (V := Value.agg [.int .i64 (gt ((fallR s).1) 0), .int .i64 (gt ((fallR s).1) 0)].toArray) rfl rfl (X.build Try.zeroValue33 Try.runUnderlying33 (places33 _ Try.underlying33) rfl rfl) (by decide) ?_
                    refine DW.x rfl rfl (X.call Try.call40 rfl (mean40 _ _ s ⟨_, _, rfl, hs2, hs4⟩ _ _ hs239 _ ((Span.mk (gt ((fallR s).1) 0) (gt ((fallR s).1) 0))) rfl (by omega) (by assumption))) (by decide) ?_
                    refine DW.x rfl rfl (X.move rfl) (by decide) ?_
                    refine DW.x rfl rfl (X.extract rfl rfl) (by decide) ?_
                    refine DW.x rfl rfl (X.extract rfl rfl) (by decide) ?_
                    refine DW.x rfl rfl (X.extract rfl rfl) (by decide) ?_
                    refine DW.fork (List.cons_ne_nil _ _) ?_ ?_
                    · refine DW.tn rfl rfl rfl (T.alloc Try.zeroValue45 rfl) (by decide) fun b253 => ?_
                      refine DW.tn rfl rfl rfl (T.alloc Try.zeroValue33 rfl) (by decide) fun b254 => ?_
                      refine DW.ts rfl rfl rfl rfl (T.storeBA (k := 1) Try.sizeOf45 rfl rfl rfl (one_cons rfl (one_cons rfl one_nil)) rfl rfl) ?_
                      refine DW.ts rfl rfl rfl rfl (T.storeBA (k := 0) Try.sizeOf33 rfl rfl rfl (one_cons rfl (one_cons rfl one_nil)) rfl rfl) ?_
                      refine DW.x rfl rfl (X.assign rfl) (by decide) ?_
                      refine DW.nil ?_
                      refine WK.nThen ?_
                      exact WK.meet (m234, b253, b254) rfl (.refl _) (.cons rfl (.cons rfl (.cons rfl (.cons rfl (.cons rfl (.cons rfl (.cons rfl .nil))))))) ⟨(Mem.le_refl _), hs8, hs10, hs2, hs4⟩
                    · refine DW.tn rfl rfl rfl (T.alloc Try.zeroValue33 rfl) (by decide) fun b255 => ?_
                      refine DW.tn rfl rfl rfl (T.alloc Try.zeroValue45 rfl) (by decide) fun b256 => ?_
                      refine DW.ts rfl rfl rfl rfl (T.storeBA (k := 0) Try.sizeOf45 rfl rfl rfl (one_cons rfl (one_cons rfl one_nil)) rfl rfl) ?_
                      refine DW.ts rfl rfl rfl rfl (T.storeBA (k := 1) Try.sizeOf33 rfl rfl rfl (one_cons rfl (one_cons rfl one_nil)) rfl rfl) ?_
                      refine DW.x rfl rfl (X.assign rfl) (by decide) ?_
                      refine DW.nil ?_
                      refine WK.nThen ?_
                      refine WK.perm [blk b255 33 [.int .i64 ((meanR s (((evenR s x.Levels x.Shifts).1)) (((Span.mk (gt ((fallR s).1) 0) (gt ((fallR s).1) 0))))).2.1.Lo), .int .i64 ((meanR s (((evenR s x.Levels x.Shifts).1)) (((Span.mk (gt ((fallR s).1) 0) (gt ((fallR s).1) 0))))).2.1.Hi)], blk b256 45 [.int .i64 ((meanR s (((evenR s x.Levels x.Shifts).1)) (((Span.mk (gt ((fallR s).1) 0) (gt ((fallR s).1) 0))))).1.Num), .int .i64 ((meanR s (((evenR s x.Levels x.Shifts).1)) (((Span.mk (gt ((fallR s).1) 0) (gt ((fallR s).1) 0))))).1.Den)], blk b14 52 [v7, v9], blk b13 25 [v1, v3]] ((List.Perm.cons _ (.refl _)).trans (List.perm_middle (l₁ := [blk b256 45 [.int .i64 ((meanR s (((evenR s x.Levels x.Shifts).1)) (((Span.mk (gt ((fallR s).1) 0) (gt ((fallR s).1) 0))))).1.Num), .int .i64 ((meanR s (((evenR s x.Levels x.Shifts).1)) (((Span.mk (gt ((fallR s).1) 0) (gt ((fallR s).1) 0))))).1.Den)]]) (l₂ := [blk b14 52 [v7, v9], blk b13 25 [v1, v3]]) (a := blk b255 33 [.int .i64 ((meanR s (((evenR s x.Levels x.Shifts).1)) (((Span.mk (gt ((fallR s).1) 0) (gt ((fallR s).1) 0))))).2.1.Lo), .int .i64 ((meanR s (((evenR s x.Levels x.Shifts).1)) (((Span.mk (gt ((fallR s).1) 0) (gt ((fallR s).1) 0))))).2.1.Hi)])).symm) ?_
                      exact WK.meet (m234, b256, b255) rfl (.refl _) (.cons rfl (.cons rfl (.cons rfl (.cons rfl (.cons rfl (.cons rfl (.cons rfl .nil))))))) ⟨(Mem.le_refl _), hs8, hs10, hs2, hs4⟩
                  · rintro ⟨m248, b252, b253⟩ ⟨hle257, hs258, hs259, hs260, hs261⟩
                    show WK _ _ m248 [blk b253 33 [.int .i64 ((meanR s (((evenR s x.Levels x.Shifts).1)) (((Span.mk (gt ((fallR s).1) 0) (gt ((fallR s).1) 0))))).2.1.Lo), .int .i64 ((meanR s (((evenR s x.Levels x.Shifts).1)) (((Span.mk (gt ((fallR s).1) 0) (gt ((fallR s).1) 0))))).2.1.Hi)], blk b252 45 [.int .i64 ((meanR s (((evenR s x.Levels x.Shifts).1)) (((Span.mk (gt ((fallR s).1) 0) (gt ((fallR s).1) 0))))).1.Num), .int .i64 ((meanR s (((evenR s x.Levels x.Shifts).1)) (((Span.mk (gt ((fallR s).1) 0) (gt ((fallR s).1) 0))))).1.Den)], blk b14 52 [v7, v9], blk b13 25 [v1, v3]] [(2, .pointer (some ⟨b13, 0, none⟩)), (5, .bool true), (8, v28), (12, v238), (13, .int .i64 ((evenR s x.Levels x.Shifts).2)), (14, .pointer (some ⟨b252, 0, none⟩)), (16, .bool (decide (0 < (meanR s (((evenR s x.Levels x.Shifts).1)) (((Span.mk (gt ((fallR s).1) 0) (gt ((fallR s).1) 0))))).1.Den)))] _
                    replace hs2 := hs2.mono hle257
                    replace hs4 := hs4.mono hle257
                    replace hs8 := hs8.mono hle257
                    replace hs10 := hs10.mono hle257
                    replace hs22 := hs22.mono hle257
                    replace hs29 := hs29.mono hle257
                    replace hs239 := hs239.mono hle257
                    replace hp244 := hp244.mono hle257
                    replace hp246 := hp246.mono hle257
                    have hl262 := hs258.le
                    have hl263 := hs259.le
                    have hl264 := hs260.le
                    have hl265 := hs261.le
                    refine WC.cut (G := Mem × Nat × Nat) (fun (m266, b270, b271) => m266) (fun (m266, b270, b271) => [blk b271 33 [.int .i64 ((meanR s (((evenR s x.Levels x.Shifts).1)) (((Span.mk (gt ((fallR s).1) 1) (gt ((fallR s).1) 1))))).2.1.Lo), .int .i64 ((meanR s (((evenR s x.Levels x.Shifts).1)) (((Span.mk (gt ((fallR s).1) 1) (gt ((fallR s).1) 1))))).2.1.Hi)], blk b270 45 [.int .i64 ((meanR s (((evenR s x.Levels x.Shifts).1)) (((Span.mk (gt ((fallR s).1) 1) (gt ((fallR s).1) 1))))).1.Num), .int .i64 ((meanR s (((evenR s x.Levels x.Shifts).1)) (((Span.mk (gt ((fallR s).1) 1) (gt ((fallR s).1) 1))))).1.Den)], blk b253 33 [.int .i64 ((meanR s (((evenR s x.Levels x.Shifts).1)) (((Span.mk (gt ((fallR s).1) 0) (gt ((fallR s).1) 0))))).2.1.Lo), .int .i64 ((meanR s (((evenR s x.Levels x.Shifts).1)) (((Span.mk (gt ((fallR s).1) 0) (gt ((fallR s).1) 0))))).2.1.Hi)], blk b252 45 [.int .i64 ((meanR s (((evenR s x.Levels x.Shifts).1)) (((Span.mk (gt ((fallR s).1) 0) (gt ((fallR s).1) 0))))).1.Num), .int .i64 ((meanR s (((evenR s x.Levels x.Shifts).1)) (((Span.mk (gt ((fallR s).1) 0) (gt ((fallR s).1) 0))))).1.Den)], blk b14 52 [v7, v9], blk b13 25 [v1, v3]]) (fun (m266, b270, b271) => [(5, .bool true), (12, v238), (13, .int .i64 ((evenR s x.Levels x.Shifts).2)), (14, .pointer (some ⟨b252, 0, none⟩)), (16, .bool (decide (0 < (meanR s (((evenR s x.Levels x.Shifts).1)) (((Span.mk (gt ((fallR s).1) 0) (gt ((fallR s).1) 0))))).1.Den))), (17, .pointer (some ⟨b270, 0, none⟩)), (19, .bool (decide (0 < (meanR s (((evenR s x.Levels x.Shifts).1)) (((Span.mk (gt ((fallR s).1) 1) (gt ((fallR s).1) 1))))).1.Den)))]) (fun (m266, b270, b271) => m248.le m266 ∧ Sl (α := Int) m266 v7 x.Levels ∧ Sl (α := Int) m266 v9 x.Shifts ∧ Sl (α := Val) m266 v1 s.Values ∧ Sl (α := Shf) m266 v3 s.Shifts) ?_ ?_
                    · refine WC.draw (π := (.cons 0 (.cons 1 (.cons 2 (.cons 3 (.cons 4 (.cons 5 (.cons 6 (.cons 7 (.cons 8 (.cons 9 (.cons 10 (.cons 11 (.cons 12 (.cons 13 (.fork (.cons 14 (.cons 15 (.cons 16 (.cons 17 (.cons 18 .done))))) (.cons 15 (.cons 14 (.cons 16 (.cons 17 (.cons 18 .done))))))))))))))))))))) [14, 15, 16, 17] [16, 17] rfl (by kernel_rfl) ?_
                      refine DW.x rfl rfl (X.loadBA (k := 3) Try.isAgg25 Try.sizeOf25 rfl rfl rfl) (by decide) ?_
                      refine DW.x rfl rfl (X.move rfl) (by decide) ?_
                      refine DW.x rfl rfl (X.move rfl) (by decide) ?_
                      refine DW.xe rfl rfl (E.idxN 1 Try.runUnderlying28 Try.sizeOf3 rfl rfl hs29 (by omega)) (by decide) (fun p267 hp268 => ?_)
                      refine DW.x rfl rfl (X.loadInt Try.isAgg3 rfl hp268) (by decide) ?_
                      refine DW.x rfl rfl (X.move rfl) (by decide) ?_
                      refine DW.xe rfl rfl (E.idxN 1 Try.runUnderlying28 Try.sizeOf3 rfl rfl hs29 (by omega)) (by decide) (fun p269 hp270 => ?_)
                      refine DW.x rfl rfl (X.loadInt Try.isAgg3 rfl hp270) (by decide) ?_
                      refine DW.x (V := Value.agg [.int .i64 (gt ((fallR s).1) 1), .int .i64 (gt ((fallR s).1) 1)].toArray) rfl rfl (X.build Try.zeroValue33 Try.runUnderlying33 (places33 _ Try.underlying33) rfl rfl) (by decide) ?_
                      refine DW.x rfl rfl (X.call Try.call40 rfl (mean40 _ _ s ⟨_, _, rfl, hs260, hs261⟩ _ _ hs239 _ ((Span.mk (gt ((fallR s).1) 1) (gt ((fallR s).1) 1))) rfl (by omega) (by assumption))) (by decide) ?_
                      refine DW.x rfl rfl (X.move rfl) (by decide) ?_
                      refine DW.x rfl rfl (X.extract rfl rfl) (by decide) ?_
                      refine DW.x rfl rfl (X.extract rfl rfl) (by decide) ?_
                      refine DW.x rfl rfl (X.extract rfl rfl) (by decide) ?_
                      refine DW.fork (List.cons_ne_nil _ _) ?_ ?_
                      · refine DW.tn rfl rfl rfl (T.alloc Try.zeroValue45 rfl) (by decide) fun b271 => ?_
                        refine DW.tn rfl rfl rfl (T.alloc Try.zeroValue33 rfl) (by decide) fun b272 => ?_
                        refine DW.ts rfl rfl rfl rfl (T.storeBA (k := 1) Try.sizeOf45 rfl rfl rfl (one_cons rfl (one_cons rfl one_nil)) rfl rfl) ?_
                        refine DW.ts rfl rfl rfl rfl (T.storeBA (k := 0) Try.sizeOf33 rfl rfl rfl (one_cons rfl (one_cons rfl one_nil)) rfl rfl) ?_
                        refine DW.x rfl rfl (X.assign rfl) (by decide) ?_
                        refine DW.nil ?_
                        refine WK.nThen ?_
                        exact WK.meet (m248, b271, b272) rfl (.refl _) (.cons rfl (.cons rfl (.cons rfl (.cons rfl (.cons rfl (.cons rfl (.cons rfl .nil))))))) ⟨(Mem.le_refl _), hs258, hs259, hs260, hs261⟩
                      · refine DW.tn rfl rfl rfl (T.alloc Try.zeroValue33 rfl) (by decide) fun b273 => ?_
                        refine DW.tn rfl rfl rfl (T.alloc Try.zeroValue45 rfl) (by decide) fun b274 => ?_
                        refine DW.ts rfl rfl rfl rfl (T.storeBA (k := 0) Try.sizeOf45 rfl rfl rfl (one_cons rfl (one_cons rfl one_nil)) rfl rfl) ?_
                        refine DW.ts rfl rfl rfl rfl (T.storeBA (k := 1) Try.sizeOf33 rfl rfl rfl (one_cons rfl (one_cons rfl one_nil)) rfl rfl) ?_
                        refine DW.x rfl rfl (X.assign rfl) (by decide) ?_
                        refine DW.nil ?_
                        refine WK.nThen ?_
                        refine WK.perm [blk b273 33 [.int .i64 ((meanR s (((evenR s x.Levels x.Shifts).1)) (((Span.mk (gt ((fallR s).1) 1) (gt ((fallR s).1) 1))))).2.1.Lo), .int .i64 ((meanR s (((evenR s x.Levels x.Shifts).1)) (((Span.mk (gt ((fallR s).1) 1) (gt ((fallR s).1) 1))))).2.1.Hi)], blk b274 45 [.int .i64 ((meanR s (((evenR s x.Levels x.Shifts).1)) (((Span.mk (gt ((fallR s).1) 1) (gt ((fallR s).1) 1))))).1.Num), .int .i64 ((meanR s (((evenR s x.Levels x.Shifts).1)) (((Span.mk (gt ((fallR s).1) 1) (gt ((fallR s).1) 1))))).1.Den)], blk b253 33 [.int .i64 ((meanR s (((evenR s x.Levels x.Shifts).1)) (((Span.mk (gt ((fallR s).1) 0) (gt ((fallR s).1) 0))))).2.1.Lo), .int .i64 ((meanR s (((evenR s x.Levels x.Shifts).1)) (((Span.mk (gt ((fallR s).1) 0) (gt ((fallR s).1) 0))))).2.1.Hi)], blk b252 45 [.int .i64 ((meanR s (((evenR s x.Levels x.Shifts).1)) (((Span.mk (gt ((fallR s).1) 0) (gt ((fallR s).1) 0))))).1.Num), .int .i64 ((meanR s (((evenR s x.Levels x.Shifts).1)) (((Span.mk (gt ((fallR s).1) 0) (gt ((fallR s).1) 0))))).1.Den)], blk b14 52 [v7, v9], blk b13 25 [v1, v3]] ((List.Perm.cons _ (.refl _)).trans (List.perm_middle (l₁ := [blk b274 45 [.int .i64 ((meanR s (((evenR s x.Levels x.Shifts).1)) (((Span.mk (gt ((fallR s).1) 1) (gt ((fallR s).1) 1))))).1.Num), .int .i64 ((meanR s (((evenR s x.Levels x.Shifts).1)) (((Span.mk (gt ((fallR s).1) 1) (gt ((fallR s).1) 1))))).1.Den)]]) (l₂ := [blk b253 33 [.int .i64 ((meanR s (((evenR s x.Levels x.Shifts).1)) (((Span.mk (gt ((fallR s).1) 0) (gt ((fallR s).1) 0))))).2.1.Lo), .int .i64 ((meanR s (((evenR s x.Levels x.Shifts).1)) (((Span.mk (gt ((fallR s).1) 0) (gt ((fallR s).1) 0))))).2.1.Hi)], blk b252 45 [.int .i64 ((meanR s (((evenR s x.Levels x.Shifts).1)) (((Span.mk (gt ((fallR s).1) 0) (gt ((fallR s).1) 0))))).1.Num), .int .i64 ((meanR s (((evenR s x.Levels x.Shifts).1)) (((Span.mk (gt ((fallR s).1) 0) (gt ((fallR s).1) 0))))).1.Den)], blk b14 52 [v7, v9], blk b13 25 [v1, v3]]) (a := blk b273 33 [.int .i64 ((meanR s (((evenR s x.Levels x.Shifts).1)) (((Span.mk (gt ((fallR s).1) 1) (gt ((fallR s).1) 1))))).2.1.Lo), .int .i64 ((meanR s (((evenR s x.Levels x.Shifts).1)) (((Span.mk (gt ((fallR s).1) 1) (gt ((fallR s).1) 1))))).2.1.Hi)])).symm) ?_
                        exact WK.meet (m248, b274, b273) rfl (.refl _) (.cons rfl (.cons rfl (.cons rfl (.cons rfl (.cons rfl (.cons rfl (.cons rfl .nil))))))) ⟨(Mem.le_refl _), hs258, hs259, hs260, hs261⟩
                    · rintro ⟨m266, b270, b271⟩ ⟨hle275, hs276, hs277, hs278, hs279⟩
                      show WK _ _ m266 [blk b271 33 [.int .i64 ((meanR s (((evenR s x.Levels x.Shifts).1)) (((Span.mk (gt ((fallR s).1) 1) (gt ((fallR s).1) 1))))).2.1.Lo), .int .i64 ((meanR s (((evenR s x.Levels x.Shifts).1)) (((Span.mk (gt ((fallR s).1) 1) (gt ((fallR s).1) 1))))).2.1.Hi)], blk b270 45 [.int .i64 ((meanR s (((evenR s x.Levels x.Shifts).1)) (((Span.mk (gt ((fallR s).1) 1) (gt ((fallR s).1) 1))))).1.Num), .int .i64 ((meanR s (((evenR s x.Levels x.Shifts).1)) (((Span.mk (gt ((fallR s).1) 1) (gt ((fallR s).1) 1))))).1.Den)], blk b253 33 [.int .i64 ((meanR s (((evenR s x.Levels x.Shifts).1)) (((Span.mk (gt ((fallR s).1) 0) (gt ((fallR s).1) 0))))).2.1.Lo), .int .i64 ((meanR s (((evenR s x.Levels x.Shifts).1)) (((Span.mk (gt ((fallR s).1) 0) (gt ((fallR s).1) 0))))).2.1.Hi)], blk b252 45 [.int .i64 ((meanR s (((evenR s x.Levels x.Shifts).1)) (((Span.mk (gt ((fallR s).1) 0) (gt ((fallR s).1) 0))))).1.Num), .int .i64 ((meanR s (((evenR s x.Levels x.Shifts).1)) (((Span.mk (gt ((fallR s).1) 0) (gt ((fallR s).1) 0))))).1.Den)], blk b14 52 [v7, v9], blk b13 25 [v1, v3]] [(5, .bool true), (12, v238), (13, .int .i64 ((evenR s x.Levels x.Shifts).2)), (14, .pointer (some ⟨b252, 0, none⟩)), (16, .bool (decide (0 < (meanR s (((evenR s x.Levels x.Shifts).1)) (((Span.mk (gt ((fallR s).1) 0) (gt ((fallR s).1) 0))))).1.Den))), (17, .pointer (some ⟨b270, 0, none⟩)), (19, .bool (decide (0 < (meanR s (((evenR s x.Levels x.Shifts).1)) (((Span.mk (gt ((fallR s).1) 1) (gt ((fallR s).1) 1))))).1.Den)))] _
                      replace hs2 := hs2.mono hle275
                      replace hs4 := hs4.mono hle275
                      replace hs8 := hs8.mono hle275
                      replace hs10 := hs10.mono hle275
                      replace hs22 := hs22.mono hle275
                      replace hs29 := hs29.mono hle275
                      replace hs239 := hs239.mono hle275
                      replace hp244 := hp244.mono hle275
                      replace hp246 := hp246.mono hle275
                      replace hs258 := hs258.mono hle275
                      replace hs259 := hs259.mono hle275
                      replace hs260 := hs260.mono hle275
                      replace hs261 := hs261.mono hle275
                      have hl280 := hs276.le
                      have hl281 := hs277.le
                      have hl282 := hs278.le
                      have hl283 := hs279.le
                      refine WC.seq ?_
                      refine WC.region ?_
                      refine WL.x (X.move rfl) (by decide) ?_
                      refine WL.x (X.move rfl) (by decide) ?_
                      refine WL.yes rfl rfl ?_
                      refine WL.x (X.move rfl) (by decide) ?_
                      refine WL.yes rfl rfl ?_
                      refine WL.condn (X.neq rfl rfl) (by decide) (fun h284 => ?_) (fun h284 => ?_)
                      · refine WL.yes rfl rfl ?_
                        refine WL.x (X.move rfl) (by decide) ?_
                        refine WL.no rfl rfl rfl (by decide) ?_
                        refine WL.no rfl rfl rfl (by decide) ?_
                        refine WL.noU rfl rfl (by decide) ?_
                        refine WL.no rfl rfl rfl (by decide) ?_
                        refine WL.no rfl rfl rfl (by decide) ?_
                        refine WL.noU rfl rfl (by decide) ?_
                        refine WL.noU rfl rfl (by decide) ?_
                        refine WL.noU rfl rfl (by decide) ?_
                        refine WL.noU rfl rfl (by decide) ?_
                        refine WL.noU rfl rfl (by decide) ?_
                        refine WL.no rfl rfl rfl (by decide) ?_
                        refine WL.no rfl rfl rfl (by decide) ?_
                        refine WL.noU rfl rfl (by decide) ?_
                        refine WL.noU rfl rfl (by decide) ?_
                        refine WL.noU rfl rfl (by decide) ?_
                        refine WL.no rfl rfl rfl (by decide) ?_
                        refine WL.yes rfl rfl ?_
                        refine WL.x (X.pickT rfl rfl rfl) (by decide) ?_
                        refine WL.x (X.pickT rfl rfl rfl) (by decide) ?_
                        refine WL.x (X.assign rfl) (by decide) ?_
                        refine WL.nil ?_
                        refine WK.nThen ?_
                        refine WC.ret ?_
                        refine WK.rThen ?_
                        refine WK.ret1 rfl rfl (fun w' hw' => Ret.exact hw' ?_)
                        first | rfl | (exfalso; omega) | (exfalso; contradiction) | exact (bool_true (by omega)).symm | exact (bool_true (by assumption)).symm
                      · have he := evenR_ok (s := s) (lv := x.Levels) (sh := x.Shifts) (by omega)
                        have hek := he.1
                        have hea := he.2.1
                        have her : (evenR s x.Levels x.Shifts).1 = evenL s x.Levels x.Shifts := (by rw [he.2.2])
                        have hel := evenL_len s x.Levels x.Shifts
                        have heb := evenL_bd hek hea
                        have hen := hek.nV
                        have hq := hfr.2.2 _ _ hea
                        rw [← her] at hq
                        have hq1 := hq.1
                        have hq2 := hq.2.1
                        have hq3 := hq.2.2.1
                        have hq4 := hq.2.2.2
                        refine WL.yes rfl rfl ?_
                        refine WL.x (X.move rfl) (by decide) ?_
                        refine WL.yes rfl rfl ?_
                        refine WL.x (X.move rfl) (by decide) ?_
                        refine WL.yes rfl rfl ?_
                        refine WL.cond (X.move rfl) (by decide) (fun h285 => ?_) (fun h285 => ?_)
                        · refine WL.yes rfl rfl ?_
                          refine WL.x (X.move rfl) (by decide) ?_
                          refine WL.yes rfl rfl ?_
                          refine WL.x (X.pickT rfl rfl rfl) (by decide) ?_
                          refine WL.yes rfl rfl ?_
                          refine WL.cond (X.move rfl) (by decide) (fun h286 => ?_) (fun h286 => ?_)
                          · refine WL.yes rfl rfl ?_
                            refine WL.x (X.field Try.runUnderlying45 rfl Try.sizeOf3 rfl) (by decide) ?_
                            refine WL.yes rfl rfl ?_
                            refine WL.x (X.loadB (k := 1) Try.isAgg3 rfl rfl rfl) (by decide) ?_
                            refine WL.yes rfl rfl ?_
                            refine WL.x (X.field Try.runUnderlying45 rfl Try.sizeOf3 rfl) (by decide) ?_
                            refine WL.yes rfl rfl ?_
                            refine WL.x (X.loadB (k := 3) Try.isAgg3 rfl rfl rfl) (by decide) ?_
                            refine WL.yes rfl rfl ?_
                            refine WL.cond (X.lss rfl rfl) (by decide) (fun h287 => ?_) (fun h287 => ?_)
                            · refine WL.yes rfl rfl ?_
                              refine WL.x (X.pickT rfl rfl rfl) (by decide) ?_
                              refine WL.yes rfl rfl ?_
                              refine WL.x (X.move rfl) (by decide) ?_
                              refine WL.yes rfl rfl ?_
                              refine WL.x (X.move rfl) (by decide) ?_
                              refine WL.yes rfl rfl ?_
                              refine WL.x (X.call Try.call46 rfl (rises46 _ _ _ hs239 )) (by decide) ?_
                              refine WL.yes rfl rfl ?_
                              refine WL.x (X.notp rfl) (by decide) ?_
                              refine WL.yes rfl rfl ?_
                              refine WL.x (X.pickT rfl rfl rfl) (by decide) ?_
                              refine WL.yes rfl rfl ?_
                              refine WL.x (X.pickF rfl rfl rfl) (by decide) ?_
                              refine WL.x (X.pickT rfl rfl rfl) (by decide) ?_
                              refine WL.x (X.assign rfl) (by decide) ?_
                              refine WL.nil ?_
                              refine WK.nThen ?_
                              refine WC.ret ?_
                              refine WK.rThen ?_
                              refine WK.ret1 rfl rfl (fun w' hw' => Ret.exact hw' ?_)
                              first | rfl | (exfalso; omega) | (exfalso; contradiction) | exact (bool_true (by omega)).symm | exact (bool_true (by assumption)).symm
                            · refine WL.yes rfl rfl ?_
                              refine WL.x (X.pickT rfl rfl rfl) (by decide) ?_
                              refine WL.yes rfl rfl ?_
                              refine WL.x (X.move rfl) (by decide) ?_
                              refine WL.no rfl rfl rfl (by decide) ?_
                              refine WL.no rfl rfl rfl (by decide) ?_
                              refine WL.no rfl rfl rfl (by decide) ?_
                              refine WL.yes rfl rfl ?_
                              refine WL.x (X.pickF rfl rfl rfl) (by decide) ?_
                              refine WL.yes rfl rfl ?_
                              refine WL.x (X.pickF rfl rfl rfl) (by decide) ?_
                              refine WL.x (X.pickT rfl rfl rfl) (by decide) ?_
                              refine WL.x (X.assign rfl) (by decide) ?_
                              refine WL.nil ?_
                              refine WK.nThen ?_
                              refine WC.ret ?_
                              refine WK.rThen ?_
                              refine WK.ret1 rfl rfl (fun w' hw' => Ret.exact hw' ?_)
                              first | rfl | (exfalso; omega) | (exfalso; contradiction) | exact (bool_true (by omega)).symm | exact (bool_true (by assumption)).symm
                          · refine WL.no rfl rfl rfl (by decide) ?_
                            refine WL.no rfl rfl rfl (by decide) ?_
                            refine WL.no rfl rfl rfl (by decide) ?_
                            refine WL.no rfl rfl rfl (by decide) ?_
                            refine WL.no rfl rfl rfl (by decide) ?_
                            refine WL.yes rfl rfl ?_
                            refine WL.x (X.pickF rfl rfl rfl) (by decide) ?_
                            refine WL.yes rfl rfl ?_
                            refine WL.x (X.move rfl) (by decide) ?_
                            refine WL.no rfl rfl rfl (by decide) ?_
                            refine WL.no rfl rfl rfl (by decide) ?_
                            refine WL.no rfl rfl rfl (by decide) ?_
                            refine WL.yes rfl rfl ?_
                            refine WL.x (X.pickF rfl rfl rfl) (by decide) ?_
                            refine WL.yes rfl rfl ?_
                            refine WL.x (X.pickF rfl rfl rfl) (by decide) ?_
                            refine WL.x (X.pickT rfl rfl rfl) (by decide) ?_
                            refine WL.x (X.assign rfl) (by decide) ?_
                            refine WL.nil ?_
                            refine WK.nThen ?_
                            refine WC.ret ?_
                            refine WK.rThen ?_
                            refine WK.ret1 rfl rfl (fun w' hw' => Ret.exact hw' ?_)
                            first | rfl | (exfalso; omega) | (exfalso; contradiction) | exact (bool_true (by omega)).symm | exact (bool_true (by assumption)).symm
                        · refine WL.no rfl rfl rfl (by decide) ?_
                          refine WL.yes rfl rfl ?_
                          refine WL.x (X.pickF rfl rfl rfl) (by decide) ?_
                          refine WL.yes rfl rfl ?_
                          refine WL.x (X.move rfl) (by decide) ?_
                          refine WL.no rfl rfl rfl (by decide) ?_
                          refine WL.no rfl rfl rfl (by decide) ?_
                          refine WL.no rfl rfl rfl (by decide) ?_
                          refine WL.no rfl rfl rfl (by decide) ?_
                          refine WL.no rfl rfl rfl (by decide) ?_
                          refine WL.yes rfl rfl ?_
                          refine WL.x (X.pickF rfl rfl rfl) (by decide) ?_
                          refine WL.yes rfl rfl ?_
                          refine WL.x (X.move rfl) (by decide) ?_
                          refine WL.no rfl rfl rfl (by decide) ?_
                          refine WL.no rfl rfl rfl (by decide) ?_
                          refine WL.no rfl rfl rfl (by decide) ?_
                          refine WL.yes rfl rfl ?_
                          refine WL.x (X.pickF rfl rfl rfl) (by decide) ?_
                          refine WL.yes rfl rfl ?_
                          refine WL.x (X.pickF rfl rfl rfl) (by decide) ?_
                          refine WL.x (X.pickT rfl rfl rfl) (by decide) ?_
                          refine WL.x (X.assign rfl) (by decide) ?_
                          refine WL.nil ?_
                          refine WK.nThen ?_
                          refine WC.ret ?_
                          refine WK.rThen ?_
                          refine WK.ret1 rfl rfl (fun w' hw' => Ret.exact hw' ?_)
                          first | rfl | (exfalso; omega) | (exfalso; contradiction) | exact (bool_true (by omega)).symm | exact (bool_true (by assumption)).symm
            · refine WL.nil ?_
              refine WK.nThen ?_
              refine WC.condF rfl ?_
              refine WC.skip ?_
              refine WK.nThen ?_
              refine WC.seq ?_
              refine WC.seq ?_
              have hlm := mono_least hok (by omega)
              have hlm1 := hlm.1
              have hlm2 := hlm.2.1
              refine WC.region ?_
              refine WL.x (X.move rfl) (by decide) ?_
              refine WL.x (X.len Try.runUnderlying28 rfl hs22) (by decide) ?_
              refine WL.x (X.field Try.runUnderlying25 rfl Try.sizeOf22 rfl) (by decide) ?_
              refine WL.x (X.loadB (k := 1) Try.isAgg22 rfl rfl rfl) (by decide) ?_
              refine WL.x (X.len Try.runUnderlying22 rfl hs2) (by decide) ?_
              refine WL.condn (X.neq rfl rfl) (by decide) (fun h288 => ?_) (fun h288 => ?_)
              · refine WL.x (X.move rfl) (by decide) ?_
                refine WL.no rfl rfl rfl (by decide) ?_
                refine WL.no rfl rfl rfl (by decide) ?_
                refine WL.no rfl rfl rfl (by decide) ?_
                refine WL.x (X.pickT rfl rfl rfl) (by decide) ?_
                refine WL.nil ?_
                refine WK.nThen ?_
                refine WC.condT rfl ?_
                refine WC.seq ?_
                refine WC.region ?_
                refine WL.x (X.assign rfl) (by decide) ?_
                refine WL.nil ?_
                refine WK.nThen ?_
                refine WC.ret ?_
                refine WK.rThen ?_
                refine WK.ret1 rfl rfl (fun w' hw' => Ret.exact hw' ?_)
                first | rfl | (exfalso; omega) | (exfalso; contradiction) | exact (bool_true (by omega)).symm | exact (bool_true (by assumption)).symm
              · refine WL.x (X.move rfl) (by decide) ?_
                refine WL.yes rfl rfl ?_
                refine WL.x (X.move rfl) (by decide) ?_
                refine WL.yes rfl rfl ?_
                refine WL.cond (X.call Try.call46 rfl (rises46 _ _ _ hs22 )) (by decide) (fun h289 => ?_) (fun h289 => ?_)
                · refine WL.yes rfl rfl ?_
                  refine WL.x (X.not rfl) (by decide) ?_
                  refine WL.x (X.pickF rfl rfl rfl) (by decide) ?_
                  refine WL.nil ?_
                  refine WK.nThen ?_
                  refine WC.condF rfl ?_
                  refine WC.skip ?_
                  refine WK.nThen ?_
                  refine WC.seq ?_
                  refine WC.seq ?_
                  refine WC.region ?_
                  refine WL.x (X.assign rfl) (by decide) ?_
                  refine WL.nil ?_
                  refine WK.nThen ?_
                  refine WC.block ?_
                  refine WC.loop (G := Nat) (fun i => (evenR s x.Levels x.Shifts).1.length - i) (fun i => m234) (fun i => [blk b14 52 [v7, v9], blk b13 25 [v1, v3]]) (fun i => [(5, .bool true), (6, v21), (12, v238), (13, .int .i64 ((evenR s x.Levels x.Shifts).2)), (20, .int .i64 (↑i))]) (fun i => i ≤ (evenR s x.Levels x.Shifts).1.length) 0 rfl (.refl _) (.cons rfl (.cons rfl (.cons rfl (.cons rfl (.cons rfl .nil))))) ?_ ?_
                  · exact Nat.zero_le _
                  · rintro i hF290
                    show WK _ _ m234 [blk b14 52 [v7, v9], blk b13 25 [v1, v3]] [(5, .bool true), (6, v21), (12, v238), (13, .int .i64 ((evenR s x.Levels x.Shifts).2)), (20, .int .i64 (↑i))] _
                    replace hF290 : i ≤ (evenR s x.Levels x.Shifts).1.length := hF290
                    have hi := hF290
                    refine WC.seq ?_
                    refine WC.seq ?_
                    refine WC.region ?_
                    refine WL.x (X.move rfl) (by decide) ?_
                    refine WL.x (X.move rfl) (by decide) ?_
                    refine WL.x (X.len Try.runUnderlying28 rfl hs239) (by decide) ?_
                    refine WL.cond (X.lss rfl rfl) (by decide) (fun h291 => ?_) (fun h291 => ?_)
                    · refine WL.x (X.move rfl) (by decide) ?_
                      refine WL.yes rfl rfl ?_
                      refine WL.x (X.move rfl) (by decide) ?_
                      refine WL.yes rfl rfl ?_
                      refine WL.cond (X.eql rfl rfl) (by decide) (fun h292 => ?_) (fun h292 => ?_)
                      · refine WL.x (X.pickT rfl rfl rfl) (by decide) ?_
                        refine WL.x (X.move rfl) (by decide) ?_
                        refine WL.yes rfl rfl ?_
                        refine WL.x (X.move rfl) (by decide) ?_
                        refine WL.yes rfl rfl ?_
                        refine WL.cond (X.call Try.call46 rfl (rises46 _ _ _ hs239 )) (by decide) (fun h293 => ?_) (fun h293 => ?_)
                        · refine WL.x (X.pickT rfl rfl rfl) (by decide) ?_
                          refine WL.nil ?_
                          refine WK.nThen ?_
                          refine WC.condT rfl ?_
                          refine WC.skip ?_
                          refine WK.nThen ?_
                          refine WC.seq ?_
                          refine WC.block ?_
                          refine WC.seq ?_
                          have he := evenR_ok (s := s) (lv := x.Levels) (sh := x.Shifts) (by omega)
                          have hek := he.1
                          have hea := he.2.1
                          have her : (evenR s x.Levels x.Shifts).1 = evenL s x.Levels x.Shifts := (by rw [he.2.2])
                          have hel := evenL_len s x.Levels x.Shifts
                          have heb := evenL_bd hek hea
                          have hen := hek.nV
                          have hrl : (evenR s x.Levels x.Shifts).1.length = s.Values.length := (by rw [her]; exact hel)
                          have hrs : risesP (evenR s x.Levels x.Shifts).1 := (by assumption)
                          have hle2 := hlm.2.2 _ _ hea (by rw [← her]; exact hrs) i (by omega)
                          rw [← her] at hle2
                          refine WC.draw (π := (.cons 0 (.cons 1 (.cons 2 (.cons 3 (.cons 4 (.cons 5 (.cons 6 (.cons 7 (.cons 8 .done)))))))))) [] [] rfl (by kernel_rfl) ?_
                          refine DW.x rfl rfl (X.move rfl) (by decide) ?_
                          refine DW.x rfl rfl (X.move rfl) (by decide) ?_
                          refine DW.xe rfl rfl (E.idxN i Try.runUnderlying28 Try.sizeOf3 rfl rfl hs239 (by omega)) (by decide) (fun p294 hp295 => ?_)
                          refine DW.x rfl rfl (X.loadInt Try.isAgg3 rfl hp295) (by decide) ?_
                          refine DW.x rfl rfl (X.move rfl) (by decide) ?_
                          refine DW.x rfl rfl (X.move rfl) (by decide) ?_
                          refine DW.xe rfl rfl (E.idxN i Try.runUnderlying28 Try.sizeOf3 rfl rfl hs22 (by omega)) (by decide) (fun p296 hp297 => ?_)
                          refine DW.x rfl rfl (X.loadInt Try.isAgg3 rfl hp297) (by decide) ?_
                          refine DW.cond rfl rfl (X.lss rfl rfl) (by decide) (fun h298 => ?_) (fun h298 => ?_)
                          · refine DW.nil ?_
                            refine WK.nThen ?_
                            refine WC.condT rfl ?_
                            refine WC.seq ?_
                            refine WC.region ?_
                            refine WL.x (X.assign rfl) (by decide) ?_
                            refine WL.nil ?_
                            refine WK.nThen ?_
                            refine WC.ret ?_
                            refine WK.rBlock ?_
                            refine WK.rThen ?_
                            refine WK.rThen ?_
                            refine WK.rBlock ?_
                            refine WK.rThen ?_
                            refine WK.ret1 rfl rfl (fun w' hw' => Ret.exact hw' ?_)
                            first | rfl | (exfalso; omega) | (exfalso; contradiction) | exact (bool_true (by omega)).symm | exact (bool_true (by assumption)).symm
                          · refine DW.nil ?_
                            refine WK.nThen ?_
                            refine WC.condF rfl ?_
                            refine WC.skip ?_
                            refine WK.nBlock ?_
                            refine WK.nThen ?_
                            refine WC.region ?_
                            refine WL.x (X.move rfl) (by decide) ?_
                            refine WL.x (X.add rfl rfl (by omega) (by omega)) (by decide) ?_
                            refine WL.x (X.assign rfl) (by decide) ?_
                            refine WL.nil ?_
                            refine WK.nThen ?_
                            refine WK.next (i + 1) rfl (.refl _) (.cons rfl (.cons rfl (.cons rfl (.cons rfl (.cons rfl .nil))))) ?_ ?_
                            · omega
                            · omega
                        · refine WL.x (X.pickT rfl rfl rfl) (by decide) ?_
                          refine WL.nil ?_
                          refine WK.nThen ?_
                          refine WC.condF rfl ?_
                          refine WC.exit ?_
                          refine WK.eThen ?_
                          refine WK.eThen ?_
                          refine WK.eHit ?_
                          refine WK.nThen ?_
                          refine WC.seq ?_
                          refine WC.region ?_
                          refine WL.x (X.move rfl) (by decide) ?_
                          refine WL.x (X.assign rfl) (by decide) ?_
                          refine WL.nil ?_
                          refine WK.nThen ?_
                          refine WC.ret ?_
                          refine WK.ret1 rfl rfl (fun w' hw' => Ret.exact hw' ?_)
                          first | rfl | (exfalso; omega) | (exfalso; contradiction) | exact (bool_true (by omega)).symm | exact (bool_true (by assumption)).symm
                      · refine WL.x (X.pickT rfl rfl rfl) (by decide) ?_
                        refine WL.x (X.move rfl) (by decide) ?_
                        refine WL.no rfl rfl rfl (by decide) ?_
                        refine WL.no rfl rfl rfl (by decide) ?_
                        refine WL.x (X.pickF rfl rfl rfl) (by decide) ?_
                        refine WL.nil ?_
                        refine WK.nThen ?_
                        refine WC.condF rfl ?_
                        refine WC.exit ?_
                        refine WK.eThen ?_
                        refine WK.eThen ?_
                        refine WK.eHit ?_
                        refine WK.nThen ?_
                        refine WC.seq ?_
                        refine WC.region ?_
                        refine WL.x (X.move rfl) (by decide) ?_
                        refine WL.x (X.assign rfl) (by decide) ?_
                        refine WL.nil ?_
                        refine WK.nThen ?_
                        refine WC.ret ?_
                        refine WK.ret1 rfl rfl (fun w' hw' => Ret.exact hw' ?_)
                        first | rfl | (exfalso; omega) | (exfalso; contradiction) | exact (bool_true (by omega)).symm | exact (bool_true (by assumption)).symm
                    · refine WL.x (X.move rfl) (by decide) ?_
                      refine WL.no rfl rfl rfl (by decide) ?_
                      refine WL.no rfl rfl rfl (by decide) ?_
                      refine WL.x (X.pickF rfl rfl rfl) (by decide) ?_
                      refine WL.x (X.move rfl) (by decide) ?_
                      refine WL.no rfl rfl rfl (by decide) ?_
                      refine WL.no rfl rfl rfl (by decide) ?_
                      refine WL.x (X.pickF rfl rfl rfl) (by decide) ?_
                      refine WL.nil ?_
                      refine WK.nThen ?_
                      refine WC.condF rfl ?_
                      refine WC.exit ?_
                      refine WK.eThen ?_
                      refine WK.eThen ?_
                      refine WK.eHit ?_
                      refine WK.nThen ?_
                      refine WC.seq ?_
                      refine WC.region ?_
                      refine WL.x (X.move rfl) (by decide) ?_
                      refine WL.x (X.assign rfl) (by decide) ?_
                      refine WL.nil ?_
                      refine WK.nThen ?_
                      refine WC.ret ?_
                      refine WK.ret1 rfl rfl (fun w' hw' => Ret.exact hw' ?_)
                      first | rfl | (exfalso; omega) | (exfalso; contradiction) | exact (bool_true (by omega)).symm | exact (bool_true (by assumption)).symm
                · refine WL.yes rfl rfl ?_
                  refine WL.x (X.not rfl) (by decide) ?_
                  refine WL.x (X.pickF rfl rfl rfl) (by decide) ?_
                  refine WL.nil ?_
                  refine WK.nThen ?_
                  refine WC.condT rfl ?_
                  refine WC.seq ?_
                  refine WC.region ?_
                  refine WL.x (X.assign rfl) (by decide) ?_
                  refine WL.nil ?_
                  refine WK.nThen ?_
                  refine WC.ret ?_
                  refine WK.rThen ?_
                  refine WK.ret1 rfl rfl (fun w' hw' => Ret.exact hw' ?_)
                  first | rfl | (exfalso; omega) | (exfalso; contradiction) | exact (bool_true (by omega)).symm | exact (bool_true (by assumption)).symm
    · refine WL.yes rfl rfl ?_
      refine WL.x (X.not rfl) (by decide) ?_
      refine WL.x (X.pickF rfl rfl rfl) (by decide) ?_
      refine WL.nil ?_
      refine WK.nThen ?_
      refine WC.condT rfl ?_
      refine WC.seq ?_
      refine WC.region ?_
      refine WL.x (X.move rfl) (by decide) ?_
      refine WL.x (X.assign rfl) (by decide) ?_
      refine WL.nil ?_
      refine WK.nThen ?_
      refine WC.ret ?_
      refine WK.rThen ?_
      refine WK.ret1 rfl rfl (fun w' hw' => Ret.exact hw' ?_)
      first | rfl | (exfalso; omega) | (exfalso; contradiction) | exact (bool_true (by omega)).symm | exact (bool_true (by assumption)).symm
  · refine WL.x (X.not rfl) (by decide) ?_
    refine WL.x (X.move rfl) (by decide) ?_
    refine WL.no rfl rfl rfl (by decide) ?_
    refine WL.no rfl rfl rfl (by decide) ?_
    refine WL.no rfl rfl rfl (by decide) ?_
    refine WL.x (X.pickT rfl rfl rfl) (by decide) ?_
    refine WL.nil ?_
    refine WK.nThen ?_
    refine WC.condT rfl ?_
    refine WC.seq ?_
    refine WC.region ?_
    refine WL.x (X.move rfl) (by decide) ?_
    refine WL.x (X.assign rfl) (by decide) ?_
    refine WL.nil ?_
    refine WK.nThen ?_
    refine WC.ret ?_
    refine WK.rThen ?_
    refine WK.ret1 rfl rfl (fun w' hw' => Ret.exact hw' ?_)
    first | rfl | (exfalso; omega) | (exfalso; contradiction) | exact (bool_true (by omega)).symm | exact (bool_true (by assumption)).symm
end Go.Proofs.C8
