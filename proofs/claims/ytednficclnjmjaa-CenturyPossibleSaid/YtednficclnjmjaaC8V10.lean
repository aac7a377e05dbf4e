/- The walk of the statement CenturyPossible: its function answers true. -/
import Derived.Test.YtednficclnjmjaaC8Br
import Derived.Test.YtednficclnjmjaaC8W9
import Derived.Test.YtednficclnjmjaaC8LPoss
namespace Go.Proofs.C8
open Go Go.Kx
set_option linter.unusedSimpArgs false
set_option linter.unusedVariables false
set_option maxHeartbeats 4000000 in
theorem law10 (m : Mem) (cs : List Value) (s : Ser) (hs : Enc.rd m cs s) (ct : List Value) (t : Ser) (ht : Enc.rd m ct t) (time : Int) (most : Int) (n : Int)  (ok0 : Rng.ok s) (ok1 : Rng.ok t) (lo2 : -9223372036854775808 ≤ time) (hi2 : time ≤ 9223372036854775807) (lo3 : -9223372036854775808 ≤ most) (hi3 : most ≤ 9223372036854775807) (lo4 : -9223372036854775808 ≤ n) (hi4 : n ≤ 9223372036854775807) : Exact Try.prog 10 #[.agg cs.toArray, .agg ct.toArray, .int .i64 (time), .int .i64 (most), .int .i64 (n)] m (.bool true) := by
  obtain ⟨v1, v3, rfl, hs2, hs4⟩ := hs
  have hl5 := hs2.le
  have hl6 := hs4.le
  obtain ⟨v7, v9, rfl, hs8, hs10⟩ := ht
  have hl11 := hs8.le
  have hl12 := hs10.le
  refine Exact.start Try.func10 rfl Try.ntmps10 rfl fun wld => ?_
  refine WC.seq ?_
  refine WC.region ?_
  refine WL.tn (T.boxB rfl rfl) (by decide) fun b13 => ?_
  refine WL.tn (T.boxB rfl rfl) (by decide) fun b14 => ?_
  refine WL.x (X.assign rfl) (by decide) ?_
  refine WL.nil ?_
  refine WK.nThen ?_
  refine WC.seq ?_
  refine WC.region ?_
  refine WL.x (X.call Try.call21 rfl (awake21 _  )) (by decide) ?_
  refine WL.x (X.assign rfl) (by decide) ?_
  refine WL.nil ?_
  refine WK.nThen ?_
  refine WC.seq ?_
  refine WC.seq ?_
  refine WC.region ?_
  refine WL.x (X.loadBA (k := 1) Try.isAgg25 Try.sizeOf25 rfl rfl rfl) (by decide) ?_
  refine WL.cond (X.call Try.call22 rfl (few22 _ _ s ⟨_, _, rfl, hs2, hs4⟩ )) (by decide) (fun h15 => ?_) (fun h15 => ?_)
  · refine WL.x (X.not rfl) (by decide) ?_
    refine WL.x (X.move rfl) (by decide) ?_
    refine WL.yes rfl rfl ?_
    refine WL.x (X.loadBA (k := 0) Try.isAgg25 Try.sizeOf25 rfl rfl rfl) (by decide) ?_
    refine WL.yes rfl rfl ?_
    refine WL.cond (X.call Try.call22 rfl (few22 _ _ t ⟨_, _, rfl, hs8, hs10⟩ )) (by decide) (fun h16 => ?_) (fun h16 => ?_)
    · refine WL.yes rfl rfl ?_
      refine WL.x (X.not rfl) (by decide) ?_
      refine WL.x (X.pickF rfl rfl rfl) (by decide) ?_
      refine WL.x (X.move rfl) (by decide) ?_
      refine WL.yes rfl rfl ?_
      refine WL.x (X.field Try.runUnderlying25 rfl Try.sizeOf23 rfl) (by decide) ?_
      refine WL.yes rfl rfl ?_
      refine WL.x (X.loadB (k := 1) Try.isAgg23 rfl rfl rfl) (by decide) ?_
      refine WL.yes rfl rfl ?_
      refine WL.x (X.len Try.runUnderlying23 rfl hs4) (by decide) ?_
      refine WL.yes rfl rfl ?_
      refine WL.cond (X.gtr rfl rfl) (by decide) (fun h17 => ?_) (fun h17 => ?_)
      · refine WL.x (X.pickF rfl rfl rfl) (by decide) ?_
        refine WL.x (X.move rfl) (by decide) ?_
        refine WL.no rfl rfl rfl (by decide) ?_
        refine WL.no rfl rfl rfl (by decide) ?_
        refine WL.x (X.pickT rfl rfl rfl) (by decide) ?_
        refine WL.x (X.move rfl) (by decide) ?_
        refine WL.no rfl rfl rfl (by decide) ?_
        refine WL.no rfl rfl rfl (by decide) ?_
        refine WL.x (X.pickT rfl rfl rfl) (by decide) ?_
        refine WL.nil ?_
        refine WK.nThen ?_
        refine WC.condT rfl ?_
        refine WC.seq ?_
        refine WC.region ?_
        refine WL.x (X.move rfl) (by decide) ?_
        refine WL.x (X.assign rfl) (by decide) ?_
        refine WL.nil ?_
        refine WK.nThen ?_
        refine WC.ret ?_
        refine WK.rThen ?_
        refine WK.ret1 rfl rfl (fun w' hw' => Ret.exact hw' ?_)
        first | rfl | (exfalso; omega) | (exfalso; contradiction) | (exfalso; have q_ := hj3 (by omega); omega) | exact (bool_true (decide_eq_decide.2 (by have q_ := hj3 (by omega); unfold inT; constructor <;> intro q2_ <;> omega))).symm | exact (bool_true (by omega)).symm
      · refine WL.x (X.pickF rfl rfl rfl) (by decide) ?_
        refine WL.x (X.move rfl) (by decide) ?_
        refine WL.yes rfl rfl ?_
        refine WL.x (X.move rfl) (by decide) ?_
        refine WL.yes rfl rfl ?_
        refine WL.cond (X.lss rfl rfl) (by decide) (fun h18 => ?_) (fun h18 => ?_)
        · refine WL.x (X.pickF rfl rfl rfl) (by decide) ?_
          refine WL.x (X.move rfl) (by decide) ?_
          refine WL.no rfl rfl rfl (by decide) ?_
          refine WL.no rfl rfl rfl (by decide) ?_
          refine WL.x (X.pickT rfl rfl rfl) (by decide) ?_
          refine WL.nil ?_
          refine WK.nThen ?_
          refine WC.condT rfl ?_
          refine WC.seq ?_
          refine WC.region ?_
          refine WL.x (X.move rfl) (by decide) ?_
          refine WL.x (X.assign rfl) (by decide) ?_
          refine WL.nil ?_
          refine WK.nThen ?_
          refine WC.ret ?_
          refine WK.rThen ?_
          refine WK.ret1 rfl rfl (fun w' hw' => Ret.exact hw' ?_)
          first | rfl | (exfalso; omega) | (exfalso; contradiction) | (exfalso; have q_ := hj3 (by omega); omega) | exact (bool_true (decide_eq_decide.2 (by have q_ := hj3 (by omega); unfold inT; constructor <;> intro q2_ <;> omega))).symm | exact (bool_true (by omega)).symm
        · refine WL.x (X.pickF rfl rfl rfl) (by decide) ?_
          refine WL.x (X.move rfl) (by decide) ?_
          refine WL.yes rfl rfl ?_
          refine WL.x (X.move rfl) (by decide) ?_
          refine WL.yes rfl rfl ?_
          refine WL.cond (X.gtr rfl rfl) (by decide) (fun h19 => ?_) (fun h19 => ?_)
          · refine WL.x (X.pickF rfl rfl rfl) (by decide) ?_
            refine WL.nil ?_
            refine WK.nThen ?_
            refine WC.condT rfl ?_
            refine WC.seq ?_
            refine WC.region ?_
            refine WL.x (X.move rfl) (by decide) ?_
            refine WL.x (X.assign rfl) (by decide) ?_
            refine WL.nil ?_
            refine WK.nThen ?_
            refine WC.ret ?_
            refine WK.rThen ?_
            refine WK.ret1 rfl rfl (fun w' hw' => Ret.exact hw' ?_)
            first | rfl | (exfalso; omega) | (exfalso; contradiction) | (exfalso; have q_ := hj3 (by omega); omega) | exact (bool_true (decide_eq_decide.2 (by have q_ := hj3 (by omega); unfold inT; constructor <;> intro q2_ <;> omega))).symm | exact (bool_true (by omega)).symm
          · refine WL.x (X.pickF rfl rfl rfl) (by decide) ?_
            refine WL.nil ?_
            refine WK.nThen ?_
            refine WC.condF rfl ?_
            refine WC.skip ?_
            refine WK.nThen ?_
            refine WC.seq ?_
            refine WC.region ?_
            refine WL.x (X.loadBA (k := 1) Try.isAgg25 Try.sizeOf25 rfl rfl rfl) (by decide) ?_
            refine WL.x (X.loadBA (k := 0) Try.isAgg25 Try.sizeOf25 rfl rfl rfl) (by decide) ?_
            refine WL.x (X.move rfl) (by decide) ?_
            refine WL.x (X.move rfl) (by decide) ?_
            refine WL.x (X.call Try.call25 rfl (adjust25 _ _ s ⟨_, _, rfl, hs2, hs4⟩ _ t ⟨_, _, rfl, hs8, hs10⟩ _ _ )) (by decide) ?_
            refine WL.x (X.move rfl) (by decide) ?_
            refine WL.x (X.extract rfl rfl) (by decide) ?_
            refine WL.x (X.extract rfl rfl) (by decide) ?_
            refine WL.tn (T.alloc Try.zeroValue33 rfl) (by decide) fun b20 => ?_
            refine WL.ts (T.storeBA (k := 0) Try.sizeOf33 rfl rfl rfl (one_cons rfl (one_cons rfl one_nil)) rfl rfl) ?_
            refine WL.x (X.assign rfl) (by decide) ?_
            refine WL.nil ?_
            refine WK.nThen ?_
            refine WC.seq ?_
            refine WC.seq ?_
            refine WC.region ?_
            refine WL.x (X.move rfl) (by decide) ?_
            refine WL.condn (X.neq rfl rfl) (by decide) (fun h21 => ?_) (fun h21 => ?_)
            · refine WL.x (X.move rfl) (by decide) ?_
              refine WL.yes rfl rfl ?_
              refine WL.x (X.move rfl) (by decide) ?_
              refine WL.yes rfl rfl ?_
              refine WL.condn (X.neq rfl rfl) (by decide) (fun h22 => ?_) (fun h22 => ?_)
              · refine WL.x (X.pickT rfl rfl rfl) (by decide) ?_
                refine WL.nil ?_
                refine WK.nThen ?_
                refine WC.condT rfl ?_
                refine WC.seq ?_
                have hz := adj_none0 (s := s) (t := t) (time := time) (most := most) (by omega)
                have hz1 : (adjR s t time most).1.Lo = 0 := (by rw [hz])
                have hz2 : (adjR s t time most).1.Hi = 0 := (by rw [hz])
                rw [hz1]
                rw [hz2]
                refine WC.region ?_
                refine WL.x (X.move rfl) (by decide) ?_
                refine WL.x (X.move rfl) (by decide) ?_
                refine WL.yes rfl rfl ?_
                refine WL.x (X.loadBA (k := 0) Try.isAgg33 Try.sizeOf33 rfl rfl rfl) (by decide) ?_
                refine WL.yes rfl rfl ?_
                refine WL.x (V := Value.agg [.int .i64 (0), .int .i64 (0)].toArray) (X.build Try.zeroValue33 Try.runUnderlying33 (places33 _ Try.underlying33) rfl rfl) (by decide) ?_
                refine WL.yes rfl rfl ?_
                refine WL.x (OpX.t (X.eqlS (a := (Span.mk (0) (0))) (b := (Span.mk (0) (0))) gd33 (fun w => eqS33 9998 _ _ w) rfl rfl) rfl) (by decide) ?_
                refine WL.x (X.pickT rfl rfl rfl) (by decide) ?_
                refine WL.x (X.assign rfl) (by decide) ?_
                refine WL.nil ?_
                refine WK.nThen ?_
                refine WC.ret ?_
                refine WK.rThen ?_
                refine WK.ret1 rfl rfl (fun w' hw' => Ret.exact hw' ?_)
                first | rfl | (exfalso; omega) | (exfalso; contradiction) | (exfalso; have q_ := hj3 (by omega); omega) | exact (bool_true (decide_eq_decide.2 (by have q_ := hj3 (by omega); unfold inT; constructor <;> intro q2_ <;> omega))).symm | exact (bool_true (by omega)).symm
              · refine WL.x (X.pickT rfl rfl rfl) (by decide) ?_
                refine WL.nil ?_
                refine WK.nThen ?_
                refine WC.condF rfl ?_
                refine WC.skip ?_
                refine WK.nThen ?_
                refine WC.seq ?_
                have he3 : (adjR s t time most).2 = 0 ∨ (adjR s t time most).2 = 3 := (by omega)
                have hoo := adj_oks he3
                have hrng := adj_rng hoo.1 hoo.2 he3
                have hnX := hoo.1.nX
                have hb1 := adj_bd s t time most
                refine WC.region ?_
                refine WL.x (X.field Try.runUnderlying25 rfl Try.sizeOf22 rfl) (by decide) ?_
                refine WL.x (X.loadB (k := 2) Try.isAgg22 rfl rfl rfl) (by decide) ?_
                refine WL.x (V := Value.agg [v1, .slice none 0 0].toArray) (X.build Try.zeroValue25 Try.runUnderlying25 (places25 _ Try.underlying25) rfl (by simp only [Instr.fill, one_cells hs2.one]; rfl)) (by decide) ?_
                refine WL.tn (T.alloc Try.zeroValue25 rfl) (by decide) fun b23 => ?_
                refine WL.ts (T.storeBA (k := 0) Try.sizeOf25 rfl rfl rfl (one_cons hs2.one (one_cons rfl one_nil)) rfl rfl) ?_
                refine WL.nil ?_
                refine WK.nThen ?_
                refine WC.seq ?_
                refine WK.ownF Shf 72 ?_
                refine WC.region ?_
                refine WL.x (X.assign rfl) (by decide) ?_
                refine WL.nil ?_
                refine WK.nThen ?_
                refine WC.seq ?_
                refine WC.seq ?_
                refine WC.region ?_
                refine WL.x (X.assign rfl) (by decide) ?_
                refine WL.nil ?_
                refine WK.nThen ?_
                refine WC.block ?_
                refine WC.loop (G := Nat × Bool × Value) (fun (i, p, va) => s.Shifts.length - i) (fun (i, p, va) => m) (fun (i, p, va) => [rowF (va) 72 (insN s.Shifts time n i), blk b23 25 [v1, va], blk b20 33 [.int .i64 ((adjR s t time most).1.Lo), .int .i64 ((adjR s t time most).1.Hi)], blk b14 25 [v7, v9], blk b13 25 [v1, v3]]) (fun (i, p, va) => [(2, .int .i64 (time)), (3, .int .i64 (most)), (4, .int .i64 (n)), (5, .pointer (some ⟨b13, 0, none⟩)), (6, .pointer (some ⟨b14, 0, none⟩)), (11, .bool true), (12, .pointer (some ⟨b20, 0, none⟩)), (13, .int .i64 ((adjR s t time most).2)), (14, .pointer (some ⟨b23, 0, none⟩)), (15, .bool (p)), (16, .int .i64 (↑i))]) (fun (i, p, va) => i ≤ s.Shifts.length ∧ p = putB s.Shifts time i) ((0, false, Value.slice none 0 0)) rfl (.refl _) (.cons rfl (.cons rfl (.cons rfl (.cons rfl (.cons rfl (.cons rfl (.cons rfl (.cons rfl (.cons rfl (.cons rfl (.cons rfl .nil))))))))))) ?_ ?_
                · exact ⟨Nat.zero_le _, rfl⟩
                · rintro ⟨i, p, va⟩ hF24
                  show WK _ _ m [rowF (va) 72 (insN s.Shifts time n i), blk b23 25 [v1, va], blk b20 33 [.int .i64 ((adjR s t time most).1.Lo), .int .i64 ((adjR s t time most).1.Hi)], blk b14 25 [v7, v9], blk b13 25 [v1, v3]] [(2, .int .i64 (time)), (3, .int .i64 (most)), (4, .int .i64 (n)), (5, .pointer (some ⟨b13, 0, none⟩)), (6, .pointer (some ⟨b14, 0, none⟩)), (11, .bool true), (12, .pointer (some ⟨b20, 0, none⟩)), (13, .int .i64 ((adjR s t time most).2)), (14, .pointer (some ⟨b23, 0, none⟩)), (15, .bool (p)), (16, .int .i64 (↑i))] _
                  replace hF24 : i ≤ s.Shifts.length ∧ p = putB s.Shifts time i := hF24
                  obtain ⟨hi, hp⟩ := hF24
                  have hnl := insN_le s.Shifts time n i
                  refine WC.seq ?_
                  refine WC.seq ?_
                  refine WC.region ?_
                  refine WL.x (X.move rfl) (by decide) ?_
                  refine WL.x (X.field Try.runUnderlying25 rfl Try.sizeOf23 rfl) (by decide) ?_
                  refine WL.x (X.loadB (k := 4) Try.isAgg23 rfl rfl rfl) (by decide) ?_
                  refine WL.x (X.len Try.runUnderlying23 rfl hs4) (by decide) ?_
                  refine WL.cond (X.lss rfl rfl) (by decide) (fun h25 => ?_) (fun h25 => ?_)
                  · refine WL.nil ?_
                    refine WK.nThen ?_
                    refine WC.condT rfl ?_
                    refine WC.skip ?_
                    refine WK.nThen ?_
                    refine WC.seq ?_
                    refine WC.block ?_
                    refine WC.seq ?_
                    refine WC.seq ?_
                    refine WC.region ?_
                    refine WL.x (X.move rfl) (by decide) ?_
                    refine WL.condb (X.not rfl) (by decide) (fun h26 => ?_) (fun h26 => ?_)
                    · refine WL.x (X.move rfl) (by decide) ?_
                      refine WL.yes rfl rfl ?_
                      refine WL.x (X.field Try.runUnderlying25 rfl Try.sizeOf23 rfl) (by decide) ?_
                      refine WL.yes rfl rfl ?_
                      refine WL.x (X.loadB (k := 4) Try.isAgg23 rfl rfl rfl) (by decide) ?_
                      refine WL.yes rfl rfl ?_
                      refine WL.x (X.move rfl) (by decide) ?_
                      refine WL.yes rfl rfl ?_
                      refine WL.xe (E.idxN i Try.runUnderlying23 Try.sizeOf72 rfl rfl hs4 (by omega)) (by decide) (fun p27 hp28 => ?_)
                      refine WL.yes rfl rfl ?_
                      have hp29 := At.Shf_0 hp28
                      refine WL.x (X.field Try.runUnderlying72 rfl Try.sizeOf3 rfl) (by decide) ?_
                      refine WL.yes rfl rfl ?_
                      refine WL.x (X.loadInt Try.isAgg3 rfl hp29) (by decide) ?_
                      refine WL.yes rfl rfl ?_
                      refine WL.x (X.move rfl) (by decide) ?_
                      refine WL.yes rfl rfl ?_
                      refine WL.cond (X.gtr rfl rfl) (by decide) (fun h30 => ?_) (fun h30 => ?_)
                      · refine WL.x (X.pickT rfl rfl rfl) (by decide) ?_
                        refine WL.nil ?_
                        refine WK.nThen ?_
                        refine WC.condT rfl ?_
                        refine WC.seq ?_
                        refine WC.region ?_
                        refine WL.x (X.field Try.runUnderlying25 rfl Try.sizeOf23 rfl) (by decide) ?_
                        refine WL.x (X.loadB (k := 1) Try.isAgg23 rfl rfl rfl) (by decide) ?_
                        refine WL.x (X.move rfl) (by decide) ?_
                        refine WL.x (X.move rfl) (by decide) ?_
                        refine WL.x (X.move rfl) (by decide) ?_
                        refine WL.x (V := Value.agg [.int .i64 (n), .int .i64 (n)].toArray) (X.build Try.zeroValue33 Try.runUnderlying33 (places33 _ Try.underlying33) rfl rfl) (by decide) ?_
                        refine WL.x (V := Value.agg [.int .i64 (time), .int .i64 (n), .int .i64 (n)].toArray) (X.build Try.zeroValue72 Try.runUnderlying72 (places72 _ Try.underlying72) rfl rfl) (by decide) ?_
                        refine WL.tl (T.lit1 sl23 rfl rfl rfl (by decide)) (by decide) fun b31 => ?_
                        refine WL.ta (T.appendF (k := 0) (a := (Shf.mk (time) ((Span.mk (n) (n))))) sl23 rfl rfl rfl rfl (by first | omega | (simp; omega)) (by decide)) (by decide) (fun v32 => ?_)
                        refine WL.x (X.field Try.runUnderlying25 rfl Try.sizeOf23 rfl) (by decide) ?_
                        refine WL.own1 (k := 0) rfl (fun ho33 => ?_)
                        refine WL.ts (T.storeB (k := 1) Try.sizeOf23 rfl rfl rfl ho33 (Nat.le_of_ble_eq_true rfl)) ?_
                        refine WL.nil ?_
                        refine WK.nThen ?_
                        refine WC.region ?_
                        refine WL.x (X.assign rfl) (by decide) ?_
                        refine WL.nil ?_
                        refine WK.nThen ?_
                        refine WC.draw (π := (.cons 0 (.cons 1 (.cons 2 (.cons 3 (.cons 4 (.cons 5 (.cons 6 (.cons 7 (.cons 8 (.cons 9 (.cons 10 .done)))))))))))) [7, 8, 10] [8, 10] rfl (by kernel_rfl) ?_
                        refine DW.x rfl rfl (X.field Try.runUnderlying25 rfl Try.sizeOf23 rfl) (by decide) ?_
                        refine DW.x rfl rfl (X.loadB (k := 1) Try.isAgg23 rfl rfl rfl) (by decide) ?_
                        refine DW.x rfl rfl (X.field Try.runUnderlying25 rfl Try.sizeOf23 rfl) (by decide) ?_
                        refine DW.x rfl rfl (X.loadB (k := 4) Try.isAgg23 rfl rfl rfl) (by decide) ?_
                        refine DW.x rfl rfl (X.move rfl) (by decide) ?_
                        refine DW.xe rfl rfl (E.idxN i Try.runUnderlying23 Try.sizeOf72 rfl rfl hs4 (by omega)) (by decide) (fun p34 hp35 => ?_)
                        refine DW.xe rfl rfl (E.loadAgg Try.isAgg72 Try.sizeOf72 rfl hp35) (by decide) (fun c36 hc37 => ?_)
                        obtain rfl := hc37
                        refine DW.tl rfl rfl rfl (T.lit1 sl23 rfl rfl rfl (by decide)) (by decide) fun b38 => ?_
                        refine DW.ta rfl rfl rfl rfl (T.appendF (k := 0) (a := gt s.Shifts i) sl23 rfl rfl rfl rfl (by first | omega | (simp; omega)) (by decide)) (by decide) (fun v39 => ?_)
                        refine DW.x rfl rfl (X.field Try.runUnderlying25 rfl Try.sizeOf23 rfl) (by decide) ?_
                        refine DW.ts rfl rfl rfl rfl (OpTo.own1 (k := 0) rfl trivial (defd2 rfl rfl rfl) fun ho40 => T.storeB (k := 1) Try.sizeOf23 rfl rfl rfl ho40 (Nat.le_of_ble_eq_true rfl)) ?_
                        refine DW.nil ?_
                        refine WK.nBlock ?_
                        refine WK.nThen ?_
                        refine WC.region ?_
                        refine WL.x (X.move rfl) (by decide) ?_
                        refine WL.x (X.add rfl rfl (by omega) (by omega)) (by decide) ?_
                        refine WL.x (X.assign rfl) (by decide) ?_
                        refine WL.nil ?_
                        refine WK.nThen ?_
                        have he41 : (((insN s.Shifts time n i) ++ [(Shf.mk (time) ((Span.mk (n) (n))))]) ++ [gt s.Shifts i]) = (insN s.Shifts time n (i + 1)) := (by first | exact ins_yes hp (by assumption) (by assumption) | exact ins_no1 hp (by assumption) | exact ins_no2 (by assumption))
                        rw [he41]
                        refine WK.next ((i + 1, true, v39)) rfl (.refl _) (.cons rfl (.cons rfl (.cons rfl (.cons rfl (.cons rfl (.cons rfl (.cons rfl (.cons rfl (.cons rfl (.cons rfl (.cons rfl .nil))))))))))) ?_ ?_
                        · first | exact ⟨by omega, pos_yes hp (by assumption) (by assumption)⟩ | exact ⟨by omega, pos_no1 hp (by assumption)⟩ | exact ⟨by omega, pos_no2 hp (by assumption)⟩
                        · (dsimp only; omega)
                      · refine WL.x (X.pickT rfl rfl rfl) (by decide) ?_
                        refine WL.nil ?_
                        refine WK.nThen ?_
                        refine WC.condF rfl ?_
                        refine WC.skip ?_
                        refine WK.nThen ?_
                        refine WC.draw (π := (.cons 0 (.cons 1 (.cons 2 (.cons 3 (.cons 4 (.cons 5 (.cons 6 (.cons 7 (.cons 8 (.cons 9 (.cons 10 .done)))))))))))) [7, 8, 10] [8, 10] rfl (by kernel_rfl) ?_
                        refine DW.x rfl rfl (X.field Try.runUnderlying25 rfl Try.sizeOf23 rfl) (by decide) ?_
                        refine DW.x rfl rfl (X.loadB (k := 1) Try.isAgg23 rfl rfl rfl) (by decide) ?_
                        refine DW.x rfl rfl (X.field Try.runUnderlying25 rfl Try.sizeOf23 rfl) (by decide) ?_
                        refine DW.x rfl rfl (X.loadB (k := 4) Try.isAgg23 rfl rfl rfl) (by decide) ?_
                        refine DW.x rfl rfl (X.move rfl) (by decide) ?_
                        refine DW.xe rfl rfl (E.idxN i Try.runUnderlying23 Try.sizeOf72 rfl rfl hs4 (by omega)) (by decide) (fun p42 hp43 => ?_)
                        refine DW.xe rfl rfl (E.loadAgg Try.isAgg72 Try.sizeOf72 rfl hp43) (by decide) (fun c44 hc45 => ?_)
                        obtain rfl := hc45
                        refine DW.tl rfl rfl rfl (T.lit1 sl23 rfl rfl rfl (by decide)) (by decide) fun b46 => ?_
                        refine DW.ta rfl rfl rfl rfl (T.appendF (k := 0) (a := gt s.Shifts i) sl23 rfl rfl rfl rfl (by first | omega | (simp; omega)) (by decide)) (by decide) (fun v47 => ?_)
                        refine DW.x rfl rfl (X.field Try.runUnderlying25 rfl Try.sizeOf23 rfl) (by decide) ?_
                        refine DW.ts rfl rfl rfl rfl (OpTo.own1 (k := 0) rfl trivial (defd2 rfl rfl rfl) fun ho48 => T.storeB (k := 1) Try.sizeOf23 rfl rfl rfl ho48 (Nat.le_of_ble_eq_true rfl)) ?_
                        refine DW.nil ?_
                        refine WK.nBlock ?_
                        refine WK.nThen ?_
                        refine WC.region ?_
                        refine WL.x (X.move rfl) (by decide) ?_
                        refine WL.x (X.add rfl rfl (by omega) (by omega)) (by decide) ?_
                        refine WL.x (X.assign rfl) (by decide) ?_
                        refine WL.nil ?_
                        refine WK.nThen ?_
                        have he49 : ((insN s.Shifts time n i) ++ [gt s.Shifts i]) = (insN s.Shifts time n (i + 1)) := (by first | exact ins_yes hp (by assumption) (by assumption) | exact ins_no1 hp (by assumption) | exact ins_no2 (by assumption))
                        rw [he49]
                        refine WK.next ((i + 1, p, v47)) rfl (.refl _) (.cons rfl (.cons rfl (.cons rfl (.cons rfl (.cons rfl (.cons rfl (.cons rfl (.cons rfl (.cons rfl (.cons rfl (.cons rfl .nil))))))))))) ?_ ?_
                        · first | exact ⟨by omega, pos_yes hp (by assumption) (by assumption)⟩ | exact ⟨by omega, pos_no1 hp (by assumption)⟩ | exact ⟨by omega, pos_no2 hp (by assumption)⟩
                        · (dsimp only; omega)
                    · refine WL.x (X.move rfl) (by decide) ?_
                      refine WL.no rfl rfl rfl (by decide) ?_
                      refine WL.no rfl rfl rfl (by decide) ?_
                      refine WL.no rfl rfl rfl (by decide) ?_
                      refine WL.no rfl rfl rfl (by decide) ?_
                      refine WL.no rfl rfl rfl (by decide) ?_
                      refine WL.no rfl rfl rfl (by decide) ?_
                      refine WL.no rfl rfl rfl (by decide) ?_
                      refine WL.no rfl rfl rfl (by decide) ?_
                      refine WL.x (X.pickF rfl rfl rfl) (by decide) ?_
                      refine WL.nil ?_
                      refine WK.nThen ?_
                      refine WC.condF rfl ?_
                      refine WC.skip ?_
                      refine WK.nThen ?_
                      refine WC.draw (π := (.cons 0 (.cons 1 (.cons 2 (.cons 3 (.cons 4 (.cons 5 (.cons 6 (.cons 7 (.cons 8 (.cons 9 (.cons 10 .done)))))))))))) [7, 8, 10] [8, 10] rfl (by kernel_rfl) ?_
                      refine DW.x rfl rfl (X.field Try.runUnderlying25 rfl Try.sizeOf23 rfl) (by decide) ?_
                      refine DW.x rfl rfl (X.loadB (k := 1) Try.isAgg23 rfl rfl rfl) (by decide) ?_
                      refine DW.x rfl rfl (X.field Try.runUnderlying25 rfl Try.sizeOf23 rfl) (by decide) ?_
                      refine DW.x rfl rfl (X.loadB (k := 4) Try.isAgg23 rfl rfl rfl) (by decide) ?_
                      refine DW.x rfl rfl (X.move rfl) (by decide) ?_
                      refine DW.xe rfl rfl (E.idxN i Try.runUnderlying23 Try.sizeOf72 rfl rfl hs4 (by omega)) (by decide) (fun p50 hp51 => ?_)
                      refine DW.xe rfl rfl (E.loadAgg Try.isAgg72 Try.sizeOf72 rfl hp51) (by decide) (fun c52 hc53 => ?_)
                      obtain rfl := hc53
                      refine DW.tl rfl rfl rfl (T.lit1 sl23 rfl rfl rfl (by decide)) (by decide) fun b54 => ?_
                      refine DW.ta rfl rfl rfl rfl (T.appendF (k := 0) (a := gt s.Shifts i) sl23 rfl rfl rfl rfl (by first | omega | (simp; omega)) (by decide)) (by decide) (fun v55 => ?_)
                      refine DW.x rfl rfl (X.field Try.runUnderlying25 rfl Try.sizeOf23 rfl) (by decide) ?_
                      refine DW.ts rfl rfl rfl rfl (OpTo.own1 (k := 0) rfl trivial (defd2 rfl rfl rfl) fun ho56 => T.storeB (k := 1) Try.sizeOf23 rfl rfl rfl ho56 (Nat.le_of_ble_eq_true rfl)) ?_
                      refine DW.nil ?_
                      refine WK.nBlock ?_
                      refine WK.nThen ?_
                      refine WC.region ?_
                      refine WL.x (X.move rfl) (by decide) ?_
                      refine WL.x (X.add rfl rfl (by omega) (by omega)) (by decide) ?_
                      refine WL.x (X.assign rfl) (by decide) ?_
                      refine WL.nil ?_
                      refine WK.nThen ?_
                      have he57 : ((insN s.Shifts time n i) ++ [gt s.Shifts i]) = (insN s.Shifts time n (i + 1)) := (by first | exact ins_yes hp (by assumption) (by assumption) | exact ins_no1 hp (by assumption) | exact ins_no2 (by assumption))
                      rw [he57]
                      refine WK.next ((i + 1, p, v55)) rfl (.refl _) (.cons rfl (.cons rfl (.cons rfl (.cons rfl (.cons rfl (.cons rfl (.cons rfl (.cons rfl (.cons rfl (.cons rfl (.cons rfl .nil))))))))))) ?_ ?_
                      · first | exact ⟨by omega, pos_yes hp (by assumption) (by assumption)⟩ | exact ⟨by omega, pos_no1 hp (by assumption)⟩ | exact ⟨by omega, pos_no2 hp (by assumption)⟩
                      · (dsimp only; omega)
                  · refine WL.nil ?_
                    refine WK.nThen ?_
                    refine WC.condF rfl ?_
                    refine WC.exit ?_
                    refine WK.eThen ?_
                    refine WK.eThen ?_
                    refine WK.eHit ?_
                    refine WK.nThen ?_
                    refine WC.seq ?_
                    refine WC.seq ?_
                    refine WC.region ?_
                    refine WL.x (X.move rfl) (by decide) ?_
                    refine WL.condb (X.not rfl) (by decide) (fun h58 => ?_) (fun h58 => ?_)
                    · refine WL.nil ?_
                      refine WK.nThen ?_
                      refine WC.condT rfl ?_
                      refine WC.region ?_
                      refine WL.x (X.field Try.runUnderlying25 rfl Try.sizeOf23 rfl) (by decide) ?_
                      refine WL.x (X.loadB (k := 1) Try.isAgg23 rfl rfl rfl) (by decide) ?_
                      refine WL.x (X.move rfl) (by decide) ?_
                      refine WL.x (X.move rfl) (by decide) ?_
                      refine WL.x (X.move rfl) (by decide) ?_
                      refine WL.x (V := Value.agg [.int .i64 (n), .int .i64 (n)].toArray) (X.build Try.zeroValue33 Try.runUnderlying33 (places33 _ Try.underlying33) rfl rfl) (by decide) ?_
                      refine WL.x (V := Value.agg [.int .i64 (time), .int .i64 (n), .int .i64 (n)].toArray) (X.build Try.zeroValue72 Try.runUnderlying72 (places72 _ Try.underlying72) rfl rfl) (by decide) ?_
                      refine WL.tl (T.lit1 sl23 rfl rfl rfl (by decide)) (by decide) fun b59 => ?_
                      refine WL.ta (T.appendF (k := 0) (a := (Shf.mk (time) ((Span.mk (n) (n))))) sl23 rfl rfl rfl rfl (by first | omega | (simp; omega)) (by decide)) (by decide) (fun v60 => ?_)
                      refine WL.x (X.field Try.runUnderlying25 rfl Try.sizeOf23 rfl) (by decide) ?_
                      refine WL.own1 (k := 0) rfl (fun ho61 => ?_)
                      refine WL.ts (T.storeB (k := 1) Try.sizeOf23 rfl rfl rfl ho61 (Nat.le_of_ble_eq_true rfl)) ?_
                      refine WL.nil ?_
                      refine WK.nThen ?_
                      refine WC.seq ?_
                      have he62 : ((insN s.Shifts time n i) ++ [(Shf.mk (time) ((Span.mk (n) (n))))]) = (insL s.Shifts time n) := (by first | exact ins_end1 hp (by omega) (by assumption) | exact ins_end2 hp (by omega) (by assumption))
                      rw [he62]
                      have hil := insL_len s.Shifts time n
                      refine WC.region ?_
                      refine WL.x (X.loadBA (k := 1) Try.isAgg25 Try.sizeOf25 rfl rfl rfl) (by decide) ?_
                      refine WL.x (X.loadBA (k := 3) Try.isAgg25 Try.sizeOf25 rfl rfl rfl) (by decide) ?_
                      refine WL.x (X.move rfl) (by decide) ?_
                      refine WL.x (X.move rfl) (by decide) ?_
                      refine WL.freezeF 0 rfl rfl (by simp only [lenB]; omega) (fun m63 hle64 hs65 => ?_)
                      replace hs2 := hs2.mono hle64
                      replace hs4 := hs4.mono hle64
                      replace hs8 := hs8.mono hle64
                      replace hs10 := hs10.mono hle64
                      refine WL.x (X.call Try.call25 rfl (adjust25 _ _ ((Ser.mk (s.Values) (insL s.Shifts time n))) ⟨_, _, rfl, hs2, hs65⟩ _ t ⟨_, _, rfl, hs8, hs10⟩ _ _ )) (by decide) ?_
                      refine WL.x (X.move rfl) (by decide) ?_
                      refine WL.x (X.extract rfl rfl) (by decide) ?_
                      refine WL.x (X.extract rfl rfl) (by decide) ?_
                      refine WL.tn (T.alloc Try.zeroValue33 rfl) (by decide) fun b66 => ?_
                      refine WL.ts (T.storeBA (k := 0) Try.sizeOf33 rfl rfl rfl (one_cons rfl (one_cons rfl one_nil)) rfl rfl) ?_
                      refine WL.x (X.assign rfl) (by decide) ?_
                      refine WL.nil ?_
                      refine WK.nThen ?_
                      refine WC.seq ?_
                      refine WC.seq ?_
                      have hw : adjR (Ser.mk s.Values (insL s.Shifts time n)) t time most = _ := adj_with hoo.1 hoo.2 (by omega) hrng (by omega)
                      have hj2 : (adjR (Ser.mk s.Values (insL s.Shifts time n)) t time most).2 = (adjR s t time most).2 := (by rw [hw]; split <;> (dsimp only; omega))
                      have hj3 : (adjR s t time most).2 = 0 → (adjR (Ser.mk s.Values (insL s.Shifts time n)) t time most).1.Lo = (adjR s t time most).1.Lo - n ∧ (adjR (Ser.mk s.Values (insL s.Shifts time n)) t time most).1.Hi = (adjR s t time most).1.Hi - n := (fun h => by rw [hw, if_pos h]; exact ⟨rfl, rfl⟩)
                      refine WC.region ?_
                      refine WL.x (X.move rfl) (by decide) ?_
                      refine WL.x (X.eql rfl rfl) (by decide) ?_
                      refine WL.x (X.move rfl) (by decide) ?_
                      refine WL.x (X.eql rfl rfl) (by decide) ?_
                      refine WL.x (OpX.f (X.neqB Try.underlying4 rfl rfl) (fun h => h (by rw [hj2]))) (by decide) ?_
                      refine WL.nil ?_
                      refine WK.nThen ?_
                      refine WC.condF rfl ?_
                      refine WC.skip ?_
                      refine WK.nThen ?_
                      refine WC.seq ?_
                      refine WC.draw (π := (.cons 0 (.cons 1 (.cons 2 (.cons 3 (.cons 4 (.cons 5 (.cons 6 (.cons 7 (.cons 8 (.cons 9 (.cons 10 (.cons 11 (.cons 12 (.cons 13 (.cons 14 (.cons 15 (.cons 16 (.cons 17 (.cons 18 (.cons 19 (.cons 20 (.cons 21 (.cons 22 (.cons 23 (.cons 24 (.cons 25 (.cons 26 (.cons 27 (.cons 28 (.cons 29 (.cons 30 (.cons 31 .done))))))))))))))))))))))))))))))))) [] [] rfl (by kernel_rfl) ?_
                      refine DW.x rfl rfl (X.move rfl) (by decide) ?_
                      refine DW.x rfl rfl (X.move rfl) (by decide) ?_
                      refine DW.x rfl rfl (X.move rfl) (by decide) ?_
                      refine DW.condn rfl rfl (X.neq rfl rfl) (by decide) (fun h67 => ?_) (fun h67 => ?_)
                      · refine DW.x rfl rfl (X.move rfl) (by decide) ?_
                        refine DW.no rfl rfl (by decide) ?_
                        refine DW.no rfl rfl (by decide) ?_
                        refine DW.no rfl rfl (by decide) ?_
                        refine DW.no rfl rfl (by decide) ?_
                        refine DW.no rfl rfl (by decide) ?_
                        refine DW.no rfl rfl (by decide) ?_
                        refine DW.no rfl rfl (by decide) ?_
                        refine DW.no rfl rfl (by decide) ?_
                        refine DW.no rfl rfl (by decide) ?_
                        refine DW.no rfl rfl (by decide) ?_
                        refine DW.no rfl rfl (by decide) ?_
                        refine DW.no rfl rfl (by decide) ?_
                        refine DW.no rfl rfl (by decide) ?_
                        refine DW.no rfl rfl (by decide) ?_
                        refine DW.no rfl rfl (by decide) ?_
                        refine DW.no rfl rfl (by decide) ?_
                        refine DW.no rfl rfl (by decide) ?_
                        refine DW.no rfl rfl (by decide) ?_
                        refine DW.no rfl rfl (by decide) ?_
                        refine DW.no rfl rfl (by decide) ?_
                        refine DW.no rfl rfl (by decide) ?_
                        refine DW.no rfl rfl (by decide) ?_
                        refine DW.no rfl rfl (by decide) ?_
                        refine DW.no rfl rfl (by decide) ?_
                        refine DW.x rfl rfl (X.pickT rfl rfl rfl) (by decide) ?_
                        refine DW.x rfl rfl (X.pickT rfl rfl rfl) (by decide) ?_
                        refine DW.x rfl rfl (X.assign rfl) (by decide) ?_
                        refine DW.nil ?_
                        refine WK.nThen ?_
                        refine WC.ret ?_
                        refine WK.ret1 rfl rfl (fun w' hw' => Ret.exact hw' ?_)
                        first | rfl | (exfalso; omega) | (exfalso; contradiction) | (exfalso; have q_ := hj3 (by omega); omega) | exact (bool_true (decide_eq_decide.2 (by have q_ := hj3 (by omega); unfold inT; constructor <;> intro q2_ <;> omega))).symm | exact (bool_true (by omega)).symm
                      · refine DW.x rfl rfl (X.move rfl) (by decide) ?_
                        refine DW.x rfl rfl (X.field Try.runUnderlying33 rfl Try.sizeOf3 rfl) (by decide) ?_
                        refine DW.x rfl rfl (X.loadB (k := 0) Try.isAgg3 rfl rfl rfl) (by decide) ?_
                        refine DW.x rfl rfl (X.field Try.runUnderlying33 rfl Try.sizeOf3 rfl) (by decide) ?_
                        refine DW.x rfl rfl (X.loadB (k := 2) Try.isAgg3 rfl rfl rfl) (by decide) ?_
                        refine DW.x rfl rfl (X.move rfl) (by decide) ?_
                        refine DW.x rfl rfl (X.sub rfl rfl (by omega) (by omega)) (by decide) ?_
                        refine DW.cond rfl rfl (X.eql rfl rfl) (by decide) (fun h68 => ?_) (fun h68 => ?_)
                        · refine DW.x rfl rfl (X.move rfl) (by decide) ?_
                          refine DW.x rfl rfl (X.field Try.runUnderlying33 rfl Try.sizeOf3 rfl) (by decide) ?_
                          refine DW.x rfl rfl (X.loadB (k := 0) Try.isAgg3 rfl rfl rfl) (by decide) ?_
                          refine DW.x rfl rfl (X.field Try.runUnderlying33 rfl Try.sizeOf3 rfl) (by decide) ?_
                          refine DW.x rfl rfl (X.loadB (k := 2) Try.isAgg3 rfl rfl rfl) (by decide) ?_
                          refine DW.x rfl rfl (X.move rfl) (by decide) ?_
                          refine DW.x rfl rfl (X.sub rfl rfl (by omega) (by omega)) (by decide) ?_
                          refine DW.cond rfl rfl (X.eql rfl rfl) (by decide) (fun h69 => ?_) (fun h69 => ?_)
                          · refine DW.x rfl rfl (X.pickT rfl rfl rfl) (by decide) ?_
                            refine DW.x rfl rfl (X.move rfl) (by decide) ?_
                            refine DW.x rfl rfl (X.loadBA (k := 0) Try.isAgg33 Try.sizeOf33 rfl rfl rfl) (by decide) ?_
                            refine DW.x rfl rfl (X.call Try.call41 rfl (in41 _ _ ((adjR (((Ser.mk (s.Values) (insL s.Shifts time n)))) t time most).1) rfl _ )) (by decide) ?_
                            refine DW.x rfl rfl (X.loadBA (k := 2) Try.isAgg33 Try.sizeOf33 rfl rfl rfl) (by decide) ?_
                            refine DW.x rfl rfl (X.move rfl) (by decide) ?_
                            refine DW.x rfl rfl (X.call Try.call41 rfl (in41 _ _ ((adjR s t time most).1) rfl _ )) (by decide) ?_
                            refine DW.x rfl rfl (X.eqlB Try.underlying4 rfl rfl) (by decide) ?_
                            refine DW.x rfl rfl (X.pickT rfl rfl rfl) (by decide) ?_
                            refine DW.x rfl rfl (X.pickF rfl rfl rfl) (by decide) ?_
                            refine DW.x rfl rfl (X.pickT rfl rfl rfl) (by decide) ?_
                            refine DW.x rfl rfl (X.assign rfl) (by decide) ?_
                            refine DW.nil ?_
                            refine WK.nThen ?_
                            refine WC.ret ?_
                            refine WK.ret1 rfl rfl (fun w' hw' => Ret.exact hw' ?_)
                            first | rfl | (exfalso; omega) | (exfalso; contradiction) | (exfalso; have q_ := hj3 (by omega); omega) | exact (bool_true (decide_eq_decide.2 (by have q_ := hj3 (by omega); unfold inT; constructor <;> intro q2_ <;> omega))).symm | exact (bool_true (by omega)).symm
                          · refine DW.x rfl rfl (X.pickT rfl rfl rfl) (by decide) ?_
                            refine DW.x rfl rfl (X.move rfl) (by decide) ?_
                            refine DW.no rfl rfl (by decide) ?_
                            refine DW.no rfl rfl (by decide) ?_
                            refine DW.no rfl rfl (by decide) ?_
                            refine DW.no rfl rfl (by decide) ?_
                            refine DW.no rfl rfl (by decide) ?_
                            refine DW.no rfl rfl (by decide) ?_
                            refine DW.x rfl rfl (X.pickF rfl rfl rfl) (by decide) ?_
                            refine DW.x rfl rfl (X.pickF rfl rfl rfl) (by decide) ?_
                            refine DW.x rfl rfl (X.pickT rfl rfl rfl) (by decide) ?_
                            refine DW.x rfl rfl (X.assign rfl) (by decide) ?_
                            refine DW.nil ?_
                            refine WK.nThen ?_
                            refine WC.ret ?_
                            refine WK.ret1 rfl rfl (fun w' hw' => Ret.exact hw' ?_)
                            first | rfl | (exfalso; omega) | (exfalso; contradiction) | (exfalso; have q_ := hj3 (by omega); omega) | exact (bool_true (decide_eq_decide.2 (by have q_ := hj3 (by omega); unfold inT; constructor <;> intro q2_ <;> omega))).symm | exact (bool_true (by omega)).symm
                        · refine DW.x rfl rfl (X.move rfl) (by decide) ?_
                          refine DW.no rfl rfl (by decide) ?_
                          refine DW.no rfl rfl (by decide) ?_
                          refine DW.no rfl rfl (by decide) ?_
                          refine DW.no rfl rfl (by decide) ?_
                          refine DW.no rfl rfl (by decide) ?_
                          refine DW.no rfl rfl (by decide) ?_
                          refine DW.no rfl rfl (by decide) ?_
                          refine DW.x rfl rfl (X.pickF rfl rfl rfl) (by decide) ?_
                          refine DW.x rfl rfl (X.move rfl) (by decide) ?_
                          refine DW.no rfl rfl (by decide) ?_
                          refine DW.no rfl rfl (by decide) ?_
                          refine DW.no rfl rfl (by decide) ?_
                          refine DW.no rfl rfl (by decide) ?_
                          refine DW.no rfl rfl (by decide) ?_
                          refine DW.no rfl rfl (by decide) ?_
                          refine DW.x rfl rfl (X.pickF rfl rfl rfl) (by decide) ?_
                          refine DW.x rfl rfl (X.pickF rfl rfl rfl) (by decide) ?_
                          refine DW.x rfl rfl (X.pickT rfl rfl rfl) (by decide) ?_
                          refine DW.x rfl rfl (X.assign rfl) (by decide) ?_
                          refine DW.nil ?_
                          refine WK.nThen ?_
                          refine WC.ret ?_
                          refine WK.ret1 rfl rfl (fun w' hw' => Ret.exact hw' ?_)
                          first | rfl | (exfalso; omega) | (exfalso; contradiction) | (exfalso; have q_ := hj3 (by omega); omega) | exact (bool_true (decide_eq_decide.2 (by have q_ := hj3 (by omega); unfold inT; constructor <;> intro q2_ <;> omega))).symm | exact (bool_true (by omega)).symm
                    · refine WL.nil ?_
                      refine WK.nThen ?_
                      refine WC.condF rfl ?_
                      refine WC.skip ?_
                      refine WK.nThen ?_
                      refine WC.seq ?_
                      have he70 : (insN s.Shifts time n i) = (insL s.Shifts time n) := (by first | exact ins_end1 hp (by omega) (by assumption) | exact ins_end2 hp (by omega) (by assumption))
                      rw [he70]
                      have hil := insL_len s.Shifts time n
                      refine WC.region ?_
                      refine WL.x (X.loadBA (k := 1) Try.isAgg25 Try.sizeOf25 rfl rfl rfl) (by decide) ?_
                      refine WL.x (X.loadBA (k := 3) Try.isAgg25 Try.sizeOf25 rfl rfl rfl) (by decide) ?_
                      refine WL.x (X.move rfl) (by decide) ?_
                      refine WL.x (X.move rfl) (by decide) ?_
                      refine WL.freezeF 0 rfl rfl (by simp only [lenB]; omega) (fun m71 hle72 hs73 => ?_)
                      replace hs2 := hs2.mono hle72
                      replace hs4 := hs4.mono hle72
                      replace hs8 := hs8.mono hle72
                      replace hs10 := hs10.mono hle72
                      refine WL.x (X.call Try.call25 rfl (adjust25 _ _ ((Ser.mk (s.Values) (insL s.Shifts time n))) ⟨_, _, rfl, hs2, hs73⟩ _ t ⟨_, _, rfl, hs8, hs10⟩ _ _ )) (by decide) ?_
                      refine WL.x (X.move rfl) (by decide) ?_
                      refine WL.x (X.extract rfl rfl) (by decide) ?_
                      refine WL.x (X.extract rfl rfl) (by decide) ?_
                      refine WL.tn (T.alloc Try.zeroValue33 rfl) (by decide) fun b74 => ?_
                      refine WL.ts (T.storeBA (k := 0) Try.sizeOf33 rfl rfl rfl (one_cons rfl (one_cons rfl one_nil)) rfl rfl) ?_
                      refine WL.x (X.assign rfl) (by decide) ?_
                      refine WL.nil ?_
                      refine WK.nThen ?_
                      refine WC.seq ?_
                      refine WC.seq ?_
                      have hw : adjR (Ser.mk s.Values (insL s.Shifts time n)) t time most = _ := adj_with hoo.1 hoo.2 (by omega) hrng (by omega)
                      have hj2 : (adjR (Ser.mk s.Values (insL s.Shifts time n)) t time most).2 = (adjR s t time most).2 := (by rw [hw]; split <;> (dsimp only; omega))
                      have hj3 : (adjR s t time most).2 = 0 → (adjR (Ser.mk s.Values (insL s.Shifts time n)) t time most).1.Lo = (adjR s t time most).1.Lo - n ∧ (adjR (Ser.mk s.Values (insL s.Shifts time n)) t time most).1.Hi = (adjR s t time most).1.Hi - n := (fun h => by rw [hw, if_pos h]; exact ⟨rfl, rfl⟩)
                      refine WC.region ?_
                      refine WL.x (X.move rfl) (by decide) ?_
                      refine WL.x (X.eql rfl rfl) (by decide) ?_
                      refine WL.x (X.move rfl) (by decide) ?_
                      refine WL.x (X.eql rfl rfl) (by decide) ?_
                      refine WL.x (OpX.f (X.neqB Try.underlying4 rfl rfl) (fun h => h (by rw [hj2]))) (by decide) ?_
                      refine WL.nil ?_
                      refine WK.nThen ?_
                      refine WC.condF rfl ?_
                      refine WC.skip ?_
                      refine WK.nThen ?_
                      refine WC.seq ?_
                      refine WC.draw (π := (.cons 0 (.cons 1 (.cons 2 (.cons 3 (.cons 4 (.cons 5 (.cons 6 (.cons 7 (.cons 8 (.cons 9 (.cons 10 (.cons 11 (.cons 12 (.cons 13 (.cons 14 (.cons 15 (.cons 16 (.cons 17 (.cons 18 (.cons 19 (.cons 20 (.cons 21 (.cons 22 (.cons 23 (.cons 24 (.cons 25 (.cons 26 (.cons 27 (.cons 28 (.cons 29 (.cons 30 (.cons 31 .done))))))))))))))))))))))))))))))))) [] [] rfl (by kernel_rfl) ?_
                      refine DW.x rfl rfl (X.move rfl) (by decide) ?_
                      refine DW.x rfl rfl (X.move rfl) (by decide) ?_
                      refine DW.x rfl rfl (X.move rfl) (by decide) ?_
                      refine DW.condn rfl rfl (X.neq rfl rfl) (by decide) (fun h75 => ?_) (fun h75 => ?_)
                      · refine DW.x rfl rfl (X.move rfl) (by decide) ?_
                        refine DW.no rfl rfl (by decide) ?_
                        refine DW.no rfl rfl (by decide) ?_
                        refine DW.no rfl rfl (by decide) ?_
                        refine DW.no rfl rfl (by decide) ?_
                        refine DW.no rfl rfl (by decide) ?_
                        refine DW.no rfl rfl (by decide) ?_
                        refine DW.no rfl rfl (by decide) ?_
                        refine DW.no rfl rfl (by decide) ?_
                        refine DW.no rfl rfl (by decide) ?_
                        refine DW.no rfl rfl (by decide) ?_
                        refine DW.no rfl rfl (by decide) ?_
                        refine DW.no rfl rfl (by decide) ?_
                        refine DW.no rfl rfl (by decide) ?_
                        refine DW.no rfl rfl (by decide) ?_
                        refine DW.no rfl rfl (by decide) ?_
                        refine DW.no rfl rfl (by decide) ?_
                        refine DW.no rfl rfl (by decide) ?_
                        refine DW.no rfl rfl (by decide) ?_
                        refine DW.no rfl rfl (by decide) ?_
                        refine DW.no rfl rfl (by decide) ?_
                        refine DW.no rfl rfl (by decide) ?_
                        refine DW.no rfl rfl (by decide) ?_
                        refine DW.no rfl rfl (by decide) ?_
                        refine DW.no rfl rfl (by decide) ?_
                        refine DW.x rfl rfl (X.pickT rfl rfl rfl) (by decide) ?_
                        refine DW.x rfl rfl (X.pickT rfl rfl rfl) (by decide) ?_
                        refine DW.x rfl rfl (X.assign rfl) (by decide) ?_
                        refine DW.nil ?_
                        refine WK.nThen ?_
                        refine WC.ret ?_
                        refine WK.ret1 rfl rfl (fun w' hw' => Ret.exact hw' ?_)
                        first | rfl | (exfalso; omega) | (exfalso; contradiction) | (exfalso; have q_ := hj3 (by omega); omega) | exact (bool_true (decide_eq_decide.2 (by have q_ := hj3 (by omega); unfold inT; constructor <;> intro q2_ <;> omega))).symm | exact (bool_true (by omega)).symm
                      · refine DW.x rfl rfl (X.move rfl) (by decide) ?_
                        refine DW.x rfl rfl (X.field Try.runUnderlying33 rfl Try.sizeOf3 rfl) (by decide) ?_
                        refine DW.x rfl rfl (X.loadB (k := 0) Try.isAgg3 rfl rfl rfl) (by decide) ?_
                        refine DW.x rfl rfl (X.field Try.runUnderlying33 rfl Try.sizeOf3 rfl) (by decide) ?_
                        refine DW.x rfl rfl (X.loadB (k := 2) Try.isAgg3 rfl rfl rfl) (by decide) ?_
                        refine DW.x rfl rfl (X.move rfl) (by decide) ?_
                        refine DW.x rfl rfl (X.sub rfl rfl (by omega) (by omega)) (by decide) ?_
                        refine DW.cond rfl rfl (X.eql rfl rfl) (by decide) (fun h76 => ?_) (fun h76 => ?_)
                        · refine DW.x rfl rfl (X.move rfl) (by decide) ?_
                          refine DW.x rfl rfl (X.field Try.runUnderlying33 rfl Try.sizeOf3 rfl) (by decide) ?_
                          refine DW.x rfl rfl (X.loadB (k := 0) Try.isAgg3 rfl rfl rfl) (by decide) ?_
                          refine DW.x rfl rfl (X.field Try.runUnderlying33 rfl Try.sizeOf3 rfl) (by decide) ?_
                          refine DW.x rfl rfl (X.loadB (k := 2) Try.isAgg3 rfl rfl rfl) (by decide) ?_
                          refine DW.x rfl rfl (X.move rfl) (by decide) ?_
                          refine DW.x rfl rfl (X.sub rfl rfl (by omega) (by omega)) (by decide) ?_
                          refine DW.cond rfl rfl (X.eql rfl rfl) (by decide) (fun h77 => ?_) (fun h77 => ?_)
                          · refine DW.x rfl rfl (X.pickT rfl rfl rfl) (by decide) ?_
                            refine DW.x rfl rfl (X.move rfl) (by decide) ?_
                            refine DW.x rfl rfl (X.loadBA (k := 0) Try.isAgg33 Try.sizeOf33 rfl rfl rfl) (by decide) ?_
                            refine DW.x rfl rfl (X.call Try.call41 rfl (in41 _ _ ((adjR (((Ser.mk (s.Values) (insL s.Shifts time n)))) t time most).1) rfl _ )) (by decide) ?_
                            refine DW.x rfl rfl (X.loadBA (k := 2) Try.isAgg33 Try.sizeOf33 rfl rfl rfl) (by decide) ?_
                            refine DW.x rfl rfl (X.move rfl) (by decide) ?_
                            refine DW.x rfl rfl (X.call Try.call41 rfl (in41 _ _ ((adjR s t time most).1) rfl _ )) (by decide) ?_
                            refine DW.x rfl rfl (X.eqlB Try.underlying4 rfl rfl) (by decide) ?_
                            refine DW.x rfl rfl (X.pickT rfl rfl rfl) (by decide) ?_
                            refine DW.x rfl rfl (X.pickF rfl rfl rfl) (by decide) ?_
                            refine DW.x rfl rfl (X.pickT rfl rfl rfl) (by decide) ?_
                            refine DW.x rfl rfl (X.assign rfl) (by decide) ?_
                            refine DW.nil ?_
                            refine WK.nThen ?_
                            refine WC.ret ?_
                            refine WK.ret1 rfl rfl (fun w' hw' => Ret.exact hw' ?_)
                            first | rfl | (exfalso; omega) | (exfalso; contradiction) | (exfalso; have q_ := hj3 (by omega); omega) | exact (bool_true (decide_eq_decide.2 (by have q_ := hj3 (by omega); unfold inT; constructor <;> intro q2_ <;> omega))).symm | exact (bool_true (by omega)).symm
                          · refine DW.x rfl rfl (X.pickT rfl rfl rfl) (by decide) ?_
                            refine DW.x rfl rfl (X.move rfl) (by decide) ?_
                            refine DW.no rfl rfl (by decide) ?_
                            refine DW.no rfl rfl (by decide) ?_
                            refine DW.no rfl rfl (by decide) ?_
                            refine DW.no rfl rfl (by decide) ?_
                            refine DW.no rfl rfl (by decide) ?_
                            refine DW.no rfl rfl (by decide) ?_
                            refine DW.x rfl rfl (X.pickF rfl rfl rfl) (by decide) ?_
                            refine DW.x rfl rfl (X.pickF rfl rfl rfl) (by decide) ?_
                            refine DW.x rfl rfl (X.pickT rfl rfl rfl) (by decide) ?_
                            refine DW.x rfl rfl (X.assign rfl) (by decide) ?_
                            refine DW.nil ?_
                            refine WK.nThen ?_
                            refine WC.ret ?_
                            refine WK.ret1 rfl rfl (fun w' hw' => Ret.exact hw' ?_)
                            first | rfl | (exfalso; omega) | (exfalso; contradiction) | (exfalso; have q_ := hj3 (by omega); omega) | exact (bool_true (decide_eq_decide.2 (by have q_ := hj3 (by omega); unfold inT; constructor <;> intro q2_ <;> omega))).symm | exact (bool_true (by omega)).symm
                        · refine DW.x rfl rfl (X.move rfl) (by decide) ?_
                          refine DW.no rfl rfl (by decide) ?_
                          refine DW.no rfl rfl (by decide) ?_
                          refine DW.no rfl rfl (by decide) ?_
                          refine DW.no rfl rfl (by decide) ?_
                          refine DW.no rfl rfl (by decide) ?_
                          refine DW.no rfl rfl (by decide) ?_
                          refine DW.no rfl rfl (by decide) ?_
                          refine DW.x rfl rfl (X.pickF rfl rfl rfl) (by decide) ?_
                          refine DW.x rfl rfl (X.move rfl) (by decide) ?_
                          refine DW.no rfl rfl (by decide) ?_
                          refine DW.no rfl rfl (by decide) ?_
                          refine DW.no rfl rfl (by decide) ?_
                          refine DW.no rfl rfl (by decide) ?_
                          refine DW.no rfl rfl (by decide) ?_
                          refine DW.no rfl rfl (by decide) ?_
                          refine DW.x rfl rfl (X.pickF rfl rfl rfl) (by decide) ?_
                          refine DW.x rfl rfl (X.pickF rfl rfl rfl) (by decide) ?_
                          refine DW.x rfl rfl (X.pickT rfl rfl rfl) (by decide) ?_
                          refine DW.x rfl rfl (X.assign rfl) (by decide) ?_
                          refine DW.nil ?_
                          refine WK.nThen ?_
                          refine WC.ret ?_
                          refine WK.ret1 rfl rfl (fun w' hw' => Ret.exact hw' ?_)
                          first | rfl | (exfalso; omega) | (exfalso; contradiction) | (exfalso; have q_ := hj3 (by omega); omega) | exact (bool_true (decide_eq_decide.2 (by have q_ := hj3 (by omega); unfold inT; constructor <;> intro q2_ <;> omega))).symm | exact (bool_true (by omega)).symm
            · refine WL.x (X.move rfl) (by decide) ?_
              refine WL.no rfl rfl rfl (by decide) ?_
              refine WL.no rfl rfl rfl (by decide) ?_
              refine WL.x (X.pickF rfl rfl rfl) (by decide) ?_
              refine WL.nil ?_
              refine WK.nThen ?_
              refine WC.condF rfl ?_
              refine WC.skip ?_
              refine WK.nThen ?_
              refine WC.seq ?_
              have he3 : (adjR s t time most).2 = 0 ∨ (adjR s t time most).2 = 3 := (by omega)
              have hoo := adj_oks he3
              have hrng := adj_rng hoo.1 hoo.2 he3
              have hnX := hoo.1.nX
              have hb1 := adj_bd s t time most
              refine WC.region ?_
              refine WL.x (X.field Try.runUnderlying25 rfl Try.sizeOf22 rfl) (by decide) ?_
              refine WL.x (X.loadB (k := 2) Try.isAgg22 rfl rfl rfl) (by decide) ?_
              refine WL.x (V := Value.agg [v1, .slice none 0 0].toArray) (X.build Try.zeroValue25 Try.runUnderlying25 (places25 _ Try.underlying25) rfl (by simp only [Instr.fill, one_cells hs2.one]; rfl)) (by decide) ?_
              refine WL.tn (T.alloc Try.zeroValue25 rfl) (by decide) fun b78 => ?_
              refine WL.ts (T.storeBA (k := 0) Try.sizeOf25 rfl rfl rfl (one_cons hs2.one (one_cons rfl one_nil)) rfl rfl) ?_
              refine WL.nil ?_
              refine WK.nThen ?_
              refine WC.seq ?_
              refine WK.ownF Shf 72 ?_
              refine WC.region ?_
              refine WL.x (X.assign rfl) (by decide) ?_
              refine WL.nil ?_
              refine WK.nThen ?_
              refine WC.seq ?_
              refine WC.seq ?_
              refine WC.region ?_
              refine WL.x (X.assign rfl) (by decide) ?_
              refine WL.nil ?_
              refine WK.nThen ?_
              refine WC.block ?_
              refine WC.loop (G := Nat × Bool × Value) (fun (i, p, va) => s.Shifts.length - i) (fun (i, p, va) => m) (fun (i, p, va) => [rowF (va) 72 (insN s.Shifts time n i), blk b78 25 [v1, va], blk b20 33 [.int .i64 ((adjR s t time most).1.Lo), .int .i64 ((adjR s t time most).1.Hi)], blk b14 25 [v7, v9], blk b13 25 [v1, v3]]) (fun (i, p, va) => [(2, .int .i64 (time)), (3, .int .i64 (most)), (4, .int .i64 (n)), (5, .pointer (some ⟨b13, 0, none⟩)), (6, .pointer (some ⟨b14, 0, none⟩)), (11, .bool true), (12, .pointer (some ⟨b20, 0, none⟩)), (13, .int .i64 ((adjR s t time most).2)), (14, .pointer (some ⟨b78, 0, none⟩)), (15, .bool (p)), (16, .int .i64 (↑i))]) (fun (i, p, va) => i ≤ s.Shifts.length ∧ p = putB s.Shifts time i) ((0, false, Value.slice none 0 0)) rfl (.refl _) (.cons rfl (.cons rfl (.cons rfl (.cons rfl (.cons rfl (.cons rfl (.cons rfl (.cons rfl (.cons rfl (.cons rfl (.cons rfl .nil))))))))))) ?_ ?_
              · exact ⟨Nat.zero_le _, rfl⟩
              · rintro ⟨i, p, va⟩ hF79
                show WK _ _ m [rowF (va) 72 (insN s.Shifts time n i), blk b78 25 [v1, va], blk b20 33 [.int .i64 ((adjR s t time most).1.Lo), .int .i64 ((adjR s t time most).1.Hi)], blk b14 25 [v7, v9], blk b13 25 [v1, v3]] [(2, .int .i64 (time)), (3, .int .i64 (most)), (4, .int .i64 (n)), (5, .pointer (some ⟨b13, 0, none⟩)), (6, .pointer (some ⟨b14, 0, none⟩)), (11, .bool true), (12, .pointer (some ⟨b20, 0, none⟩)), (13, .int .i64 ((adjR s t time most).2)), (14, .pointer (some ⟨b78, 0, none⟩)), (15, .bool (p)), (16, .int .i64 (↑i))] _
                replace hF79 : i ≤ s.Shifts.length ∧ p = putB s.Shifts time i := hF79
                obtain ⟨hi, hp⟩ := hF79
                have hnl := insN_le s.Shifts time n i
                refine WC.seq ?_
                refine WC.seq ?_
                refine WC.region ?_
                refine WL.x (X.move rfl) (by decide) ?_
                refine WL.x (X.field Try.runUnderlying25 rfl Try.sizeOf23 rfl) (by decide) ?_
                refine WL.x (X.loadB (k := 4) Try.isAgg23 rfl rfl rfl) (by decide) ?_
                refine WL.x (X.len Try.runUnderlying23 rfl hs4) (by decide) ?_
                refine WL.cond (X.lss rfl rfl) (by decide) (fun h80 => ?_) (fun h80 => ?_)
                · refine WL.nil ?_
                  refine WK.nThen ?_
                  refine WC.condT rfl ?_
                  refine WC.skip ?_
                  refine WK.nThen ?_
                  refine WC.seq ?_
                  refine WC.block ?_
                  refine WC.seq ?_
                  refine WC.seq ?_
                  refine WC.region ?_
                  refine WL.x (X.move rfl) (by decide) ?_
                  refine WL.condb (X.not rfl) (by decide) (fun h81 => ?_) (fun h81 => ?_)
                  · refine WL.x (X.move rfl) (by decide) ?_
                    refine WL.yes rfl rfl ?_
                    refine WL.x (X.field Try.runUnderlying25 rfl Try.sizeOf23 rfl) (by decide) ?_
                    refine WL.yes rfl rfl ?_
                    refine WL.x (X.loadB (k := 4) Try.isAgg23 rfl rfl rfl) (by decide) ?_
                    refine WL.yes rfl rfl ?_
                    refine WL.x (X.move rfl) (by decide) ?_
                    refine WL.yes rfl rfl ?_
                    refine WL.xe (E.idxN i Try.runUnderlying23 Try.sizeOf72 rfl rfl hs4 (by omega)) (by decide) (fun p82 hp83 => ?_)
                    refine WL.yes rfl rfl ?_
                    have hp84 := At.Shf_0 hp83
                    refine WL.x (X.field Try.runUnderlying72 rfl Try.sizeOf3 rfl) (by decide) ?_
                    refine WL.yes rfl rfl ?_
                    refine WL.x (X.loadInt Try.isAgg3 rfl hp84) (by decide) ?_
                    refine WL.yes rfl rfl ?_
                    refine WL.x (X.move rfl) (by decide) ?_
                    refine WL.yes rfl rfl ?_
                    refine WL.cond (X.gtr rfl rfl) (by decide) (fun h85 => ?_) (fun h85 => ?_)
                    · refine WL.x (X.pickT rfl rfl rfl) (by decide) ?_
                      refine WL.nil ?_
                      refine WK.nThen ?_
                      refine WC.condT rfl ?_
                      refine WC.seq ?_
                      refine WC.region ?_
                      refine WL.x (X.field Try.runUnderlying25 rfl Try.sizeOf23 rfl) (by decide) ?_
                      refine WL.x (X.loadB (k := 1) Try.isAgg23 rfl rfl rfl) (by decide) ?_
                      refine WL.x (X.move rfl) (by decide) ?_
                      refine WL.x (X.move rfl) (by decide) ?_
                      refine WL.x (X.move rfl) (by decide) ?_
                      refine WL.x (V := Value.agg [.int .i64 (n), .int .i64 (n)].toArray) (X.build Try.zeroValue33 Try.runUnderlying33 (places33 _ Try.underlying33) rfl rfl) (by decide) ?_
                      refine WL.x (V := Value.agg [.int .i64 (time), .int .i64 (n), .int .i64 (n)].toArray) (X.build Try.zeroValue72 Try.runUnderlying72 (places72 _ Try.underlying72) rfl rfl) (by decide) ?_
                      refine WL.tl (T.lit1 sl23 rfl rfl rfl (by decide)) (by decide) fun b86 => ?_
                      refine WL.ta (T.appendF (k := 0) (a := (Shf.mk (time) ((Span.mk (n) (n))))) sl23 rfl rfl rfl rfl (by first | omega | (simp; omega)) (by decide)) (by decide) (fun v87 => ?_)
                      refine WL.x (X.field Try.runUnderlying25 rfl Try.sizeOf23 rfl) (by decide) ?_
                      refine WL.own1 (k := 0) rfl (fun ho88 => ?_)
                      refine WL.ts (T.storeB (k := 1) Try.sizeOf23 rfl rfl rfl ho88 (Nat.le_of_ble_eq_true rfl)) ?_
                      refine WL.nil ?_
                      refine WK.nThen ?_
                      refine WC.region ?_
                      refine WL.x (X.assign rfl) (by decide) ?_
                      refine WL.nil ?_
                      refine WK.nThen ?_
                      refine WC.draw (π := (.cons 0 (.cons 1 (.cons 2 (.cons 3 (.cons 4 (.cons 5 (.cons 6 (.cons 7 (.cons 8 (.cons 9 (.cons 10 .done)))))))))))) [7, 8, 10] [8, 10] rfl (by kernel_rfl) ?_
                      refine DW.x rfl rfl (X.field Try.runUnderlying25 rfl Try.sizeOf23 rfl) (by decide) ?_
                      refine DW.x rfl rfl (X.loadB (k := 1) Try.isAgg23 rfl rfl rfl) (by decide) ?_
                      refine DW.x rfl rfl (X.field Try.runUnderlying25 rfl Try.sizeOf23 rfl) (by decide) ?_
                      refine DW.x rfl rfl (X.loadB (k := 4) Try.isAgg23 rfl rfl rfl) (by decide) ?_
                      refine DW.x rfl rfl (X.move rfl) (by decide) ?_
                      refine DW.xe rfl rfl (E.idxN i Try.runUnderlying23 Try.sizeOf72 rfl rfl hs4 (by omega)) (by decide) (fun p89 hp90 => ?_)
                      refine DW.xe rfl rfl (E.loadAgg Try.isAgg72 Try.sizeOf72 rfl hp90) (by decide) (fun c91 hc92 => ?_)
                      obtain rfl := hc92
                      refine DW.tl rfl rfl rfl (T.lit1 sl23 rfl rfl rfl (by decide)) (by decide) fun b93 => ?_
                      refine DW.ta rfl rfl rfl rfl (T.appendF (k := 0) (a := gt s.Shifts i) sl23 rfl rfl rfl rfl (by first | omega | (simp; omega)) (by decide)) (by decide) (fun v94 => ?_)
                      refine DW.x rfl rfl (X.field Try.runUnderlying25 rfl Try.sizeOf23 rfl) (by decide) ?_
                      refine DW.ts rfl rfl rfl rfl (OpTo.own1 (k := 0) rfl trivial (defd2 rfl rfl rfl) fun ho95 => T.storeB (k := 1) Try.sizeOf23 rfl rfl rfl ho95 (Nat.le_of_ble_eq_true rfl)) ?_
                      refine DW.nil ?_
                      refine WK.nBlock ?_
                      refine WK.nThen ?_
                      refine WC.region ?_
                      refine WL.x (X.move rfl) (by decide) ?_
                      refine WL.x (X.add rfl rfl (by omega) (by omega)) (by decide) ?_
                      refine WL.x (X.assign rfl) (by decide) ?_
                      refine WL.nil ?_
                      refine WK.nThen ?_
                      have he96 : (((insN s.Shifts time n i) ++ [(Shf.mk (time) ((Span.mk (n) (n))))]) ++ [gt s.Shifts i]) = (insN s.Shifts time n (i + 1)) := (by first | exact ins_yes hp (by assumption) (by assumption) | exact ins_no1 hp (by assumption) | exact ins_no2 (by assumption))
                      rw [he96]
                      refine WK.next ((i + 1, true, v94)) rfl (.refl _) (.cons rfl (.cons rfl (.cons rfl (.cons rfl (.cons rfl (.cons rfl (.cons rfl (.cons rfl (.cons rfl (.cons rfl (.cons rfl .nil))))))))))) ?_ ?_
                      · first | exact ⟨by omega, pos_yes hp (by assumption) (by assumption)⟩ | exact ⟨by omega, pos_no1 hp (by assumption)⟩ | exact ⟨by omega, pos_no2 hp (by assumption)⟩
                      · (dsimp only; omega)
                    · refine WL.x (X.pickT rfl rfl rfl) (by decide) ?_
                      refine WL.nil ?_
                      refine WK.nThen ?_
                      refine WC.condF rfl ?_
                      refine WC.skip ?_
                      refine WK.nThen ?_
                      refine WC.draw (π := (.cons 0 (.cons 1 (.cons 2 (.cons 3 (.cons 4 (.cons 5 (.cons 6 (.cons 7 (.cons 8 (.cons 9 (.cons 10 .done)))))))))))) [7, 8, 10] [8, 10] rfl (by kernel_rfl) ?_
                      refine DW.x rfl rfl (X.field Try.runUnderlying25 rfl Try.sizeOf23 rfl) (by decide) ?_
                      refine DW.x rfl rfl (X.loadB (k := 1) Try.isAgg23 rfl rfl rfl) (by decide) ?_
                      refine DW.x rfl rfl (X.field Try.runUnderlying25 rfl Try.sizeOf23 rfl) (by decide) ?_
                      refine DW.x rfl rfl (X.loadB (k := 4) Try.isAgg23 rfl rfl rfl) (by decide) ?_
                      refine DW.x rfl rfl (X.move rfl) (by decide) ?_
                      refine DW.xe rfl rfl (E.idxN i Try.runUnderlying23 Try.sizeOf72 rfl rfl hs4 (by omega)) (by decide) (fun p97 hp98 => ?_)
                      refine DW.xe rfl rfl (E.loadAgg Try.isAgg72 Try.sizeOf72 rfl hp98) (by decide) (fun c99 hc100 => ?_)
                      obtain rfl := hc100
                      refine DW.tl rfl rfl rfl (T.lit1 sl23 rfl rfl rfl (by decide)) (by decide) fun b101 => ?_
                      refine DW.ta rfl rfl rfl rfl (T.appendF (k := 0) (a := gt s.Shifts i) sl23 rfl rfl rfl rfl (by first | omega | (simp; omega)) (by decide)) (by decide) (fun v102 => ?_)
                      refine DW.x rfl rfl (X.field Try.runUnderlying25 rfl Try.sizeOf23 rfl) (by decide) ?_
                      refine DW.ts rfl rfl rfl rfl (OpTo.own1 (k := 0) rfl trivial (defd2 rfl rfl rfl) fun ho103 => T.storeB (k := 1) Try.sizeOf23 rfl rfl rfl ho103 (Nat.le_of_ble_eq_true rfl)) ?_
                      refine DW.nil ?_
                      refine WK.nBlock ?_
                      refine WK.nThen ?_
                      refine WC.region ?_
                      refine WL.x (X.move rfl) (by decide) ?_
                      refine WL.x (X.add rfl rfl (by omega) (by omega)) (by decide) ?_
                      refine WL.x (X.assign rfl) (by decide) ?_
                      refine WL.nil ?_
                      refine WK.nThen ?_
                      have he104 : ((insN s.Shifts time n i) ++ [gt s.Shifts i]) = (insN s.Shifts time n (i + 1)) := (by first | exact ins_yes hp (by assumption) (by assumption) | exact ins_no1 hp (by assumption) | exact ins_no2 (by assumption))
                      rw [he104]
                      refine WK.next ((i + 1, p, v102)) rfl (.refl _) (.cons rfl (.cons rfl (.cons rfl (.cons rfl (.cons rfl (.cons rfl (.cons rfl (.cons rfl (.cons rfl (.cons rfl (.cons rfl .nil))))))))))) ?_ ?_
                      · first | exact ⟨by omega, pos_yes hp (by assumption) (by assumption)⟩ | exact ⟨by omega, pos_no1 hp (by assumption)⟩ | exact ⟨by omega, pos_no2 hp (by assumption)⟩
                      · (dsimp only; omega)
                  · refine WL.x (X.move rfl) (by decide) ?_
                    refine WL.no rfl rfl rfl (by decide) ?_
                    refine WL.no rfl rfl rfl (by decide) ?_
                    refine WL.no rfl rfl rfl (by decide) ?_
                    refine WL.no rfl rfl rfl (by decide) ?_
                    refine WL.no rfl rfl rfl (by decide) ?_
                    refine WL.no rfl rfl rfl (by decide) ?_
                    refine WL.no rfl rfl rfl (by decide) ?_
                    refine WL.no rfl rfl rfl (by decide) ?_
                    refine WL.x (X.pickF rfl rfl rfl) (by decide) ?_
                    refine WL.nil ?_
                    refine WK.nThen ?_
                    refine WC.condF rfl ?_
                    refine WC.skip ?_
                    refine WK.nThen ?_
                    refine WC.draw (π := (.cons 0 (.cons 1 (.cons 2 (.cons 3 (.cons 4 (.cons 5 (.cons 6 (.cons 7 (.cons 8 (.cons 9 (.cons 10 .done)))))))))))) [7, 8, 10] [8, 10] rfl (by kernel_rfl) ?_
                    refine DW.x rfl rfl (X.field Try.runUnderlying25 rfl Try.sizeOf23 rfl) (by decide) ?_
                    refine DW.x rfl rfl (X.loadB (k := 1) Try.isAgg23 rfl rfl rfl) (by decide) ?_
                    refine DW.x rfl rfl (X.field Try.runUnderlying25 rfl Try.sizeOf23 rfl) (by decide) ?_
                    refine DW.x rfl rfl (X.loadB (k := 4) Try.isAgg23 rfl rfl rfl) (by decide) ?_
                    refine DW.x rfl rfl (X.move rfl) (by decide) ?_
                    refine DW.xe rfl rfl (E.idxN i Try.runUnderlying23 Try.sizeOf72 rfl rfl hs4 (by omega)) (by decide) (fun p105 hp106 => ?_)
                    refine DW.xe rfl rfl (E.loadAgg Try.isAgg72 Try.sizeOf72 rfl hp106) (by decide) (fun c107 hc108 => ?_)
                    obtain rfl := hc108
                    refine DW.tl rfl rfl rfl (T.lit1 sl23 rfl rfl rfl (by decide)) (by decide) fun b109 => ?_
                    refine DW.ta rfl rfl rfl rfl (T.appendF (k := 0) (a := gt s.Shifts i) sl23 rfl rfl rfl rfl (by first | omega | (simp; omega)) (by decide)) (by decide) (fun v110 => ?_)
                    refine DW.x rfl rfl (X.field Try.runUnderlying25 rfl Try.sizeOf23 rfl) (by decide) ?_
                    refine DW.ts rfl rfl rfl rfl (OpTo.own1 (k := 0) rfl trivial (defd2 rfl rfl rfl) fun ho111 => T.storeB (k := 1) Try.sizeOf23 rfl rfl rfl ho111 (Nat.le_of_ble_eq_true rfl)) ?_
                    refine DW.nil ?_
                    refine WK.nBlock ?_
                    refine WK.nThen ?_
                    refine WC.region ?_
                    refine WL.x (X.move rfl) (by decide) ?_
                    refine WL.x (X.add rfl rfl (by omega) (by omega)) (by decide) ?_
                    refine WL.x (X.assign rfl) (by decide) ?_
                    refine WL.nil ?_
                    refine WK.nThen ?_
                    have he112 : ((insN s.Shifts time n i) ++ [gt s.Shifts i]) = (insN s.Shifts time n (i + 1)) := (by first | exact ins_yes hp (by assumption) (by assumption) | exact ins_no1 hp (by assumption) | exact ins_no2 (by assumption))
                    rw [he112]
                    refine WK.next ((i + 1, p, v110)) rfl (.refl _) (.cons rfl (.cons rfl (.cons rfl (.cons rfl (.cons rfl (.cons rfl (.cons rfl (.cons rfl (.cons rfl (.cons rfl (.cons rfl .nil))))))))))) ?_ ?_
                    · first | exact ⟨by omega, pos_yes hp (by assumption) (by assumption)⟩ | exact ⟨by omega, pos_no1 hp (by assumption)⟩ | exact ⟨by omega, pos_no2 hp (by assumption)⟩
                    · (dsimp only; omega)
                · refine WL.nil ?_
                  refine WK.nThen ?_
                  refine WC.condF rfl ?_
                  refine WC.exit ?_
                  refine WK.eThen ?_
                  refine WK.eThen ?_
                  refine WK.eHit ?_
                  refine WK.nThen ?_
                  refine WC.seq ?_
                  refine WC.seq ?_
                  refine WC.region ?_
                  refine WL.x (X.move rfl) (by decide) ?_
                  refine WL.condb (X.not rfl) (by decide) (fun h113 => ?_) (fun h113 => ?_)
                  · refine WL.nil ?_
                    refine WK.nThen ?_
                    refine WC.condT rfl ?_
                    refine WC.region ?_
                    refine WL.x (X.field Try.runUnderlying25 rfl Try.sizeOf23 rfl) (by decide) ?_
                    refine WL.x (X.loadB (k := 1) Try.isAgg23 rfl rfl rfl) (by decide) ?_
                    refine WL.x (X.move rfl) (by decide) ?_
                    refine WL.x (X.move rfl) (by decide) ?_
                    refine WL.x (X.move rfl) (by decide) ?_
                    refine WL.x (V := Value.agg [.int .i64 (n), .int .i64 (n)].toArray) (X.build Try.zeroValue33 Try.runUnderlying33 (places33 _ Try.underlying33) rfl rfl) (by decide) ?_
                    refine WL.x (V := Value.agg [.int .i64 (time), .int .i64 (n), .int .i64 (n)].toArray) (X.build Try.zeroValue72 Try.runUnderlying72 (places72 _ Try.underlying72) rfl rfl) (by decide) ?_
                    refine WL.tl (T.lit1 sl23 rfl rfl rfl (by decide)) (by decide) fun b114 => ?_
                    refine WL.ta (T.appendF (k := 0) (a := (Shf.mk (time) ((Span.mk (n) (n))))) sl23 rfl rfl rfl rfl (by first | omega | (simp; omega)) (by decide)) (by decide) (fun v115 => ?_)
                    refine WL.x (X.field Try.runUnderlying25 rfl Try.sizeOf23 rfl) (by decide) ?_
                    refine WL.own1 (k := 0) rfl (fun ho116 => ?_)
                    refine WL.ts (T.storeB (k := 1) Try.sizeOf23 rfl rfl rfl ho116 (Nat.le_of_ble_eq_true rfl)) ?_
                    refine WL.nil ?_
                    refine WK.nThen ?_
                    refine WC.seq ?_
                    have he117 : ((insN s.Shifts time n i) ++ [(Shf.mk (time) ((Span.mk (n) (n))))]) = (insL s.Shifts time n) := (by first | exact ins_end1 hp (by omega) (by assumption) | exact ins_end2 hp (by omega) (by assumption))
                    rw [he117]
                    have hil := insL_len s.Shifts time n
                    refine WC.region ?_
                    refine WL.x (X.loadBA (k := 1) Try.isAgg25 Try.sizeOf25 rfl rfl rfl) (by decide) ?_
                    refine WL.x (X.loadBA (k := 3) Try.isAgg25 Try.sizeOf25 rfl rfl rfl) (by decide) ?_
                    refine WL.x (X.move rfl) (by decide) ?_
                    refine WL.x (X.move rfl) (by decide) ?_
                    refine WL.freezeF 0 rfl rfl (by simp only [lenB]; omega) (fun m118 hle119 hs120 => ?_)
                    replace hs2 := hs2.mono hle119
                    replace hs4 := hs4.mono hle119
                    replace hs8 := hs8.mono hle119
                    replace hs10 := hs10.mono hle119
                    refine WL.x (X.call Try.call25 rfl (adjust25 _ _ ((Ser.mk (s.Values) (insL s.Shifts time n))) ⟨_, _, rfl, hs2, hs120⟩ _ t ⟨_, _, rfl, hs8, hs10⟩ _ _ )) (by decide) ?_
                    refine WL.x (X.move rfl) (by decide) ?_
                    refine WL.x (X.extract rfl rfl) (by decide) ?_
                    refine WL.x (X.extract rfl rfl) (by decide) ?_
                    refine WL.tn (T.alloc Try.zeroValue33 rfl) (by decide) fun b121 => ?_
                    refine WL.ts (T.storeBA (k := 0) Try.sizeOf33 rfl rfl rfl (one_cons rfl (one_cons rfl one_nil)) rfl rfl) ?_
                    refine WL.x (X.assign rfl) (by decide) ?_
                    refine WL.nil ?_
                    refine WK.nThen ?_
                    refine WC.seq ?_
                    refine WC.seq ?_
                    have hw : adjR (Ser.mk s.Values (insL s.Shifts time n)) t time most = _ := adj_with hoo.1 hoo.2 (by omega) hrng (by omega)
                    have hj2 : (adjR (Ser.mk s.Values (insL s.Shifts time n)) t time most).2 = (adjR s t time most).2 := (by rw [hw]; split <;> (dsimp only; omega))
                    have hj3 : (adjR s t time most).2 = 0 → (adjR (Ser.mk s.Values (insL s.Shifts time n)) t time most).1.Lo = (adjR s t time most).1.Lo - n ∧ (adjR (Ser.mk s.Values (insL s.Shifts time n)) t time most).1.Hi = (adjR s t time most).1.Hi - n := (fun h => by rw [hw, if_pos h]; exact ⟨rfl, rfl⟩)
                    refine WC.region ?_
                    refine WL.x (X.move rfl) (by decide) ?_
                    refine WL.x (X.eql rfl rfl) (by decide) ?_
                    refine WL.x (X.move rfl) (by decide) ?_
                    refine WL.x (X.eql rfl rfl) (by decide) ?_
                    refine WL.x (OpX.f (X.neqB Try.underlying4 rfl rfl) (fun h => h (by rw [hj2]))) (by decide) ?_
                    refine WL.nil ?_
                    refine WK.nThen ?_
                    refine WC.condF rfl ?_
                    refine WC.skip ?_
                    refine WK.nThen ?_
                    refine WC.seq ?_
                    refine WC.draw (π := (.cons 0 (.cons 1 (.cons 2 (.cons 3 (.cons 4 (.cons 5 (.cons 6 (.cons 7 (.cons 8 (.cons 9 (.cons 10 (.cons 11 (.cons 12 (.cons 13 (.cons 14 (.cons 15 (.cons 16 (.cons 17 (.cons 18 (.cons 19 (.cons 20 (.cons 21 (.cons 22 (.cons 23 (.cons 24 (.cons 25 (.cons 26 (.cons 27 (.cons 28 (.cons 29 (.cons 30 (.cons 31 .done))))))))))))))))))))))))))))))))) [] [] rfl (by kernel_rfl) ?_
                    refine DW.x rfl rfl (X.move rfl) (by decide) ?_
                    refine DW.x rfl rfl (X.move rfl) (by decide) ?_
                    refine DW.x rfl rfl (X.move rfl) (by decide) ?_
                    refine DW.condn rfl rfl (X.neq rfl rfl) (by decide) (fun h122 => ?_) (fun h122 => ?_)
                    · refine DW.x rfl rfl (X.move rfl) (by decide) ?_
                      refine DW.no rfl rfl (by decide) ?_
                      refine DW.no rfl rfl (by decide) ?_
                      refine DW.no rfl rfl (by decide) ?_
                      refine DW.no rfl rfl (by decide) ?_
                      refine DW.no rfl rfl (by decide) ?_
                      refine DW.no rfl rfl (by decide) ?_
                      refine DW.no rfl rfl (by decide) ?_
                      refine DW.no rfl rfl (by decide) ?_
                      refine DW.no rfl rfl (by decide) ?_
                      refine DW.no rfl rfl (by decide) ?_
                      refine DW.no rfl rfl (by decide) ?_
                      refine DW.no rfl rfl (by decide) ?_
                      refine DW.no rfl rfl (by decide) ?_
                      refine DW.no rfl rfl (by decide) ?_
                      refine DW.no rfl rfl (by decide) ?_
                      refine DW.no rfl rfl (by decide) ?_
                      refine DW.no rfl rfl (by decide) ?_
                      refine DW.no rfl rfl (by decide) ?_
                      refine DW.no rfl rfl (by decide) ?_
                      refine DW.no rfl rfl (by decide) ?_
                      refine DW.no rfl rfl (by decide) ?_
                      refine DW.no rfl rfl (by decide) ?_
                      refine DW.no rfl rfl (by decide) ?_
                      refine DW.no rfl rfl (by decide) ?_
                      refine DW.x rfl rfl (X.pickT rfl rfl rfl) (by decide) ?_
                      refine DW.x rfl rfl (X.pickT rfl rfl rfl) (by decide) ?_
                      refine DW.x rfl rfl (X.assign rfl) (by decide) ?_
                      refine DW.nil ?_
                      refine WK.nThen ?_
                      refine WC.ret ?_
                      refine WK.ret1 rfl rfl (fun w' hw' => Ret.exact hw' ?_)
                      first | rfl | (exfalso; omega) | (exfalso; contradiction) | (exfalso; have q_ := hj3 (by omega); omega) | exact (bool_true (decide_eq_decide.2 (by have q_ := hj3 (by omega); unfold inT; constructor <;> intro q2_ <;> omega))).symm | exact (bool_true (by omega)).symm
                    · refine DW.x rfl rfl (X.move rfl) (by decide) ?_
                      refine DW.x rfl rfl (X.field Try.runUnderlying33 rfl Try.sizeOf3 rfl) (by decide) ?_
                      refine DW.x rfl rfl (X.loadB (k := 0) Try.isAgg3 rfl rfl rfl) (by decide) ?_
                      refine DW.x rfl rfl (X.field Try.runUnderlying33 rfl Try.sizeOf3 rfl) (by decide) ?_
                      refine DW.x rfl rfl (X.loadB (k := 2) Try.isAgg3 rfl rfl rfl) (by decide) ?_
                      refine DW.x rfl rfl (X.move rfl) (by decide) ?_
                      refine DW.x rfl rfl (X.sub rfl rfl (by omega) (by omega)) (by decide) ?_
                      refine DW.cond rfl rfl (X.eql rfl rfl) (by decide) (fun h123 => ?_) (fun h123 => ?_)
                      · refine DW.x rfl rfl (X.move rfl) (by decide) ?_
                        refine DW.x rfl rfl (X.field Try.runUnderlying33 rfl Try.sizeOf3 rfl) (by decide) ?_
                        refine DW.x rfl rfl (X.loadB (k := 0) Try.isAgg3 rfl rfl rfl) (by decide) ?_
                        refine DW.x rfl rfl (X.field Try.runUnderlying33 rfl Try.sizeOf3 rfl) (by decide) ?_
                        refine DW.x rfl rfl (X.loadB (k := 2) Try.isAgg3 rfl rfl rfl) (by decide) ?_
                        refine DW.x rfl rfl (X.move rfl) (by decide) ?_
                        refine DW.x rfl rfl (X.sub rfl rfl (by omega) (by omega)) (by decide) ?_
                        refine DW.cond rfl rfl (X.eql rfl rfl) (by decide) (fun h124 => ?_) (fun h124 => ?_)
                        · refine DW.x rfl rfl (X.pickT rfl rfl rfl) (by decide) ?_
                          refine DW.x rfl rfl (X.move rfl) (by decide) ?_
                          refine DW.x rfl rfl (X.loadBA (k := 0) Try.isAgg33 Try.sizeOf33 rfl rfl rfl) (by decide) ?_
                          refine DW.x rfl rfl (X.call Try.call41 rfl (in41 _ _ ((adjR (((Ser.mk (s.Values) (insL s.Shifts time n)))) t time most).1) rfl _ )) (by decide) ?_
                          refine DW.x rfl rfl (X.loadBA (k := 2) Try.isAgg33 Try.sizeOf33 rfl rfl rfl) (by decide) ?_
                          refine DW.x rfl rfl (X.move rfl) (by decide) ?_
                          refine DW.x rfl rfl (X.call Try.call41 rfl (in41 _ _ ((adjR s t time most).1) rfl _ )) (by decide) ?_
                          refine DW.x rfl rfl (X.eqlB Try.underlying4 rfl rfl) (by decide) ?_
                          refine DW.x rfl rfl (X.pickT rfl rfl rfl) (by decide) ?_
                          refine DW.x rfl rfl (X.pickF rfl rfl rfl) (by decide) ?_
                          refine DW.x rfl rfl (X.pickT rfl rfl rfl) (by decide) ?_
                          refine DW.x rfl rfl (X.assign rfl) (by decide) ?_
                          refine DW.nil ?_
                          refine WK.nThen ?_
                          refine WC.ret ?_
                          refine WK.ret1 rfl rfl (fun w' hw' => Ret.exact hw' ?_)
                          first | rfl | (exfalso; omega) | (exfalso; contradiction) | (exfalso; have q_ := hj3 (by omega); omega) | exact (bool_true (decide_eq_decide.2 (by have q_ := hj3 (by omega); unfold inT; constructor <;> intro q2_ <;> omega))).symm | exact (bool_true (by omega)).symm
                        · refine DW.x rfl rfl (X.pickT rfl rfl rfl) (by decide) ?_
                          refine DW.x rfl rfl (X.move rfl) (by decide) ?_
                          refine DW.no rfl rfl (by decide) ?_
                          refine DW.no rfl rfl (by decide) ?_
                          refine DW.no rfl rfl (by decide) ?_
                          refine DW.no rfl rfl (by decide) ?_
                          refine DW.no rfl rfl (by decide) ?_
                          refine DW.no rfl rfl (by decide) ?_
                          refine DW.x rfl rfl (X.pickF rfl rfl rfl) (by decide) ?_
                          refine DW.x rfl rfl (X.pickF rfl rfl rfl) (by decide) ?_
                          refine DW.x rfl rfl (X.pickT rfl rfl rfl) (by decide) ?_
                          refine DW.x rfl rfl (X.assign rfl) (by decide) ?_
                          refine DW.nil ?_
                          refine WK.nThen ?_
                          refine WC.ret ?_
                          refine WK.ret1 rfl rfl (fun w' hw' => Ret.exact hw' ?_)
                          first | rfl | (exfalso; omega) | (exfalso; contradiction) | (exfalso; have q_ := hj3 (by omega); omega) | exact (bool_true (decide_eq_decide.2 (by have q_ := hj3 (by omega); unfold inT; constructor <;> intro q2_ <;> omega))).symm | exact (bool_true (by omega)).symm
                      · refine DW.x rfl rfl (X.move rfl) (by decide) ?_
                        refine DW.no rfl rfl (by decide) ?_
                        refine DW.no rfl rfl (by decide) ?_
                        refine DW.no rfl rfl (by decide) ?_
                        refine DW.no rfl rfl (by decide) ?_
                        refine DW.no rfl rfl (by decide) ?_
                        refine DW.no rfl rfl (by decide) ?_
                        refine DW.no rfl rfl (by decide) ?_
                        refine DW.x rfl rfl (X.pickF rfl rfl rfl) (by decide) ?_
                        refine DW.x rfl rfl (X.move rfl) (by decide) ?_
                        refine DW.no rfl rfl (by decide) ?_
                        refine DW.no rfl rfl (by decide) ?_
                        refine DW.no rfl rfl (by decide) ?_
                        refine DW.no rfl rfl (by decide) ?_
                        refine DW.no rfl rfl (by decide) ?_
                        refine DW.no rfl rfl (by decide) ?_
                        refine DW.x rfl rfl (X.pickF rfl rfl rfl) (by decide) ?_
                        refine DW.x rfl rfl (X.pickF rfl rfl rfl) (by decide) ?_
                        refine DW.x rfl rfl (X.pickT rfl rfl rfl) (by decide) ?_
                        refine DW.x rfl rfl (X.assign rfl) (by decide) ?_
                        refine DW.nil ?_
                        refine WK.nThen ?_
                        refine WC.ret ?_
                        refine WK.ret1 rfl rfl (fun w' hw' => Ret.exact hw' ?_)
                        first | rfl | (exfalso; omega) | (exfalso; contradiction) | (exfalso; have q_ := hj3 (by omega); omega) | exact (bool_true (decide_eq_decide.2 (by have q_ := hj3 (by omega); unfold inT; constructor <;> intro q2_ <;> omega))).symm | exact (bool_true (by omega)).symm
                  · refine WL.nil ?_
                    refine WK.nThen ?_
                    refine WC.condF rfl ?_
                    refine WC.skip ?_
                    refine WK.nThen ?_
                    refine WC.seq ?_
                    have he125 : (insN s.Shifts time n i) = (insL s.Shifts time n) := (by first | exact ins_end1 hp (by omega) (by assumption) | exact ins_end2 hp (by omega) (by assumption))
                    rw [he125]
                    have hil := insL_len s.Shifts time n
                    refine WC.region ?_
                    refine WL.x (X.loadBA (k := 1) Try.isAgg25 Try.sizeOf25 rfl rfl rfl) (by decide) ?_
                    refine WL.x (X.loadBA (k := 3) Try.isAgg25 Try.sizeOf25 rfl rfl rfl) (by decide) ?_
                    refine WL.x (X.move rfl) (by decide) ?_
                    refine WL.x (X.move rfl) (by decide) ?_
                    refine WL.freezeF 0 rfl rfl (by simp only [lenB]; omega) (fun m126 hle127 hs128 => ?_)
                    replace hs2 := hs2.mono hle127
                    replace hs4 := hs4.mono hle127
                    replace hs8 := hs8.mono hle127
                    replace hs10 := hs10.mono hle127
                    refine WL.x (X.call Try.call25 rfl (adjust25 _ _ ((Ser.mk (s.Values) (insL s.Shifts time n))) ⟨_, _, rfl, hs2, hs128⟩ _ t ⟨_, _, rfl, hs8, hs10⟩ _ _ )) (by decide) ?_
                    refine WL.x (X.move rfl) (by decide) ?_
                    refine WL.x (X.extract rfl rfl) (by decide) ?_
                    refine WL.x (X.extract rfl rfl) (by decide) ?_
                    refine WL.tn (T.alloc Try.zeroValue33 rfl) (by decide) fun b129 => ?_
                    refine WL.ts (T.storeBA (k := 0) Try.sizeOf33 rfl rfl rfl (one_cons rfl (one_cons rfl one_nil)) rfl rfl) ?_
                    refine WL.x (X.assign rfl) (by decide) ?_
                    refine WL.nil ?_
                    refine WK.nThen ?_
                    refine WC.seq ?_
                    refine WC.seq ?_
                    have hw : adjR (Ser.mk s.Values (insL s.Shifts time n)) t time most = _ := adj_with hoo.1 hoo.2 (by omega) hrng (by omega)
                    have hj2 : (adjR (Ser.mk s.Values (insL s.Shifts time n)) t time most).2 = (adjR s t time most).2 := (by rw [hw]; split <;> (dsimp only; omega))
                    have hj3 : (adjR s t time most).2 = 0 → (adjR (Ser.mk s.Values (insL s.Shifts time n)) t time most).1.Lo = (adjR s t time most).1.Lo - n ∧ (adjR (Ser.mk s.Values (insL s.Shifts time n)) t time most).1.Hi = (adjR s t time most).1.Hi - n := (fun h => by rw [hw, if_pos h]; exact ⟨rfl, rfl⟩)
                    refine WC.region ?_
                    refine WL.x (X.move rfl) (by decide) ?_
                    refine WL.x (X.eql rfl rfl) (by decide) ?_
                    refine WL.x (X.move rfl) (by decide) ?_
                    refine WL.x (X.eql rfl rfl) (by decide) ?_
                    refine WL.x (OpX.f (X.neqB Try.underlying4 rfl rfl) (fun h => h (by rw [hj2]))) (by decide) ?_
                    refine WL.nil ?_
                    refine WK.nThen ?_
                    refine WC.condF rfl ?_
                    refine WC.skip ?_
                    refine WK.nThen ?_
                    refine WC.seq ?_
                    refine WC.draw (π := (.cons 0 (.cons 1 (.cons 2 (.cons 3 (.cons 4 (.cons 5 (.cons 6 (.cons 7 (.cons 8 (.cons 9 (.cons 10 (.cons 11 (.cons 12 (.cons 13 (.cons 14 (.cons 15 (.cons 16 (.cons 17 (.cons 18 (.cons 19 (.cons 20 (.cons 21 (.cons 22 (.cons 23 (.cons 24 (.cons 25 (.cons 26 (.cons 27 (.cons 28 (.cons 29 (.cons 30 (.cons 31 .done))))))))))))))))))))))))))))))))) [] [] rfl (by kernel_rfl) ?_
                    refine DW.x rfl rfl (X.move rfl) (by decide) ?_
                    refine DW.x rfl rfl (X.move rfl) (by decide) ?_
                    refine DW.x rfl rfl (X.move rfl) (by decide) ?_
                    refine DW.condn rfl rfl (X.neq rfl rfl) (by decide) (fun h130 => ?_) (fun h130 => ?_)
                    · refine DW.x rfl rfl (X.move rfl) (by decide) ?_
                      refine DW.no rfl rfl (by decide) ?_
                      refine DW.no rfl rfl (by decide) ?_
                      refine DW.no rfl rfl (by decide) ?_
                      refine DW.no rfl rfl (by decide) ?_
                      refine DW.no rfl rfl (by decide) ?_
                      refine DW.no rfl rfl (by decide) ?_
                      refine DW.no rfl rfl (by decide) ?_
                      refine DW.no rfl rfl (by decide) ?_
                      refine DW.no rfl rfl (by decide) ?_
                      refine DW.no rfl rfl (by decide) ?_
                      refine DW.no rfl rfl (by decide) ?_
                      refine DW.no rfl rfl (by decide) ?_
                      refine DW.no rfl rfl (by decide) ?_
                      refine DW.no rfl rfl (by decide) ?_
                      refine DW.no rfl rfl (by decide) ?_
                      refine DW.no rfl rfl (by decide) ?_
                      refine DW.no rfl rfl (by decide) ?_
                      refine DW.no rfl rfl (by decide) ?_
                      refine DW.no rfl rfl (by decide) ?_
                      refine DW.no rfl rfl (by decide) ?_
                      refine DW.no rfl rfl (by decide) ?_
                      refine DW.no rfl rfl (by decide) ?_
                      refine DW.no rfl rfl (by decide) ?_
                      refine DW.no rfl rfl (by decide) ?_
                      refine DW.x rfl rfl (X.pickT rfl rfl rfl) (by decide) ?_
                      refine DW.x rfl rfl (X.pickT rfl rfl rfl) (by decide) ?_
                      refine DW.x rfl rfl (X.assign rfl) (by decide) ?_
                      refine DW.nil ?_
                      refine WK.nThen ?_
                      refine WC.ret ?_
                      refine WK.ret1 rfl rfl (fun w' hw' => Ret.exact hw' ?_)
                      first | rfl | (exfalso; omega) | (exfalso; contradiction) | (exfalso; have q_ := hj3 (by omega); omega) | exact (bool_true (decide_eq_decide.2 (by have q_ := hj3 (by omega); unfold inT; constructor <;> intro q2_ <;> omega))).symm | exact (bool_true (by omega)).symm
                    · refine DW.x rfl rfl (X.move rfl) (by decide) ?_
                      refine DW.x rfl rfl (X.field Try.runUnderlying33 rfl Try.sizeOf3 rfl) (by decide) ?_
                      refine DW.x rfl rfl (X.loadB (k := 0) Try.isAgg3 rfl rfl rfl) (by decide) ?_
                      refine DW.x rfl rfl (X.field Try.runUnderlying33 rfl Try.sizeOf3 rfl) (by decide) ?_
                      refine DW.x rfl rfl (X.loadB (k := 2) Try.isAgg3 rfl rfl rfl) (by decide) ?_
                      refine DW.x rfl rfl (X.move rfl) (by decide) ?_
                      refine DW.x rfl rfl (X.sub rfl rfl (by omega) (by omega)) (by decide) ?_
                      refine DW.cond rfl rfl (X.eql rfl rfl) (by decide) (fun h131 => ?_) (fun h131 => ?_)
                      · refine DW.x rfl rfl (X.move rfl) (by decide) ?_
                        refine DW.x rfl rfl (X.field Try.runUnderlying33 rfl Try.sizeOf3 rfl) (by decide) ?_
                        refine DW.x rfl rfl (X.loadB (k := 0) Try.isAgg3 rfl rfl rfl) (by decide) ?_
                        refine DW.x rfl rfl (X.field Try.runUnderlying33 rfl Try.sizeOf3 rfl) (by decide) ?_
                        refine DW.x rfl rfl (X.loadB (k := 2) Try.isAgg3 rfl rfl rfl) (by decide) ?_
                        refine DW.x rfl rfl (X.move rfl) (by decide) ?_
                        refine DW.x rfl rfl (X.sub rfl rfl (by omega) (by omega)) (by decide) ?_
                        refine DW.cond rfl rfl (X.eql rfl rfl) (by decide) (fun h132 => ?_) (fun h132 => ?_)
                        · refine DW.x rfl rfl (X.pickT rfl rfl rfl) (by decide) ?_
                          refine DW.x rfl rfl (X.move rfl) (by decide) ?_
                          refine DW.x rfl rfl (X.loadBA (k := 0) Try.isAgg33 Try.sizeOf33 rfl rfl rfl) (by decide) ?_
                          refine DW.x rfl rfl (X.call Try.call41 rfl (in41 _ _ ((adjR (((Ser.mk (s.Values) (insL s.Shifts time n)))) t time most).1) rfl _ )) (by decide) ?_
                          refine DW.x rfl rfl (X.loadBA (k := 2) Try.isAgg33 Try.sizeOf33 rfl rfl rfl) (by decide) ?_
                          refine DW.x rfl rfl (X.move rfl) (by decide) ?_
                          refine DW.x rfl rfl (X.call Try.call41 rfl (in41 _ _ ((adjR s t time most).1) rfl _ )) (by decide) ?_
                          refine DW.x rfl rfl (X.eqlB Try.underlying4 rfl rfl) (by decide) ?_
                          refine DW.x rfl rfl (X.pickT rfl rfl rfl) (by decide) ?_
                          refine DW.x rfl rfl (X.pickF rfl rfl rfl) (by decide) ?_
                          refine DW.x rfl rfl (X.pickT rfl rfl rfl) (by decide) ?_
                          refine DW.x rfl rfl (X.assign rfl) (by decide) ?_
                          refine DW.nil ?_
                          refine WK.nThen ?_
                          refine WC.ret ?_
                          refine WK.ret1 rfl rfl (fun w' hw' => Ret.exact hw' ?_)
                          first | rfl | (exfalso; omega) | (exfalso; contradiction) | (exfalso; have q_ := hj3 (by omega); omega) | exact (bool_true (decide_eq_decide.2 (by have q_ := hj3 (by omega); unfold inT; constructor <;> intro q2_ <;> omega))).symm | exact (bool_true (by omega)).symm
                        · refine DW.x rfl rfl (X.pickT rfl rfl rfl) (by decide) ?_
                          refine DW.x rfl rfl (X.move rfl) (by decide) ?_
                          refine DW.no rfl rfl (by decide) ?_
                          refine DW.no rfl rfl (by decide) ?_
                          refine DW.no rfl rfl (by decide) ?_
                          refine DW.no rfl rfl (by decide) ?_
                          refine DW.no rfl rfl (by decide) ?_
                          refine DW.no rfl rfl (by decide) ?_
                          refine DW.x rfl rfl (X.pickF rfl rfl rfl) (by decide) ?_
                          refine DW.x rfl rfl (X.pickF rfl rfl rfl) (by decide) ?_
                          refine DW.x rfl rfl (X.pickT rfl rfl rfl) (by decide) ?_
                          refine DW.x rfl rfl (X.assign rfl) (by decide) ?_
                          refine DW.nil ?_
                          refine WK.nThen ?_
                          refine WC.ret ?_
                          refine WK.ret1 rfl rfl (fun w' hw' => Ret.exact hw' ?_)
                          first | rfl | (exfalso; omega) | (exfalso; contradiction) | (exfalso; have q_ := hj3 (by omega); omega) | exact (bool_true (decide_eq_decide.2 (by have q_ := hj3 (by omega); unfold inT; constructor <;> intro q2_ <;> omega))).symm | exact (bool_true (by omega)).symm
                      · refine DW.x rfl rfl (X.move rfl) (by decide) ?_
                        refine DW.no rfl rfl (by decide) ?_
                        refine DW.no rfl rfl (by decide) ?_
                        refine DW.no rfl rfl (by decide) ?_
                        refine DW.no rfl rfl (by decide) ?_
                        refine DW.no rfl rfl (by decide) ?_
                        refine DW.no rfl rfl (by decide) ?_
                        refine DW.no rfl rfl (by decide) ?_
                        refine DW.x rfl rfl (X.pickF rfl rfl rfl) (by decide) ?_
                        refine DW.x rfl rfl (X.move rfl) (by decide) ?_
                        refine DW.no rfl rfl (by decide) ?_
                        refine DW.no rfl rfl (by decide) ?_
                        refine DW.no rfl rfl (by decide) ?_
                        refine DW.no rfl rfl (by decide) ?_
                        refine DW.no rfl rfl (by decide) ?_
                        refine DW.no rfl rfl (by decide) ?_
                        refine DW.x rfl rfl (X.pickF rfl rfl rfl) (by decide) ?_
                        refine DW.x rfl rfl (X.pickF rfl rfl rfl) (by decide) ?_
                        refine DW.x rfl rfl (X.pickT rfl rfl rfl) (by decide) ?_
                        refine DW.x rfl rfl (X.assign rfl) (by decide) ?_
                        refine DW.nil ?_
                        refine WK.nThen ?_
                        refine WC.ret ?_
                        refine WK.ret1 rfl rfl (fun w' hw' => Ret.exact hw' ?_)
                        first | rfl | (exfalso; omega) | (exfalso; contradiction) | (exfalso; have q_ := hj3 (by omega); omega) | exact (bool_true (decide_eq_decide.2 (by have q_ := hj3 (by omega); unfold inT; constructor <;> intro q2_ <;> omega))).symm | exact (bool_true (by omega)).symm
    · refine WL.yes rfl rfl ?_
      refine WL.x (X.not rfl) (by decide) ?_
      refine WL.x (X.pickF rfl rfl rfl) (by decide) ?_
      refine WL.x (X.move rfl) (by decide) ?_
      refine WL.no rfl rfl rfl (by decide) ?_
      refine WL.no rfl rfl rfl (by decide) ?_
      refine WL.no rfl rfl rfl (by decide) ?_
      refine WL.no rfl rfl rfl (by decide) ?_
      refine WL.x (X.pickT rfl rfl rfl) (by decide) ?_
      refine WL.x (X.move rfl) (by decide) ?_
      refine WL.no rfl rfl rfl (by decide) ?_
      refine WL.no rfl rfl rfl (by decide) ?_
      refine WL.x (X.pickT rfl rfl rfl) (by decide) ?_
      refine WL.x (X.move rfl) (by decide) ?_
      refine WL.no rfl rfl rfl (by decide) ?_
      refine WL.no rfl rfl rfl (by decide) ?_
      refine WL.x (X.pickT rfl rfl rfl) (by decide) ?_
      refine WL.nil ?_
      refine WK.nThen ?_
      refine WC.condT rfl ?_
      refine WC.seq ?_
      refine WC.region ?_
      refine WL.x (X.move rfl) (by decide) ?_
      refine WL.x (X.assign rfl) (by decide) ?_
      refine WL.nil ?_
      refine WK.nThen ?_
      refine WC.ret ?_
      refine WK.rThen ?_
      refine WK.ret1 rfl rfl (fun w' hw' => Ret.exact hw' ?_)
      first | rfl | (exfalso; omega) | (exfalso; contradiction) | (exfalso; have q_ := hj3 (by omega); omega) | exact (bool_true (decide_eq_decide.2 (by have q_ := hj3 (by omega); unfold inT; constructor <;> intro q2_ <;> omega))).symm | exact (bool_true (by omega)).symm
  · refine WL.x (X.not rfl) (by decide) ?_
    refine WL.x (X.move rfl) (by decide) ?_
    refine WL.no rfl rfl rfl (by decide) ?_
    refine WL.no rfl rfl rfl (by decide) ?_
    refine WL.no rfl rfl rfl (by decide) ?_
    refine WL.x (X.pickT rfl rfl rfl) (by decide) ?_
    refine WL.x (X.move rfl) (by decide) ?_
    refine WL.no rfl rfl rfl (by decide) ?_
    refine WL.no rfl rfl rfl (by decide) ?_
    refine WL.no rfl rfl rfl (by decide) ?_
    refine WL.no rfl rfl rfl (by decide) ?_
    refine WL.x (X.pickT rfl rfl rfl) (by decide) ?_
    refine WL.x (X.move rfl) (by decide) ?_
    refine WL.no rfl rfl rfl (by decide) ?_
    refine WL.no rfl rfl rfl (by decide) ?_
    refine WL.x (X.pickT rfl rfl rfl) (by decide) ?_
    refine WL.x (X.move rfl) (by decide) ?_
    refine WL.no rfl rfl rfl (by decide) ?_
    refine WL.no rfl rfl rfl (by decide) ?_
    refine WL.x (X.pickT rfl rfl rfl) (by decide) ?_
    refine WL.nil ?_
    refine WK.nThen ?_
    refine WC.condT rfl ?_
    refine WC.seq ?_
    refine WC.region ?_
    refine WL.x (X.move rfl) (by decide) ?_
    refine WL.x (X.assign rfl) (by decide) ?_
    refine WL.nil ?_
    refine WK.nThen ?_
    refine WC.ret ?_
    refine WK.rThen ?_
    refine WK.ret1 rfl rfl (fun w' hw' => Ret.exact hw' ?_)
    first | rfl | (exfalso; omega) | (exfalso; contradiction) | (exfalso; have q_ := hj3 (by omega); omega) | exact (bool_true (decide_eq_decide.2 (by have q_ := hj3 (by omega); unfold inT; constructor <;> intro q2_ <;> omega))).symm | exact (bool_true (by omega)).symm
end Go.Proofs.C8
