/- The walk of the statement CenturyExtremes: its function answers true. -/
import Derived.Test.YtednficclnjmjaaC8Br
import Derived.Test.YtednficclnjmjaaC8W9
import Derived.Test.YtednficclnjmjaaC8LExt
namespace Go.Proofs.C8
open Go Go.Kx
set_option linter.unusedSimpArgs false
set_option linter.unusedVariables false
theorem law5 (m : Mem) (cs : List Value) (s : Ser) (hs : Enc.rd m cs s) (cx : List Value) (x : Rl) (hx : Enc.rd m cx x) (ca : List Value) (a : Span) (ha : Enc.rd m ca a)  (ok0 : Rng.ok s) (ok1 : Rng.ok x) (ok2 : Rng.ok a) : Exact Try.prog 5 #[.agg cs.toArray, .agg cx.toArray, .agg ca.toArray] m (.bool true) := by
  obtain ⟨v1, v3, rfl, hs2, hs4⟩ := hs
  have hl5 := hs2.le
  have hl6 := hs4.le
  obtain ⟨v7, v9, rfl, hs8, hs10⟩ := hx
  have hl11 := hs8.le
  have hl12 := hs10.le
  obtain rfl := ha
  refine Exact.start Try.func5 rfl Try.ntmps5 rfl fun wld => ?_
  refine WC.seq ?_
  refine WC.region ?_
  refine WL.tn (T.boxB rfl rfl) (by decide) fun b13 => ?_
  refine WL.tn (T.boxB rfl rfl) (by decide) fun b14 => ?_
  refine WL.tn (T.boxB rfl rfl) (by decide) fun b15 => ?_
  refine WL.x (X.assign rfl) (by decide) ?_
  refine WL.nil ?_
  refine WK.nThen ?_
  refine WC.seq ?_
  refine WC.region ?_
  refine WL.x (X.call Try.call21 rfl (awake21 _  )) (by decide) ?_
  refine WL.x (X.assign rfl) (by decide) ?_
  refine WL.nil ?_
  refine WK.nThen ?_
  refine WC.seq ?_
  refine WC.seq ?_
  refine WC.region ?_
  refine WL.x (X.loadBA (k := 2) Try.isAgg25 Try.sizeOf25 rfl rfl rfl) (by decide) ?_
  refine WL.cond (X.call Try.call22 rfl (few22 _ _ s ⟨_, _, rfl, hs2, hs4⟩ )) (by decide) (fun h16 => ?_) (fun h16 => ?_)
  · refine WL.x (X.not rfl) (by decide) ?_
    refine WL.x (X.move rfl) (by decide) ?_
    refine WL.yes rfl rfl ?_
    refine WL.x (X.loadBA (k := 1) Try.isAgg52 Try.sizeOf52 rfl rfl rfl) (by decide) ?_
    refine WL.yes rfl rfl ?_
    refine WL.cond (X.call Try.call38 rfl (light38 _ _ x ⟨_, _, rfl, hs8, hs10⟩ )) (by decide) (fun h17 => ?_) (fun h17 => ?_)
    · refine WL.yes rfl rfl ?_
      refine WL.x (X.not rfl) (by decide) ?_
      refine WL.x (X.pickF rfl rfl rfl) (by decide) ?_
      refine WL.nil ?_
      refine WK.nThen ?_
      refine WC.condF rfl ?_
      refine WC.skip ?_
      refine WK.nThen ?_
      refine WC.seq ?_
      refine WC.region ?_
      refine WL.x (X.loadBA (k := 2) Try.isAgg25 Try.sizeOf25 rfl rfl rfl) (by decide) ?_
      refine WL.x (X.loadBA (k := 0) Try.isAgg33 Try.sizeOf33 rfl rfl rfl) (by decide) ?_
      refine WL.x (X.call Try.call37 rfl (extremes37 _ _ s ⟨_, _, rfl, hs2, hs4⟩ _ a rfl )) (by decide) ?_
      refine WL.x (X.move rfl) (by decide) ?_
      refine WL.x (X.extract rfl rfl) (by decide) ?_
      refine WL.x (X.extract rfl rfl) (by decide) ?_
      refine WL.x (X.extract rfl rfl) (by decide) ?_
      refine WL.tn (T.alloc Try.zeroValue33 rfl) (by decide) fun b18 => ?_
      refine WL.tn (T.alloc Try.zeroValue33 rfl) (by decide) fun b19 => ?_
      refine WL.ts (T.storeBA (k := 1) Try.sizeOf33 rfl rfl rfl (one_cons rfl (one_cons rfl one_nil)) rfl rfl) ?_
      refine WL.ts (T.storeBA (k := 0) Try.sizeOf33 rfl rfl rfl (one_cons rfl (one_cons rfl one_nil)) rfl rfl) ?_
      refine WL.x (X.assign rfl) (by decide) ?_
      refine WL.nil ?_
      refine WK.nThen ?_
      refine WC.seq ?_
      refine WC.seq ?_
      refine WC.region ?_
      refine WL.x (X.move rfl) (by decide) ?_
      refine WL.condn (X.neq rfl rfl) (by decide) (fun h20 => ?_) (fun h20 => ?_)
      · refine WL.nil ?_
        refine WK.nThen ?_
        refine WC.condT rfl ?_
        refine WC.seq ?_
        have hz := extR_bad (s := s) (x := a) ‹_›
        have hz1 : (extR s a).1.Lo = 0 := (by rw [hz.1])
        have hz2 : (extR s a).1.Hi = 0 := (by rw [hz.1])
        have hz3 : (extR s a).2.1.Lo = 0 := (by rw [hz.2])
        have hz4 : (extR s a).2.1.Hi = 0 := (by rw [hz.2])
        rw [hz1]
        rw [hz2]
        rw [hz3]
        rw [hz4]
        refine WC.region ?_
        refine WL.x (X.move rfl) (by decide) ?_
        refine WL.x (X.move rfl) (by decide) ?_
        refine WL.yes rfl rfl ?_
        refine WL.x (X.loadBA (k := 1) Try.isAgg33 Try.sizeOf33 rfl rfl rfl) (by decide) ?_
        refine WL.yes rfl rfl ?_
        refine WL.x (V := Value.agg [.int .i64 (0), .int .i64 (0)].toArray) (X.build Try.zeroValue33 Try.runUnderlying33 (places33 _ Try.underlying33) rfl rfl) (by decide) ?_
        refine WL.yes rfl rfl ?_
        refine WL.x (OpX.t (X.eqlS (a := (Span.mk (0) (0))) (b := (Span.mk (0) (0))) gd33 (fun w => eqS33 9998 _ _ w) rfl rfl) rfl) (by decide) ?_
        refine WL.x (X.pickT rfl rfl rfl) (by decide) ?_
        refine WL.x (X.move rfl) (by decide) ?_
        refine WL.yes rfl rfl ?_
        refine WL.x (X.loadBA (k := 0) Try.isAgg33 Try.sizeOf33 rfl rfl rfl) (by decide) ?_
        refine WL.yes rfl rfl ?_
        refine WL.x (V := Value.agg [.int .i64 (0), .int .i64 (0)].toArray) (X.build Try.zeroValue33 Try.runUnderlying33 (places33 _ Try.underlying33) rfl rfl) (by decide) ?_
        refine WL.yes rfl rfl ?_
        refine WL.x (OpX.t (X.eqlS (a := (Span.mk (0) (0))) (b := (Span.mk (0) (0))) gd33 (fun w => eqS33 9998 _ _ w) rfl rfl) rfl) (by decide) ?_
        refine WL.x (X.pickT rfl rfl rfl) (by decide) ?_
        refine WL.x (X.assign rfl) (by decide) ?_
        refine WL.nil ?_
        refine WK.nThen ?_
        refine WC.ret ?_
        refine WK.rThen ?_
        refine WK.ret1 rfl rfl (fun w' hw' => Ret.exact hw' ?_)
        first | rfl | (exfalso; omega) | (exfalso; contradiction) | (exfalso; have q_ := hq1 (by omega); omega) | (exfalso; have q_ := hq2 (by omega); omega) | exact (bool_true (by omega)).symm
      · refine WL.nil ?_
        refine WK.nThen ?_
        refine WC.condF rfl ?_
        refine WC.skip ?_
        refine WK.nThen ?_
        refine WC.seq ?_
        have hx := extR_zero (s := s) (x := a) (by omega)
        have hok := hx.1
        have hnV := hok.nV
        refine WC.region ?_
        refine WL.x (X.loadBA (k := 4) Try.isAgg25 Try.sizeOf25 rfl rfl rfl) (by decide) ?_
        refine WL.x (X.field Try.runUnderlying52 rfl Try.sizeOf28 rfl) (by decide) ?_
        refine WL.x (X.loadB (k := 3) Try.isAgg28 rfl rfl rfl) (by decide) ?_
        refine WL.x (X.field Try.runUnderlying52 rfl Try.sizeOf28 rfl) (by decide) ?_
        refine WL.x (X.loadB (k := 3) Try.isAgg28 rfl rfl rfl) (by decide) ?_
        refine WL.tm (T.call Try.call39 rfl (even39 _ _ s ⟨_, _, rfl, hs2, hs4⟩ _ _ hs8 _ _ hs10 )) (by decide) fun m21 r22 hle23 hR24 => ?_
        obtain ⟨v25, rfl, hs26⟩ := hR24
        replace hs2 := hs2.mono hle23
        replace hs4 := hs4.mono hle23
        replace hs8 := hs8.mono hle23
        replace hs10 := hs10.mono hle23
        have hl27 := hs26.le
        refine WL.x (X.move rfl) (by decide) ?_
        refine WL.x (X.extract rfl rfl) (by decide) ?_
        refine WL.x (X.extract rfl rfl) (by decide) ?_
        refine WL.x (X.assign rfl) (by decide) ?_
        refine WL.x (X.assign rfl) (by decide) ?_
        refine WL.nil ?_
        refine WK.nThen ?_
        refine WC.seq ?_
        refine WC.seq ?_
        refine WC.region ?_
        refine WL.x (X.move rfl) (by decide) ?_
        refine WL.cond (X.eql rfl rfl) (by decide) (fun h28 => ?_) (fun h28 => ?_)
        · refine WL.nil ?_
          refine WK.nThen ?_
          refine WC.condT rfl ?_
          refine WC.seq ?_
          have he := evenR_ok (s := s) (lv := x.Levels) (sh := x.Shifts) (by omega)
          have hek := he.1
          have hea := he.2.1
          have her : (evenR s x.Levels x.Shifts).1 = evenL s x.Levels x.Shifts := (by rw [he.2.2])
          have hel := evenL_len s x.Levels x.Shifts
          have heb := evenL_bd hek hea
          have hen := hek.nV
          rw [her] at hs26
          refine WC.region ?_
          refine WL.x (X.loadBA (k := 4) Try.isAgg25 Try.sizeOf25 rfl rfl rfl) (by decide) ?_
          refine WL.x (X.move rfl) (by decide) ?_
          refine WL.x (X.loadBA (k := 2) Try.isAgg33 Try.sizeOf33 rfl rfl rfl) (by decide) ?_
          refine WL.x (X.call Try.call40 rfl (mean40 _ _ s ⟨_, _, rfl, hs2, hs4⟩ _ _ hs26 _ a rfl (by omega) (by assumption))) (by decide) ?_
          refine WL.x (X.move rfl) (by decide) ?_
          refine WL.x (X.extract rfl rfl) (by decide) ?_
          refine WL.x (X.extract rfl rfl) (by decide) ?_
          refine WL.x (X.extract rfl rfl) (by decide) ?_
          refine WL.tn (T.alloc Try.zeroValue45 rfl) (by decide) fun b29 => ?_
          refine WL.tn (T.alloc Try.zeroValue33 rfl) (by decide) fun b30 => ?_
          refine WL.ts (T.storeBA (k := 1) Try.sizeOf45 rfl rfl rfl (one_cons rfl (one_cons rfl one_nil)) rfl rfl) ?_
          refine WL.ts (T.storeBA (k := 0) Try.sizeOf33 rfl rfl rfl (one_cons rfl (one_cons rfl one_nil)) rfl rfl) ?_
          refine WL.x (X.assign rfl) (by decide) ?_
          refine WL.nil ?_
          refine WK.nThen ?_
          refine WC.seq ?_
          have hm := any_mean2 hx hea
          have hm1 := hm.1
          have hm2 := hm.2.1
          have hm3 := hm.2.2
          refine WC.region ?_
          refine WL.x (X.move rfl) (by decide) ?_
          refine WL.condn (X.notp rfl) (by decide) (fun h31 => ?_) (fun h31 => ?_)
          · refine WL.x (X.move rfl) (by decide) ?_
            refine WL.no rfl rfl rfl (by decide) ?_
            refine WL.no rfl rfl rfl (by decide) ?_
            refine WL.no rfl rfl rfl (by decide) ?_
            refine WL.no rfl rfl rfl (by decide) ?_
            refine WL.no rfl rfl rfl (by decide) ?_
            refine WL.x (X.pickT rfl rfl rfl) (by decide) ?_
            refine WL.x (X.move rfl) (by decide) ?_
            refine WL.no rfl rfl rfl (by decide) ?_
            refine WL.no rfl rfl rfl (by decide) ?_
            refine WL.no rfl rfl rfl (by decide) ?_
            refine WL.no rfl rfl rfl (by decide) ?_
            refine WL.no rfl rfl rfl (by decide) ?_
            refine WL.x (X.pickT rfl rfl rfl) (by decide) ?_
            refine WL.nil ?_
            refine WK.nThen ?_
            refine WC.condT rfl ?_
            refine WC.seq ?_
            refine WC.region ?_
            refine WL.x (X.assign rfl) (by decide) ?_
            refine WL.nil ?_
            refine WK.nThen ?_
            refine WC.ret ?_
            refine WK.rThen ?_
            refine WK.ret1 rfl rfl (fun w' hw' => Ret.exact hw' ?_)
            first | rfl | (exfalso; omega) | (exfalso; contradiction) | (exfalso; have q_ := hq1 (by omega); omega) | (exfalso; have q_ := hq2 (by omega); omega) | exact (bool_true (by omega)).symm
          · refine WL.x (X.move rfl) (by decide) ?_
            refine WL.yes rfl rfl ?_
            refine WL.x (X.loadBA (k := 3) Try.isAgg33 Try.sizeOf33 rfl rfl rfl) (by decide) ?_
            refine WL.yes rfl rfl ?_
            refine WL.x (X.field Try.runUnderlying33 rfl Try.sizeOf3 rfl) (by decide) ?_
            refine WL.yes rfl rfl ?_
            refine WL.x (X.loadB (k := 0) Try.isAgg3 rfl rfl rfl) (by decide) ?_
            refine WL.yes rfl rfl ?_
            refine WL.cond (X.call Try.call41 rfl (in41 _ _ ((extR s a).1) rfl _ )) (by decide) (fun h32 => ?_) (fun h32 => ?_)
            · refine WL.yes rfl rfl ?_
              refine WL.x (X.not rfl) (by decide) ?_
              refine WL.x (X.pickF rfl rfl rfl) (by decide) ?_
              refine WL.x (X.move rfl) (by decide) ?_
              refine WL.yes rfl rfl ?_
              refine WL.x (X.loadBA (k := 2) Try.isAgg33 Try.sizeOf33 rfl rfl rfl) (by decide) ?_
              refine WL.yes rfl rfl ?_
              refine WL.x (X.field Try.runUnderlying33 rfl Try.sizeOf3 rfl) (by decide) ?_
              refine WL.yes rfl rfl ?_
              refine WL.x (X.loadB (k := 0) Try.isAgg3 rfl rfl rfl) (by decide) ?_
              refine WL.yes rfl rfl ?_
              refine WL.cond (X.call Try.call41 rfl (in41 _ _ ((extR s a).2.1) rfl _ )) (by decide) (fun h33 => ?_) (fun h33 => ?_)
              · refine WL.yes rfl rfl ?_
                refine WL.x (X.not rfl) (by decide) ?_
                refine WL.x (X.pickF rfl rfl rfl) (by decide) ?_
                refine WL.nil ?_
                refine WK.nThen ?_
                refine WC.condF rfl ?_
                refine WC.skip ?_
                refine WK.nThen ?_
                refine WC.seq ?_
                refine WC.seq ?_
                refine WC.region ?_
                refine WL.x (X.assign rfl) (by decide) ?_
                refine WL.nil ?_
                refine WK.nThen ?_
                refine WC.block ?_
                refine WC.loop (G := Nat) (fun i => 2 - i) (fun i => m21) (fun i => [blk b30 33 [.int .i64 ((meanR s ((evenL s x.Levels x.Shifts)) a).2.1.Lo), .int .i64 ((meanR s ((evenL s x.Levels x.Shifts)) a).2.1.Hi)], blk b29 45 [.int .i64 ((meanR s ((evenL s x.Levels x.Shifts)) a).1.Num), .int .i64 ((meanR s ((evenL s x.Levels x.Shifts)) a).1.Den)], blk b19 33 [.int .i64 ((extR s a).2.1.Lo), .int .i64 ((extR s a).2.1.Hi)], blk b18 33 [.int .i64 ((extR s a).1.Lo), .int .i64 ((extR s a).1.Hi)], blk b15 33 [.int .i64 (a.Lo), .int .i64 (a.Hi)], blk b14 52 [v7, v9], blk b13 25 [v1, v3]]) (fun i => [(3, .pointer (some ⟨b13, 0, none⟩)), (5, .pointer (some ⟨b15, 0, none⟩)), (7, .bool true), (8, .pointer (some ⟨b18, 0, none⟩)), (9, .pointer (some ⟨b19, 0, none⟩)), (16, .int .i64 (↑i))]) (fun i => i ≤ 2) 0 rfl (.refl _) (.cons rfl (.cons rfl (.cons rfl (.cons rfl (.cons rfl (.cons rfl .nil)))))) ?_ ?_
                · omega
                · rintro i hF34
                  show WK _ _ m21 [blk b30 33 [.int .i64 ((meanR s ((evenL s x.Levels x.Shifts)) a).2.1.Lo), .int .i64 ((meanR s ((evenL s x.Levels x.Shifts)) a).2.1.Hi)], blk b29 45 [.int .i64 ((meanR s ((evenL s x.Levels x.Shifts)) a).1.Num), .int .i64 ((meanR s ((evenL s x.Levels x.Shifts)) a).1.Den)], blk b19 33 [.int .i64 ((extR s a).2.1.Lo), .int .i64 ((extR s a).2.1.Hi)], blk b18 33 [.int .i64 ((extR s a).1.Lo), .int .i64 ((extR s a).1.Hi)], blk b15 33 [.int .i64 (a.Lo), .int .i64 (a.Hi)], blk b14 52 [v7, v9], blk b13 25 [v1, v3]] [(3, .pointer (some ⟨b13, 0, none⟩)), (5, .pointer (some ⟨b15, 0, none⟩)), (7, .bool true), (8, .pointer (some ⟨b18, 0, none⟩)), (9, .pointer (some ⟨b19, 0, none⟩)), (16, .int .i64 (↑i))] _
                  replace hF34 : i ≤ 2 := hF34
                  have hi := hF34
                  refine WK.good (fun hgood0 => ?_)
                  refine WC.seq ?_
                  refine WC.seq ?_
                  refine WC.region ?_
                  refine WL.x (X.move rfl) (by decide) ?_
                  refine WL.cond (X.lss rfl rfl) (by decide) (fun h35 => ?_) (fun h35 => ?_)
                  · refine WL.nil ?_
                    refine WK.nThen ?_
                    refine WC.condT rfl ?_
                    refine WC.skip ?_
                    refine WK.nThen ?_
                    refine WC.seq ?_
                    refine WC.block ?_
                    refine WC.seq ?_
                    refine WC.region ?_
                    refine WL.x (X.loadBA (k := 6) Try.isAgg25 Try.sizeOf25 rfl rfl rfl) (by decide) ?_
                    refine WL.x (X.move rfl) (by decide) ?_
                    refine WL.x (X.eql rfl rfl) (by decide) ?_
                    refine WL.tm (T.call Try.call42 rfl (ends42 _ _ s ⟨_, _, rfl, hs2, hs4⟩ _ (by assumption))) (by decide) fun m36 r37 hle38 hR39 => ?_
                    obtain ⟨c40, rfl, hc41⟩ := hR39
                    replace hs2 := hs2.mono hle38
                    replace hs4 := hs4.mono hle38
                    replace hs8 := hs8.mono hle38
                    replace hs10 := hs10.mono hle38
                    replace hs26 := hs26.mono hle38
                    obtain ⟨v42, v44, rfl, hs43, hs45⟩ := hc41
                    have hl46 := hs43.le
                    have hl47 := hs45.le
                    refine WL.tn (T.alloc Try.zeroValue52 rfl) (by decide) fun b48 => ?_
                    refine WL.ts (T.storeBA (k := 0) Try.sizeOf52 rfl rfl rfl (one_cons hs43.one (one_cons hs45.one one_nil)) rfl rfl) ?_
                    refine WL.nil ?_
                    refine WK.nThen ?_
                    refine WC.seq ?_
                    refine WC.region ?_
                    refine WL.x (X.loadBA (k := 7) Try.isAgg25 Try.sizeOf25 rfl rfl rfl) (by decide) ?_
                    refine WL.x (X.field Try.runUnderlying52 rfl Try.sizeOf28 rfl) (by decide) ?_
                    refine WL.x (X.loadB (k := 0) Try.isAgg28 rfl rfl rfl) (by decide) ?_
                    refine WL.x (X.field Try.runUnderlying52 rfl Try.sizeOf28 rfl) (by decide) ?_
                    refine WL.x (X.loadB (k := 0) Try.isAgg28 rfl rfl rfl) (by decide) ?_
                    refine WL.tm (T.call Try.call39 rfl (even39 _ _ s ⟨_, _, rfl, hs2, hs4⟩ _ _ hs43 _ _ hs45 )) (by decide) fun m49 r50 hle51 hR52 => ?_
                    obtain ⟨v53, rfl, hs54⟩ := hR52
                    replace hs2 := hs2.mono hle51
                    replace hs4 := hs4.mono hle51
                    replace hs8 := hs8.mono hle51
                    replace hs10 := hs10.mono hle51
                    replace hs26 := hs26.mono hle51
                    replace hs43 := hs43.mono hle51
                    replace hs45 := hs45.mono hle51
                    have hl55 := hs54.le
                    refine WL.x (X.move rfl) (by decide) ?_
                    refine WL.x (X.extract rfl rfl) (by decide) ?_
                    refine WL.x (X.extract rfl rfl) (by decide) ?_
                    refine WL.x (X.assign rfl) (by decide) ?_
                    refine WL.x (X.assign rfl) (by decide) ?_
                    refine WL.nil ?_
                    refine WK.nThen ?_
                    refine WC.seq ?_
                    have hg := evenR_agree hok (ends_agree hok (decide ((↑i : Int) = 1)))
                    have hgb := evenL_bd hok (ends_agree hok (decide ((↑i : Int) = 1)))
                    have hgl := evenL_len s (endsR s (decide ((↑i : Int) = 1))).Levels (endsR s (decide ((↑i : Int) = 1))).Shifts
                    have hg1 : (evenR s (endsR s (decide ((↑i : Int) = 1))).Levels (endsR s (decide ((↑i : Int) = 1))).Shifts).1 = evenL s (endsR s (decide ((↑i : Int) = 1))).Levels (endsR s (decide ((↑i : Int) = 1))).Shifts := (by rw [hg])
                    have hg2 : (evenR s (endsR s (decide ((↑i : Int) = 1))).Levels (endsR s (decide ((↑i : Int) = 1))).Shifts).2 = 0 := (by rw [hg])
                    rw [hg1] at hs54
                    rw [hg2]
                    refine WC.region ?_
                    refine WL.x (X.loadBA (k := 7) Try.isAgg25 Try.sizeOf25 rfl rfl rfl) (by decide) ?_
                    refine WL.x (X.move rfl) (by decide) ?_
                    refine WL.x (X.loadBA (k := 5) Try.isAgg33 Try.sizeOf33 rfl rfl rfl) (by decide) ?_
                    refine WL.x (X.call Try.call40 rfl (mean40 _ _ s ⟨_, _, rfl, hs2, hs4⟩ _ _ hs54 _ a rfl (by omega) (by assumption))) (by decide) ?_
                    refine WL.x (X.move rfl) (by decide) ?_
                    refine WL.x (X.extract rfl rfl) (by decide) ?_
                    refine WL.x (X.extract rfl rfl) (by decide) ?_
                    refine WL.x (X.extract rfl rfl) (by decide) ?_
                    refine WL.tn (T.alloc Try.zeroValue45 rfl) (by decide) fun b56 => ?_
                    refine WL.tn (T.alloc Try.zeroValue33 rfl) (by decide) fun b57 => ?_
                    refine WL.ts (T.storeBA (k := 1) Try.sizeOf45 rfl rfl rfl (one_cons rfl (one_cons rfl one_nil)) rfl rfl) ?_
                    refine WL.ts (T.storeBA (k := 0) Try.sizeOf33 rfl rfl rfl (one_cons rfl (one_cons rfl one_nil)) rfl rfl) ?_
                    refine WL.x (X.assign rfl) (by decide) ?_
                    refine WL.nil ?_
                    refine WK.nThen ?_
                    refine WC.seq ?_
                    have hq := ends_mean2 hx (decide ((↑i : Int) = 1))
                    have hq0 := hq.1
                    have hq1 := fun (h : ¬ (↑i : Int) = 1) => hq.2.1 (decide_eq_false h)
                    have hq2 := fun (h : (↑i : Int) = 1) => hq.2.2 (decide_eq_true h)
                    refine WC.region ?_
                    refine WL.x (X.move rfl) (by decide) ?_
                    refine WL.x (X.neq rfl rfl) (by decide) ?_
                    refine WL.x (X.move rfl) (by decide) ?_
                    refine WL.yes rfl rfl ?_
                    refine WL.x (X.move rfl) (by decide) ?_
                    refine WL.yes rfl rfl ?_
                    refine WL.condn (X.notp rfl) (by decide) (fun h58 => ?_) (fun h58 => ?_)
                    · refine WL.x (X.pickF rfl rfl rfl) (by decide) ?_
                      refine WL.x (X.move rfl) (by decide) ?_
                      refine WL.no rfl rfl rfl (by decide) ?_
                      refine WL.no rfl rfl rfl (by decide) ?_
                      refine WL.no rfl rfl rfl (by decide) ?_
                      refine WL.noU rfl rfl (by decide) ?_
                      refine WL.noU rfl rfl (by decide) ?_
                      refine WL.noU rfl rfl (by decide) ?_
                      refine WL.noU rfl rfl (by decide) ?_
                      refine WL.noU rfl rfl (by decide) ?_
                      refine WL.noU rfl rfl (by decide) ?_
                      refine WL.noU rfl rfl (by decide) ?_
                      refine WL.noU rfl rfl (by decide) ?_
                      refine WL.noU rfl rfl (by decide) ?_
                      refine WL.noU rfl rfl (by decide) ?_
                      refine WL.noU rfl rfl (by decide) ?_
                      refine WL.noU rfl rfl (by decide) ?_
                      refine WL.no rfl rfl rfl (by decide) ?_
                      refine WL.x (X.pickT rfl rfl rfl) (by decide) ?_
                      refine WL.x (X.move rfl) (by decide) ?_
                      refine WL.no rfl rfl rfl (by decide) ?_
                      refine WL.no rfl rfl rfl (by decide) ?_
                      refine WL.no rfl rfl rfl (by decide) ?_
                      refine WL.noU rfl rfl (by decide) ?_
                      refine WL.noU rfl rfl (by decide) ?_
                      refine WL.noU rfl rfl (by decide) ?_
                      refine WL.noU rfl rfl (by decide) ?_
                      refine WL.noU rfl rfl (by decide) ?_
                      refine WL.noU rfl rfl (by decide) ?_
                      refine WL.noU rfl rfl (by decide) ?_
                      refine WL.noU rfl rfl (by decide) ?_
                      refine WL.noU rfl rfl (by decide) ?_
                      refine WL.noU rfl rfl (by decide) ?_
                      refine WL.noU rfl rfl (by decide) ?_
                      refine WL.noU rfl rfl (by decide) ?_
                      refine WL.no rfl rfl rfl (by decide) ?_
                      refine WL.x (X.pickT rfl rfl rfl) (by decide) ?_
                      refine WL.nil ?_
                      refine WK.nThen ?_
                      refine WC.condT rfl ?_
                      refine WC.seq ?_
                      refine WC.region ?_
                      refine WL.x (X.assign rfl) (by decide) ?_
                      refine WL.nil ?_
                      refine WK.nThen ?_
                      refine WC.ret ?_
                      refine WK.rBlock ?_
                      refine WK.rThen ?_
                      refine WK.rThen ?_
                      refine WK.rBlock ?_
                      refine WK.rThen ?_
                      refine WK.ret1 rfl rfl (fun w' hw' => Ret.exact hw' ?_)
                      first | rfl | (exfalso; omega) | (exfalso; contradiction) | (exfalso; have q_ := hq1 (by omega); omega) | (exfalso; have q_ := hq2 (by omega); omega) | exact (bool_true (by omega)).symm
                    · refine WL.x (X.pickF rfl rfl rfl) (by decide) ?_
                      refine WL.x (X.move rfl) (by decide) ?_
                      refine WL.yes rfl rfl ?_
                      refine WL.x (X.move rfl) (by decide) ?_
                      refine WL.yes rfl rfl ?_
                      refine WL.cond (X.eql rfl rfl) (by decide) (fun h59 => ?_) (fun h59 => ?_)
                      · refine WL.yes rfl rfl ?_
                        refine WL.x (X.move rfl) (by decide) ?_
                        refine WL.yes rfl rfl ?_
                        refine WL.x (X.field Try.runUnderlying33 rfl Try.sizeOf3 rfl) (by decide) ?_
                        refine WL.yes rfl rfl ?_
                        refine WL.x (X.loadB (k := 0) Try.isAgg3 rfl rfl rfl) (by decide) ?_
                        refine WL.yes rfl rfl ?_
                        refine WL.x (X.field Try.runUnderlying33 rfl Try.sizeOf3 rfl) (by decide) ?_
                        refine WL.yes rfl rfl ?_
                        refine WL.x (X.loadB (k := 6) Try.isAgg3 rfl rfl rfl) (by decide) ?_
                        refine WL.yes rfl rfl ?_
                        refine WL.condn (X.neq rfl rfl) (by decide) (fun h60 => ?_) (fun h60 => ?_)
                        · refine WL.yes rfl rfl ?_
                          refine WL.x (X.move rfl) (by decide) ?_
                          refine WL.no rfl rfl rfl (by decide) ?_
                          refine WL.no rfl rfl rfl (by decide) ?_
                          refine WL.no rfl rfl rfl (by decide) ?_
                          refine WL.no rfl rfl rfl (by decide) ?_
                          refine WL.no rfl rfl rfl (by decide) ?_
                          refine WL.yes rfl rfl ?_
                          refine WL.x (X.pickT rfl rfl rfl) (by decide) ?_
                          refine WL.yes rfl rfl ?_
                          refine WL.x (X.pickT rfl rfl rfl) (by decide) ?_
                          refine WL.x (X.pickF rfl rfl rfl) (by decide) ?_
                          refine WL.x (X.move rfl) (by decide) ?_
                          refine WL.no rfl rfl rfl (by decide) ?_
                          refine WL.no rfl rfl rfl (by decide) ?_
                          refine WL.no rfl rfl rfl (by decide) ?_
                          refine WL.noU rfl rfl (by decide) ?_
                          refine WL.noU rfl rfl (by decide) ?_
                          refine WL.noU rfl rfl (by decide) ?_
                          refine WL.noU rfl rfl (by decide) ?_
                          refine WL.noU rfl rfl (by decide) ?_
                          refine WL.noU rfl rfl (by decide) ?_
                          refine WL.noU rfl rfl (by decide) ?_
                          refine WL.noU rfl rfl (by decide) ?_
                          refine WL.noU rfl rfl (by decide) ?_
                          refine WL.noU rfl rfl (by decide) ?_
                          refine WL.noU rfl rfl (by decide) ?_
                          refine WL.noU rfl rfl (by decide) ?_
                          refine WL.no rfl rfl rfl (by decide) ?_
                          refine WL.x (X.pickT rfl rfl rfl) (by decide) ?_
                          refine WL.nil ?_
                          refine WK.nThen ?_
                          refine WC.condT rfl ?_
                          refine WC.seq ?_
                          refine WC.region ?_
                          refine WL.x (X.assign rfl) (by decide) ?_
                          refine WL.nil ?_
                          refine WK.nThen ?_
                          refine WC.ret ?_
                          refine WK.rBlock ?_
                          refine WK.rThen ?_
                          refine WK.rThen ?_
                          refine WK.rBlock ?_
                          refine WK.rThen ?_
                          refine WK.ret1 rfl rfl (fun w' hw' => Ret.exact hw' ?_)
                          first | rfl | (exfalso; omega) | (exfalso; contradiction) | (exfalso; have q_ := hq1 (by omega); omega) | (exfalso; have q_ := hq2 (by omega); omega) | exact (bool_true (by omega)).symm
                        · refine WL.yes rfl rfl ?_
                          refine WL.x (X.move rfl) (by decide) ?_
                          refine WL.yes rfl rfl ?_
                          refine WL.x (X.field Try.runUnderlying33 rfl Try.sizeOf3 rfl) (by decide) ?_
                          refine WL.yes rfl rfl ?_
                          refine WL.x (X.loadB (k := 0) Try.isAgg3 rfl rfl rfl) (by decide) ?_
                          refine WL.yes rfl rfl ?_
                          refine WL.x (X.field Try.runUnderlying33 rfl Try.sizeOf3 rfl) (by decide) ?_
                          refine WL.yes rfl rfl ?_
                          refine WL.x (X.loadB (k := 5) Try.isAgg3 rfl rfl rfl) (by decide) ?_
                          refine WL.yes rfl rfl ?_
                          refine WL.condn (X.neq rfl rfl) (by decide) (fun h61 => ?_) (fun h61 => ?_)
                          · refine WL.yes rfl rfl ?_
                            refine WL.x (X.pickF rfl rfl rfl) (by decide) ?_
                            refine WL.yes rfl rfl ?_
                            refine WL.x (X.pickT rfl rfl rfl) (by decide) ?_
                            refine WL.x (X.pickF rfl rfl rfl) (by decide) ?_
                            refine WL.x (X.move rfl) (by decide) ?_
                            refine WL.no rfl rfl rfl (by decide) ?_
                            refine WL.no rfl rfl rfl (by decide) ?_
                            refine WL.no rfl rfl rfl (by decide) ?_
                            refine WL.noU rfl rfl (by decide) ?_
                            refine WL.noU rfl rfl (by decide) ?_
                            refine WL.noU rfl rfl (by decide) ?_
                            refine WL.noU rfl rfl (by decide) ?_
                            refine WL.noU rfl rfl (by decide) ?_
                            refine WL.noU rfl rfl (by decide) ?_
                            refine WL.noU rfl rfl (by decide) ?_
                            refine WL.noU rfl rfl (by decide) ?_
                            refine WL.noU rfl rfl (by decide) ?_
                            refine WL.noU rfl rfl (by decide) ?_
                            refine WL.noU rfl rfl (by decide) ?_
                            refine WL.noU rfl rfl (by decide) ?_
                            refine WL.no rfl rfl rfl (by decide) ?_
                            refine WL.x (X.pickT rfl rfl rfl) (by decide) ?_
                            refine WL.nil ?_
                            refine WK.nThen ?_
                            refine WC.condT rfl ?_
                            refine WC.seq ?_
                            refine WC.region ?_
                            refine WL.x (X.assign rfl) (by decide) ?_
                            refine WL.nil ?_
                            refine WK.nThen ?_
                            refine WC.ret ?_
                            refine WK.rBlock ?_
                            refine WK.rThen ?_
                            refine WK.rThen ?_
                            refine WK.rBlock ?_
                            refine WK.rThen ?_
                            refine WK.ret1 rfl rfl (fun w' hw' => Ret.exact hw' ?_)
                            first | rfl | (exfalso; omega) | (exfalso; contradiction) | (exfalso; have q_ := hq1 (by omega); omega) | (exfalso; have q_ := hq2 (by omega); omega) | exact (bool_true (by omega)).symm
                          · refine WL.yes rfl rfl ?_
                            refine WL.x (X.pickF rfl rfl rfl) (by decide) ?_
                            refine WL.yes rfl rfl ?_
                            refine WL.x (X.pickT rfl rfl rfl) (by decide) ?_
                            refine WL.x (X.pickF rfl rfl rfl) (by decide) ?_
                            refine WL.x (X.move rfl) (by decide) ?_
                            refine WL.yes rfl rfl ?_
                            refine WL.x (X.move rfl) (by decide) ?_
                            refine WL.yes rfl rfl ?_
                            refine WL.cond (X.eql rfl rfl) (by decide) (fun h62 => ?_) (fun h62 => ?_)
                            · refine WL.yes rfl rfl ?_
                              refine WL.x (X.move rfl) (by decide) ?_
                              refine WL.yes rfl rfl ?_
                              refine WL.x (X.field Try.runUnderlying33 rfl Try.sizeOf3 rfl) (by decide) ?_
                              refine WL.yes rfl rfl ?_
                              refine WL.x (X.loadB (k := 0) Try.isAgg3 rfl rfl rfl) (by decide) ?_
                              refine WL.yes rfl rfl ?_
                              refine WL.x (X.field Try.runUnderlying33 rfl Try.sizeOf3 rfl) (by decide) ?_
                              refine WL.yes rfl rfl ?_
                              refine WL.x (X.loadB (k := 6) Try.isAgg3 rfl rfl rfl) (by decide) ?_
                              refine WL.yes rfl rfl ?_
                              refine WL.condn (X.neq rfl rfl) (by decide) (fun h63 => ?_) (fun h63 => ?_)
                              · refine WL.yes rfl rfl ?_
                                refine WL.x (X.move rfl) (by decide) ?_
                                refine WL.no rfl rfl rfl (by decide) ?_
                                refine WL.no rfl rfl rfl (by decide) ?_
                                refine WL.no rfl rfl rfl (by decide) ?_
                                refine WL.no rfl rfl rfl (by decide) ?_
                                refine WL.no rfl rfl rfl (by decide) ?_
                                refine WL.yes rfl rfl ?_
                                refine WL.x (X.pickT rfl rfl rfl) (by decide) ?_
                                refine WL.yes rfl rfl ?_
                                refine WL.x (X.pickT rfl rfl rfl) (by decide) ?_
                                refine WL.x (X.pickF rfl rfl rfl) (by decide) ?_
                                refine WL.nil ?_
                                refine WK.nThen ?_
                                refine WC.condT rfl ?_
                                refine WC.seq ?_
                                refine WC.region ?_
                                refine WL.x (X.assign rfl) (by decide) ?_
                                refine WL.nil ?_
                                refine WK.nThen ?_
                                refine WC.ret ?_
                                refine WK.rBlock ?_
                                refine WK.rThen ?_
                                refine WK.rThen ?_
                                refine WK.rBlock ?_
                                refine WK.rThen ?_
                                refine WK.ret1 rfl rfl (fun w' hw' => Ret.exact hw' ?_)
                                first | rfl | (exfalso; omega) | (exfalso; contradiction) | (exfalso; have q_ := hq1 (by omega); omega) | (exfalso; have q_ := hq2 (by omega); omega) | exact (bool_true (by omega)).symm
                              · refine WL.yes rfl rfl ?_
                                refine WL.x (X.move rfl) (by decide) ?_
                                refine WL.yes rfl rfl ?_
                                refine WL.x (X.field Try.runUnderlying33 rfl Try.sizeOf3 rfl) (by decide) ?_
                                refine WL.yes rfl rfl ?_
                                refine WL.x (X.loadB (k := 0) Try.isAgg3 rfl rfl rfl) (by decide) ?_
                                refine WL.yes rfl rfl ?_
                                refine WL.x (X.field Try.runUnderlying33 rfl Try.sizeOf3 rfl) (by decide) ?_
                                refine WL.yes rfl rfl ?_
                                refine WL.x (X.loadB (k := 5) Try.isAgg3 rfl rfl rfl) (by decide) ?_
                                refine WL.yes rfl rfl ?_
                                refine WL.condn (X.neq rfl rfl) (by decide) (fun h64 => ?_) (fun h64 => ?_)
                                · refine WL.yes rfl rfl ?_
                                  refine WL.x (X.pickF rfl rfl rfl) (by decide) ?_
                                  refine WL.yes rfl rfl ?_
                                  refine WL.x (X.pickT rfl rfl rfl) (by decide) ?_
                                  refine WL.x (X.pickF rfl rfl rfl) (by decide) ?_
                                  refine WL.nil ?_
                                  refine WK.nThen ?_
                                  refine WC.condT rfl ?_
                                  refine WC.seq ?_
                                  refine WC.region ?_
                                  refine WL.x (X.assign rfl) (by decide) ?_
                                  refine WL.nil ?_
                                  refine WK.nThen ?_
                                  refine WC.ret ?_
                                  refine WK.rBlock ?_
                                  refine WK.rThen ?_
                                  refine WK.rThen ?_
                                  refine WK.rBlock ?_
                                  refine WK.rThen ?_
                                  refine WK.ret1 rfl rfl (fun w' hw' => Ret.exact hw' ?_)
                                  first | rfl | (exfalso; omega) | (exfalso; contradiction) | (exfalso; have q_ := hq1 (by omega); omega) | (exfalso; have q_ := hq2 (by omega); omega) | exact (bool_true (by omega)).symm
                                · refine WL.yes rfl rfl ?_
                                  refine WL.x (X.pickF rfl rfl rfl) (by decide) ?_
                                  refine WL.yes rfl rfl ?_
                                  refine WL.x (X.pickT rfl rfl rfl) (by decide) ?_
                                  refine WL.x (X.pickF rfl rfl rfl) (by decide) ?_
                                  refine WL.nil ?_
                                  refine WK.nThen ?_
                                  refine WC.condF rfl ?_
                                  refine WC.skip ?_
                                  refine WK.nBlock ?_
                                  refine WK.nThen ?_
                                  refine WC.region ?_
                                  refine WL.x (X.move rfl) (by decide) ?_
                                  refine WL.x (X.add rfl rfl (by omega) (by omega)) (by decide) ?_
                                  refine WL.x (X.assign rfl) (by decide) ?_
                                  refine WL.nil ?_
                                  refine WK.nThen ?_
                                  refine WK.back hgood0 (Mem.le_trans hle38 hle51) ?_
                                  refine WK.next (i + 1) rfl (.cons _ (.cons _ (.cons _ (.cons_cons _ (.cons_cons _ (.cons_cons _ (.cons_cons _ (.cons_cons _ (.cons_cons _ (.cons_cons _ .slnil)))))))))) (.cons rfl (.cons rfl (.cons rfl (.cons rfl (.cons rfl (.cons rfl .nil)))))) ?_ ?_
                                  · omega
                                  · omega
                            · refine WL.yes rfl rfl ?_
                              refine WL.x (X.move rfl) (by decide) ?_
                              refine WL.no rfl rfl rfl (by decide) ?_
                              refine WL.no rfl rfl rfl (by decide) ?_
                              refine WL.no rfl rfl rfl (by decide) ?_
                              refine WL.no rfl rfl rfl (by decide) ?_
                              refine WL.no rfl rfl rfl (by decide) ?_
                              refine WL.no rfl rfl rfl (by decide) ?_
                              refine WL.noU rfl rfl (by decide) ?_
                              refine WL.noU rfl rfl (by decide) ?_
                              refine WL.noU rfl rfl (by decide) ?_
                              refine WL.noU rfl rfl (by decide) ?_
                              refine WL.noU rfl rfl (by decide) ?_
                              refine WL.no rfl rfl rfl (by decide) ?_
                              refine WL.yes rfl rfl ?_
                              refine WL.x (X.pickF rfl rfl rfl) (by decide) ?_
                              refine WL.x (X.pickF rfl rfl rfl) (by decide) ?_
                              refine WL.nil ?_
                              refine WK.nThen ?_
                              refine WC.condF rfl ?_
                              refine WC.skip ?_
                              refine WK.nBlock ?_
                              refine WK.nThen ?_
                              refine WC.region ?_
                              refine WL.x (X.move rfl) (by decide) ?_
                              refine WL.x (X.add rfl rfl (by omega) (by omega)) (by decide) ?_
                              refine WL.x (X.assign rfl) (by decide) ?_
                              refine WL.nil ?_
                              refine WK.nThen ?_
                              refine WK.back hgood0 (Mem.le_trans hle38 hle51) ?_
                              refine WK.next (i + 1) rfl (.cons _ (.cons _ (.cons _ (.cons_cons _ (.cons_cons _ (.cons_cons _ (.cons_cons _ (.cons_cons _ (.cons_cons _ (.cons_cons _ .slnil)))))))))) (.cons rfl (.cons rfl (.cons rfl (.cons rfl (.cons rfl (.cons rfl .nil)))))) ?_ ?_
                              · omega
                              · omega
                      · refine WL.yes rfl rfl ?_
                        refine WL.x (X.move rfl) (by decide) ?_
                        refine WL.no rfl rfl rfl (by decide) ?_
                        refine WL.no rfl rfl rfl (by decide) ?_
                        refine WL.no rfl rfl rfl (by decide) ?_
                        refine WL.no rfl rfl rfl (by decide) ?_
                        refine WL.no rfl rfl rfl (by decide) ?_
                        refine WL.no rfl rfl rfl (by decide) ?_
                        refine WL.noU rfl rfl (by decide) ?_
                        refine WL.noU rfl rfl (by decide) ?_
                        refine WL.noU rfl rfl (by decide) ?_
                        refine WL.noU rfl rfl (by decide) ?_
                        refine WL.noU rfl rfl (by decide) ?_
                        refine WL.no rfl rfl rfl (by decide) ?_
                        refine WL.yes rfl rfl ?_
                        refine WL.x (X.pickF rfl rfl rfl) (by decide) ?_
                        refine WL.x (X.pickF rfl rfl rfl) (by decide) ?_
                        refine WL.x (X.move rfl) (by decide) ?_
                        refine WL.yes rfl rfl ?_
                        refine WL.x (X.move rfl) (by decide) ?_
                        refine WL.yes rfl rfl ?_
                        refine WL.cond (X.eql rfl rfl) (by decide) (fun h65 => ?_) (fun h65 => ?_)
                        · refine WL.yes rfl rfl ?_
                          refine WL.x (X.move rfl) (by decide) ?_
                          refine WL.yes rfl rfl ?_
                          refine WL.x (X.field Try.runUnderlying33 rfl Try.sizeOf3 rfl) (by decide) ?_
                          refine WL.yes rfl rfl ?_
                          refine WL.x (X.loadB (k := 0) Try.isAgg3 rfl rfl rfl) (by decide) ?_
                          refine WL.yes rfl rfl ?_
                          refine WL.x (X.field Try.runUnderlying33 rfl Try.sizeOf3 rfl) (by decide) ?_
                          refine WL.yes rfl rfl ?_
                          refine WL.x (X.loadB (k := 6) Try.isAgg3 rfl rfl rfl) (by decide) ?_
                          refine WL.yes rfl rfl ?_
                          refine WL.condn (X.neq rfl rfl) (by decide) (fun h66 => ?_) (fun h66 => ?_)
                          · refine WL.yes rfl rfl ?_
                            refine WL.x (X.move rfl) (by decide) ?_
                            refine WL.no rfl rfl rfl (by decide) ?_
                            refine WL.no rfl rfl rfl (by decide) ?_
                            refine WL.no rfl rfl rfl (by decide) ?_
                            refine WL.no rfl rfl rfl (by decide) ?_
                            refine WL.no rfl rfl rfl (by decide) ?_
                            refine WL.yes rfl rfl ?_
                            refine WL.x (X.pickT rfl rfl rfl) (by decide) ?_
                            refine WL.yes rfl rfl ?_
                            refine WL.x (X.pickT rfl rfl rfl) (by decide) ?_
                            refine WL.x (X.pickF rfl rfl rfl) (by decide) ?_
                            refine WL.nil ?_
                            refine WK.nThen ?_
                            refine WC.condT rfl ?_
                            refine WC.seq ?_
                            refine WC.region ?_
                            refine WL.x (X.assign rfl) (by decide) ?_
                            refine WL.nil ?_
                            refine WK.nThen ?_
                            refine WC.ret ?_
                            refine WK.rBlock ?_
                            refine WK.rThen ?_
                            refine WK.rThen ?_
                            refine WK.rBlock ?_
                            refine WK.rThen ?_
                            refine WK.ret1 rfl rfl (fun w' hw' => Ret.exact hw' ?_)
                            first | rfl | (exfalso; omega) | (exfalso; contradiction) | (exfalso; have q_ := hq1 (by omega); omega) | (exfalso; have q_ := hq2 (by omega); omega) | exact (bool_true (by omega)).symm
                          · refine WL.yes rfl rfl ?_
                            refine WL.x (X.move rfl) (by decide) ?_
                            refine WL.yes rfl rfl ?_
                            refine WL.x (X.field Try.runUnderlying33 rfl Try.sizeOf3 rfl) (by decide) ?_
                            refine WL.yes rfl rfl ?_
                            refine WL.x (X.loadB (k := 0) Try.isAgg3 rfl rfl rfl) (by decide) ?_
                            refine WL.yes rfl rfl ?_
                            refine WL.x (X.field Try.runUnderlying33 rfl Try.sizeOf3 rfl) (by decide) ?_
                            refine WL.yes rfl rfl ?_
                            refine WL.x (X.loadB (k := 5) Try.isAgg3 rfl rfl rfl) (by decide) ?_
                            refine WL.yes rfl rfl ?_
                            refine WL.condn (X.neq rfl rfl) (by decide) (fun h67 => ?_) (fun h67 => ?_)
                            · refine WL.yes rfl rfl ?_
                              refine WL.x (X.pickF rfl rfl rfl) (by decide) ?_
                              refine WL.yes rfl rfl ?_
                              refine WL.x (X.pickT rfl rfl rfl) (by decide) ?_
                              refine WL.x (X.pickF rfl rfl rfl) (by decide) ?_
                              refine WL.nil ?_
                              refine WK.nThen ?_
                              refine WC.condT rfl ?_
                              refine WC.seq ?_
                              refine WC.region ?_
                              refine WL.x (X.assign rfl) (by decide) ?_
                              refine WL.nil ?_
                              refine WK.nThen ?_
                              refine WC.ret ?_
                              refine WK.rBlock ?_
                              refine WK.rThen ?_
                              refine WK.rThen ?_
                              refine WK.rBlock ?_
                              refine WK.rThen ?_
                              refine WK.ret1 rfl rfl (fun w' hw' => Ret.exact hw' ?_)
                              first | rfl | (exfalso; omega) | (exfalso; contradiction) | (exfalso; have q_ := hq1 (by omega); omega) | (exfalso; have q_ := hq2 (by omega); omega) | exact (bool_true (by omega)).symm
                            · refine WL.yes rfl rfl ?_
                              refine WL.x (X.pickF rfl rfl rfl) (by decide) ?_
                              refine WL.yes rfl rfl ?_
                              refine WL.x (X.pickT rfl rfl rfl) (by decide) ?_
                              refine WL.x (X.pickF rfl rfl rfl) (by decide) ?_
                              refine WL.nil ?_
                              refine WK.nThen ?_
                              refine WC.condF rfl ?_
                              refine WC.skip ?_
                              refine WK.nBlock ?_
                              refine WK.nThen ?_
                              refine WC.region ?_
                              refine WL.x (X.move rfl) (by decide) ?_
                              refine WL.x (X.add rfl rfl (by omega) (by omega)) (by decide) ?_
                              refine WL.x (X.assign rfl) (by decide) ?_
                              refine WL.nil ?_
                              refine WK.nThen ?_
                              refine WK.back hgood0 (Mem.le_trans hle38 hle51) ?_
                              refine WK.next (i + 1) rfl (.cons _ (.cons _ (.cons _ (.cons_cons _ (.cons_cons _ (.cons_cons _ (.cons_cons _ (.cons_cons _ (.cons_cons _ (.cons_cons _ .slnil)))))))))) (.cons rfl (.cons rfl (.cons rfl (.cons rfl (.cons rfl (.cons rfl .nil)))))) ?_ ?_
                              · omega
                              · omega
                        · refine WL.yes rfl rfl ?_
                          refine WL.x (X.move rfl) (by decide) ?_
                          refine WL.no rfl rfl rfl (by decide) ?_
                          refine WL.no rfl rfl rfl (by decide) ?_
                          refine WL.no rfl rfl rfl (by decide) ?_
                          refine WL.no rfl rfl rfl (by decide) ?_
                          refine WL.no rfl rfl rfl (by decide) ?_
                          refine WL.no rfl rfl rfl (by decide) ?_
                          refine WL.noU rfl rfl (by decide) ?_
                          refine WL.noU rfl rfl (by decide) ?_
                          refine WL.noU rfl rfl (by decide) ?_
                          refine WL.noU rfl rfl (by decide) ?_
                          refine WL.noU rfl rfl (by decide) ?_
                          refine WL.no rfl rfl rfl (by decide) ?_
                          refine WL.yes rfl rfl ?_
                          refine WL.x (X.pickF rfl rfl rfl) (by decide) ?_
                          refine WL.x (X.pickF rfl rfl rfl) (by decide) ?_
                          refine WL.nil ?_
                          refine WK.nThen ?_
                          refine WC.condF rfl ?_
                          refine WC.skip ?_
                          refine WK.nBlock ?_
                          refine WK.nThen ?_
                          refine WC.region ?_
                          refine WL.x (X.move rfl) (by decide) ?_
                          refine WL.x (X.add rfl rfl (by omega) (by omega)) (by decide) ?_
                          refine WL.x (X.assign rfl) (by decide) ?_
                          refine WL.nil ?_
                          refine WK.nThen ?_
                          refine WK.back hgood0 (Mem.le_trans hle38 hle51) ?_
                          refine WK.next (i + 1) rfl (.cons _ (.cons _ (.cons _ (.cons_cons _ (.cons_cons _ (.cons_cons _ (.cons_cons _ (.cons_cons _ (.cons_cons _ (.cons_cons _ .slnil)))))))))) (.cons rfl (.cons rfl (.cons rfl (.cons rfl (.cons rfl (.cons rfl .nil)))))) ?_ ?_
                          · omega
                          · omega
                  · refine WL.nil ?_
                    refine WK.nThen ?_
                    refine WC.condF rfl ?_
                    refine WC.exit ?_
                    refine WK.eThen ?_
                    refine WK.eThen ?_
                    refine WK.eHit ?_
                    refine WK.nThen ?_
                    refine WC.seq ?_
                    refine WC.region ?_
                    refine WL.x (X.move rfl) (by decide) ?_
                    refine WL.x (X.assign rfl) (by decide) ?_
                    refine WL.nil ?_
                    refine WK.nThen ?_
                    refine WC.ret ?_
                    refine WK.ret1 rfl rfl (fun w' hw' => Ret.exact hw' ?_)
                    first | rfl | (exfalso; omega) | (exfalso; contradiction) | (exfalso; have q_ := hq1 (by omega); omega) | (exfalso; have q_ := hq2 (by omega); omega) | exact (bool_true (by omega)).symm
              · refine WL.yes rfl rfl ?_
                refine WL.x (X.not rfl) (by decide) ?_
                refine WL.x (X.pickF rfl rfl rfl) (by decide) ?_
                refine WL.nil ?_
                refine WK.nThen ?_
                refine WC.condT rfl ?_
                refine WC.seq ?_
                refine WC.region ?_
                refine WL.x (X.assign rfl) (by decide) ?_
                refine WL.nil ?_
                refine WK.nThen ?_
                refine WC.ret ?_
                refine WK.rThen ?_
                refine WK.ret1 rfl rfl (fun w' hw' => Ret.exact hw' ?_)
                first | rfl | (exfalso; omega) | (exfalso; contradiction) | (exfalso; have q_ := hq1 (by omega); omega) | (exfalso; have q_ := hq2 (by omega); omega) | exact (bool_true (by omega)).symm
            · refine WL.yes rfl rfl ?_
              refine WL.x (X.not rfl) (by decide) ?_
              refine WL.x (X.pickF rfl rfl rfl) (by decide) ?_
              refine WL.x (X.move rfl) (by decide) ?_
              refine WL.no rfl rfl rfl (by decide) ?_
              refine WL.no rfl rfl rfl (by decide) ?_
              refine WL.no rfl rfl rfl (by decide) ?_
              refine WL.no rfl rfl rfl (by decide) ?_
              refine WL.no rfl rfl rfl (by decide) ?_
              refine WL.x (X.pickT rfl rfl rfl) (by decide) ?_
              refine WL.nil ?_
              refine WK.nThen ?_
              refine WC.condT rfl ?_
              refine WC.seq ?_
              refine WC.region ?_
              refine WL.x (X.assign rfl) (by decide) ?_
              refine WL.nil ?_
              refine WK.nThen ?_
              refine WC.ret ?_
              refine WK.rThen ?_
              refine WK.ret1 rfl rfl (fun w' hw' => Ret.exact hw' ?_)
              first | rfl | (exfalso; omega) | (exfalso; contradiction) | (exfalso; have q_ := hq1 (by omega); omega) | (exfalso; have q_ := hq2 (by omega); omega) | exact (bool_true (by omega)).symm
        · refine WL.nil ?_
          refine WK.nThen ?_
          refine WC.condF rfl ?_
          refine WC.skip ?_
          refine WK.nThen ?_
          refine WC.seq ?_
          refine WC.seq ?_
          refine WC.region ?_
          refine WL.x (X.assign rfl) (by decide) ?_
          refine WL.nil ?_
          refine WK.nThen ?_
          refine WC.block ?_
          refine WC.loop (G := Nat) (fun i => 2 - i) (fun i => m21) (fun i => [blk b19 33 [.int .i64 ((extR s a).2.1.Lo), .int .i64 ((extR s a).2.1.Hi)], blk b18 33 [.int .i64 ((extR s a).1.Lo), .int .i64 ((extR s a).1.Hi)], blk b15 33 [.int .i64 (a.Lo), .int .i64 (a.Hi)], blk b14 52 [v7, v9], blk b13 25 [v1, v3]]) (fun i => [(3, .pointer (some ⟨b13, 0, none⟩)), (5, .pointer (some ⟨b15, 0, none⟩)), (7, .bool true), (8, .pointer (some ⟨b18, 0, none⟩)), (9, .pointer (some ⟨b19, 0, none⟩)), (16, .int .i64 (↑i))]) (fun i => i ≤ 2) 0 rfl (.refl _) (.cons rfl (.cons rfl (.cons rfl (.cons rfl (.cons rfl (.cons rfl .nil)))))) ?_ ?_
          · omega
          · rintro i hF68
            show WK _ _ m21 [blk b19 33 [.int .i64 ((extR s a).2.1.Lo), .int .i64 ((extR s a).2.1.Hi)], blk b18 33 [.int .i64 ((extR s a).1.Lo), .int .i64 ((extR s a).1.Hi)], blk b15 33 [.int .i64 (a.Lo), .int .i64 (a.Hi)], blk b14 52 [v7, v9], blk b13 25 [v1, v3]] [(3, .pointer (some ⟨b13, 0, none⟩)), (5, .pointer (some ⟨b15, 0, none⟩)), (7, .bool true), (8, .pointer (some ⟨b18, 0, none⟩)), (9, .pointer (some ⟨b19, 0, none⟩)), (16, .int .i64 (↑i))] _
            replace hF68 : i ≤ 2 := hF68
            have hi := hF68
            refine WK.good (fun hgood0 => ?_)
            refine WC.seq ?_
            refine WC.seq ?_
            refine WC.region ?_
            refine WL.x (X.move rfl) (by decide) ?_
            refine WL.cond (X.lss rfl rfl) (by decide) (fun h69 => ?_) (fun h69 => ?_)
            · refine WL.nil ?_
              refine WK.nThen ?_
              refine WC.condT rfl ?_
              refine WC.skip ?_
              refine WK.nThen ?_
              refine WC.seq ?_
              refine WC.block ?_
              refine WC.seq ?_
              refine WC.region ?_
              refine WL.x (X.loadBA (k := 4) Try.isAgg25 Try.sizeOf25 rfl rfl rfl) (by decide) ?_
              refine WL.x (X.move rfl) (by decide) ?_
              refine WL.x (X.eql rfl rfl) (by decide) ?_
              refine WL.tm (T.call Try.call42 rfl (ends42 _ _ s ⟨_, _, rfl, hs2, hs4⟩ _ (by assumption))) (by decide) fun m70 r71 hle72 hR73 => ?_
              obtain ⟨c74, rfl, hc75⟩ := hR73
              replace hs2 := hs2.mono hle72
              replace hs4 := hs4.mono hle72
              replace hs8 := hs8.mono hle72
              replace hs10 := hs10.mono hle72
              replace hs26 := hs26.mono hle72
              obtain ⟨v76, v78, rfl, hs77, hs79⟩ := hc75
              have hl80 := hs77.le
              have hl81 := hs79.le
              refine WL.tn (T.alloc Try.zeroValue52 rfl) (by decide) fun b82 => ?_
              refine WL.ts (T.storeBA (k := 0) Try.sizeOf52 rfl rfl rfl (one_cons hs77.one (one_cons hs79.one one_nil)) rfl rfl) ?_
              refine WL.nil ?_
              refine WK.nThen ?_
              refine WC.seq ?_
              refine WC.region ?_
              refine WL.x (X.loadBA (k := 5) Try.isAgg25 Try.sizeOf25 rfl rfl rfl) (by decide) ?_
              refine WL.x (X.field Try.runUnderlying52 rfl Try.sizeOf28 rfl) (by decide) ?_
              refine WL.x (X.loadB (k := 0) Try.isAgg28 rfl rfl rfl) (by decide) ?_
              refine WL.x (X.field Try.runUnderlying52 rfl Try.sizeOf28 rfl) (by decide) ?_
              refine WL.x (X.loadB (k := 0) Try.isAgg28 rfl rfl rfl) (by decide) ?_
              refine WL.tm (T.call Try.call39 rfl (even39 _ _ s ⟨_, _, rfl, hs2, hs4⟩ _ _ hs77 _ _ hs79 )) (by decide) fun m83 r84 hle85 hR86 => ?_
              obtain ⟨v87, rfl, hs88⟩ := hR86
              replace hs2 := hs2.mono hle85
              replace hs4 := hs4.mono hle85
              replace hs8 := hs8.mono hle85
              replace hs10 := hs10.mono hle85
              replace hs26 := hs26.mono hle85
              replace hs77 := hs77.mono hle85
              replace hs79 := hs79.mono hle85
              have hl89 := hs88.le
              refine WL.x (X.move rfl) (by decide) ?_
              refine WL.x (X.extract rfl rfl) (by decide) ?_
              refine WL.x (X.extract rfl rfl) (by decide) ?_
              refine WL.x (X.assign rfl) (by decide) ?_
              refine WL.x (X.assign rfl) (by decide) ?_
              refine WL.nil ?_
              refine WK.nThen ?_
              refine WC.seq ?_
              have hg := evenR_agree hok (ends_agree hok (decide ((↑i : Int) = 1)))
              have hgb := evenL_bd hok (ends_agree hok (decide ((↑i : Int) = 1)))
              have hgl := evenL_len s (endsR s (decide ((↑i : Int) = 1))).Levels (endsR s (decide ((↑i : Int) = 1))).Shifts
              have hg1 : (evenR s (endsR s (decide ((↑i : Int) = 1))).Levels (endsR s (decide ((↑i : Int) = 1))).Shifts).1 = evenL s (endsR s (decide ((↑i : Int) = 1))).Levels (endsR s (decide ((↑i : Int) = 1))).Shifts := (by rw [hg])
              have hg2 : (evenR s (endsR s (decide ((↑i : Int) = 1))).Levels (endsR s (decide ((↑i : Int) = 1))).Shifts).2 = 0 := (by rw [hg])
              rw [hg1] at hs88
              rw [hg2]
              refine WC.region ?_
              refine WL.x (X.loadBA (k := 5) Try.isAgg25 Try.sizeOf25 rfl rfl rfl) (by decide) ?_
              refine WL.x (X.move rfl) (by decide) ?_
              refine WL.x (X.loadBA (k := 3) Try.isAgg33 Try.sizeOf33 rfl rfl rfl) (by decide) ?_
              refine WL.x (X.call Try.call40 rfl (mean40 _ _ s ⟨_, _, rfl, hs2, hs4⟩ _ _ hs88 _ a rfl (by omega) (by assumption))) (by decide) ?_
              refine WL.x (X.move rfl) (by decide) ?_
              refine WL.x (X.extract rfl rfl) (by decide) ?_
              refine WL.x (X.extract rfl rfl) (by decide) ?_
              refine WL.x (X.extract rfl rfl) (by decide) ?_
              refine WL.tn (T.alloc Try.zeroValue45 rfl) (by decide) fun b90 => ?_
              refine WL.tn (T.alloc Try.zeroValue33 rfl) (by decide) fun b91 => ?_
              refine WL.ts (T.storeBA (k := 1) Try.sizeOf45 rfl rfl rfl (one_cons rfl (one_cons rfl one_nil)) rfl rfl) ?_
              refine WL.ts (T.storeBA (k := 0) Try.sizeOf33 rfl rfl rfl (one_cons rfl (one_cons rfl one_nil)) rfl rfl) ?_
              refine WL.x (X.assign rfl) (by decide) ?_
              refine WL.nil ?_
              refine WK.nThen ?_
              refine WC.seq ?_
              have hq := ends_mean2 hx (decide ((↑i : Int) = 1))
              have hq0 := hq.1
              have hq1 := fun (h : ¬ (↑i : Int) = 1) => hq.2.1 (decide_eq_false h)
              have hq2 := fun (h : (↑i : Int) = 1) => hq.2.2 (decide_eq_true h)
              refine WC.region ?_
              refine WL.x (X.move rfl) (by decide) ?_
              refine WL.x (X.neq rfl rfl) (by decide) ?_
              refine WL.x (X.move rfl) (by decide) ?_
              refine WL.yes rfl rfl ?_
              refine WL.x (X.move rfl) (by decide) ?_
              refine WL.yes rfl rfl ?_
              refine WL.condn (X.notp rfl) (by decide) (fun h92 => ?_) (fun h92 => ?_)
              · refine WL.x (X.pickF rfl rfl rfl) (by decide) ?_
                refine WL.x (X.move rfl) (by decide) ?_
                refine WL.no rfl rfl rfl (by decide) ?_
                refine WL.no rfl rfl rfl (by decide) ?_
                refine WL.no rfl rfl rfl (by decide) ?_
                refine WL.noU rfl rfl (by decide) ?_
                refine WL.noU rfl rfl (by decide) ?_
                refine WL.noU rfl rfl (by decide) ?_
                refine WL.noU rfl rfl (by decide) ?_
                refine WL.noU rfl rfl (by decide) ?_
                refine WL.noU rfl rfl (by decide) ?_
                refine WL.noU rfl rfl (by decide) ?_
                refine WL.noU rfl rfl (by decide) ?_
                refine WL.noU rfl rfl (by decide) ?_
                refine WL.noU rfl rfl (by decide) ?_
                refine WL.noU rfl rfl (by decide) ?_
                refine WL.noU rfl rfl (by decide) ?_
                refine WL.no rfl rfl rfl (by decide) ?_
                refine WL.x (X.pickT rfl rfl rfl) (by decide) ?_
                refine WL.x (X.move rfl) (by decide) ?_
                refine WL.no rfl rfl rfl (by decide) ?_
                refine WL.no rfl rfl rfl (by decide) ?_
                refine WL.no rfl rfl rfl (by decide) ?_
                refine WL.noU rfl rfl (by decide) ?_
                refine WL.noU rfl rfl (by decide) ?_
                refine WL.noU rfl rfl (by decide) ?_
                refine WL.noU rfl rfl (by decide) ?_
                refine WL.noU rfl rfl (by decide) ?_
                refine WL.noU rfl rfl (by decide) ?_
                refine WL.noU rfl rfl (by decide) ?_
                refine WL.noU rfl rfl (by decide) ?_
                refine WL.noU rfl rfl (by decide) ?_
                refine WL.noU rfl rfl (by decide) ?_
                refine WL.noU rfl rfl (by decide) ?_
                refine WL.noU rfl rfl (by decide) ?_
                refine WL.no rfl rfl rfl (by decide) ?_
                refine WL.x (X.pickT rfl rfl rfl) (by decide) ?_
                refine WL.nil ?_
                refine WK.nThen ?_
                refine WC.condT rfl ?_
                refine WC.seq ?_
                refine WC.region ?_
                refine WL.x (X.assign rfl) (by decide) ?_
                refine WL.nil ?_
                refine WK.nThen ?_
                refine WC.ret ?_
                refine WK.rBlock ?_
                refine WK.rThen ?_
                refine WK.rThen ?_
                refine WK.rBlock ?_
                refine WK.rThen ?_
                refine WK.ret1 rfl rfl (fun w' hw' => Ret.exact hw' ?_)
                first | rfl | (exfalso; omega) | (exfalso; contradiction) | (exfalso; have q_ := hq1 (by omega); omega) | (exfalso; have q_ := hq2 (by omega); omega) | exact (bool_true (by omega)).symm
              · refine WL.x (X.pickF rfl rfl rfl) (by decide) ?_
                refine WL.x (X.move rfl) (by decide) ?_
                refine WL.yes rfl rfl ?_
                refine WL.x (X.move rfl) (by decide) ?_
                refine WL.yes rfl rfl ?_
                refine WL.cond (X.eql rfl rfl) (by decide) (fun h93 => ?_) (fun h93 => ?_)
                · refine WL.yes rfl rfl ?_
                  refine WL.x (X.move rfl) (by decide) ?_
                  refine WL.yes rfl rfl ?_
                  refine WL.x (X.field Try.runUnderlying33 rfl Try.sizeOf3 rfl) (by decide) ?_
                  refine WL.yes rfl rfl ?_
                  refine WL.x (X.loadB (k := 0) Try.isAgg3 rfl rfl rfl) (by decide) ?_
                  refine WL.yes rfl rfl ?_
                  refine WL.x (X.field Try.runUnderlying33 rfl Try.sizeOf3 rfl) (by decide) ?_
                  refine WL.yes rfl rfl ?_
                  refine WL.x (X.loadB (k := 4) Try.isAgg3 rfl rfl rfl) (by decide) ?_
                  refine WL.yes rfl rfl ?_
                  refine WL.condn (X.neq rfl rfl) (by decide) (fun h94 => ?_) (fun h94 => ?_)
                  · refine WL.yes rfl rfl ?_
                    refine WL.x (X.move rfl) (by decide) ?_
                    refine WL.no rfl rfl rfl (by decide) ?_
                    refine WL.no rfl rfl rfl (by decide) ?_
                    refine WL.no rfl rfl rfl (by decide) ?_
                    refine WL.no rfl rfl rfl (by decide) ?_
                    refine WL.no rfl rfl rfl (by decide) ?_
                    refine WL.yes rfl rfl ?_
                    refine WL.x (X.pickT rfl rfl rfl) (by decide) ?_
                    refine WL.yes rfl rfl ?_
                    refine WL.x (X.pickT rfl rfl rfl) (by decide) ?_
                    refine WL.x (X.pickF rfl rfl rfl) (by decide) ?_
                    refine WL.x (X.move rfl) (by decide) ?_
                    refine WL.no rfl rfl rfl (by decide) ?_
                    refine WL.no rfl rfl rfl (by decide) ?_
                    refine WL.no rfl rfl rfl (by decide) ?_
                    refine WL.noU rfl rfl (by decide) ?_
                    refine WL.noU rfl rfl (by decide) ?_
                    refine WL.noU rfl rfl (by decide) ?_
                    refine WL.noU rfl rfl (by decide) ?_
                    refine WL.noU rfl rfl (by decide) ?_
                    refine WL.noU rfl rfl (by decide) ?_
                    refine WL.noU rfl rfl (by decide) ?_
                    refine WL.noU rfl rfl (by decide) ?_
                    refine WL.noU rfl rfl (by decide) ?_
                    refine WL.noU rfl rfl (by decide) ?_
                    refine WL.noU rfl rfl (by decide) ?_
                    refine WL.noU rfl rfl (by decide) ?_
                    refine WL.no rfl rfl rfl (by decide) ?_
                    refine WL.x (X.pickT rfl rfl rfl) (by decide) ?_
                    refine WL.nil ?_
                    refine WK.nThen ?_
                    refine WC.condT rfl ?_
                    refine WC.seq ?_
                    refine WC.region ?_
                    refine WL.x (X.assign rfl) (by decide) ?_
                    refine WL.nil ?_
                    refine WK.nThen ?_
                    refine WC.ret ?_
                    refine WK.rBlock ?_
                    refine WK.rThen ?_
                    refine WK.rThen ?_
                    refine WK.rBlock ?_
                    refine WK.rThen ?_
                    refine WK.ret1 rfl rfl (fun w' hw' => Ret.exact hw' ?_)
                    first | rfl | (exfalso; omega) | (exfalso; contradiction) | (exfalso; have q_ := hq1 (by omega); omega) | (exfalso; have q_ := hq2 (by omega); omega) | exact (bool_true (by omega)).symm
                  · refine WL.yes rfl rfl ?_
                    refine WL.x (X.move rfl) (by decide) ?_
                    refine WL.yes rfl rfl ?_
                    refine WL.x (X.field Try.runUnderlying33 rfl Try.sizeOf3 rfl) (by decide) ?_
                    refine WL.yes rfl rfl ?_
                    refine WL.x (X.loadB (k := 0) Try.isAgg3 rfl rfl rfl) (by decide) ?_
                    refine WL.yes rfl rfl ?_
                    refine WL.x (X.field Try.runUnderlying33 rfl Try.sizeOf3 rfl) (by decide) ?_
                    refine WL.yes rfl rfl ?_
                    refine WL.x (X.loadB (k := 3) Try.isAgg3 rfl rfl rfl) (by decide) ?_
                    refine WL.yes rfl rfl ?_
                    refine WL.condn (X.neq rfl rfl) (by decide) (fun h95 => ?_) (fun h95 => ?_)
                    · refine WL.yes rfl rfl ?_
                      refine WL.x (X.pickF rfl rfl rfl) (by decide) ?_
                      refine WL.yes rfl rfl ?_
                      refine WL.x (X.pickT rfl rfl rfl) (by decide) ?_
                      refine WL.x (X.pickF rfl rfl rfl) (by decide) ?_
                      refine WL.x (X.move rfl) (by decide) ?_
                      refine WL.no rfl rfl rfl (by decide) ?_
                      refine WL.no rfl rfl rfl (by decide) ?_
                      refine WL.no rfl rfl rfl (by decide) ?_
                      refine WL.noU rfl rfl (by decide) ?_
                      refine WL.noU rfl rfl (by decide) ?_
                      refine WL.noU rfl rfl (by decide) ?_
                      refine WL.noU rfl rfl (by decide) ?_
                      refine WL.noU rfl rfl (by decide) ?_
                      refine WL.noU rfl rfl (by decide) ?_
                      refine WL.noU rfl rfl (by decide) ?_
                      refine WL.noU rfl rfl (by decide) ?_
                      refine WL.noU rfl rfl (by decide) ?_
                      refine WL.noU rfl rfl (by decide) ?_
                      refine WL.noU rfl rfl (by decide) ?_
                      refine WL.noU rfl rfl (by decide) ?_
                      refine WL.no rfl rfl rfl (by decide) ?_
                      refine WL.x (X.pickT rfl rfl rfl) (by decide) ?_
                      refine WL.nil ?_
                      refine WK.nThen ?_
                      refine WC.condT rfl ?_
                      refine WC.seq ?_
                      refine WC.region ?_
                      refine WL.x (X.assign rfl) (by decide) ?_
                      refine WL.nil ?_
                      refine WK.nThen ?_
                      refine WC.ret ?_
                      refine WK.rBlock ?_
                      refine WK.rThen ?_
                      refine WK.rThen ?_
                      refine WK.rBlock ?_
                      refine WK.rThen ?_
                      refine WK.ret1 rfl rfl (fun w' hw' => Ret.exact hw' ?_)
                      first | rfl | (exfalso; omega) | (exfalso; contradiction) | (exfalso; have q_ := hq1 (by omega); omega) | (exfalso; have q_ := hq2 (by omega); omega) | exact (bool_true (by omega)).symm
                    · refine WL.yes rfl rfl ?_
                      refine WL.x (X.pickF rfl rfl rfl) (by decide) ?_
                      refine WL.yes rfl rfl ?_
                      refine WL.x (X.pickT rfl rfl rfl) (by decide) ?_
                      refine WL.x (X.pickF rfl rfl rfl) (by decide) ?_
                      refine WL.x (X.move rfl) (by decide) ?_
                      refine WL.yes rfl rfl ?_
                      refine WL.x (X.move rfl) (by decide) ?_
                      refine WL.yes rfl rfl ?_
                      refine WL.cond (X.eql rfl rfl) (by decide) (fun h96 => ?_) (fun h96 => ?_)
                      · refine WL.yes rfl rfl ?_
                        refine WL.x (X.move rfl) (by decide) ?_
                        refine WL.yes rfl rfl ?_
                        refine WL.x (X.field Try.runUnderlying33 rfl Try.sizeOf3 rfl) (by decide) ?_
                        refine WL.yes rfl rfl ?_
                        refine WL.x (X.loadB (k := 0) Try.isAgg3 rfl rfl rfl) (by decide) ?_
                        refine WL.yes rfl rfl ?_
                        refine WL.x (X.field Try.runUnderlying33 rfl Try.sizeOf3 rfl) (by decide) ?_
                        refine WL.yes rfl rfl ?_
                        refine WL.x (X.loadB (k := 4) Try.isAgg3 rfl rfl rfl) (by decide) ?_
                        refine WL.yes rfl rfl ?_
                        refine WL.condn (X.neq rfl rfl) (by decide) (fun h97 => ?_) (fun h97 => ?_)
                        · refine WL.yes rfl rfl ?_
                          refine WL.x (X.move rfl) (by decide) ?_
                          refine WL.no rfl rfl rfl (by decide) ?_
                          refine WL.no rfl rfl rfl (by decide) ?_
                          refine WL.no rfl rfl rfl (by decide) ?_
                          refine WL.no rfl rfl rfl (by decide) ?_
                          refine WL.no rfl rfl rfl (by decide) ?_
                          refine WL.yes rfl rfl ?_
                          refine WL.x (X.pickT rfl rfl rfl) (by decide) ?_
                          refine WL.yes rfl rfl ?_
                          refine WL.x (X.pickT rfl rfl rfl) (by decide) ?_
                          refine WL.x (X.pickF rfl rfl rfl) (by decide) ?_
                          refine WL.nil ?_
                          refine WK.nThen ?_
                          refine WC.condT rfl ?_
                          refine WC.seq ?_
                          refine WC.region ?_
                          refine WL.x (X.assign rfl) (by decide) ?_
                          refine WL.nil ?_
                          refine WK.nThen ?_
                          refine WC.ret ?_
                          refine WK.rBlock ?_
                          refine WK.rThen ?_
                          refine WK.rThen ?_
                          refine WK.rBlock ?_
                          refine WK.rThen ?_
                          refine WK.ret1 rfl rfl (fun w' hw' => Ret.exact hw' ?_)
                          first | rfl | (exfalso; omega) | (exfalso; contradiction) | (exfalso; have q_ := hq1 (by omega); omega) | (exfalso; have q_ := hq2 (by omega); omega) | exact (bool_true (by omega)).symm
                        · refine WL.yes rfl rfl ?_
                          refine WL.x (X.move rfl) (by decide) ?_
                          refine WL.yes rfl rfl ?_
                          refine WL.x (X.field Try.runUnderlying33 rfl Try.sizeOf3 rfl) (by decide) ?_
                          refine WL.yes rfl rfl ?_
                          refine WL.x (X.loadB (k := 0) Try.isAgg3 rfl rfl rfl) (by decide) ?_
                          refine WL.yes rfl rfl ?_
                          refine WL.x (X.field Try.runUnderlying33 rfl Try.sizeOf3 rfl) (by decide) ?_
                          refine WL.yes rfl rfl ?_
                          refine WL.x (X.loadB (k := 3) Try.isAgg3 rfl rfl rfl) (by decide) ?_
                          refine WL.yes rfl rfl ?_
                          refine WL.condn (X.neq rfl rfl) (by decide) (fun h98 => ?_) (fun h98 => ?_)
                          · refine WL.yes rfl rfl ?_
                            refine WL.x (X.pickF rfl rfl rfl) (by decide) ?_
                            refine WL.yes rfl rfl ?_
                            refine WL.x (X.pickT rfl rfl rfl) (by decide) ?_
                            refine WL.x (X.pickF rfl rfl rfl) (by decide) ?_
                            refine WL.nil ?_
                            refine WK.nThen ?_
                            refine WC.condT rfl ?_
                            refine WC.seq ?_
                            refine WC.region ?_
                            refine WL.x (X.assign rfl) (by decide) ?_
                            refine WL.nil ?_
                            refine WK.nThen ?_
                            refine WC.ret ?_
                            refine WK.rBlock ?_
                            refine WK.rThen ?_
                            refine WK.rThen ?_
                            refine WK.rBlock ?_
                            refine WK.rThen ?_
                            refine WK.ret1 rfl rfl (fun w' hw' => Ret.exact hw' ?_)
                            first | rfl | (exfalso; omega) | (exfalso; contradiction) | (exfalso; have q_ := hq1 (by omega); omega) | (exfalso; have q_ := hq2 (by omega); omega) | exact (bool_true (by omega)).symm
                          · refine WL.yes rfl rfl ?_
                            refine WL.x (X.pickF rfl rfl rfl) (by decide) ?_
                            refine WL.yes rfl rfl ?_
                            refine WL.x (X.pickT rfl rfl rfl) (by decide) ?_
                            refine WL.x (X.pickF rfl rfl rfl) (by decide) ?_
                            refine WL.nil ?_
                            refine WK.nThen ?_
                            refine WC.condF rfl ?_
                            refine WC.skip ?_
                            refine WK.nBlock ?_
                            refine WK.nThen ?_
                            refine WC.region ?_
                            refine WL.x (X.move rfl) (by decide) ?_
                            refine WL.x (X.add rfl rfl (by omega) (by omega)) (by decide) ?_
                            refine WL.x (X.assign rfl) (by decide) ?_
                            refine WL.nil ?_
                            refine WK.nThen ?_
                            refine WK.back hgood0 (Mem.le_trans hle72 hle85) ?_
                            refine WK.next (i + 1) rfl (.cons _ (.cons _ (.cons _ (.cons_cons _ (.cons_cons _ (.cons_cons _ (.cons_cons _ (.cons_cons _ .slnil)))))))) (.cons rfl (.cons rfl (.cons rfl (.cons rfl (.cons rfl (.cons rfl .nil)))))) ?_ ?_
                            · omega
                            · omega
                      · refine WL.yes rfl rfl ?_
                        refine WL.x (X.move rfl) (by decide) ?_
                        refine WL.no rfl rfl rfl (by decide) ?_
                        refine WL.no rfl rfl rfl (by decide) ?_
                        refine WL.no rfl rfl rfl (by decide) ?_
                        refine WL.no rfl rfl rfl (by decide) ?_
                        refine WL.no rfl rfl rfl (by decide) ?_
                        refine WL.no rfl rfl rfl (by decide) ?_
                        refine WL.noU rfl rfl (by decide) ?_
                        refine WL.noU rfl rfl (by decide) ?_
                        refine WL.noU rfl rfl (by decide) ?_
                        refine WL.noU rfl rfl (by decide) ?_
                        refine WL.noU rfl rfl (by decide) ?_
                        refine WL.no rfl rfl rfl (by decide) ?_
                        refine WL.yes rfl rfl ?_
                        refine WL.x (X.pickF rfl rfl rfl) (by decide) ?_
                        refine WL.x (X.pickF rfl rfl rfl) (by decide) ?_
                        refine WL.nil ?_
                        refine WK.nThen ?_
                        refine WC.condF rfl ?_
                        refine WC.skip ?_
                        refine WK.nBlock ?_
                        refine WK.nThen ?_
                        refine WC.region ?_
                        refine WL.x (X.move rfl) (by decide) ?_
                        refine WL.x (X.add rfl rfl (by omega) (by omega)) (by decide) ?_
                        refine WL.x (X.assign rfl) (by decide) ?_
                        refine WL.nil ?_
                        refine WK.nThen ?_
                        refine WK.back hgood0 (Mem.le_trans hle72 hle85) ?_
                        refine WK.next (i + 1) rfl (.cons _ (.cons _ (.cons _ (.cons_cons _ (.cons_cons _ (.cons_cons _ (.cons_cons _ (.cons_cons _ .slnil)))))))) (.cons rfl (.cons rfl (.cons rfl (.cons rfl (.cons rfl (.cons rfl .nil)))))) ?_ ?_
                        · omega
                        · omega
                · refine WL.yes rfl rfl ?_
                  refine WL.x (X.move rfl) (by decide) ?_
                  refine WL.no rfl rfl rfl (by decide) ?_
                  refine WL.no rfl rfl rfl (by decide) ?_
                  refine WL.no rfl rfl rfl (by decide) ?_
                  refine WL.no rfl rfl rfl (by decide) ?_
                  refine WL.no rfl rfl rfl (by decide) ?_
                  refine WL.no rfl rfl rfl (by decide) ?_
                  refine WL.noU rfl rfl (by decide) ?_
                  refine WL.noU rfl rfl (by decide) ?_
                  refine WL.noU rfl rfl (by decide) ?_
                  refine WL.noU rfl rfl (by decide) ?_
                  refine WL.noU rfl rfl (by decide) ?_
                  refine WL.no rfl rfl rfl (by decide) ?_
                  refine WL.yes rfl rfl ?_
                  refine WL.x (X.pickF rfl rfl rfl) (by decide) ?_
                  refine WL.x (X.pickF rfl rfl rfl) (by decide) ?_
                  refine WL.x (X.move rfl) (by decide) ?_
                  refine WL.yes rfl rfl ?_
                  refine WL.x (X.move rfl) (by decide) ?_
                  refine WL.yes rfl rfl ?_
                  refine WL.cond (X.eql rfl rfl) (by decide) (fun h99 => ?_) (fun h99 => ?_)
                  · refine WL.yes rfl rfl ?_
                    refine WL.x (X.move rfl) (by decide) ?_
                    refine WL.yes rfl rfl ?_
                    refine WL.x (X.field Try.runUnderlying33 rfl Try.sizeOf3 rfl) (by decide) ?_
                    refine WL.yes rfl rfl ?_
                    refine WL.x (X.loadB (k := 0) Try.isAgg3 rfl rfl rfl) (by decide) ?_
                    refine WL.yes rfl rfl ?_
                    refine WL.x (X.field Try.runUnderlying33 rfl Try.sizeOf3 rfl) (by decide) ?_
                    refine WL.yes rfl rfl ?_
                    refine WL.x (X.loadB (k := 4) Try.isAgg3 rfl rfl rfl) (by decide) ?_
                    refine WL.yes rfl rfl ?_
                    refine WL.condn (X.neq rfl rfl) (by decide) (fun h100 => ?_) (fun h100 => ?_)
                    · refine WL.yes rfl rfl ?_
                      refine WL.x (X.move rfl) (by decide) ?_
                      refine WL.no rfl rfl rfl (by decide) ?_
                      refine WL.no rfl rfl rfl (by decide) ?_
                      refine WL.no rfl rfl rfl (by decide) ?_
                      refine WL.no rfl rfl rfl (by decide) ?_
                      refine WL.no rfl rfl rfl (by decide) ?_
                      refine WL.yes rfl rfl ?_
                      refine WL.x (X.pickT rfl rfl rfl) (by decide) ?_
                      refine WL.yes rfl rfl ?_
                      refine WL.x (X.pickT rfl rfl rfl) (by decide) ?_
                      refine WL.x (X.pickF rfl rfl rfl) (by decide) ?_
                      refine WL.nil ?_
                      refine WK.nThen ?_
                      refine WC.condT rfl ?_
                      refine WC.seq ?_
                      refine WC.region ?_
                      refine WL.x (X.assign rfl) (by decide) ?_
                      refine WL.nil ?_
                      refine WK.nThen ?_
                      refine WC.ret ?_
                      refine WK.rBlock ?_
                      refine WK.rThen ?_
                      refine WK.rThen ?_
                      refine WK.rBlock ?_
                      refine WK.rThen ?_
                      refine WK.ret1 rfl rfl (fun w' hw' => Ret.exact hw' ?_)
                      first | rfl | (exfalso; omega) | (exfalso; contradiction) | (exfalso; have q_ := hq1 (by omega); omega) | (exfalso; have q_ := hq2 (by omega); omega) | exact (bool_true (by omega)).symm
                    · refine WL.yes rfl rfl ?_
                      refine WL.x (X.move rfl) (by decide) ?_
                      refine WL.yes rfl rfl ?_
                      refine WL.x (X.field Try.runUnderlying33 rfl Try.sizeOf3 rfl) (by decide) ?_
                      refine WL.yes rfl rfl ?_
                      refine WL.x (X.loadB (k := 0) Try.isAgg3 rfl rfl rfl) (by decide) ?_
                      refine WL.yes rfl rfl ?_
                      refine WL.x (X.field Try.runUnderlying33 rfl Try.sizeOf3 rfl) (by decide) ?_
                      refine WL.yes rfl rfl ?_
                      refine WL.x (X.loadB (k := 3) Try.isAgg3 rfl rfl rfl) (by decide) ?_
                      refine WL.yes rfl rfl ?_
                      refine WL.condn (X.neq rfl rfl) (by decide) (fun h101 => ?_) (fun h101 => ?_)
                      · refine WL.yes rfl rfl ?_
                        refine WL.x (X.pickF rfl rfl rfl) (by decide) ?_
                        refine WL.yes rfl rfl ?_
                        refine WL.x (X.pickT rfl rfl rfl) (by decide) ?_
                        refine WL.x (X.pickF rfl rfl rfl) (by decide) ?_
                        refine WL.nil ?_
                        refine WK.nThen ?_
                        refine WC.condT rfl ?_
                        refine WC.seq ?_
                        refine WC.region ?_
                        refine WL.x (X.assign rfl) (by decide) ?_
                        refine WL.nil ?_
                        refine WK.nThen ?_
                        refine WC.ret ?_
                        refine WK.rBlock ?_
                        refine WK.rThen ?_
                        refine WK.rThen ?_
                        refine WK.rBlock ?_
                        refine WK.rThen ?_
                        refine WK.ret1 rfl rfl (fun w' hw' => Ret.exact hw' ?_)
                        first | rfl | (exfalso; omega) | (exfalso; contradiction) | (exfalso; have q_ := hq1 (by omega); omega) | (exfalso; have q_ := hq2 (by omega); omega) | exact (bool_true (by omega)).symm
                      · refine WL.yes rfl rfl ?_
                        refine WL.x (X.pickF rfl rfl rfl) (by decide) ?_
                        refine WL.yes rfl rfl ?_
                        refine WL.x (X.pickT rfl rfl rfl) (by decide) ?_
                        refine WL.x (X.pickF rfl rfl rfl) (by decide) ?_
                        refine WL.nil ?_
                        refine WK.nThen ?_
                        refine WC.condF rfl ?_
                        refine WC.skip ?_
                        refine WK.nBlock ?_
                        refine WK.nThen ?_
                        refine WC.region ?_
                        refine WL.x (X.move rfl) (by decide) ?_
                        refine WL.x (X.add rfl rfl (by omega) (by omega)) (by decide) ?_
                        refine WL.x (X.assign rfl) (by decide) ?_
                        refine WL.nil ?_
                        refine WK.nThen ?_
                        refine WK.back hgood0 (Mem.le_trans hle72 hle85) ?_
                        refine WK.next (i + 1) rfl (.cons _ (.cons _ (.cons _ (.cons_cons _ (.cons_cons _ (.cons_cons _ (.cons_cons _ (.cons_cons _ .slnil)))))))) (.cons rfl (.cons rfl (.cons rfl (.cons rfl (.cons rfl (.cons rfl .nil)))))) ?_ ?_
                        · omega
                        · omega
                  · refine WL.yes rfl rfl ?_
                    refine WL.x (X.move rfl) (by decide) ?_
                    refine WL.no rfl rfl rfl (by decide) ?_
                    refine WL.no rfl rfl rfl (by decide) ?_
                    refine WL.no rfl rfl rfl (by decide) ?_
                    refine WL.no rfl rfl rfl (by decide) ?_
                    refine WL.no rfl rfl rfl (by decide) ?_
                    refine WL.no rfl rfl rfl (by decide) ?_
                    refine WL.noU rfl rfl (by decide) ?_
                    refine WL.noU rfl rfl (by decide) ?_
                    refine WL.noU rfl rfl (by decide) ?_
                    refine WL.noU rfl rfl (by decide) ?_
                    refine WL.noU rfl rfl (by decide) ?_
                    refine WL.no rfl rfl rfl (by decide) ?_
                    refine WL.yes rfl rfl ?_
                    refine WL.x (X.pickF rfl rfl rfl) (by decide) ?_
                    refine WL.x (X.pickF rfl rfl rfl) (by decide) ?_
                    refine WL.nil ?_
                    refine WK.nThen ?_
                    refine WC.condF rfl ?_
                    refine WC.skip ?_
                    refine WK.nBlock ?_
                    refine WK.nThen ?_
                    refine WC.region ?_
                    refine WL.x (X.move rfl) (by decide) ?_
                    refine WL.x (X.add rfl rfl (by omega) (by omega)) (by decide) ?_
                    refine WL.x (X.assign rfl) (by decide) ?_
                    refine WL.nil ?_
                    refine WK.nThen ?_
                    refine WK.back hgood0 (Mem.le_trans hle72 hle85) ?_
                    refine WK.next (i + 1) rfl (.cons _ (.cons _ (.cons _ (.cons_cons _ (.cons_cons _ (.cons_cons _ (.cons_cons _ (.cons_cons _ .slnil)))))))) (.cons rfl (.cons rfl (.cons rfl (.cons rfl (.cons rfl (.cons rfl .nil)))))) ?_ ?_
                    · omega
                    · omega
            · refine WL.nil ?_
              refine WK.nThen ?_
              refine WC.condF rfl ?_
              refine WC.exit ?_
              refine WK.eThen ?_
              refine WK.eThen ?_
              refine WK.eHit ?_
              refine WK.nThen ?_
              refine WC.seq ?_
              refine WC.region ?_
              refine WL.x (X.move rfl) (by decide) ?_
              refine WL.x (X.assign rfl) (by decide) ?_
              refine WL.nil ?_
              refine WK.nThen ?_
              refine WC.ret ?_
              refine WK.ret1 rfl rfl (fun w' hw' => Ret.exact hw' ?_)
              first | rfl | (exfalso; omega) | (exfalso; contradiction) | (exfalso; have q_ := hq1 (by omega); omega) | (exfalso; have q_ := hq2 (by omega); omega) | exact (bool_true (by omega)).symm
    · refine WL.yes rfl rfl ?_
      refine WL.x (X.not rfl) (by decide) ?_
      refine WL.x (X.pickF rfl rfl rfl) (by decide) ?_
      refine WL.nil ?_
      refine WK.nThen ?_
      refine WC.condT rfl ?_
      refine WC.seq ?_
      refine WC.region ?_
      refine WL.x (X.move rfl) (by decide) ?_
      refine WL.x (X.assign rfl) (by decide) ?_
      refine WL.nil ?_
      refine WK.nThen ?_
      refine WC.ret ?_
      refine WK.rThen ?_
      refine WK.ret1 rfl rfl (fun w' hw' => Ret.exact hw' ?_)
      first | rfl | (exfalso; omega) | (exfalso; contradiction) | (exfalso; have q_ := hq1 (by omega); omega) | (exfalso; have q_ := hq2 (by omega); omega) | exact (bool_true (by omega)).symm
  · refine WL.x (X.not rfl) (by decide) ?_
    refine WL.x (X.move rfl) (by decide) ?_
    refine WL.no rfl rfl rfl (by decide) ?_
    refine WL.no rfl rfl rfl (by decide) ?_
    refine WL.no rfl rfl rfl (by decide) ?_
    refine WL.x (X.pickT rfl rfl rfl) (by decide) ?_
    refine WL.nil ?_
    refine WK.nThen ?_
    refine WC.condT rfl ?_
    refine WC.seq ?_
    refine WC.region ?_
    refine WL.x (X.move rfl) (by decide) ?_
    refine WL.x (X.assign rfl) (by decide) ?_
    refine WL.nil ?_
    refine WK.nThen ?_
    refine WC.ret ?_
    refine WK.rThen ?_
    refine WK.ret1 rfl rfl (fun w' hw' => Ret.exact hw' ?_)
    first | rfl | (exfalso; omega) | (exfalso; contradiction) | (exfalso; have q_ := hq1 (by omega); omega) | (exfalso; have q_ := hq2 (by omega); omega) | exact (bool_true (by omega)).symm
end Go.Proofs.C8
