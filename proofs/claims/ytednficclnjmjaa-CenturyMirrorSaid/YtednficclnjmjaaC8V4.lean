/- The walk of the statement CenturyMirror: its function answers true. -/
import Derived.Test.YtednficclnjmjaaC8Br
import Derived.Test.YtednficclnjmjaaC8W9
import Derived.Test.YtednficclnjmjaaC8LMir
import Derived.Test.YtednficclnjmjaaC8LShift
namespace Go.Proofs.C8
open Go Go.Kx
set_option linter.unusedSimpArgs false
set_option linter.unusedVariables false
set_option maxRecDepth 20000 in
set_option maxHeartbeats 4000000 in
theorem law4 (m : Mem) (cs : List Value) (s : Ser) (hs : Enc.rd m cs s) (ct : List Value) (t : Ser) (ht : Enc.rd m ct t) (ca : List Value) (a : Span) (ha : Enc.rd m ca a) (time : Int) (most : Int)  (ok0 : Rng.ok s) (ok1 : Rng.ok t) (ok2 : Rng.ok a) (lo3 : -9223372036854775808 ≤ time) (hi3 : time ≤ 9223372036854775807) (lo4 : -9223372036854775808 ≤ most) (hi4 : most ≤ 9223372036854775807) : Exact Try.prog 4 #[.agg cs.toArray, .agg ct.toArray, .agg ca.toArray, .int .i64 (time), .int .i64 (most)] m (.bool true) := by
  obtain ⟨v1, v3, rfl, hs2, hs4⟩ := hs
  have hl5 := hs2.le
  have hl6 := hs4.le
  obtain ⟨v7, v9, rfl, hs8, hs10⟩ := ht
  have hl11 := hs8.le
  have hl12 := hs10.le
  obtain rfl := ha
  refine Exact.start Try.func4 rfl Try.ntmps4 rfl fun wld => ?_
  refine WC.seq ?_
  refine WC.region ?_
  refine WL.tn (T.boxB rfl rfl) (by decide) fun b13 => ?_
  refine WL.tn (T.boxB rfl rfl) (by decide) fun b14 => ?_
  refine WL.tn (T.boxB rfl rfl) (by decide) fun b15 => ?_
  refine WL.x (X.assign rfl) (by decide) ?_
  refine WL.nil ?_
  refine WK.nThen ?_
  refine WC.seq ?_
  refine WC.region ?_
  refine WL.x (X.call Try.call21 rfl (awake21 _  )) (by decide) ?_
  refine WL.x (X.assign rfl) (by decide) ?_
  refine WL.nil ?_
  refine WK.nThen ?_
  refine WC.seq ?_
  refine WC.region ?_
  refine WL.x (X.loadBA (k := 2) Try.isAgg25 Try.sizeOf25 rfl rfl rfl) (by decide) ?_
  refine WL.x (X.call Try.call34 rfl (check34 _ _ s ⟨_, _, rfl, hs2, hs4⟩ )) (by decide) ?_
  refine WL.x (X.move rfl) (by decide) ?_
  refine WL.x (X.extract rfl rfl) (by decide) ?_
  refine WL.x (X.extract rfl rfl) (by decide) ?_
  refine WL.x (X.assign rfl) (by decide) ?_
  refine WL.x (X.assign rfl) (by decide) ?_
  refine WL.nil ?_
  refine WK.nThen ?_
  refine WC.seq ?_
  refine WC.region ?_
  refine WL.x (X.loadBA (k := 1) Try.isAgg25 Try.sizeOf25 rfl rfl rfl) (by decide) ?_
  refine WL.x (X.call Try.call34 rfl (check34 _ _ t ⟨_, _, rfl, hs8, hs10⟩ )) (by decide) ?_
  refine WL.x (X.move rfl) (by decide) ?_
  refine WL.x (X.extract rfl rfl) (by decide) ?_
  refine WL.x (X.extract rfl rfl) (by decide) ?_
  refine WL.x (X.assign rfl) (by decide) ?_
  refine WL.x (X.assign rfl) (by decide) ?_
  refine WL.nil ?_
  refine WK.nThen ?_
  refine WC.seq ?_
  refine WC.seq ?_
  refine WC.region ?_
  refine WL.x (X.loadBA (k := 2) Try.isAgg25 Try.sizeOf25 rfl rfl rfl) (by decide) ?_
  refine WL.cond (X.call Try.call22 rfl (few22 _ _ s ⟨_, _, rfl, hs2, hs4⟩ )) (by decide) (fun h16 => ?_) (fun h16 => ?_)
  · refine WL.x (X.not rfl) (by decide) ?_
    refine WL.x (X.move rfl) (by decide) ?_
    refine WL.yes rfl rfl ?_
    refine WL.x (X.loadBA (k := 1) Try.isAgg25 Try.sizeOf25 rfl rfl rfl) (by decide) ?_
    refine WL.yes rfl rfl ?_
    refine WL.cond (X.call Try.call22 rfl (few22 _ _ t ⟨_, _, rfl, hs8, hs10⟩ )) (by decide) (fun h17 => ?_) (fun h17 => ?_)
    · refine WL.yes rfl rfl ?_
      refine WL.x (X.not rfl) (by decide) ?_
      refine WL.x (X.pickF rfl rfl rfl) (by decide) ?_
      refine WL.x (X.move rfl) (by decide) ?_
      refine WL.yes rfl rfl ?_
      refine WL.x (X.move rfl) (by decide) ?_
      refine WL.yes rfl rfl ?_
      refine WL.condn (X.neq rfl rfl) (by decide) (fun h18 => ?_) (fun h18 => ?_)
      · refine WL.x (X.pickF rfl rfl rfl) (by decide) ?_
        refine WL.x (X.move rfl) (by decide) ?_
        refine WL.no rfl rfl rfl (by decide) ?_
        refine WL.no rfl rfl rfl (by decide) ?_
        refine WL.x (X.pickT rfl rfl rfl) (by decide) ?_
        refine WL.nil ?_
        refine WK.nThen ?_
        refine WC.condT rfl ?_
        refine WC.seq ?_
        refine WC.region ?_
        refine WL.x (X.move rfl) (by decide) ?_
        refine WL.x (X.assign rfl) (by decide) ?_
        refine WL.nil ?_
        refine WK.nThen ?_
        refine WC.ret ?_
        refine WK.rThen ?_
        refine WK.ret1 rfl rfl (fun w' hw' => Ret.exact hw' ?_)
        first | rfl | (exfalso; omega) | (exfalso; contradiction) | (exfalso; have q1_ := hx1 (by omega); have q2_ := hx2 (by omega); have q3_ := hx3 (by omega); have q4_ := hx4 (by omega); omega) | exact (bool_true (by omega)).symm
      · refine WL.x (X.pickF rfl rfl rfl) (by decide) ?_
        refine WL.x (X.move rfl) (by decide) ?_
        refine WL.yes rfl rfl ?_
        refine WL.x (X.move rfl) (by decide) ?_
        refine WL.yes rfl rfl ?_
        refine WL.condn (X.neq rfl rfl) (by decide) (fun h19 => ?_) (fun h19 => ?_)
        · refine WL.x (X.pickF rfl rfl rfl) (by decide) ?_
          refine WL.nil ?_
          refine WK.nThen ?_
          refine WC.condT rfl ?_
          refine WC.seq ?_
          refine WC.region ?_
          refine WL.x (X.move rfl) (by decide) ?_
          refine WL.x (X.assign rfl) (by decide) ?_
          refine WL.nil ?_
          refine WK.nThen ?_
          refine WC.ret ?_
          refine WK.rThen ?_
          refine WK.ret1 rfl rfl (fun w' hw' => Ret.exact hw' ?_)
          first | rfl | (exfalso; omega) | (exfalso; contradiction) | (exfalso; have q1_ := hx1 (by omega); have q2_ := hx2 (by omega); have q3_ := hx3 (by omega); have q4_ := hx4 (by omega); omega) | exact (bool_true (by omega)).symm
        · refine WL.x (X.pickF rfl rfl rfl) (by decide) ?_
          refine WL.nil ?_
          refine WK.nThen ?_
          refine WC.condF rfl ?_
          refine WC.skip ?_
          refine WK.nThen ?_
          refine WC.seq ?_
          have hos := Ok.of (s := s) (by show (chk s).1 = 0; omega)
          have hot := Ok.of (s := t) (by show (chk t).1 = 0; omega)
          have hok := hos
          refine WC.region ?_
          refine WL.x (X.loadBA (k := 2) Try.isAgg25 Try.sizeOf25 rfl rfl rfl) (by decide) ?_
          refine WL.tm (T.call Try.call35 rfl (turned35 _ _ s ⟨_, _, rfl, hs2, hs4⟩ (by assumption))) (by decide) fun m20 r21 hle22 hR23 => ?_
          obtain ⟨c24, rfl, hc25⟩ := hR23
          replace hs2 := hs2.mono hle22
          replace hs4 := hs4.mono hle22
          replace hs8 := hs8.mono hle22
          replace hs10 := hs10.mono hle22
          obtain ⟨v26, v28, rfl, hs27, hs29⟩ := hc25
          have hl30 := hs27.le
          have hl31 := hs29.le
          refine WL.tn (T.alloc Try.zeroValue25 rfl) (by decide) fun b32 => ?_
          refine WL.ts (T.storeBA (k := 0) Try.sizeOf25 rfl rfl rfl (one_cons hs27.one (one_cons hs29.one one_nil)) rfl rfl) ?_
          refine WL.nil ?_
          refine WK.nThen ?_
          refine WC.seq ?_
          have hok := hot
          refine WC.region ?_
          refine WL.x (X.loadBA (k := 2) Try.isAgg25 Try.sizeOf25 rfl rfl rfl) (by decide) ?_
          refine WL.tm (T.call Try.call35 rfl (turned35 _ _ t ⟨_, _, rfl, hs8, hs10⟩ (by assumption))) (by decide) fun m33 r34 hle35 hR36 => ?_
          obtain ⟨c37, rfl, hc38⟩ := hR36
          replace hs2 := hs2.mono hle35
          replace hs4 := hs4.mono hle35
          replace hs8 := hs8.mono hle35
          replace hs10 := hs10.mono hle35
          replace hs27 := hs27.mono hle35
          replace hs29 := hs29.mono hle35
          obtain ⟨v39, v41, rfl, hs40, hs42⟩ := hc38
          have hl43 := hs40.le
          have hl44 := hs42.le
          refine WL.tn (T.alloc Try.zeroValue25 rfl) (by decide) fun b45 => ?_
          refine WL.ts (T.storeBA (k := 0) Try.sizeOf25 rfl rfl rfl (one_cons hs40.one (one_cons hs42.one one_nil)) rfl rfl) ?_
          refine WL.nil ?_
          refine WK.nThen ?_
          refine WC.seq ?_
          refine WC.region ?_
          refine WL.x (X.loadBA (k := 4) Try.isAgg25 Try.sizeOf25 rfl rfl rfl) (by decide) ?_
          refine WL.x (X.call Try.call36 rfl (slope36 _ _ s ⟨_, _, rfl, hs2, hs4⟩ )) (by decide) ?_
          refine WL.x (X.move rfl) (by decide) ?_
          refine WL.x (X.extract rfl rfl) (by decide) ?_
          refine WL.x (X.extract rfl rfl) (by decide) ?_
          refine WL.x (X.extract rfl rfl) (by decide) ?_
          refine WL.tn (T.alloc Try.zeroValue45 rfl) (by decide) fun b46 => ?_
          refine WL.tn (T.alloc Try.zeroValue45 rfl) (by decide) fun b47 => ?_
          refine WL.ts (T.storeBA (k := 1) Try.sizeOf45 rfl rfl rfl (one_cons rfl (one_cons rfl one_nil)) rfl rfl) ?_
          refine WL.ts (T.storeBA (k := 0) Try.sizeOf45 rfl rfl rfl (one_cons rfl (one_cons rfl one_nil)) rfl rfl) ?_
          refine WL.x (X.assign rfl) (by decide) ?_
          refine WL.nil ?_
          refine WK.nThen ?_
          refine WC.seq ?_
          refine WC.region ?_
          refine WL.x (X.loadBA (k := 3) Try.isAgg25 Try.sizeOf25 rfl rfl rfl) (by decide) ?_
          refine WL.x (X.call Try.call36 rfl (slope36 _ _ (turnS s) ⟨_, _, rfl, hs27, hs29⟩ )) (by decide) ?_
          refine WL.x (X.move rfl) (by decide) ?_
          refine WL.x (X.extract rfl rfl) (by decide) ?_
          refine WL.x (X.extract rfl rfl) (by decide) ?_
          refine WL.x (X.extract rfl rfl) (by decide) ?_
          refine WL.tn (T.alloc Try.zeroValue45 rfl) (by decide) fun b48 => ?_
          refine WL.tn (T.alloc Try.zeroValue45 rfl) (by decide) fun b49 => ?_
          refine WL.ts (T.storeBA (k := 1) Try.sizeOf45 rfl rfl rfl (one_cons rfl (one_cons rfl one_nil)) rfl rfl) ?_
          refine WL.ts (T.storeBA (k := 0) Try.sizeOf45 rfl rfl rfl (one_cons rfl (one_cons rfl one_nil)) rfl rfl) ?_
          refine WL.x (X.assign rfl) (by decide) ?_
          refine WL.nil ?_
          refine WK.nThen ?_
          refine WC.seq ?_
          refine WC.seq ?_
          have hsl := turn_slope hos
          have hsl1 : (slopeR (turnS s)).1.Num = -(slopeR s).2.1.Num := (by rw [hsl])
          have hsl2 : (slopeR (turnS s)).1.Den = (slopeR s).2.1.Den := (by rw [hsl])
          have hsl3 : (slopeR (turnS s)).2.1.Num = -(slopeR s).1.Num := (by rw [hsl])
          have hsl4 : (slopeR (turnS s)).2.1.Den = (slopeR s).1.Den := (by rw [hsl])
          have hsl5 : (slopeR (turnS s)).2.2 = (slopeR s).2.2 := (by rw [hsl])
          have hsb := slope_bd s
          refine WC.region ?_
          refine WL.x (X.move rfl) (by decide) ?_
          refine WL.x (X.move rfl) (by decide) ?_
          refine WL.condn (X.neq rfl rfl) (by decide) (fun h50 => ?_) (fun h50 => ?_)
          · refine WL.x (X.move rfl) (by decide) ?_
            refine WL.no rfl rfl rfl (by decide) ?_
            refine WL.no rfl rfl rfl (by decide) ?_
            refine WL.no rfl rfl rfl (by decide) ?_
            refine WL.no rfl rfl rfl (by decide) ?_
            refine WL.no rfl rfl rfl (by decide) ?_
            refine WL.no rfl rfl rfl (by decide) ?_
            refine WL.x (X.pickT rfl rfl rfl) (by decide) ?_
            refine WL.x (X.move rfl) (by decide) ?_
            refine WL.no rfl rfl rfl (by decide) ?_
            refine WL.no rfl rfl rfl (by decide) ?_
            refine WL.no rfl rfl rfl (by decide) ?_
            refine WL.no rfl rfl rfl (by decide) ?_
            refine WL.no rfl rfl rfl (by decide) ?_
            refine WL.x (X.pickT rfl rfl rfl) (by decide) ?_
            refine WL.x (X.move rfl) (by decide) ?_
            refine WL.no rfl rfl rfl (by decide) ?_
            refine WL.no rfl rfl rfl (by decide) ?_
            refine WL.no rfl rfl rfl (by decide) ?_
            refine WL.no rfl rfl rfl (by decide) ?_
            refine WL.no rfl rfl rfl (by decide) ?_
            refine WL.no rfl rfl rfl (by decide) ?_
            refine WL.x (X.pickT rfl rfl rfl) (by decide) ?_
            refine WL.x (X.move rfl) (by decide) ?_
            refine WL.no rfl rfl rfl (by decide) ?_
            refine WL.no rfl rfl rfl (by decide) ?_
            refine WL.no rfl rfl rfl (by decide) ?_
            refine WL.no rfl rfl rfl (by decide) ?_
            refine WL.no rfl rfl rfl (by decide) ?_
            refine WL.x (X.pickT rfl rfl rfl) (by decide) ?_
            refine WL.nil ?_
            refine WK.nThen ?_
            refine WC.condT rfl ?_
            refine WC.seq ?_
            refine WC.region ?_
            refine WL.x (X.assign rfl) (by decide) ?_
            refine WL.nil ?_
            refine WK.nThen ?_
            refine WC.ret ?_
            refine WK.rThen ?_
            refine WK.ret1 rfl rfl (fun w' hw' => Ret.exact hw' ?_)
            first | rfl | (exfalso; omega) | (exfalso; contradiction) | (exfalso; have q1_ := hx1 (by omega); have q2_ := hx2 (by omega); have q3_ := hx3 (by omega); have q4_ := hx4 (by omega); omega) | exact (bool_true (by omega)).symm
          · refine WL.x (X.move rfl) (by decide) ?_
            refine WL.yes rfl rfl ?_
            refine WL.x (X.field Try.runUnderlying45 rfl Try.sizeOf3 rfl) (by decide) ?_
            refine WL.yes rfl rfl ?_
            refine WL.x (X.loadB (k := 3) Try.isAgg3 rfl rfl rfl) (by decide) ?_
            refine WL.yes rfl rfl ?_
            refine WL.x (X.field Try.runUnderlying45 rfl Try.sizeOf3 rfl) (by decide) ?_
            refine WL.yes rfl rfl ?_
            refine WL.x (X.loadB (k := 0) Try.isAgg3 rfl rfl rfl) (by decide) ?_
            refine WL.yes rfl rfl ?_
            refine WL.x (X.neg rfl (by omega) (by omega)) (by decide) ?_
            refine WL.yes rfl rfl ?_
            refine WL.condn (X.neq rfl rfl) (by decide) (fun h51 => ?_) (fun h51 => ?_)
            · refine WL.x (X.pickF rfl rfl rfl) (by decide) ?_
              refine WL.x (X.move rfl) (by decide) ?_
              refine WL.no rfl rfl rfl (by decide) ?_
              refine WL.no rfl rfl rfl (by decide) ?_
              refine WL.no rfl rfl rfl (by decide) ?_
              refine WL.no rfl rfl rfl (by decide) ?_
              refine WL.no rfl rfl rfl (by decide) ?_
              refine WL.x (X.pickT rfl rfl rfl) (by decide) ?_
              refine WL.x (X.move rfl) (by decide) ?_
              refine WL.no rfl rfl rfl (by decide) ?_
              refine WL.no rfl rfl rfl (by decide) ?_
              refine WL.no rfl rfl rfl (by decide) ?_
              refine WL.no rfl rfl rfl (by decide) ?_
              refine WL.no rfl rfl rfl (by decide) ?_
              refine WL.no rfl rfl rfl (by decide) ?_
              refine WL.x (X.pickT rfl rfl rfl) (by decide) ?_
              refine WL.x (X.move rfl) (by decide) ?_
              refine WL.no rfl rfl rfl (by decide) ?_
              refine WL.no rfl rfl rfl (by decide) ?_
              refine WL.no rfl rfl rfl (by decide) ?_
              refine WL.no rfl rfl rfl (by decide) ?_
              refine WL.no rfl rfl rfl (by decide) ?_
              refine WL.x (X.pickT rfl rfl rfl) (by decide) ?_
              refine WL.nil ?_
              refine WK.nThen ?_
              refine WC.condT rfl ?_
              refine WC.seq ?_
              refine WC.region ?_
              refine WL.x (X.assign rfl) (by decide) ?_
              refine WL.nil ?_
              refine WK.nThen ?_
              refine WC.ret ?_
              refine WK.rThen ?_
              refine WK.ret1 rfl rfl (fun w' hw' => Ret.exact hw' ?_)
              first | rfl | (exfalso; omega) | (exfalso; contradiction) | (exfalso; have q1_ := hx1 (by omega); have q2_ := hx2 (by omega); have q3_ := hx3 (by omega); have q4_ := hx4 (by omega); omega) | exact (bool_true (by omega)).symm
            · refine WL.x (X.pickF rfl rfl rfl) (by decide) ?_
              refine WL.x (X.move rfl) (by decide) ?_
              refine WL.yes rfl rfl ?_
              refine WL.x (X.field Try.runUnderlying45 rfl Try.sizeOf3 rfl) (by decide) ?_
              refine WL.yes rfl rfl ?_
              refine WL.x (X.loadB (k := 3) Try.isAgg3 rfl rfl rfl) (by decide) ?_
              refine WL.yes rfl rfl ?_
              refine WL.x (X.field Try.runUnderlying45 rfl Try.sizeOf3 rfl) (by decide) ?_
              refine WL.yes rfl rfl ?_
              refine WL.x (X.loadB (k := 0) Try.isAgg3 rfl rfl rfl) (by decide) ?_
              refine WL.yes rfl rfl ?_
              refine WL.condn (X.neq rfl rfl) (by decide) (fun h52 => ?_) (fun h52 => ?_)
              · refine WL.x (X.pickF rfl rfl rfl) (by decide) ?_
                refine WL.x (X.move rfl) (by decide) ?_
                refine WL.no rfl rfl rfl (by decide) ?_
                refine WL.no rfl rfl rfl (by decide) ?_
                refine WL.no rfl rfl rfl (by decide) ?_
                refine WL.no rfl rfl rfl (by decide) ?_
                refine WL.no rfl rfl rfl (by decide) ?_
                refine WL.no rfl rfl rfl (by decide) ?_
                refine WL.x (X.pickT rfl rfl rfl) (by decide) ?_
                refine WL.x (X.move rfl) (by decide) ?_
                refine WL.no rfl rfl rfl (by decide) ?_
                refine WL.no rfl rfl rfl (by decide) ?_
                refine WL.no rfl rfl rfl (by decide) ?_
                refine WL.no rfl rfl rfl (by decide) ?_
                refine WL.no rfl rfl rfl (by decide) ?_
                refine WL.x (X.pickT rfl rfl rfl) (by decide) ?_
                refine WL.nil ?_
                refine WK.nThen ?_
                refine WC.condT rfl ?_
                refine WC.seq ?_
                refine WC.region ?_
                refine WL.x (X.assign rfl) (by decide) ?_
                refine WL.nil ?_
                refine WK.nThen ?_
                refine WC.ret ?_
                refine WK.rThen ?_
                refine WK.ret1 rfl rfl (fun w' hw' => Ret.exact hw' ?_)
                first | rfl | (exfalso; omega) | (exfalso; contradiction) | (exfalso; have q1_ := hx1 (by omega); have q2_ := hx2 (by omega); have q3_ := hx3 (by omega); have q4_ := hx4 (by omega); omega) | exact (bool_true (by omega)).symm
              · refine WL.x (X.pickF rfl rfl rfl) (by decide) ?_
                refine WL.x (X.move rfl) (by decide) ?_
                refine WL.yes rfl rfl ?_
                refine WL.x (X.field Try.runUnderlying45 rfl Try.sizeOf3 rfl) (by decide) ?_
                refine WL.yes rfl rfl ?_
                refine WL.x (X.loadB (k := 2) Try.isAgg3 rfl rfl rfl) (by decide) ?_
                refine WL.yes rfl rfl ?_
                refine WL.x (X.field Try.runUnderlying45 rfl Try.sizeOf3 rfl) (by decide) ?_
                refine WL.yes rfl rfl ?_
                refine WL.x (X.loadB (k := 1) Try.isAgg3 rfl rfl rfl) (by decide) ?_
                refine WL.yes rfl rfl ?_
                refine WL.x (X.neg rfl (by omega) (by omega)) (by decide) ?_
                refine WL.yes rfl rfl ?_
                refine WL.condn (X.neq rfl rfl) (by decide) (fun h53 => ?_) (fun h53 => ?_)
                · refine WL.x (X.pickF rfl rfl rfl) (by decide) ?_
                  refine WL.x (X.move rfl) (by decide) ?_
                  refine WL.no rfl rfl rfl (by decide) ?_
                  refine WL.no rfl rfl rfl (by decide) ?_
                  refine WL.no rfl rfl rfl (by decide) ?_
                  refine WL.no rfl rfl rfl (by decide) ?_
                  refine WL.no rfl rfl rfl (by decide) ?_
                  refine WL.x (X.pickT rfl rfl rfl) (by decide) ?_
                  refine WL.nil ?_
                  refine WK.nThen ?_
                  refine WC.condT rfl ?_
                  refine WC.seq ?_
                  refine WC.region ?_
                  refine WL.x (X.assign rfl) (by decide) ?_
                  refine WL.nil ?_
                  refine WK.nThen ?_
                  refine WC.ret ?_
                  refine WK.rThen ?_
                  refine WK.ret1 rfl rfl (fun w' hw' => Ret.exact hw' ?_)
                  first | rfl | (exfalso; omega) | (exfalso; contradiction) | (exfalso; have q1_ := hx1 (by omega); have q2_ := hx2 (by omega); have q3_ := hx3 (by omega); have q4_ := hx4 (by omega); omega) | exact (bool_true (by omega)).symm
                · refine WL.x (X.pickF rfl rfl rfl) (by decide) ?_
                  refine WL.x (X.move rfl) (by decide) ?_
                  refine WL.yes rfl rfl ?_
                  refine WL.x (X.field Try.runUnderlying45 rfl Try.sizeOf3 rfl) (by decide) ?_
                  refine WL.yes rfl rfl ?_
                  refine WL.x (X.loadB (k := 2) Try.isAgg3 rfl rfl rfl) (by decide) ?_
                  refine WL.yes rfl rfl ?_
                  refine WL.x (X.field Try.runUnderlying45 rfl Try.sizeOf3 rfl) (by decide) ?_
                  refine WL.yes rfl rfl ?_
                  refine WL.x (X.loadB (k := 1) Try.isAgg3 rfl rfl rfl) (by decide) ?_
                  refine WL.yes rfl rfl ?_
                  refine WL.condn (X.neq rfl rfl) (by decide) (fun h54 => ?_) (fun h54 => ?_)
                  · refine WL.x (X.pickF rfl rfl rfl) (by decide) ?_
                    refine WL.nil ?_
                    refine WK.nThen ?_
                    refine WC.condT rfl ?_
                    refine WC.seq ?_
                    refine WC.region ?_
                    refine WL.x (X.assign rfl) (by decide) ?_
                    refine WL.nil ?_
                    refine WK.nThen ?_
                    refine WC.ret ?_
                    refine WK.rThen ?_
                    refine WK.ret1 rfl rfl (fun w' hw' => Ret.exact hw' ?_)
                    first | rfl | (exfalso; omega) | (exfalso; contradiction) | (exfalso; have q1_ := hx1 (by omega); have q2_ := hx2 (by omega); have q3_ := hx3 (by omega); have q4_ := hx4 (by omega); omega) | exact (bool_true (by omega)).symm
                  · refine WL.x (X.pickF rfl rfl rfl) (by decide) ?_
                    refine WL.nil ?_
                    refine WK.nThen ?_
                    refine WC.condF rfl ?_
                    refine WC.skip ?_
                    refine WK.nThen ?_
                    refine WC.seq ?_
                    refine WC.region ?_
                    refine WL.x (X.loadBA (k := 8) Try.isAgg25 Try.sizeOf25 rfl rfl rfl) (by decide) ?_
                    refine WL.x (X.loadBA (k := 6) Try.isAgg33 Try.sizeOf33 rfl rfl rfl) (by decide) ?_
                    refine WL.x (X.call Try.call37 rfl (extremes37 _ _ s ⟨_, _, rfl, hs2, hs4⟩ _ a rfl )) (by decide) ?_
                    refine WL.x (X.move rfl) (by decide) ?_
                    refine WL.x (X.extract rfl rfl) (by decide) ?_
                    refine WL.x (X.extract rfl rfl) (by decide) ?_
                    refine WL.x (X.extract rfl rfl) (by decide) ?_
                    refine WL.tn (T.alloc Try.zeroValue33 rfl) (by decide) fun b55 => ?_
                    refine WL.tn (T.alloc Try.zeroValue33 rfl) (by decide) fun b56 => ?_
                    refine WL.ts (T.storeBA (k := 1) Try.sizeOf33 rfl rfl rfl (one_cons rfl (one_cons rfl one_nil)) rfl rfl) ?_
                    refine WL.ts (T.storeBA (k := 0) Try.sizeOf33 rfl rfl rfl (one_cons rfl (one_cons rfl one_nil)) rfl rfl) ?_
                    refine WL.x (X.assign rfl) (by decide) ?_
                    refine WL.nil ?_
                    refine WK.nThen ?_
                    refine WC.seq ?_
                    refine WC.region ?_
                    refine WL.x (X.loadBA (k := 7) Try.isAgg25 Try.sizeOf25 rfl rfl rfl) (by decide) ?_
                    refine WL.x (X.loadBA (k := 8) Try.isAgg33 Try.sizeOf33 rfl rfl rfl) (by decide) ?_
                    refine WL.x (X.call Try.call37 rfl (extremes37 _ _ (turnS s) ⟨_, _, rfl, hs27, hs29⟩ _ a rfl )) (by decide) ?_
                    refine WL.x (X.move rfl) (by decide) ?_
                    refine WL.x (X.extract rfl rfl) (by decide) ?_
                    refine WL.x (X.extract rfl rfl) (by decide) ?_
                    refine WL.x (X.extract rfl rfl) (by decide) ?_
                    refine WL.tn (T.alloc Try.zeroValue33 rfl) (by decide) fun b57 => ?_
                    refine WL.tn (T.alloc Try.zeroValue33 rfl) (by decide) fun b58 => ?_
                    refine WL.ts (T.storeBA (k := 1) Try.sizeOf33 rfl rfl rfl (one_cons rfl (one_cons rfl one_nil)) rfl rfl) ?_
                    refine WL.ts (T.storeBA (k := 0) Try.sizeOf33 rfl rfl rfl (one_cons rfl (one_cons rfl one_nil)) rfl rfl) ?_
                    refine WL.x (X.assign rfl) (by decide) ?_
                    refine WL.nil ?_
                    refine WK.nThen ?_
                    refine WC.seq ?_
                    refine WC.region ?_
                    refine WL.x (X.assign rfl) (by decide) ?_
                    refine WL.nil ?_
                    refine WK.nThen ?_
                    refine WC.seq ?_
                    refine WC.seq ?_
                    have hx := turn_extR hos a
                    have hx5 := hx.1
                    have hx1 := fun h => congrArg Span.Lo (hx.2 h).1
                    have hx2 := fun h => congrArg Span.Hi (hx.2 h).1
                    have hx3 := fun h => congrArg Span.Lo (hx.2 h).2
                    have hx4 := fun h => congrArg Span.Hi (hx.2 h).2
                    simp only [mirS] at hx1 hx2 hx3 hx4
                    have hxb := extR_bd s a
                    have hyb := extR_bd (turnS s) a
                    refine WC.region ?_
                    refine WL.x (X.move rfl) (by decide) ?_
                    refine WL.x (X.move rfl) (by decide) ?_
                    refine WL.condn (X.neq rfl rfl) (by decide) (fun h59 => ?_) (fun h59 => ?_)
                    · refine WL.x (X.move rfl) (by decide) ?_
                      refine WL.no rfl rfl rfl (by decide) ?_
                      refine WL.no rfl rfl rfl (by decide) ?_
                      refine WL.no rfl rfl rfl (by decide) ?_
                      refine WL.noU rfl rfl (by decide) ?_
                      refine WL.noU rfl rfl (by decide) ?_
                      refine WL.noU rfl rfl (by decide) ?_
                      refine WL.noU rfl rfl (by decide) ?_
                      refine WL.noU rfl rfl (by decide) ?_
                      refine WL.noU rfl rfl (by decide) ?_
                      refine WL.noU rfl rfl (by decide) ?_
                      refine WL.noU rfl rfl (by decide) ?_
                      refine WL.noU rfl rfl (by decide) ?_
                      refine WL.noU rfl rfl (by decide) ?_
                      refine WL.noU rfl rfl (by decide) ?_
                      refine WL.noU rfl rfl (by decide) ?_
                      refine WL.noU rfl rfl (by decide) ?_
                      refine WL.noU rfl rfl (by decide) ?_
                      refine WL.noU rfl rfl (by decide) ?_
                      refine WL.noU rfl rfl (by decide) ?_
                      refine WL.noU rfl rfl (by decide) ?_
                      refine WL.noU rfl rfl (by decide) ?_
                      refine WL.noU rfl rfl (by decide) ?_
                      refine WL.noU rfl rfl (by decide) ?_
                      refine WL.noU rfl rfl (by decide) ?_
                      refine WL.noU rfl rfl (by decide) ?_
                      refine WL.noU rfl rfl (by decide) ?_
                      refine WL.noU rfl rfl (by decide) ?_
                      refine WL.noU rfl rfl (by decide) ?_
                      refine WL.noU rfl rfl (by decide) ?_
                      refine WL.noU rfl rfl (by decide) ?_
                      refine WL.noU rfl rfl (by decide) ?_
                      refine WL.noU rfl rfl (by decide) ?_
                      refine WL.noU rfl rfl (by decide) ?_
                      refine WL.noU rfl rfl (by decide) ?_
                      refine WL.noU rfl rfl (by decide) ?_
                      refine WL.noU rfl rfl (by decide) ?_
                      refine WL.noU rfl rfl (by decide) ?_
                      refine WL.no rfl rfl rfl (by decide) ?_
                      refine WL.x (X.pickT rfl rfl rfl) (by decide) ?_
                      refine WL.nil ?_
                      refine WK.nThen ?_
                      refine WC.condT rfl ?_
                      refine WC.seq ?_
                      refine WC.region ?_
                      refine WL.x (X.assign rfl) (by decide) ?_
                      refine WL.nil ?_
                      refine WK.nThen ?_
                      refine WC.ret ?_
                      refine WK.rThen ?_
                      refine WK.ret1 rfl rfl (fun w' hw' => Ret.exact hw' ?_)
                      first | rfl | (exfalso; omega) | (exfalso; contradiction) | (exfalso; have q1_ := hx1 (by omega); have q2_ := hx2 (by omega); have q3_ := hx3 (by omega); have q4_ := hx4 (by omega); omega) | exact (bool_true (by omega)).symm
                    · refine WL.x (X.move rfl) (by decide) ?_
                      refine WL.yes rfl rfl ?_
                      refine WL.x (X.move rfl) (by decide) ?_
                      refine WL.yes rfl rfl ?_
                      refine WL.cond (X.eql rfl rfl) (by decide) (fun h60 => ?_) (fun h60 => ?_)
                      · refine WL.yes rfl rfl ?_
                        refine WL.x (X.move rfl) (by decide) ?_
                        refine WL.yes rfl rfl ?_
                        refine WL.x (X.field Try.runUnderlying33 rfl Try.sizeOf3 rfl) (by decide) ?_
                        refine WL.yes rfl rfl ?_
                        refine WL.x (X.loadB (k := 1) Try.isAgg3 rfl rfl rfl) (by decide) ?_
                        refine WL.yes rfl rfl ?_
                        refine WL.x (X.move rfl) (by decide) ?_
                        refine WL.yes rfl rfl ?_
                        refine WL.x (X.field Try.runUnderlying33 rfl Try.sizeOf3 rfl) (by decide) ?_
                        refine WL.yes rfl rfl ?_
                        refine WL.x (X.loadB (k := 2) Try.isAgg3 rfl rfl rfl) (by decide) ?_
                        refine WL.yes rfl rfl ?_
                        refine WL.x (X.sub rfl rfl (by omega) (by omega)) (by decide) ?_
                        refine WL.yes rfl rfl ?_
                        refine WL.condn (X.neq rfl rfl) (by decide) (fun h61 => ?_) (fun h61 => ?_)
                        · refine WL.yes rfl rfl ?_
                          refine WL.x (X.move rfl) (by decide) ?_
                          refine WL.no rfl rfl rfl (by decide) ?_
                          refine WL.no rfl rfl rfl (by decide) ?_
                          refine WL.no rfl rfl rfl (by decide) ?_
                          refine WL.no rfl rfl rfl (by decide) ?_
                          refine WL.no rfl rfl rfl (by decide) ?_
                          refine WL.no rfl rfl rfl (by decide) ?_
                          refine WL.no rfl rfl rfl (by decide) ?_
                          refine WL.yes rfl rfl ?_
                          refine WL.x (X.pickT rfl rfl rfl) (by decide) ?_
                          refine WL.yes rfl rfl ?_
                          refine WL.x (X.move rfl) (by decide) ?_
                          refine WL.no rfl rfl rfl (by decide) ?_
                          refine WL.no rfl rfl rfl (by decide) ?_
                          refine WL.no rfl rfl rfl (by decide) ?_
                          refine WL.no rfl rfl rfl (by decide) ?_
                          refine WL.no rfl rfl rfl (by decide) ?_
                          refine WL.no rfl rfl rfl (by decide) ?_
                          refine WL.no rfl rfl rfl (by decide) ?_
                          refine WL.yes rfl rfl ?_
                          refine WL.x (X.pickT rfl rfl rfl) (by decide) ?_
                          refine WL.yes rfl rfl ?_
                          refine WL.x (X.move rfl) (by decide) ?_
                          refine WL.no rfl rfl rfl (by decide) ?_
                          refine WL.no rfl rfl rfl (by decide) ?_
                          refine WL.no rfl rfl rfl (by decide) ?_
                          refine WL.no rfl rfl rfl (by decide) ?_
                          refine WL.no rfl rfl rfl (by decide) ?_
                          refine WL.no rfl rfl rfl (by decide) ?_
                          refine WL.no rfl rfl rfl (by decide) ?_
                          refine WL.yes rfl rfl ?_
                          refine WL.x (X.pickT rfl rfl rfl) (by decide) ?_
                          refine WL.yes rfl rfl ?_
                          refine WL.x (X.pickT rfl rfl rfl) (by decide) ?_
                          refine WL.x (X.pickF rfl rfl rfl) (by decide) ?_
                          refine WL.nil ?_
                          refine WK.nThen ?_
                          refine WC.condT rfl ?_
                          refine WC.seq ?_
                          refine WC.region ?_
                          refine WL.x (X.assign rfl) (by decide) ?_
                          refine WL.nil ?_
                          refine WK.nThen ?_
                          refine WC.ret ?_
                          refine WK.rThen ?_
                          refine WK.ret1 rfl rfl (fun w' hw' => Ret.exact hw' ?_)
                          first | rfl | (exfalso; omega) | (exfalso; contradiction) | (exfalso; have q1_ := hx1 (by omega); have q2_ := hx2 (by omega); have q3_ := hx3 (by omega); have q4_ := hx4 (by omega); omega) | exact (bool_true (by omega)).symm
                        · refine WL.yes rfl rfl ?_
                          refine WL.x (X.move rfl) (by decide) ?_
                          refine WL.yes rfl rfl ?_
                          refine WL.x (X.field Try.runUnderlying33 rfl Try.sizeOf3 rfl) (by decide) ?_
                          refine WL.yes rfl rfl ?_
                          refine WL.x (X.loadB (k := 1) Try.isAgg3 rfl rfl rfl) (by decide) ?_
                          refine WL.yes rfl rfl ?_
                          refine WL.x (X.move rfl) (by decide) ?_
                          refine WL.yes rfl rfl ?_
                          refine WL.x (X.field Try.runUnderlying33 rfl Try.sizeOf3 rfl) (by decide) ?_
                          refine WL.yes rfl rfl ?_
                          refine WL.x (X.loadB (k := 2) Try.isAgg3 rfl rfl rfl) (by decide) ?_
                          refine WL.yes rfl rfl ?_
                          refine WL.x (X.sub rfl rfl (by omega) (by omega)) (by decide) ?_
                          refine WL.yes rfl rfl ?_
                          refine WL.condn (X.neq rfl rfl) (by decide) (fun h62 => ?_) (fun h62 => ?_)
                          · refine WL.yes rfl rfl ?_
                            refine WL.x (X.pickF rfl rfl rfl) (by decide) ?_
                            refine WL.yes rfl rfl ?_
                            refine WL.x (X.move rfl) (by decide) ?_
                            refine WL.no rfl rfl rfl (by decide) ?_
                            refine WL.no rfl rfl rfl (by decide) ?_
                            refine WL.no rfl rfl rfl (by decide) ?_
                            refine WL.no rfl rfl rfl (by decide) ?_
                            refine WL.no rfl rfl rfl (by decide) ?_
                            refine WL.no rfl rfl rfl (by decide) ?_
                            refine WL.no rfl rfl rfl (by decide) ?_
                            refine WL.yes rfl rfl ?_
                            refine WL.x (X.pickT rfl rfl rfl) (by decide) ?_
                            refine WL.yes rfl rfl ?_
                            refine WL.x (X.move rfl) (by decide) ?_
                            refine WL.no rfl rfl rfl (by decide) ?_
                            refine WL.no rfl rfl rfl (by decide) ?_
                            refine WL.no rfl rfl rfl (by decide) ?_
                            refine WL.no rfl rfl rfl (by decide) ?_
                            refine WL.no rfl rfl rfl (by decide) ?_
                            refine WL.no rfl rfl rfl (by decide) ?_
                            refine WL.no rfl rfl rfl (by decide) ?_
                            refine WL.yes rfl rfl ?_
                            refine WL.x (X.pickT rfl rfl rfl) (by decide) ?_
                            refine WL.yes rfl rfl ?_
                            refine WL.x (X.pickT rfl rfl rfl) (by decide) ?_
                            refine WL.x (X.pickF rfl rfl rfl) (by decide) ?_
                            refine WL.nil ?_
                            refine WK.nThen ?_
                            refine WC.condT rfl ?_
                            refine WC.seq ?_
                            refine WC.region ?_
                            refine WL.x (X.assign rfl) (by decide) ?_
                            refine WL.nil ?_
                            refine WK.nThen ?_
                            refine WC.ret ?_
                            refine WK.rThen ?_
                            refine WK.ret1 rfl rfl (fun w' hw' => Ret.exact hw' ?_)
                            first | rfl | (exfalso; omega) | (exfalso; contradiction) | (exfalso; have q1_ := hx1 (by omega); have q2_ := hx2 (by omega); have q3_ := hx3 (by omega); have q4_ := hx4 (by omega); omega) | exact (bool_true (by omega)).symm
                          · refine WL.yes rfl rfl ?_
                            refine WL.x (X.pickF rfl rfl rfl) (by decide) ?_
                            refine WL.yes rfl rfl ?_
                            refine WL.x (X.move rfl) (by decide) ?_
                            refine WL.yes rfl rfl ?_
                            refine WL.x (X.field Try.runUnderlying33 rfl Try.sizeOf3 rfl) (by decide) ?_
                            refine WL.yes rfl rfl ?_
                            refine WL.x (X.loadB (k := 0) Try.isAgg3 rfl rfl rfl) (by decide) ?_
                            refine WL.yes rfl rfl ?_
                            refine WL.x (X.move rfl) (by decide) ?_
                            refine WL.yes rfl rfl ?_
                            refine WL.x (X.field Try.runUnderlying33 rfl Try.sizeOf3 rfl) (by decide) ?_
                            refine WL.yes rfl rfl ?_
                            refine WL.x (X.loadB (k := 3) Try.isAgg3 rfl rfl rfl) (by decide) ?_
                            refine WL.yes rfl rfl ?_
                            refine WL.x (X.sub rfl rfl (by omega) (by omega)) (by decide) ?_
                            refine WL.yes rfl rfl ?_
                            refine WL.condn (X.neq rfl rfl) (by decide) (fun h63 => ?_) (fun h63 => ?_)
                            · refine WL.yes rfl rfl ?_
                              refine WL.x (X.pickF rfl rfl rfl) (by decide) ?_
                              refine WL.yes rfl rfl ?_
                              refine WL.x (X.move rfl) (by decide) ?_
                              refine WL.no rfl rfl rfl (by decide) ?_
                              refine WL.no rfl rfl rfl (by decide) ?_
                              refine WL.no rfl rfl rfl (by decide) ?_
                              refine WL.no rfl rfl rfl (by decide) ?_
                              refine WL.no rfl rfl rfl (by decide) ?_
                              refine WL.no rfl rfl rfl (by decide) ?_
                              refine WL.no rfl rfl rfl (by decide) ?_
                              refine WL.yes rfl rfl ?_
                              refine WL.x (X.pickT rfl rfl rfl) (by decide) ?_
                              refine WL.yes rfl rfl ?_
                              refine WL.x (X.pickT rfl rfl rfl) (by decide) ?_
                              refine WL.x (X.pickF rfl rfl rfl) (by decide) ?_
                              refine WL.nil ?_
                              refine WK.nThen ?_
                              refine WC.condT rfl ?_
                              refine WC.seq ?_
                              refine WC.region ?_
                              refine WL.x (X.assign rfl) (by decide) ?_
                              refine WL.nil ?_
                              refine WK.nThen ?_
                              refine WC.ret ?_
                              refine WK.rThen ?_
                              refine WK.ret1 rfl rfl (fun w' hw' => Ret.exact hw' ?_)
                              first | rfl | (exfalso; omega) | (exfalso; contradiction) | (exfalso; have q1_ := hx1 (by omega); have q2_ := hx2 (by omega); have q3_ := hx3 (by omega); have q4_ := hx4 (by omega); omega) | exact (bool_true (by omega)).symm
                            · refine WL.yes rfl rfl ?_
                              refine WL.x (X.pickF rfl rfl rfl) (by decide) ?_
                              refine WL.yes rfl rfl ?_
                              refine WL.x (X.move rfl) (by decide) ?_
                              refine WL.yes rfl rfl ?_
                              refine WL.x (X.field Try.runUnderlying33 rfl Try.sizeOf3 rfl) (by decide) ?_
                              refine WL.yes rfl rfl ?_
                              refine WL.x (X.loadB (k := 0) Try.isAgg3 rfl rfl rfl) (by decide) ?_
                              refine WL.yes rfl rfl ?_
                              refine WL.x (X.move rfl) (by decide) ?_
                              refine WL.yes rfl rfl ?_
                              refine WL.x (X.field Try.runUnderlying33 rfl Try.sizeOf3 rfl) (by decide) ?_
                              refine WL.yes rfl rfl ?_
                              refine WL.x (X.loadB (k := 3) Try.isAgg3 rfl rfl rfl) (by decide) ?_
                              refine WL.yes rfl rfl ?_
                              refine WL.x (X.sub rfl rfl (by omega) (by omega)) (by decide) ?_
                              refine WL.yes rfl rfl ?_
                              refine WL.condn (X.neq rfl rfl) (by decide) (fun h64 => ?_) (fun h64 => ?_)
                              · refine WL.yes rfl rfl ?_
                                refine WL.x (X.pickF rfl rfl rfl) (by decide) ?_
                                refine WL.yes rfl rfl ?_
                                refine WL.x (X.pickT rfl rfl rfl) (by decide) ?_
                                refine WL.x (X.pickF rfl rfl rfl) (by decide) ?_
                                refine WL.nil ?_
                                refine WK.nThen ?_
                                refine WC.condT rfl ?_
                                refine WC.seq ?_
                                refine WC.region ?_
                                refine WL.x (X.assign rfl) (by decide) ?_
                                refine WL.nil ?_
                                refine WK.nThen ?_
                                refine WC.ret ?_
                                refine WK.rThen ?_
                                refine WK.ret1 rfl rfl (fun w' hw' => Ret.exact hw' ?_)
                                first | rfl | (exfalso; omega) | (exfalso; contradiction) | (exfalso; have q1_ := hx1 (by omega); have q2_ := hx2 (by omega); have q3_ := hx3 (by omega); have q4_ := hx4 (by omega); omega) | exact (bool_true (by omega)).symm
                              · refine WL.yes rfl rfl ?_
                                refine WL.x (X.pickF rfl rfl rfl) (by decide) ?_
                                refine WL.yes rfl rfl ?_
                                refine WL.x (X.pickT rfl rfl rfl) (by decide) ?_
                                refine WL.x (X.pickF rfl rfl rfl) (by decide) ?_
                                refine WL.nil ?_
                                refine WK.nThen ?_
                                refine WC.condF rfl ?_
                                refine WC.skip ?_
                                refine WK.nThen ?_
                                refine WC.seq ?_
                                refine WC.region ?_
                                refine WL.x (X.loadBA (k := 12) Try.isAgg25 Try.sizeOf25 rfl rfl rfl) (by decide) ?_
                                refine WL.x (X.move rfl) (by decide) ?_
                                refine WL.tm (T.call Try.call28 rfl (steps28 _ _ s ⟨_, _, rfl, hs2, hs4⟩ _ )) (by decide) fun m65 r66 hle67 hR68 => ?_
                                obtain ⟨v69, rfl, hs70⟩ := hR68
                                replace hs2 := hs2.mono hle67
                                replace hs4 := hs4.mono hle67
                                replace hs8 := hs8.mono hle67
                                replace hs10 := hs10.mono hle67
                                replace hs27 := hs27.mono hle67
                                replace hs29 := hs29.mono hle67
                                replace hs40 := hs40.mono hle67
                                replace hs42 := hs42.mono hle67
                                have hl71 := hs70.le
                                refine WL.x (X.move rfl) (by decide) ?_
                                refine WL.x (X.extract rfl rfl) (by decide) ?_
                                refine WL.x (X.extract rfl rfl) (by decide) ?_
                                refine WL.x (X.extract rfl rfl) (by decide) ?_
                                refine WL.x (X.assign rfl) (by decide) ?_
                                refine WL.x (X.assign rfl) (by decide) ?_
                                refine WL.x (X.assign rfl) (by decide) ?_
                                refine WL.nil ?_
                                refine WK.nThen ?_
                                refine WC.seq ?_
                                refine WC.region ?_
                                refine WL.x (X.loadBA (k := 9) Try.isAgg25 Try.sizeOf25 rfl rfl rfl) (by decide) ?_
                                refine WL.x (X.move rfl) (by decide) ?_
                                refine WL.tm (T.call Try.call28 rfl (steps28 _ _ (turnS s) ⟨_, _, rfl, hs27, hs29⟩ _ )) (by decide) fun m72 r73 hle74 hR75 => ?_
                                obtain ⟨v76, rfl, hs77⟩ := hR75
                                replace hs2 := hs2.mono hle74
                                replace hs4 := hs4.mono hle74
                                replace hs8 := hs8.mono hle74
                                replace hs10 := hs10.mono hle74
                                replace hs27 := hs27.mono hle74
                                replace hs29 := hs29.mono hle74
                                replace hs40 := hs40.mono hle74
                                replace hs42 := hs42.mono hle74
                                replace hs70 := hs70.mono hle74
                                have hl78 := hs77.le
                                refine WL.x (X.move rfl) (by decide) ?_
                                refine WL.x (X.extract rfl rfl) (by decide) ?_
                                refine WL.x (X.extract rfl rfl) (by decide) ?_
                                refine WL.x (X.extract rfl rfl) (by decide) ?_
                                refine WL.x (X.assign rfl) (by decide) ?_
                                refine WL.x (X.assign rfl) (by decide) ?_
                                refine WL.x (X.assign rfl) (by decide) ?_
                                refine WL.nil ?_
                                refine WK.nThen ?_
                                refine WC.seq ?_
                                refine WC.seq ?_
                                have hst := turn_stp hos most
                                rw [hst] at hs77
                                rw [hst]
                                refine WC.region ?_
                                refine WL.x (X.move rfl) (by decide) ?_
                                refine WL.x (X.move rfl) (by decide) ?_
                                refine WL.x (OpX.f (X.neq rfl rfl) (fun h => h rfl)) (by decide) ?_
                                refine WL.x (X.move rfl) (by decide) ?_
                                refine WL.yes rfl rfl ?_
                                refine WL.x (X.move rfl) (by decide) ?_
                                refine WL.yes rfl rfl ?_
                                refine WL.x (X.move rfl) (by decide) ?_
                                refine WL.yes rfl rfl ?_
                                refine WL.x (OpX.t (X.call Try.call27 rfl (sameInts27 _ _ _ hs70 _ _ hs77 )) rfl) (by decide) ?_
                                refine WL.yes rfl rfl ?_
                                refine WL.x (X.not rfl) (by decide) ?_
                                refine WL.x (X.pickF rfl rfl rfl) (by decide) ?_
                                refine WL.x (X.move rfl) (by decide) ?_
                                refine WL.yes rfl rfl ?_
                                refine WL.x (X.move rfl) (by decide) ?_
                                refine WL.yes rfl rfl ?_
                                refine WL.x (X.move rfl) (by decide) ?_
                                refine WL.yes rfl rfl ?_
                                refine WL.x (OpX.f (X.neq rfl rfl) (fun h => h rfl)) (by decide) ?_
                                refine WL.x (X.pickF rfl rfl rfl) (by decide) ?_
                                refine WL.nil ?_
                                refine WK.nThen ?_
                                refine WC.condF rfl ?_
                                refine WC.skip ?_
                                refine WK.nThen ?_
                                refine WC.seq ?_
                                refine WC.region ?_
                                refine WL.x (X.loadBA (k := 12) Try.isAgg25 Try.sizeOf25 rfl rfl rfl) (by decide) ?_
                                refine WL.x (X.loadBA (k := 11) Try.isAgg25 Try.sizeOf25 rfl rfl rfl) (by decide) ?_
                                refine WL.x (X.move rfl) (by decide) ?_
                                refine WL.x (X.move rfl) (by decide) ?_
                                refine WL.x (X.call Try.call25 rfl (adjust25 _ _ s ⟨_, _, rfl, hs2, hs4⟩ _ t ⟨_, _, rfl, hs8, hs10⟩ _ _ )) (by decide) ?_
                                refine WL.x (X.move rfl) (by decide) ?_
                                refine WL.x (X.extract rfl rfl) (by decide) ?_
                                refine WL.x (X.extract rfl rfl) (by decide) ?_
                                refine WL.tn (T.alloc Try.zeroValue33 rfl) (by decide) fun b79 => ?_
                                refine WL.ts (T.storeBA (k := 0) Try.sizeOf33 rfl rfl rfl (one_cons rfl (one_cons rfl one_nil)) rfl rfl) ?_
                                refine WL.x (X.assign rfl) (by decide) ?_
                                refine WL.nil ?_
                                refine WK.nThen ?_
                                refine WC.seq ?_
                                refine WC.region ?_
                                refine WL.x (X.loadBA (k := 10) Try.isAgg25 Try.sizeOf25 rfl rfl rfl) (by decide) ?_
                                refine WL.x (X.loadBA (k := 9) Try.isAgg25 Try.sizeOf25 rfl rfl rfl) (by decide) ?_
                                refine WL.x (X.move rfl) (by decide) ?_
                                refine WL.x (X.move rfl) (by decide) ?_
                                refine WL.x (X.call Try.call25 rfl (adjust25 _ _ (turnS s) ⟨_, _, rfl, hs27, hs29⟩ _ (turnS t) ⟨_, _, rfl, hs40, hs42⟩ _ _ )) (by decide) ?_
                                refine WL.x (X.move rfl) (by decide) ?_
                                refine WL.x (X.extract rfl rfl) (by decide) ?_
                                refine WL.x (X.extract rfl rfl) (by decide) ?_
                                refine WL.tn (T.alloc Try.zeroValue33 rfl) (by decide) fun b80 => ?_
                                refine WL.ts (T.storeBA (k := 0) Try.sizeOf33 rfl rfl rfl (one_cons rfl (one_cons rfl one_nil)) rfl rfl) ?_
                                refine WL.x (X.assign rfl) (by decide) ?_
                                refine WL.nil ?_
                                refine WK.nThen ?_
                                refine WC.seq ?_
                                refine WC.region ?_
                                refine WL.x (X.loadBA (k := 14) Try.isAgg25 Try.sizeOf25 rfl rfl rfl) (by decide) ?_
                                refine WL.x (X.loadBA (k := 13) Try.isAgg25 Try.sizeOf25 rfl rfl rfl) (by decide) ?_
                                refine WL.x (X.move rfl) (by decide) ?_
                                refine WL.tm (T.call Try.call23 rfl (break23 _ _ s ⟨_, _, rfl, hs2, hs4⟩ _ t ⟨_, _, rfl, hs8, hs10⟩ _ )) (by decide) fun m81 r82 hle83 hR84 => ?_
                                obtain ⟨v85, rfl, hs86⟩ := hR84
                                replace hs2 := hs2.mono hle83
                                replace hs4 := hs4.mono hle83
                                replace hs8 := hs8.mono hle83
                                replace hs10 := hs10.mono hle83
                                replace hs27 := hs27.mono hle83
                                replace hs29 := hs29.mono hle83
                                replace hs40 := hs40.mono hle83
                                replace hs42 := hs42.mono hle83
                                replace hs70 := hs70.mono hle83
                                replace hs77 := hs77.mono hle83
                                have hl87 := hs86.le
                                refine WL.x (X.move rfl) (by decide) ?_
                                refine WL.x (X.extract rfl rfl) (by decide) ?_
                                refine WL.x (X.extract rfl rfl) (by decide) ?_
                                refine WL.x (X.assign rfl) (by decide) ?_
                                refine WL.x (X.assign rfl) (by decide) ?_
                                refine WL.nil ?_
                                refine WK.nThen ?_
                                refine WC.seq ?_
                                refine WC.region ?_
                                refine WL.x (X.loadBA (k := 11) Try.isAgg25 Try.sizeOf25 rfl rfl rfl) (by decide) ?_
                                refine WL.x (X.loadBA (k := 10) Try.isAgg25 Try.sizeOf25 rfl rfl rfl) (by decide) ?_
                                refine WL.x (X.move rfl) (by decide) ?_
                                refine WL.tm (T.call Try.call23 rfl (break23 _ _ (turnS s) ⟨_, _, rfl, hs27, hs29⟩ _ (turnS t) ⟨_, _, rfl, hs40, hs42⟩ _ )) (by decide) fun m88 r89 hle90 hR91 => ?_
                                obtain ⟨v92, rfl, hs93⟩ := hR91
                                replace hs2 := hs2.mono hle90
                                replace hs4 := hs4.mono hle90
                                replace hs8 := hs8.mono hle90
                                replace hs10 := hs10.mono hle90
                                replace hs27 := hs27.mono hle90
                                replace hs29 := hs29.mono hle90
                                replace hs40 := hs40.mono hle90
                                replace hs42 := hs42.mono hle90
                                replace hs70 := hs70.mono hle90
                                replace hs77 := hs77.mono hle90
                                replace hs86 := hs86.mono hle90
                                have hl94 := hs93.le
                                refine WL.x (X.move rfl) (by decide) ?_
                                refine WL.x (X.extract rfl rfl) (by decide) ?_
                                refine WL.x (X.extract rfl rfl) (by decide) ?_
                                refine WL.x (X.assign rfl) (by decide) ?_
                                refine WL.x (X.assign rfl) (by decide) ?_
                                refine WL.nil ?_
                                refine WK.nThen ?_
                                refine WC.seq ?_
                                have hbk := turn_brk hos hot most
                                rw [hbk] at hs93
                                rw [hbk]
                                have had := turn_adj hos hot time most
                                have ha1 : (adjR (turnS s) (turnS t) time most).1.Lo = 0 - (adjR s t time most).1.Hi := (by rw [had]; rfl)
                                have ha2 : (adjR (turnS s) (turnS t) time most).1.Hi = 0 - (adjR s t time most).1.Lo := (by rw [had]; rfl)
                                have ha3 : (adjR (turnS s) (turnS t) time most).2 = (adjR s t time most).2 := (by rw [had])
                                have hb1 := adj_bd s t time most
                                refine WC.region ?_
                                refine WL.x (X.move rfl) (by decide) ?_
                                refine WL.x (X.move rfl) (by decide) ?_
                                refine WL.yes rfl rfl ?_
                                refine WL.x (X.move rfl) (by decide) ?_
                                refine WL.yes rfl rfl ?_
                                refine WL.x (X.move rfl) (by decide) ?_
                                refine WL.yes rfl rfl ?_
                                refine WL.cond (X.eql rfl rfl) (by decide) (fun h95 => ?_) (fun h95 => ?_)
                                · refine WL.x (X.pickT rfl rfl rfl) (by decide) ?_
                                  refine WL.x (X.move rfl) (by decide) ?_
                                  refine WL.yes rfl rfl ?_
                                  refine WL.x (X.field Try.runUnderlying33 rfl Try.sizeOf3 rfl) (by decide) ?_
                                  refine WL.yes rfl rfl ?_
                                  refine WL.x (X.loadB (k := 1) Try.isAgg3 rfl rfl rfl) (by decide) ?_
                                  refine WL.yes rfl rfl ?_
                                  refine WL.x (X.field Try.runUnderlying33 rfl Try.sizeOf3 rfl) (by decide) ?_
                                  refine WL.yes rfl rfl ?_
                                  refine WL.x (X.loadB (k := 0) Try.isAgg3 rfl rfl rfl) (by decide) ?_
                                  refine WL.yes rfl rfl ?_
                                  refine WL.x (X.neg rfl (by omega) (by omega)) (by decide) ?_
                                  refine WL.yes rfl rfl ?_
                                  refine WL.cond (X.eql rfl rfl) (by decide) (fun h96 => ?_) (fun h96 => ?_)
                                  · refine WL.x (X.pickT rfl rfl rfl) (by decide) ?_
                                    refine WL.x (X.move rfl) (by decide) ?_
                                    refine WL.yes rfl rfl ?_
                                    refine WL.x (X.field Try.runUnderlying33 rfl Try.sizeOf3 rfl) (by decide) ?_
                                    refine WL.yes rfl rfl ?_
                                    refine WL.x (X.loadB (k := 1) Try.isAgg3 rfl rfl rfl) (by decide) ?_
                                    refine WL.yes rfl rfl ?_
                                    refine WL.x (X.field Try.runUnderlying33 rfl Try.sizeOf3 rfl) (by decide) ?_
                                    refine WL.yes rfl rfl ?_
                                    refine WL.x (X.loadB (k := 0) Try.isAgg3 rfl rfl rfl) (by decide) ?_
                                    refine WL.yes rfl rfl ?_
                                    refine WL.x (X.neg rfl (by omega) (by omega)) (by decide) ?_
                                    refine WL.yes rfl rfl ?_
                                    refine WL.cond (X.eql rfl rfl) (by decide) (fun h97 => ?_) (fun h97 => ?_)
                                    · refine WL.x (X.pickT rfl rfl rfl) (by decide) ?_
                                      refine WL.x (X.move rfl) (by decide) ?_
                                      refine WL.yes rfl rfl ?_
                                      refine WL.x (X.move rfl) (by decide) ?_
                                      refine WL.yes rfl rfl ?_
                                      refine WL.x (X.move rfl) (by decide) ?_
                                      refine WL.yes rfl rfl ?_
                                      refine WL.x (OpX.t (X.call Try.call27 rfl (sameInts27 _ _ _ hs86 _ _ hs93 )) rfl) (by decide) ?_
                                      refine WL.x (X.pickT rfl rfl rfl) (by decide) ?_
                                      refine WL.x (X.move rfl) (by decide) ?_
                                      refine WL.yes rfl rfl ?_
                                      refine WL.x (X.move rfl) (by decide) ?_
                                      refine WL.yes rfl rfl ?_
                                      refine WL.x (X.move rfl) (by decide) ?_
                                      refine WL.yes rfl rfl ?_
                                      refine WL.x (OpX.t (X.eql rfl rfl) rfl) (by decide) ?_
                                      refine WL.x (X.pickT rfl rfl rfl) (by decide) ?_
                                      refine WL.x (X.assign rfl) (by decide) ?_
                                      refine WL.nil ?_
                                      refine WK.nThen ?_
                                      refine WC.ret ?_
                                      refine WK.ret1 rfl rfl (fun w' hw' => Ret.exact hw' ?_)
                                      first | rfl | (exfalso; omega) | (exfalso; contradiction) | (exfalso; have q1_ := hx1 (by omega); have q2_ := hx2 (by omega); have q3_ := hx3 (by omega); have q4_ := hx4 (by omega); omega) | exact (bool_true (by omega)).symm
                                    · refine WL.x (X.pickT rfl rfl rfl) (by decide) ?_
                                      refine WL.x (X.move rfl) (by decide) ?_
                                      refine WL.no rfl rfl rfl (by decide) ?_
                                      refine WL.no rfl rfl rfl (by decide) ?_
                                      refine WL.no rfl rfl rfl (by decide) ?_
                                      refine WL.x (X.pickF rfl rfl rfl) (by decide) ?_
                                      refine WL.x (X.move rfl) (by decide) ?_
                                      refine WL.no rfl rfl rfl (by decide) ?_
                                      refine WL.no rfl rfl rfl (by decide) ?_
                                      refine WL.no rfl rfl rfl (by decide) ?_
                                      refine WL.x (X.pickF rfl rfl rfl) (by decide) ?_
                                      refine WL.x (X.assign rfl) (by decide) ?_
                                      refine WL.nil ?_
                                      refine WK.nThen ?_
                                      refine WC.ret ?_
                                      refine WK.ret1 rfl rfl (fun w' hw' => Ret.exact hw' ?_)
                                      first | rfl | (exfalso; omega) | (exfalso; contradiction) | (exfalso; have q1_ := hx1 (by omega); have q2_ := hx2 (by omega); have q3_ := hx3 (by omega); have q4_ := hx4 (by omega); omega) | exact (bool_true (by omega)).symm
                                  · refine WL.x (X.pickT rfl rfl rfl) (by decide) ?_
                                    refine WL.x (X.move rfl) (by decide) ?_
                                    refine WL.no rfl rfl rfl (by decide) ?_
                                    refine WL.no rfl rfl rfl (by decide) ?_
                                    refine WL.no rfl rfl rfl (by decide) ?_
                                    refine WL.no rfl rfl rfl (by decide) ?_
                                    refine WL.no rfl rfl rfl (by decide) ?_
                                    refine WL.no rfl rfl rfl (by decide) ?_
                                    refine WL.x (X.pickF rfl rfl rfl) (by decide) ?_
                                    refine WL.x (X.move rfl) (by decide) ?_
                                    refine WL.no rfl rfl rfl (by decide) ?_
                                    refine WL.no rfl rfl rfl (by decide) ?_
                                    refine WL.no rfl rfl rfl (by decide) ?_
                                    refine WL.x (X.pickF rfl rfl rfl) (by decide) ?_
                                    refine WL.x (X.move rfl) (by decide) ?_
                                    refine WL.no rfl rfl rfl (by decide) ?_
                                    refine WL.no rfl rfl rfl (by decide) ?_
                                    refine WL.no rfl rfl rfl (by decide) ?_
                                    refine WL.x (X.pickF rfl rfl rfl) (by decide) ?_
                                    refine WL.x (X.assign rfl) (by decide) ?_
                                    refine WL.nil ?_
                                    refine WK.nThen ?_
                                    refine WC.ret ?_
                                    refine WK.ret1 rfl rfl (fun w' hw' => Ret.exact hw' ?_)
                                    first | rfl | (exfalso; omega) | (exfalso; contradiction) | (exfalso; have q1_ := hx1 (by omega); have q2_ := hx2 (by omega); have q3_ := hx3 (by omega); have q4_ := hx4 (by omega); omega) | exact (bool_true (by omega)).symm
                                · refine WL.x (X.pickT rfl rfl rfl) (by decide) ?_
                                  refine WL.x (X.move rfl) (by decide) ?_
                                  refine WL.no rfl rfl rfl (by decide) ?_
                                  refine WL.no rfl rfl rfl (by decide) ?_
                                  refine WL.no rfl rfl rfl (by decide) ?_
                                  refine WL.no rfl rfl rfl (by decide) ?_
                                  refine WL.no rfl rfl rfl (by decide) ?_
                                  refine WL.no rfl rfl rfl (by decide) ?_
                                  refine WL.x (X.pickF rfl rfl rfl) (by decide) ?_
                                  refine WL.x (X.move rfl) (by decide) ?_
                                  refine WL.no rfl rfl rfl (by decide) ?_
                                  refine WL.no rfl rfl rfl (by decide) ?_
                                  refine WL.no rfl rfl rfl (by decide) ?_
                                  refine WL.no rfl rfl rfl (by decide) ?_
                                  refine WL.no rfl rfl rfl (by decide) ?_
                                  refine WL.no rfl rfl rfl (by decide) ?_
                                  refine WL.x (X.pickF rfl rfl rfl) (by decide) ?_
                                  refine WL.x (X.move rfl) (by decide) ?_
                                  refine WL.no rfl rfl rfl (by decide) ?_
                                  refine WL.no rfl rfl rfl (by decide) ?_
                                  refine WL.no rfl rfl rfl (by decide) ?_
                                  refine WL.x (X.pickF rfl rfl rfl) (by decide) ?_
                                  refine WL.x (X.move rfl) (by decide) ?_
                                  refine WL.no rfl rfl rfl (by decide) ?_
                                  refine WL.no rfl rfl rfl (by decide) ?_
                                  refine WL.no rfl rfl rfl (by decide) ?_
                                  refine WL.x (X.pickF rfl rfl rfl) (by decide) ?_
                                  refine WL.x (X.assign rfl) (by decide) ?_
                                  refine WL.nil ?_
                                  refine WK.nThen ?_
                                  refine WC.ret ?_
                                  refine WK.ret1 rfl rfl (fun w' hw' => Ret.exact hw' ?_)
                                  first | rfl | (exfalso; omega) | (exfalso; contradiction) | (exfalso; have q1_ := hx1 (by omega); have q2_ := hx2 (by omega); have q3_ := hx3 (by omega); have q4_ := hx4 (by omega); omega) | exact (bool_true (by omega)).symm
                      · refine WL.yes rfl rfl ?_
                        refine WL.x (X.move rfl) (by decide) ?_
                        refine WL.no rfl rfl rfl (by decide) ?_
                        refine WL.no rfl rfl rfl (by decide) ?_
                        refine WL.no rfl rfl rfl (by decide) ?_
                        refine WL.no rfl rfl rfl (by decide) ?_
                        refine WL.no rfl rfl rfl (by decide) ?_
                        refine WL.no rfl rfl rfl (by decide) ?_
                        refine WL.no rfl rfl rfl (by decide) ?_
                        refine WL.no rfl rfl rfl (by decide) ?_
                        refine WL.noU rfl rfl (by decide) ?_
                        refine WL.noU rfl rfl (by decide) ?_
                        refine WL.noU rfl rfl (by decide) ?_
                        refine WL.noU rfl rfl (by decide) ?_
                        refine WL.noU rfl rfl (by decide) ?_
                        refine WL.noU rfl rfl (by decide) ?_
                        refine WL.noU rfl rfl (by decide) ?_
                        refine WL.no rfl rfl rfl (by decide) ?_
                        refine WL.no rfl rfl rfl (by decide) ?_
                        refine WL.noU rfl rfl (by decide) ?_
                        refine WL.noU rfl rfl (by decide) ?_
                        refine WL.noU rfl rfl (by decide) ?_
                        refine WL.noU rfl rfl (by decide) ?_
                        refine WL.noU rfl rfl (by decide) ?_
                        refine WL.noU rfl rfl (by decide) ?_
                        refine WL.noU rfl rfl (by decide) ?_
                        refine WL.no rfl rfl rfl (by decide) ?_
                        refine WL.no rfl rfl rfl (by decide) ?_
                        refine WL.noU rfl rfl (by decide) ?_
                        refine WL.noU rfl rfl (by decide) ?_
                        refine WL.noU rfl rfl (by decide) ?_
                        refine WL.noU rfl rfl (by decide) ?_
                        refine WL.noU rfl rfl (by decide) ?_
                        refine WL.noU rfl rfl (by decide) ?_
                        refine WL.noU rfl rfl (by decide) ?_
                        refine WL.no rfl rfl rfl (by decide) ?_
                        refine WL.yes rfl rfl ?_
                        refine WL.x (X.pickF rfl rfl rfl) (by decide) ?_
                        refine WL.x (X.pickF rfl rfl rfl) (by decide) ?_
                        refine WL.nil ?_
                        refine WK.nThen ?_
                        refine WC.condF rfl ?_
                        refine WC.skip ?_
                        refine WK.nThen ?_
                        refine WC.seq ?_
                        refine WC.region ?_
                        refine WL.x (X.loadBA (k := 12) Try.isAgg25 Try.sizeOf25 rfl rfl rfl) (by decide) ?_
                        refine WL.x (X.move rfl) (by decide) ?_
                        refine WL.tm (T.call Try.call28 rfl (steps28 _ _ s ⟨_, _, rfl, hs2, hs4⟩ _ )) (by decide) fun m98 r99 hle100 hR101 => ?_
                        obtain ⟨v102, rfl, hs103⟩ := hR101
                        replace hs2 := hs2.mono hle100
                        replace hs4 := hs4.mono hle100
                        replace hs8 := hs8.mono hle100
                        replace hs10 := hs10.mono hle100
                        replace hs27 := hs27.mono hle100
                        replace hs29 := hs29.mono hle100
                        replace hs40 := hs40.mono hle100
                        replace hs42 := hs42.mono hle100
                        have hl104 := hs103.le
                        refine WL.x (X.move rfl) (by decide) ?_
                        refine WL.x (X.extract rfl rfl) (by decide) ?_
                        refine WL.x (X.extract rfl rfl) (by decide) ?_
                        refine WL.x (X.extract rfl rfl) (by decide) ?_
                        refine WL.x (X.assign rfl) (by decide) ?_
                        refine WL.x (X.assign rfl) (by decide) ?_
                        refine WL.x (X.assign rfl) (by decide) ?_
                        refine WL.nil ?_
                        refine WK.nThen ?_
                        refine WC.seq ?_
                        refine WC.region ?_
                        refine WL.x (X.loadBA (k := 9) Try.isAgg25 Try.sizeOf25 rfl rfl rfl) (by decide) ?_
                        refine WL.x (X.move rfl) (by decide) ?_
                        refine WL.tm (T.call Try.call28 rfl (steps28 _ _ (turnS s) ⟨_, _, rfl, hs27, hs29⟩ _ )) (by decide) fun m105 r106 hle107 hR108 => ?_
                        obtain ⟨v109, rfl, hs110⟩ := hR108
                        replace hs2 := hs2.mono hle107
                        replace hs4 := hs4.mono hle107
                        replace hs8 := hs8.mono hle107
                        replace hs10 := hs10.mono hle107
                        replace hs27 := hs27.mono hle107
                        replace hs29 := hs29.mono hle107
                        replace hs40 := hs40.mono hle107
                        replace hs42 := hs42.mono hle107
                        replace hs103 := hs103.mono hle107
                        have hl111 := hs110.le
                        refine WL.x (X.move rfl) (by decide) ?_
                        refine WL.x (X.extract rfl rfl) (by decide) ?_
                        refine WL.x (X.extract rfl rfl) (by decide) ?_
                        refine WL.x (X.extract rfl rfl) (by decide) ?_
                        refine WL.x (X.assign rfl) (by decide) ?_
                        refine WL.x (X.assign rfl) (by decide) ?_
                        refine WL.x (X.assign rfl) (by decide) ?_
                        refine WL.nil ?_
                        refine WK.nThen ?_
                        refine WC.seq ?_
                        refine WC.seq ?_
                        have hst := turn_stp hos most
                        rw [hst] at hs110
                        rw [hst]
                        refine WC.region ?_
                        refine WL.x (X.move rfl) (by decide) ?_
                        refine WL.x (X.move rfl) (by decide) ?_
                        refine WL.x (OpX.f (X.neq rfl rfl) (fun h => h rfl)) (by decide) ?_
                        refine WL.x (X.move rfl) (by decide) ?_
                        refine WL.yes rfl rfl ?_
                        refine WL.x (X.move rfl) (by decide) ?_
                        refine WL.yes rfl rfl ?_
                        refine WL.x (X.move rfl) (by decide) ?_
                        refine WL.yes rfl rfl ?_
                        refine WL.x (OpX.t (X.call Try.call27 rfl (sameInts27 _ _ _ hs103 _ _ hs110 )) rfl) (by decide) ?_
                        refine WL.yes rfl rfl ?_
                        refine WL.x (X.not rfl) (by decide) ?_
                        refine WL.x (X.pickF rfl rfl rfl) (by decide) ?_
                        refine WL.x (X.move rfl) (by decide) ?_
                        refine WL.yes rfl rfl ?_
                        refine WL.x (X.move rfl) (by decide) ?_
                        refine WL.yes rfl rfl ?_
                        refine WL.x (X.move rfl) (by decide) ?_
                        refine WL.yes rfl rfl ?_
                        refine WL.x (OpX.f (X.neq rfl rfl) (fun h => h rfl)) (by decide) ?_
                        refine WL.x (X.pickF rfl rfl rfl) (by decide) ?_
                        refine WL.nil ?_
                        refine WK.nThen ?_
                        refine WC.condF rfl ?_
                        refine WC.skip ?_
                        refine WK.nThen ?_
                        refine WC.seq ?_
                        refine WC.region ?_
                        refine WL.x (X.loadBA (k := 12) Try.isAgg25 Try.sizeOf25 rfl rfl rfl) (by decide) ?_
                        refine WL.x (X.loadBA (k := 11) Try.isAgg25 Try.sizeOf25 rfl rfl rfl) (by decide) ?_
                        refine WL.x (X.move rfl) (by decide) ?_
                        refine WL.x (X.move rfl) (by decide) ?_
                        refine WL.x (X.call Try.call25 rfl (adjust25 _ _ s ⟨_, _, rfl, hs2, hs4⟩ _ t ⟨_, _, rfl, hs8, hs10⟩ _ _ )) (by decide) ?_
                        refine WL.x (X.move rfl) (by decide) ?_
                        refine WL.x (X.extract rfl rfl) (by decide) ?_
                        refine WL.x (X.extract rfl rfl) (by decide) ?_
                        refine WL.tn (T.alloc Try.zeroValue33 rfl) (by decide) fun b112 => ?_
                        refine WL.ts (T.storeBA (k := 0) Try.sizeOf33 rfl rfl rfl (one_cons rfl (one_cons rfl one_nil)) rfl rfl) ?_
                        refine WL.x (X.assign rfl) (by decide) ?_
                        refine WL.nil ?_
                        refine WK.nThen ?_
                        refine WC.seq ?_
                        refine WC.region ?_
                        refine WL.x (X.loadBA (k := 10) Try.isAgg25 Try.sizeOf25 rfl rfl rfl) (by decide) ?_
                        refine WL.x (X.loadBA (k := 9) Try.isAgg25 Try.sizeOf25 rfl rfl rfl) (by decide) ?_
                        refine WL.x (X.move rfl) (by decide) ?_
                        refine WL.x (X.move rfl) (by decide) ?_
                        refine WL.x (X.call Try.call25 rfl (adjust25 _ _ (turnS s) ⟨_, _, rfl, hs27, hs29⟩ _ (turnS t) ⟨_, _, rfl, hs40, hs42⟩ _ _ )) (by decide) ?_
                        refine WL.x (X.move rfl) (by decide) ?_
                        refine WL.x (X.extract rfl rfl) (by decide) ?_
                        refine WL.x (X.extract rfl rfl) (by decide) ?_
                        refine WL.tn (T.alloc Try.zeroValue33 rfl) (by decide) fun b113 => ?_
                        refine WL.ts (T.storeBA (k := 0) Try.sizeOf33 rfl rfl rfl (one_cons rfl (one_cons rfl one_nil)) rfl rfl) ?_
                        refine WL.x (X.assign rfl) (by decide) ?_
                        refine WL.nil ?_
                        refine WK.nThen ?_
                        refine WC.seq ?_
                        refine WC.region ?_
                        refine WL.x (X.loadBA (k := 14) Try.isAgg25 Try.sizeOf25 rfl rfl rfl) (by decide) ?_
                        refine WL.x (X.loadBA (k := 13) Try.isAgg25 Try.sizeOf25 rfl rfl rfl) (by decide) ?_
                        refine WL.x (X.move rfl) (by decide) ?_
                        refine WL.tm (T.call Try.call23 rfl (break23 _ _ s ⟨_, _, rfl, hs2, hs4⟩ _ t ⟨_, _, rfl, hs8, hs10⟩ _ )) (by decide) fun m114 r115 hle116 hR117 => ?_
                        obtain ⟨v118, rfl, hs119⟩ := hR117
                        replace hs2 := hs2.mono hle116
                        replace hs4 := hs4.mono hle116
                        replace hs8 := hs8.mono hle116
                        replace hs10 := hs10.mono hle116
                        replace hs27 := hs27.mono hle116
                        replace hs29 := hs29.mono hle116
                        replace hs40 := hs40.mono hle116
                        replace hs42 := hs42.mono hle116
                        replace hs103 := hs103.mono hle116
                        replace hs110 := hs110.mono hle116
                        have hl120 := hs119.le
                        refine WL.x (X.move rfl) (by decide) ?_
                        refine WL.x (X.extract rfl rfl) (by decide) ?_
                        refine WL.x (X.extract rfl rfl) (by decide) ?_
                        refine WL.x (X.assign rfl) (by decide) ?_
                        refine WL.x (X.assign rfl) (by decide) ?_
                        refine WL.nil ?_
                        refine WK.nThen ?_
                        refine WC.seq ?_
                        refine WC.region ?_
                        refine WL.x (X.loadBA (k := 11) Try.isAgg25 Try.sizeOf25 rfl rfl rfl) (by decide) ?_
                        refine WL.x (X.loadBA (k := 10) Try.isAgg25 Try.sizeOf25 rfl rfl rfl) (by decide) ?_
                        refine WL.x (X.move rfl) (by decide) ?_
                        refine WL.tm (T.call Try.call23 rfl (break23 _ _ (turnS s) ⟨_, _, rfl, hs27, hs29⟩ _ (turnS t) ⟨_, _, rfl, hs40, hs42⟩ _ )) (by decide) fun m121 r122 hle123 hR124 => ?_
                        obtain ⟨v125, rfl, hs126⟩ := hR124
                        replace hs2 := hs2.mono hle123
                        replace hs4 := hs4.mono hle123
                        replace hs8 := hs8.mono hle123
                        replace hs10 := hs10.mono hle123
                        replace hs27 := hs27.mono hle123
                        replace hs29 := hs29.mono hle123
                        replace hs40 := hs40.mono hle123
                        replace hs42 := hs42.mono hle123
                        replace hs103 := hs103.mono hle123
                        replace hs110 := hs110.mono hle123
                        replace hs119 := hs119.mono hle123
                        have hl127 := hs126.le
                        refine WL.x (X.move rfl) (by decide) ?_
                        refine WL.x (X.extract rfl rfl) (by decide) ?_
                        refine WL.x (X.extract rfl rfl) (by decide) ?_
                        refine WL.x (X.assign rfl) (by decide) ?_
                        refine WL.x (X.assign rfl) (by decide) ?_
                        refine WL.nil ?_
                        refine WK.nThen ?_
                        refine WC.seq ?_
                        have hbk := turn_brk hos hot most
                        rw [hbk] at hs126
                        rw [hbk]
                        have had := turn_adj hos hot time most
                        have ha1 : (adjR (turnS s) (turnS t) time most).1.Lo = 0 - (adjR s t time most).1.Hi := (by rw [had]; rfl)
                        have ha2 : (adjR (turnS s) (turnS t) time most).1.Hi = 0 - (adjR s t time most).1.Lo := (by rw [had]; rfl)
                        have ha3 : (adjR (turnS s) (turnS t) time most).2 = (adjR s t time most).2 := (by rw [had])
                        have hb1 := adj_bd s t time most
                        refine WC.region ?_
                        refine WL.x (X.move rfl) (by decide) ?_
                        refine WL.x (X.move rfl) (by decide) ?_
                        refine WL.yes rfl rfl ?_
                        refine WL.x (X.move rfl) (by decide) ?_
                        refine WL.yes rfl rfl ?_
                        refine WL.x (X.move rfl) (by decide) ?_
                        refine WL.yes rfl rfl ?_
                        refine WL.cond (X.eql rfl rfl) (by decide) (fun h128 => ?_) (fun h128 => ?_)
                        · refine WL.x (X.pickT rfl rfl rfl) (by decide) ?_
                          refine WL.x (X.move rfl) (by decide) ?_
                          refine WL.yes rfl rfl ?_
                          refine WL.x (X.field Try.runUnderlying33 rfl Try.sizeOf3 rfl) (by decide) ?_
                          refine WL.yes rfl rfl ?_
                          refine WL.x (X.loadB (k := 1) Try.isAgg3 rfl rfl rfl) (by decide) ?_
                          refine WL.yes rfl rfl ?_
                          refine WL.x (X.field Try.runUnderlying33 rfl Try.sizeOf3 rfl) (by decide) ?_
                          refine WL.yes rfl rfl ?_
                          refine WL.x (X.loadB (k := 0) Try.isAgg3 rfl rfl rfl) (by decide) ?_
                          refine WL.yes rfl rfl ?_
                          refine WL.x (X.neg rfl (by omega) (by omega)) (by decide) ?_
                          refine WL.yes rfl rfl ?_
                          refine WL.cond (X.eql rfl rfl) (by decide) (fun h129 => ?_) (fun h129 => ?_)
                          · refine WL.x (X.pickT rfl rfl rfl) (by decide) ?_
                            refine WL.x (X.move rfl) (by decide) ?_
                            refine WL.yes rfl rfl ?_
                            refine WL.x (X.field Try.runUnderlying33 rfl Try.sizeOf3 rfl) (by decide) ?_
                            refine WL.yes rfl rfl ?_
                            refine WL.x (X.loadB (k := 1) Try.isAgg3 rfl rfl rfl) (by decide) ?_
                            refine WL.yes rfl rfl ?_
                            refine WL.x (X.field Try.runUnderlying33 rfl Try.sizeOf3 rfl) (by decide) ?_
                            refine WL.yes rfl rfl ?_
                            refine WL.x (X.loadB (k := 0) Try.isAgg3 rfl rfl rfl) (by decide) ?_
                            refine WL.yes rfl rfl ?_
                            refine WL.x (X.neg rfl (by omega) (by omega)) (by decide) ?_
                            refine WL.yes rfl rfl ?_
                            refine WL.cond (X.eql rfl rfl) (by decide) (fun h130 => ?_) (fun h130 => ?_)
                            · refine WL.x (X.pickT rfl rfl rfl) (by decide) ?_
                              refine WL.x (X.move rfl) (by decide) ?_
                              refine WL.yes rfl rfl ?_
                              refine WL.x (X.move rfl) (by decide) ?_
                              refine WL.yes rfl rfl ?_
                              refine WL.x (X.move rfl) (by decide) ?_
                              refine WL.yes rfl rfl ?_
                              refine WL.x (OpX.t (X.call Try.call27 rfl (sameInts27 _ _ _ hs119 _ _ hs126 )) rfl) (by decide) ?_
                              refine WL.x (X.pickT rfl rfl rfl) (by decide) ?_
                              refine WL.x (X.move rfl) (by decide) ?_
                              refine WL.yes rfl rfl ?_
                              refine WL.x (X.move rfl) (by decide) ?_
                              refine WL.yes rfl rfl ?_
                              refine WL.x (X.move rfl) (by decide) ?_
                              refine WL.yes rfl rfl ?_
                              refine WL.x (OpX.t (X.eql rfl rfl) rfl) (by decide) ?_
                              refine WL.x (X.pickT rfl rfl rfl) (by decide) ?_
                              refine WL.x (X.assign rfl) (by decide) ?_
                              refine WL.nil ?_
                              refine WK.nThen ?_
                              refine WC.ret ?_
                              refine WK.ret1 rfl rfl (fun w' hw' => Ret.exact hw' ?_)
                              first | rfl | (exfalso; omega) | (exfalso; contradiction) | (exfalso; have q1_ := hx1 (by omega); have q2_ := hx2 (by omega); have q3_ := hx3 (by omega); have q4_ := hx4 (by omega); omega) | exact (bool_true (by omega)).symm
                            · refine WL.x (X.pickT rfl rfl rfl) (by decide) ?_
                              refine WL.x (X.move rfl) (by decide) ?_
                              refine WL.no rfl rfl rfl (by decide) ?_
                              refine WL.no rfl rfl rfl (by decide) ?_
                              refine WL.no rfl rfl rfl (by decide) ?_
                              refine WL.x (X.pickF rfl rfl rfl) (by decide) ?_
                              refine WL.x (X.move rfl) (by decide) ?_
                              refine WL.no rfl rfl rfl (by decide) ?_
                              refine WL.no rfl rfl rfl (by decide) ?_
                              refine WL.no rfl rfl rfl (by decide) ?_
                              refine WL.x (X.pickF rfl rfl rfl) (by decide) ?_
                              refine WL.x (X.assign rfl) (by decide) ?_
                              refine WL.nil ?_
                              refine WK.nThen ?_
                              refine WC.ret ?_
                              refine WK.ret1 rfl rfl (fun w' hw' => Ret.exact hw' ?_)
                              first | rfl | (exfalso; omega) | (exfalso; contradiction) | (exfalso; have q1_ := hx1 (by omega); have q2_ := hx2 (by omega); have q3_ := hx3 (by omega); have q4_ := hx4 (by omega); omega) | exact (bool_true (by omega)).symm
                          · refine WL.x (X.pickT rfl rfl rfl) (by decide) ?_
                            refine WL.x (X.move rfl) (by decide) ?_
                            refine WL.no rfl rfl rfl (by decide) ?_
                            refine WL.no rfl rfl rfl (by decide) ?_
                            refine WL.no rfl rfl rfl (by decide) ?_
                            refine WL.no rfl rfl rfl (by decide) ?_
                            refine WL.no rfl rfl rfl (by decide) ?_
                            refine WL.no rfl rfl rfl (by decide) ?_
                            refine WL.x (X.pickF rfl rfl rfl) (by decide) ?_
                            refine WL.x (X.move rfl) (by decide) ?_
                            refine WL.no rfl rfl rfl (by decide) ?_
                            refine WL.no rfl rfl rfl (by decide) ?_
                            refine WL.no rfl rfl rfl (by decide) ?_
                            refine WL.x (X.pickF rfl rfl rfl) (by decide) ?_
                            refine WL.x (X.move rfl) (by decide) ?_
                            refine WL.no rfl rfl rfl (by decide) ?_
                            refine WL.no rfl rfl rfl (by decide) ?_
                            refine WL.no rfl rfl rfl (by decide) ?_
                            refine WL.x (X.pickF rfl rfl rfl) (by decide) ?_
                            refine WL.x (X.assign rfl) (by decide) ?_
                            refine WL.nil ?_
                            refine WK.nThen ?_
                            refine WC.ret ?_
                            refine WK.ret1 rfl rfl (fun w' hw' => Ret.exact hw' ?_)
                            first | rfl | (exfalso; omega) | (exfalso; contradiction) | (exfalso; have q1_ := hx1 (by omega); have q2_ := hx2 (by omega); have q3_ := hx3 (by omega); have q4_ := hx4 (by omega); omega) | exact (bool_true (by omega)).symm
                        · refine WL.x (X.pickT rfl rfl rfl) (by decide) ?_
                          refine WL.x (X.move rfl) (by decide) ?_
                          refine WL.no rfl rfl rfl (by decide) ?_
                          refine WL.no rfl rfl rfl (by decide) ?_
                          refine WL.no rfl rfl rfl (by decide) ?_
                          refine WL.no rfl rfl rfl (by decide) ?_
                          refine WL.no rfl rfl rfl (by decide) ?_
                          refine WL.no rfl rfl rfl (by decide) ?_
                          refine WL.x (X.pickF rfl rfl rfl) (by decide) ?_
                          refine WL.x (X.move rfl) (by decide) ?_
                          refine WL.no rfl rfl rfl (by decide) ?_
                          refine WL.no rfl rfl rfl (by decide) ?_
                          refine WL.no rfl rfl rfl (by decide) ?_
                          refine WL.no rfl rfl rfl (by decide) ?_
                          refine WL.no rfl rfl rfl (by decide) ?_
                          refine WL.no rfl rfl rfl (by decide) ?_
                          refine WL.x (X.pickF rfl rfl rfl) (by decide) ?_
                          refine WL.x (X.move rfl) (by decide) ?_
                          refine WL.no rfl rfl rfl (by decide) ?_
                          refine WL.no rfl rfl rfl (by decide) ?_
                          refine WL.no rfl rfl rfl (by decide) ?_
                          refine WL.x (X.pickF rfl rfl rfl) (by decide) ?_
                          refine WL.x (X.move rfl) (by decide) ?_
                          refine WL.no rfl rfl rfl (by decide) ?_
                          refine WL.no rfl rfl rfl (by decide) ?_
                          refine WL.no rfl rfl rfl (by decide) ?_
                          refine WL.x (X.pickF rfl rfl rfl) (by decide) ?_
                          refine WL.x (X.assign rfl) (by decide) ?_
                          refine WL.nil ?_
                          refine WK.nThen ?_
                          refine WC.ret ?_
                          refine WK.ret1 rfl rfl (fun w' hw' => Ret.exact hw' ?_)
                          first | rfl | (exfalso; omega) | (exfalso; contradiction) | (exfalso; have q1_ := hx1 (by omega); have q2_ := hx2 (by omega); have q3_ := hx3 (by omega); have q4_ := hx4 (by omega); omega) | exact (bool_true (by omega)).symm
    · refine WL.yes rfl rfl ?_
      refine WL.x (X.not rfl) (by decide) ?_
      refine WL.x (X.pickF rfl rfl rfl) (by decide) ?_
      refine WL.x (X.move rfl) (by decide) ?_
      refine WL.no rfl rfl rfl (by decide) ?_
      refine WL.no rfl rfl rfl (by decide) ?_
      refine WL.x (X.pickT rfl rfl rfl) (by decide) ?_
      refine WL.x (X.move rfl) (by decide) ?_
      refine WL.no rfl rfl rfl (by decide) ?_
      refine WL.no rfl rfl rfl (by decide) ?_
      refine WL.x (X.pickT rfl rfl rfl) (by decide) ?_
      refine WL.nil ?_
      refine WK.nThen ?_
      refine WC.condT rfl ?_
      refine WC.seq ?_
      refine WC.region ?_
      refine WL.x (X.move rfl) (by decide) ?_
      refine WL.x (X.assign rfl) (by decide) ?_
      refine WL.nil ?_
      refine WK.nThen ?_
      refine WC.ret ?_
      refine WK.rThen ?_
      refine WK.ret1 rfl rfl (fun w' hw' => Ret.exact hw' ?_)
      first | rfl | (exfalso; omega) | (exfalso; contradiction) | (exfalso; have q1_ := hx1 (by omega); have q2_ := hx2 (by omega); have q3_ := hx3 (by omega); have q4_ := hx4 (by omega); omega) | exact (bool_true (by omega)).symm
  · refine WL.x (X.not rfl) (by decide) ?_
    refine WL.x (X.move rfl) (by decide) ?_
    refine WL.no rfl rfl rfl (by decide) ?_
    refine WL.no rfl rfl rfl (by decide) ?_
    refine WL.no rfl rfl rfl (by decide) ?_
    refine WL.x (X.pickT rfl rfl rfl) (by decide) ?_
    refine WL.x (X.move rfl) (by decide) ?_
    refine WL.no rfl rfl rfl (by decide) ?_
    refine WL.no rfl rfl rfl (by decide) ?_
    refine WL.x (X.pickT rfl rfl rfl) (by decide) ?_
    refine WL.x (X.move rfl) (by decide) ?_
    refine WL.no rfl rfl rfl (by decide) ?_
    refine WL.no rfl rfl rfl (by decide) ?_
    refine WL.x (X.pickT rfl rfl rfl) (by decide) ?_
    refine WL.nil ?_
    refine WK.nThen ?_
    refine WC.condT rfl ?_
    refine WC.seq ?_
    refine WC.region ?_
    refine WL.x (X.move rfl) (by decide) ?_
    refine WL.x (X.assign rfl) (by decide) ?_
    refine WL.nil ?_
    refine WK.nThen ?_
    refine WC.ret ?_
    refine WK.rThen ?_
    refine WK.ret1 rfl rfl (fun w' hw' => Ret.exact hw' ?_)
    first | rfl | (exfalso; omega) | (exfalso; contradiction) | (exfalso; have q1_ := hx1 (by omega); have q2_ := hx2 (by omega); have q3_ := hx3 (by omega); have q4_ := hx4 (by omega); omega) | exact (bool_true (by omega)).symm
end Go.Proofs.C8
