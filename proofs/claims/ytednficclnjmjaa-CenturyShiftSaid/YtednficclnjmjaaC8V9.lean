/- The walk of the statement CenturyShift: its function answers true. -/
import Derived.Test.YtednficclnjmjaaC8Br
import Derived.Test.YtednficclnjmjaaC8W9
import Derived.Test.YtednficclnjmjaaC8LShift
namespace Go.Proofs.C8
open Go Go.Kx
set_option linter.unusedSimpArgs false
set_option linter.unusedVariables false
set_option maxHeartbeats 4000000 in
theorem law9 (m : Mem) (cs : List Value) (s : Ser) (hs : Enc.rd m cs s) (ct : List Value) (t : Ser) (ht : Enc.rd m ct t) (cx : List Value) (x : Rl) (hx : Enc.rd m cx x) (cy : List Value) (y : Rl) (hy : Enc.rd m cy y) (time : Int) (most : Int)  (ok0 : Rng.ok s) (ok1 : Rng.ok t) (ok2 : Rng.ok x) (ok3 : Rng.ok y) (lo4 : -9223372036854775808 ≤ time) (hi4 : time ≤ 9223372036854775807) (lo5 : -9223372036854775808 ≤ most) (hi5 : most ≤ 9223372036854775807) : Exact Try.prog 9 #[.agg cs.toArray, .agg ct.toArray, .agg cx.toArray, .agg cy.toArray, .int .i64 (time), .int .i64 (most)] m (.bool true) := by
  obtain ⟨v1, v3, rfl, hs2, hs4⟩ := hs
  have hl5 := hs2.le
  have hl6 := hs4.le
  obtain ⟨v7, v9, rfl, hs8, hs10⟩ := ht
  have hl11 := hs8.le
  have hl12 := hs10.le
  obtain ⟨v13, v15, rfl, hs14, hs16⟩ := hx
  have hl17 := hs14.le
  have hl18 := hs16.le
  obtain ⟨v19, v21, rfl, hs20, hs22⟩ := hy
  have hl23 := hs20.le
  have hl24 := hs22.le
  refine Exact.start Try.func9 rfl Try.ntmps9 rfl fun wld => ?_
  refine WC.seq ?_
  refine WC.region ?_
  refine WL.tn (T.boxB rfl rfl) (by decide) fun b25 => ?_
  refine WL.tn (T.boxB rfl rfl) (by decide) fun b26 => ?_
  refine WL.tn (T.boxB rfl rfl) (by decide) fun b27 => ?_
  refine WL.tn (T.boxB rfl rfl) (by decide) fun b28 => ?_
  refine WL.x (X.assign rfl) (by decide) ?_
  refine WL.nil ?_
  refine WK.nThen ?_
  refine WC.seq ?_
  refine WC.region ?_
  refine WL.x (X.call Try.call21 rfl (awake21 _  )) (by decide) ?_
  refine WL.x (X.assign rfl) (by decide) ?_
  refine WL.nil ?_
  refine WK.nThen ?_
  refine WC.seq ?_
  refine WC.seq ?_
  refine WC.region ?_
  refine WL.x (X.loadBA (k := 3) Try.isAgg25 Try.sizeOf25 rfl rfl rfl) (by decide) ?_
  refine WL.cond (X.call Try.call22 rfl (few22 _ _ s ⟨_, _, rfl, hs2, hs4⟩ )) (by decide) (fun h29 => ?_) (fun h29 => ?_)
  · refine WL.x (X.not rfl) (by decide) ?_
    refine WL.x (X.move rfl) (by decide) ?_
    refine WL.yes rfl rfl ?_
    refine WL.x (X.loadBA (k := 2) Try.isAgg25 Try.sizeOf25 rfl rfl rfl) (by decide) ?_
    refine WL.yes rfl rfl ?_
    refine WL.cond (X.call Try.call22 rfl (few22 _ _ t ⟨_, _, rfl, hs8, hs10⟩ )) (by decide) (fun h30 => ?_) (fun h30 => ?_)
    · refine WL.yes rfl rfl ?_
      refine WL.x (X.not rfl) (by decide) ?_
      refine WL.x (X.pickF rfl rfl rfl) (by decide) ?_
      refine WL.x (X.move rfl) (by decide) ?_
      refine WL.yes rfl rfl ?_
      refine WL.x (X.loadBA (k := 1) Try.isAgg52 Try.sizeOf52 rfl rfl rfl) (by decide) ?_
      refine WL.yes rfl rfl ?_
      refine WL.cond (X.call Try.call38 rfl (light38 _ _ x ⟨_, _, rfl, hs14, hs16⟩ )) (by decide) (fun h31 => ?_) (fun h31 => ?_)
      · refine WL.yes rfl rfl ?_
        refine WL.x (X.not rfl) (by decide) ?_
        refine WL.x (X.pickF rfl rfl rfl) (by decide) ?_
        refine WL.x (X.move rfl) (by decide) ?_
        refine WL.yes rfl rfl ?_
        refine WL.x (X.loadBA (k := 0) Try.isAgg52 Try.sizeOf52 rfl rfl rfl) (by decide) ?_
        refine WL.yes rfl rfl ?_
        refine WL.cond (X.call Try.call38 rfl (light38 _ _ y ⟨_, _, rfl, hs20, hs22⟩ )) (by decide) (fun h32 => ?_) (fun h32 => ?_)
        · refine WL.yes rfl rfl ?_
          refine WL.x (X.not rfl) (by decide) ?_
          refine WL.x (X.pickF rfl rfl rfl) (by decide) ?_
          refine WL.nil ?_
          refine WK.nThen ?_
          refine WC.condF rfl ?_
          refine WC.skip ?_
          refine WK.nThen ?_
          refine WC.seq ?_
          refine WC.region ?_
          refine WL.x (X.loadBA (k := 3) Try.isAgg25 Try.sizeOf25 rfl rfl rfl) (by decide) ?_
          refine WL.x (X.loadBA (k := 2) Try.isAgg25 Try.sizeOf25 rfl rfl rfl) (by decide) ?_
          refine WL.x (X.move rfl) (by decide) ?_
          refine WL.x (X.move rfl) (by decide) ?_
          refine WL.x (X.call Try.call25 rfl (adjust25 _ _ s ⟨_, _, rfl, hs2, hs4⟩ _ t ⟨_, _, rfl, hs8, hs10⟩ _ _ )) (by decide) ?_
          refine WL.x (X.move rfl) (by decide) ?_
          refine WL.x (X.extract rfl rfl) (by decide) ?_
          refine WL.x (X.extract rfl rfl) (by decide) ?_
          refine WL.tn (T.alloc Try.zeroValue33 rfl) (by decide) fun b33 => ?_
          refine WL.ts (T.storeBA (k := 0) Try.sizeOf33 rfl rfl rfl (one_cons rfl (one_cons rfl one_nil)) rfl rfl) ?_
          refine WL.x (X.assign rfl) (by decide) ?_
          refine WL.nil ?_
          refine WK.nThen ?_
          refine WC.seq ?_
          refine WC.region ?_
          refine WL.x (X.loadBA (k := 3) Try.isAgg25 Try.sizeOf25 rfl rfl rfl) (by decide) ?_
          refine WL.x (X.loadBA (k := 4) Try.isAgg25 Try.sizeOf25 rfl rfl rfl) (by decide) ?_
          refine WL.x (X.move rfl) (by decide) ?_
          refine WL.x (X.move rfl) (by decide) ?_
          refine WL.x (X.call Try.call25 rfl (adjust25 _ _ t ⟨_, _, rfl, hs8, hs10⟩ _ s ⟨_, _, rfl, hs2, hs4⟩ _ _ )) (by decide) ?_
          refine WL.x (X.move rfl) (by decide) ?_
          refine WL.x (X.extract rfl rfl) (by decide) ?_
          refine WL.x (X.extract rfl rfl) (by decide) ?_
          refine WL.tn (T.alloc Try.zeroValue33 rfl) (by decide) fun b34 => ?_
          refine WL.ts (T.storeBA (k := 0) Try.sizeOf33 rfl rfl rfl (one_cons rfl (one_cons rfl one_nil)) rfl rfl) ?_
          refine WL.x (X.assign rfl) (by decide) ?_
          refine WL.nil ?_
          refine WK.nThen ?_
          refine WC.seq ?_
          refine WC.seq ?_
          have hb1 := adj_bd s t time most
          have hb2 := adj_bd t s time most
          have ho := fun h => adj_order (s := s) (t := t) (time := time) (most := most) h
          have hsw := adj_swap2 s t time most
          have hsw2 := hsw.2
          refine WC.region ?_
          refine WL.x (X.move rfl) (by decide) ?_
          refine WL.x (X.eql rfl rfl) (by decide) ?_
          refine WL.x (X.move rfl) (by decide) ?_
          refine WL.x (X.eql rfl rfl) (by decide) ?_
          refine WL.x (OpX.f (X.neqB Try.underlying4 rfl rfl) (fun h => h (decide_eq_decide.2 (adj_swap2 s t time most).1))) (by decide) ?_
          refine WL.x (X.move rfl) (by decide) ?_
          refine WL.yes rfl rfl ?_
          refine WL.x (X.move rfl) (by decide) ?_
          refine WL.yes rfl rfl ?_
          refine WL.cond (X.eql rfl rfl) (by decide) (fun h35 => ?_) (fun h35 => ?_)
          · refine WL.yes rfl rfl ?_
            refine WL.x (X.move rfl) (by decide) ?_
            refine WL.yes rfl rfl ?_
            refine WL.x (X.field Try.runUnderlying33 rfl Try.sizeOf3 rfl) (by decide) ?_
            refine WL.yes rfl rfl ?_
            refine WL.x (X.loadB (k := 1) Try.isAgg3 rfl rfl rfl) (by decide) ?_
            refine WL.yes rfl rfl ?_
            refine WL.x (X.field Try.runUnderlying33 rfl Try.sizeOf3 rfl) (by decide) ?_
            refine WL.yes rfl rfl ?_
            refine WL.x (X.loadB (k := 1) Try.isAgg3 rfl rfl rfl) (by decide) ?_
            refine WL.yes rfl rfl ?_
            refine WL.cond (X.gtr rfl rfl) (by decide) (fun h36 => ?_) (fun h36 => ?_)
            · refine WL.yes rfl rfl ?_
              refine WL.x (X.move rfl) (by decide) ?_
              refine WL.no rfl rfl rfl (by decide) ?_
              refine WL.no rfl rfl rfl (by decide) ?_
              refine WL.no rfl rfl rfl (by decide) ?_
              refine WL.no rfl rfl rfl (by decide) ?_
              refine WL.no rfl rfl rfl (by decide) ?_
              refine WL.no rfl rfl rfl (by decide) ?_
              refine WL.yes rfl rfl ?_
              refine WL.x (X.pickT rfl rfl rfl) (by decide) ?_
              refine WL.yes rfl rfl ?_
              refine WL.x (X.move rfl) (by decide) ?_
              refine WL.no rfl rfl rfl (by decide) ?_
              refine WL.no rfl rfl rfl (by decide) ?_
              refine WL.no rfl rfl rfl (by decide) ?_
              refine WL.no rfl rfl rfl (by decide) ?_
              refine WL.no rfl rfl rfl (by decide) ?_
              refine WL.no rfl rfl rfl (by decide) ?_
              refine WL.yes rfl rfl ?_
              refine WL.x (X.pickT rfl rfl rfl) (by decide) ?_
              refine WL.yes rfl rfl ?_
              refine WL.x (X.pickT rfl rfl rfl) (by decide) ?_
              refine WL.x (X.pickF rfl rfl rfl) (by decide) ?_
              refine WL.nil ?_
              refine WK.nThen ?_
              refine WC.condT rfl ?_
              refine WC.seq ?_
              refine WC.region ?_
              refine WL.x (X.assign rfl) (by decide) ?_
              refine WL.nil ?_
              refine WK.nThen ?_
              refine WC.ret ?_
              refine WK.rThen ?_
              refine WK.ret1 rfl rfl (fun w' hw' => Ret.exact hw' ?_)
              first | rfl | (exfalso; omega) | (exfalso; contradiction) | (exfalso; have q_ := ho (by omega); omega) | (exfalso; have q_ := hsw2 (by omega); omega) | (exfalso; have q_ := hn3 (by omega); omega) | (exfalso; have q_ := hh4 (by omega) (by omega) (by omega) (by omega); omega) | exact (bool_true (by have q_ := hh4 (by omega) (by omega) (by omega) (by omega); omega)).symm | exact (bool_true (hn3 (by omega))).symm | exact (bool_true (by omega)).symm
            · refine WL.yes rfl rfl ?_
              refine WL.x (X.move rfl) (by decide) ?_
              refine WL.yes rfl rfl ?_
              refine WL.x (X.field Try.runUnderlying33 rfl Try.sizeOf3 rfl) (by decide) ?_
              refine WL.yes rfl rfl ?_
              refine WL.x (X.loadB (k := 1) Try.isAgg3 rfl rfl rfl) (by decide) ?_
              refine WL.yes rfl rfl ?_
              refine WL.x (X.field Try.runUnderlying33 rfl Try.sizeOf3 rfl) (by decide) ?_
              refine WL.yes rfl rfl ?_
              refine WL.x (X.loadB (k := 0) Try.isAgg3 rfl rfl rfl) (by decide) ?_
              refine WL.yes rfl rfl ?_
              refine WL.x (X.neg rfl (by omega) (by omega)) (by decide) ?_
              refine WL.yes rfl rfl ?_
              refine WL.condn (X.neq rfl rfl) (by decide) (fun h37 => ?_) (fun h37 => ?_)
              · refine WL.yes rfl rfl ?_
                refine WL.x (X.pickF rfl rfl rfl) (by decide) ?_
                refine WL.yes rfl rfl ?_
                refine WL.x (X.move rfl) (by decide) ?_
                refine WL.no rfl rfl rfl (by decide) ?_
                refine WL.no rfl rfl rfl (by decide) ?_
                refine WL.no rfl rfl rfl (by decide) ?_
                refine WL.no rfl rfl rfl (by decide) ?_
                refine WL.no rfl rfl rfl (by decide) ?_
                refine WL.no rfl rfl rfl (by decide) ?_
                refine WL.yes rfl rfl ?_
                refine WL.x (X.pickT rfl rfl rfl) (by decide) ?_
                refine WL.yes rfl rfl ?_
                refine WL.x (X.pickT rfl rfl rfl) (by decide) ?_
                refine WL.x (X.pickF rfl rfl rfl) (by decide) ?_
                refine WL.nil ?_
                refine WK.nThen ?_
                refine WC.condT rfl ?_
                refine WC.seq ?_
                refine WC.region ?_
                refine WL.x (X.assign rfl) (by decide) ?_
                refine WL.nil ?_
                refine WK.nThen ?_
                refine WC.ret ?_
                refine WK.rThen ?_
                refine WK.ret1 rfl rfl (fun w' hw' => Ret.exact hw' ?_)
                first | rfl | (exfalso; omega) | (exfalso; contradiction) | (exfalso; have q_ := ho (by omega); omega) | (exfalso; have q_ := hsw2 (by omega); omega) | (exfalso; have q_ := hn3 (by omega); omega) | (exfalso; have q_ := hh4 (by omega) (by omega) (by omega) (by omega); omega) | exact (bool_true (by have q_ := hh4 (by omega) (by omega) (by omega) (by omega); omega)).symm | exact (bool_true (hn3 (by omega))).symm | exact (bool_true (by omega)).symm
              · refine WL.yes rfl rfl ?_
                refine WL.x (X.pickF rfl rfl rfl) (by decide) ?_
                refine WL.yes rfl rfl ?_
                refine WL.x (X.move rfl) (by decide) ?_
                refine WL.yes rfl rfl ?_
                refine WL.x (X.field Try.runUnderlying33 rfl Try.sizeOf3 rfl) (by decide) ?_
                refine WL.yes rfl rfl ?_
                refine WL.x (X.loadB (k := 1) Try.isAgg3 rfl rfl rfl) (by decide) ?_
                refine WL.yes rfl rfl ?_
                refine WL.x (X.field Try.runUnderlying33 rfl Try.sizeOf3 rfl) (by decide) ?_
                refine WL.yes rfl rfl ?_
                refine WL.x (X.loadB (k := 0) Try.isAgg3 rfl rfl rfl) (by decide) ?_
                refine WL.yes rfl rfl ?_
                refine WL.x (X.neg rfl (by omega) (by omega)) (by decide) ?_
                refine WL.yes rfl rfl ?_
                refine WL.condn (X.neq rfl rfl) (by decide) (fun h38 => ?_) (fun h38 => ?_)
                · refine WL.yes rfl rfl ?_
                  refine WL.x (X.pickF rfl rfl rfl) (by decide) ?_
                  refine WL.yes rfl rfl ?_
                  refine WL.x (X.pickT rfl rfl rfl) (by decide) ?_
                  refine WL.x (X.pickF rfl rfl rfl) (by decide) ?_
                  refine WL.nil ?_
                  refine WK.nThen ?_
                  refine WC.condT rfl ?_
                  refine WC.seq ?_
                  refine WC.region ?_
                  refine WL.x (X.assign rfl) (by decide) ?_
                  refine WL.nil ?_
                  refine WK.nThen ?_
                  refine WC.ret ?_
                  refine WK.rThen ?_
                  refine WK.ret1 rfl rfl (fun w' hw' => Ret.exact hw' ?_)
                  first | rfl | (exfalso; omega) | (exfalso; contradiction) | (exfalso; have q_ := ho (by omega); omega) | (exfalso; have q_ := hsw2 (by omega); omega) | (exfalso; have q_ := hn3 (by omega); omega) | (exfalso; have q_ := hh4 (by omega) (by omega) (by omega) (by omega); omega) | exact (bool_true (by have q_ := hh4 (by omega) (by omega) (by omega) (by omega); omega)).symm | exact (bool_true (hn3 (by omega))).symm | exact (bool_true (by omega)).symm
                · refine WL.yes rfl rfl ?_
                  refine WL.x (X.pickF rfl rfl rfl) (by decide) ?_
                  refine WL.yes rfl rfl ?_
                  refine WL.x (X.pickT rfl rfl rfl) (by decide) ?_
                  refine WL.x (X.pickF rfl rfl rfl) (by decide) ?_
                  refine WL.nil ?_
                  refine WK.nThen ?_
                  refine WC.condF rfl ?_
                  refine WC.skip ?_
                  refine WK.nThen ?_
                  refine WC.seq ?_
                  refine WC.region ?_
                  refine WL.x (X.loadBA (k := 5) Try.isAgg25 Try.sizeOf25 rfl rfl rfl) (by decide) ?_
                  refine WL.x (X.field Try.runUnderlying52 rfl Try.sizeOf28 rfl) (by decide) ?_
                  refine WL.x (X.loadB (k := 3) Try.isAgg28 rfl rfl rfl) (by decide) ?_
                  refine WL.x (X.field Try.runUnderlying52 rfl Try.sizeOf28 rfl) (by decide) ?_
                  refine WL.x (X.loadB (k := 3) Try.isAgg28 rfl rfl rfl) (by decide) ?_
                  refine WL.tm (T.call Try.call39 rfl (even39 _ _ s ⟨_, _, rfl, hs2, hs4⟩ _ _ hs14 _ _ hs16 )) (by decide) fun m39 r40 hle41 hR42 => ?_
                  obtain ⟨v43, rfl, hs44⟩ := hR42
                  replace hs2 := hs2.mono hle41
                  replace hs4 := hs4.mono hle41
                  replace hs8 := hs8.mono hle41
                  replace hs10 := hs10.mono hle41
                  replace hs14 := hs14.mono hle41
                  replace hs16 := hs16.mono hle41
                  replace hs20 := hs20.mono hle41
                  replace hs22 := hs22.mono hle41
                  have hl45 := hs44.le
                  refine WL.x (X.move rfl) (by decide) ?_
                  refine WL.x (X.extract rfl rfl) (by decide) ?_
                  refine WL.x (X.extract rfl rfl) (by decide) ?_
                  refine WL.x (X.assign rfl) (by decide) ?_
                  refine WL.x (X.assign rfl) (by decide) ?_
                  refine WL.nil ?_
                  refine WK.nThen ?_
                  refine WC.seq ?_
                  refine WC.region ?_
                  refine WL.x (X.loadBA (k := 4) Try.isAgg25 Try.sizeOf25 rfl rfl rfl) (by decide) ?_
                  refine WL.x (X.field Try.runUnderlying52 rfl Try.sizeOf28 rfl) (by decide) ?_
                  refine WL.x (X.loadB (k := 2) Try.isAgg28 rfl rfl rfl) (by decide) ?_
                  refine WL.x (X.field Try.runUnderlying52 rfl Try.sizeOf28 rfl) (by decide) ?_
                  refine WL.x (X.loadB (k := 2) Try.isAgg28 rfl rfl rfl) (by decide) ?_
                  refine WL.tm (T.call Try.call39 rfl (even39 _ _ t ⟨_, _, rfl, hs8, hs10⟩ _ _ hs20 _ _ hs22 )) (by decide) fun m46 r47 hle48 hR49 => ?_
                  obtain ⟨v50, rfl, hs51⟩ := hR49
                  replace hs2 := hs2.mono hle48
                  replace hs4 := hs4.mono hle48
                  replace hs8 := hs8.mono hle48
                  replace hs10 := hs10.mono hle48
                  replace hs14 := hs14.mono hle48
                  replace hs16 := hs16.mono hle48
                  replace hs20 := hs20.mono hle48
                  replace hs22 := hs22.mono hle48
                  replace hs44 := hs44.mono hle48
                  have hl52 := hs51.le
                  refine WL.x (X.move rfl) (by decide) ?_
                  refine WL.x (X.extract rfl rfl) (by decide) ?_
                  refine WL.x (X.extract rfl rfl) (by decide) ?_
                  refine WL.x (X.assign rfl) (by decide) ?_
                  refine WL.x (X.assign rfl) (by decide) ?_
                  refine WL.nil ?_
                  refine WK.nThen ?_
                  refine WC.seq ?_
                  refine WC.seq ?_
                  refine WC.region ?_
                  refine WL.x (X.move rfl) (by decide) ?_
                  refine WL.condn (X.neq rfl rfl) (by decide) (fun h53 => ?_) (fun h53 => ?_)
                  · refine WL.x (X.move rfl) (by decide) ?_
                    refine WL.no rfl rfl rfl (by decide) ?_
                    refine WL.no rfl rfl rfl (by decide) ?_
                    refine WL.x (X.pickT rfl rfl rfl) (by decide) ?_
                    refine WL.x (X.move rfl) (by decide) ?_
                    refine WL.no rfl rfl rfl (by decide) ?_
                    refine WL.no rfl rfl rfl (by decide) ?_
                    refine WL.no rfl rfl rfl (by decide) ?_
                    refine WL.noU rfl rfl (by decide) ?_
                    refine WL.noU rfl rfl (by decide) ?_
                    refine WL.no rfl rfl rfl (by decide) ?_
                    refine WL.x (X.pickT rfl rfl rfl) (by decide) ?_
                    refine WL.nil ?_
                    refine WK.nThen ?_
                    refine WC.condT rfl ?_
                    refine WC.seq ?_
                    refine WC.region ?_
                    refine WL.x (X.move rfl) (by decide) ?_
                    refine WL.x (X.assign rfl) (by decide) ?_
                    refine WL.nil ?_
                    refine WK.nThen ?_
                    refine WC.ret ?_
                    refine WK.rThen ?_
                    refine WK.ret1 rfl rfl (fun w' hw' => Ret.exact hw' ?_)
                    first | rfl | (exfalso; omega) | (exfalso; contradiction) | (exfalso; have q_ := ho (by omega); omega) | (exfalso; have q_ := hsw2 (by omega); omega) | (exfalso; have q_ := hn3 (by omega); omega) | (exfalso; have q_ := hh4 (by omega) (by omega) (by omega) (by omega); omega) | exact (bool_true (by have q_ := hh4 (by omega) (by omega) (by omega) (by omega); omega)).symm | exact (bool_true (hn3 (by omega))).symm | exact (bool_true (by omega)).symm
                  · refine WL.x (X.move rfl) (by decide) ?_
                    refine WL.yes rfl rfl ?_
                    refine WL.x (X.move rfl) (by decide) ?_
                    refine WL.yes rfl rfl ?_
                    refine WL.condn (X.neq rfl rfl) (by decide) (fun h54 => ?_) (fun h54 => ?_)
                    · refine WL.x (X.pickF rfl rfl rfl) (by decide) ?_
                      refine WL.x (X.move rfl) (by decide) ?_
                      refine WL.no rfl rfl rfl (by decide) ?_
                      refine WL.no rfl rfl rfl (by decide) ?_
                      refine WL.no rfl rfl rfl (by decide) ?_
                      refine WL.noU rfl rfl (by decide) ?_
                      refine WL.noU rfl rfl (by decide) ?_
                      refine WL.no rfl rfl rfl (by decide) ?_
                      refine WL.x (X.pickT rfl rfl rfl) (by decide) ?_
                      refine WL.nil ?_
                      refine WK.nThen ?_
                      refine WC.condT rfl ?_
                      refine WC.seq ?_
                      refine WC.region ?_
                      refine WL.x (X.move rfl) (by decide) ?_
                      refine WL.x (X.assign rfl) (by decide) ?_
                      refine WL.nil ?_
                      refine WK.nThen ?_
                      refine WC.ret ?_
                      refine WK.rThen ?_
                      refine WK.ret1 rfl rfl (fun w' hw' => Ret.exact hw' ?_)
                      first | rfl | (exfalso; omega) | (exfalso; contradiction) | (exfalso; have q_ := ho (by omega); omega) | (exfalso; have q_ := hsw2 (by omega); omega) | (exfalso; have q_ := hn3 (by omega); omega) | (exfalso; have q_ := hh4 (by omega) (by omega) (by omega) (by omega); omega) | exact (bool_true (by have q_ := hh4 (by omega) (by omega) (by omega) (by omega); omega)).symm | exact (bool_true (hn3 (by omega))).symm | exact (bool_true (by omega)).symm
                    · refine WL.x (X.pickF rfl rfl rfl) (by decide) ?_
                      refine WL.x (X.move rfl) (by decide) ?_
                      refine WL.yes rfl rfl ?_
                      refine WL.x (X.move rfl) (by decide) ?_
                      refine WL.yes rfl rfl ?_
                      refine WL.condn (X.neq rfl rfl) (by decide) (fun h55 => ?_) (fun h55 => ?_)
                      · refine WL.yes rfl rfl ?_
                        refine WL.x (X.move rfl) (by decide) ?_
                        refine WL.yes rfl rfl ?_
                        refine WL.x (X.move rfl) (by decide) ?_
                        refine WL.yes rfl rfl ?_
                        refine WL.condn (X.neq rfl rfl) (by decide) (fun h56 => ?_) (fun h56 => ?_)
                        · refine WL.yes rfl rfl ?_
                          refine WL.x (X.pickT rfl rfl rfl) (by decide) ?_
                          refine WL.x (X.pickF rfl rfl rfl) (by decide) ?_
                          refine WL.nil ?_
                          refine WK.nThen ?_
                          refine WC.condT rfl ?_
                          refine WC.seq ?_
                          refine WC.region ?_
                          refine WL.x (X.move rfl) (by decide) ?_
                          refine WL.x (X.assign rfl) (by decide) ?_
                          refine WL.nil ?_
                          refine WK.nThen ?_
                          refine WC.ret ?_
                          refine WK.rThen ?_
                          refine WK.ret1 rfl rfl (fun w' hw' => Ret.exact hw' ?_)
                          first | rfl | (exfalso; omega) | (exfalso; contradiction) | (exfalso; have q_ := ho (by omega); omega) | (exfalso; have q_ := hsw2 (by omega); omega) | (exfalso; have q_ := hn3 (by omega); omega) | (exfalso; have q_ := hh4 (by omega) (by omega) (by omega) (by omega); omega) | exact (bool_true (by have q_ := hh4 (by omega) (by omega) (by omega) (by omega); omega)).symm | exact (bool_true (hn3 (by omega))).symm | exact (bool_true (by omega)).symm
                        · refine WL.yes rfl rfl ?_
                          refine WL.x (X.pickT rfl rfl rfl) (by decide) ?_
                          refine WL.x (X.pickF rfl rfl rfl) (by decide) ?_
                          refine WL.nil ?_
                          refine WK.nThen ?_
                          refine WC.condF rfl ?_
                          refine WC.skip ?_
                          refine WK.nThen ?_
                          refine WC.seq ?_
                          have he := evenR_ok (s := s) (lv := x.Levels) (sh := x.Shifts) (by omega)
                          have hek := he.1
                          have hea := he.2.1
                          have her : (evenR s x.Levels x.Shifts).1 = evenL s x.Levels x.Shifts := (by rw [he.2.2])
                          have hel := evenL_len s x.Levels x.Shifts
                          have heb := evenL_bd hek hea
                          have hen := hek.nV
                          have hf := evenR_ok (s := t) (lv := y.Levels) (sh := y.Shifts) (by omega)
                          have hfk := hf.1
                          have hfa := hf.2.1
                          have hfr : (evenR t y.Levels y.Shifts).1 = evenL t y.Levels y.Shifts := (by rw [hf.2.2])
                          have hfl := evenL_len t y.Levels y.Shifts
                          have hfb := evenL_bd hfk hfa
                          have hfn := hfk.nV
                          have hrng := adj_rng (s := s) (t := t) hek hfk (time := time) (most := most) (by omega)
                          have hcl := comL_len s t
                          have htl := tm_len s (comL s t)
                          have hdl := df_len (evenL s x.Levels x.Shifts) (evenL t y.Levels y.Shifts) (comL s t)
                          have hdb := fun i h => df_bd (s := s) (t := t) hek hea hfk hfa (i := i) h
                          rw [her] at hs44
                          rw [hfr] at hs51
                          refine WC.region ?_
                          refine WL.x (X.loadBA (k := 5) Try.isAgg25 Try.sizeOf25 rfl rfl rfl) (by decide) ?_
                          refine WL.x (X.loadBA (k := 4) Try.isAgg25 Try.sizeOf25 rfl rfl rfl) (by decide) ?_
                          refine WL.x (X.move rfl) (by decide) ?_
                          refine WL.x (X.move rfl) (by decide) ?_
                          refine WL.tm (T.call Try.call47 rfl (differences47 _ _ s ⟨_, _, rfl, hs2, hs4⟩ _ t ⟨_, _, rfl, hs8, hs10⟩ _ _ hs44 _ _ hs51 (by assumption) (by assumption) (by omega) (by omega) (by assumption) (by assumption))) (by decide) fun m57 r58 hle59 hR60 => ?_
                          obtain ⟨v61, v63, rfl, hs62, hs64⟩ := hR60
                          replace hs2 := hs2.mono hle59
                          replace hs4 := hs4.mono hle59
                          replace hs8 := hs8.mono hle59
                          replace hs10 := hs10.mono hle59
                          replace hs14 := hs14.mono hle59
                          replace hs16 := hs16.mono hle59
                          replace hs20 := hs20.mono hle59
                          replace hs22 := hs22.mono hle59
                          replace hs44 := hs44.mono hle59
                          replace hs51 := hs51.mono hle59
                          have hl65 := hs62.le
                          have hl66 := hs64.le
                          refine WL.x (X.move rfl) (by decide) ?_
                          refine WL.x (X.extract rfl rfl) (by decide) ?_
                          refine WL.x (X.extract rfl rfl) (by decide) ?_
                          refine WL.x (X.assign rfl) (by decide) ?_
                          refine WL.x (X.assign rfl) (by decide) ?_
                          refine WL.nil ?_
                          refine WK.nThen ?_
                          refine WC.seq ?_
                          refine WC.region ?_
                          refine WL.x (V := Value.agg [.int .i64 (1099511627776), .int .i64 (-1099511627776)].toArray) (X.build Try.zeroValue33 Try.runUnderlying33 (places33 _ Try.underlying33) rfl rfl) (by decide) ?_
                          refine WL.tn (T.alloc Try.zeroValue33 rfl) (by decide) fun b67 => ?_
                          refine WL.ts (T.storeBA (k := 0) Try.sizeOf33 rfl rfl rfl (one_cons rfl (one_cons rfl one_nil)) rfl rfl) ?_
                          refine WL.nil ?_
                          refine WK.nThen ?_
                          refine WC.seq ?_
                          refine WC.region ?_
                          refine WL.x (V := Value.agg [.int .i64 (1099511627776), .int .i64 (-1099511627776)].toArray) (X.build Try.zeroValue33 Try.runUnderlying33 (places33 _ Try.underlying33) rfl rfl) (by decide) ?_
                          refine WL.tn (T.alloc Try.zeroValue33 rfl) (by decide) fun b68 => ?_
                          refine WL.ts (T.storeBA (k := 0) Try.sizeOf33 rfl rfl rfl (one_cons rfl (one_cons rfl one_nil)) rfl rfl) ?_
                          refine WL.nil ?_
                          refine WK.nThen ?_
                          refine WC.seq ?_
                          refine WC.seq ?_
                          refine WC.region ?_
                          refine WL.x (X.assign rfl) (by decide) ?_
                          refine WL.nil ?_
                          refine WK.nThen ?_
                          refine WC.block ?_
                          refine WC.loop (G := Nat) (fun i => (comL s t).length - i) (fun i => m57) (fun i => [blk b68 33 [.int .i64 ((shE (tmL s (comL s t)) (dfL (evenL s x.Levels x.Shifts) (evenL t y.Levels y.Shifts) (comL s t)) time false i).Lo), .int .i64 ((shE (tmL s (comL s t)) (dfL (evenL s x.Levels x.Shifts) (evenL t y.Levels y.Shifts) (comL s t)) time false i).Hi)], blk b67 33 [.int .i64 ((shE (tmL s (comL s t)) (dfL (evenL s x.Levels x.Shifts) (evenL t y.Levels y.Shifts) (comL s t)) time true i).Lo), .int .i64 ((shE (tmL s (comL s t)) (dfL (evenL s x.Levels x.Shifts) (evenL t y.Levels y.Shifts) (comL s t)) time true i).Hi)], blk b34 33 [.int .i64 ((adjR t s time most).1.Lo), .int .i64 ((adjR t s time most).1.Hi)], blk b33 33 [.int .i64 ((adjR s t time most).1.Lo), .int .i64 ((adjR s t time most).1.Hi)], blk b28 52 [v19, v21], blk b27 52 [v13, v15], blk b26 25 [v7, v9], blk b25 25 [v1, v3]]) (fun i => [(4, .int .i64 (time)), (5, .int .i64 (most)), (13, .bool true), (14, .pointer (some ⟨b33, 0, none⟩)), (15, .int .i64 ((adjR s t time most).2)), (22, v61), (23, v63), (24, .pointer (some ⟨b67, 0, none⟩)), (25, .pointer (some ⟨b68, 0, none⟩)), (26, .int .i64 (↑i))]) (fun i => i ≤ (comL s t).length) 0 rfl (.refl _) (.cons rfl (.cons rfl (.cons rfl (.cons rfl (.cons rfl (.cons rfl (.cons rfl (.cons rfl (.cons rfl (.cons rfl .nil)))))))))) ?_ ?_
                          · exact Nat.zero_le _
                          · rintro i hF69
                            show WK _ _ m57 [blk b68 33 [.int .i64 ((shE (tmL s (comL s t)) (dfL (evenL s x.Levels x.Shifts) (evenL t y.Levels y.Shifts) (comL s t)) time false i).Lo), .int .i64 ((shE (tmL s (comL s t)) (dfL (evenL s x.Levels x.Shifts) (evenL t y.Levels y.Shifts) (comL s t)) time false i).Hi)], blk b67 33 [.int .i64 ((shE (tmL s (comL s t)) (dfL (evenL s x.Levels x.Shifts) (evenL t y.Levels y.Shifts) (comL s t)) time true i).Lo), .int .i64 ((shE (tmL s (comL s t)) (dfL (evenL s x.Levels x.Shifts) (evenL t y.Levels y.Shifts) (comL s t)) time true i).Hi)], blk b34 33 [.int .i64 ((adjR t s time most).1.Lo), .int .i64 ((adjR t s time most).1.Hi)], blk b33 33 [.int .i64 ((adjR s t time most).1.Lo), .int .i64 ((adjR s t time most).1.Hi)], blk b28 52 [v19, v21], blk b27 52 [v13, v15], blk b26 25 [v7, v9], blk b25 25 [v1, v3]] [(4, .int .i64 (time)), (5, .int .i64 (most)), (13, .bool true), (14, .pointer (some ⟨b33, 0, none⟩)), (15, .int .i64 ((adjR s t time most).2)), (22, v61), (23, v63), (24, .pointer (some ⟨b67, 0, none⟩)), (25, .pointer (some ⟨b68, 0, none⟩)), (26, .int .i64 (↑i))] _
                            replace hF69 : i ≤ (comL s t).length := hF69
                            have hi := hF69
                            have hab := shE_bd (T := tmL s (comL s t)) (time := time) (b := true) (n := i) (fun j hj => hdb j (by omega))
                            have hac := shE_bd (T := tmL s (comL s t)) (time := time) (b := false) (n := i) (fun j hj => hdb j (by omega))
                            refine WC.seq ?_
                            refine WC.seq ?_
                            refine WC.region ?_
                            refine WL.x (X.move rfl) (by decide) ?_
                            refine WL.x (X.move rfl) (by decide) ?_
                            refine WL.x (X.len Try.runUnderlying28 rfl hs64) (by decide) ?_
                            refine WL.cond (X.lss rfl rfl) (by decide) (fun h70 => ?_) (fun h70 => ?_)
                            · refine WL.nil ?_
                              refine WK.nThen ?_
                              refine WC.condT rfl ?_
                              refine WC.skip ?_
                              refine WK.nThen ?_
                              refine WC.seq ?_
                              refine WC.block ?_
                              refine WC.seq ?_
                              refine WC.region ?_
                              refine WL.x (X.move rfl) (by decide) ?_
                              refine WL.x (X.move rfl) (by decide) ?_
                              refine WL.xe (E.idxN i Try.runUnderlying28 Try.sizeOf3 rfl rfl hs62 (by omega)) (by decide) (fun p71 hp72 => ?_)
                              refine WL.x (X.loadInt Try.isAgg3 rfl hp72) (by decide) ?_
                              refine WL.x (X.move rfl) (by decide) ?_
                              refine WL.cond (X.lss rfl rfl) (by decide) (fun h73 => ?_) (fun h73 => ?_)
                              · refine WL.nil ?_
                                refine WK.nThen ?_
                                refine WC.condT rfl ?_
                                refine WC.draw (π := (.cons 0 (.cons 1 (.cons 2 (.cons 3 (.cons 4 (.cons 5 (.cons 6 (.cons 7 (.cons 8 (.cons 9 (.cons 10 (.cons 11 (.cons 12 (.cons 13 (.cons 14 (.cons 15 .done))))))))))))))))) [15] [15] rfl (by kernel_rfl) ?_
                                refine DW.x rfl rfl (X.field Try.runUnderlying33 rfl Try.sizeOf3 rfl) (by decide) ?_
                                refine DW.x rfl rfl (X.loadB (k := 1) Try.isAgg3 rfl rfl rfl) (by decide) ?_
                                refine DW.x rfl rfl (X.move rfl) (by decide) ?_
                                refine DW.x rfl rfl (X.move rfl) (by decide) ?_
                                refine DW.xe rfl rfl (E.idxN i Try.runUnderlying28 Try.sizeOf3 rfl rfl hs64 (by omega)) (by decide) (fun p74 hp75 => ?_)
                                refine DW.x rfl rfl (X.loadInt Try.isAgg3 rfl hp75) (by decide) ?_
                                refine DW.x rfl rfl (X.mn rfl rfl) (by decide) ?_
                                refine DW.x rfl rfl (X.field Try.runUnderlying33 rfl Try.sizeOf3 rfl) (by decide) ?_
                                refine DW.x rfl rfl (X.loadB (k := 1) Try.isAgg3 rfl rfl rfl) (by decide) ?_
                                refine DW.x rfl rfl (X.move rfl) (by decide) ?_
                                refine DW.x rfl rfl (X.move rfl) (by decide) ?_
                                refine DW.xe rfl rfl (E.idxN i Try.runUnderlying28 Try.sizeOf3 rfl rfl hs64 (by omega)) (by decide) (fun p76 hp77 => ?_)
                                refine DW.x rfl rfl (X.loadInt Try.isAgg3 rfl hp77) (by decide) ?_
                                refine DW.x rfl rfl (X.mx rfl rfl) (by decide) ?_
                                refine DW.x (V := Value.agg [.int .i64 (min ((shE (tmL s (comL s t)) (dfL (evenL s x.Levels x.Shifts) (evenL t y.Levels y.Shifts) (comL s t)) time true i).Lo) (gt (dfL ((evenL s x.Levels x.Shifts)) ((evenL t y.Levels y.Shifts)) (comL s t)) i)), .int .i64 (max ((shE (tmL s (comL s t)) (dfL (evenL s x.Levels x.Shifts) (evenL t y.Levels y.Shifts) (comL s t)) time true i).Hi) (gt (dfL ((evenL s x.Levels x.Shifts)) ((evenL t y.Levels y.Shifts)) (comL s t)) i))].toArray) rfl rfl (X.build Try.zeroValue33 Try.runUnderlying33 (places33 _ Try.underlying33) rfl rfl) (by decide) ?_
                                refine DW.ts rfl rfl rfl rfl (T.storeBA (k := 1) Try.sizeOf33 rfl rfl rfl (one_cons rfl (one_cons rfl one_nil)) rfl rfl) ?_
                                refine DW.nil ?_
                                refine WK.nBlock ?_
                                refine WK.nThen ?_
                                refine WC.region ?_
                                refine WL.x (X.move rfl) (by decide) ?_
                                refine WL.x (X.add rfl rfl (by omega) (by omega)) (by decide) ?_
                                refine WL.x (X.assign rfl) (by decide) ?_
                                refine WL.nil ?_
                                refine WK.nThen ?_
                                have hdc : decide (gt (tmL s (comL s t)) i < time) = true := decide_eq_true (by assumption)
                                have hq1 : (shE (tmL s (comL s t)) (dfL (evenL s x.Levels x.Shifts) (evenL t y.Levels y.Shifts) (comL s t)) time true (i + 1)).Lo = min (shE (tmL s (comL s t)) (dfL (evenL s x.Levels x.Shifts) (evenL t y.Levels y.Shifts) (comL s t)) time true i).Lo (gt (dfL (evenL s x.Levels x.Shifts) (evenL t y.Levels y.Shifts) (comL s t)) i) := (by rw [shE_yes hdc])
                                have hq2 : (shE (tmL s (comL s t)) (dfL (evenL s x.Levels x.Shifts) (evenL t y.Levels y.Shifts) (comL s t)) time true (i + 1)).Hi = max (shE (tmL s (comL s t)) (dfL (evenL s x.Levels x.Shifts) (evenL t y.Levels y.Shifts) (comL s t)) time true i).Hi (gt (dfL (evenL s x.Levels x.Shifts) (evenL t y.Levels y.Shifts) (comL s t)) i) := (by rw [shE_yes hdc])
                                have hq3 : shE (tmL s (comL s t)) (dfL (evenL s x.Levels x.Shifts) (evenL t y.Levels y.Shifts) (comL s t)) time false (i + 1) = shE (tmL s (comL s t)) (dfL (evenL s x.Levels x.Shifts) (evenL t y.Levels y.Shifts) (comL s t)) time false i := shE_no (by rw [hdc]; simp)
                                rw [← hq1, ← hq2, ← hq3]
                                refine WK.next (i + 1) rfl (.refl _) (.cons rfl (.cons rfl (.cons rfl (.cons rfl (.cons rfl (.cons rfl (.cons rfl (.cons rfl (.cons rfl (.cons rfl .nil)))))))))) ?_ ?_
                                · omega
                                · omega
                              · refine WL.nil ?_
                                refine WK.nThen ?_
                                refine WC.condF rfl ?_
                                refine WC.draw (π := (.cons 0 (.cons 1 (.cons 2 (.cons 3 (.cons 4 (.cons 5 (.cons 6 (.cons 7 (.cons 8 (.cons 9 (.cons 10 (.cons 11 (.cons 12 (.cons 13 (.cons 14 (.cons 15 .done))))))))))))))))) [15] [15] rfl (by kernel_rfl) ?_
                                refine DW.x rfl rfl (X.field Try.runUnderlying33 rfl Try.sizeOf3 rfl) (by decide) ?_
                                refine DW.x rfl rfl (X.loadB (k := 0) Try.isAgg3 rfl rfl rfl) (by decide) ?_
                                refine DW.x rfl rfl (X.move rfl) (by decide) ?_
                                refine DW.x rfl rfl (X.move rfl) (by decide) ?_
                                refine DW.xe rfl rfl (E.idxN i Try.runUnderlying28 Try.sizeOf3 rfl rfl hs64 (by omega)) (by decide) (fun p78 hp79 => ?_)
                                refine DW.x rfl rfl (X.loadInt Try.isAgg3 rfl hp79) (by decide) ?_
                                refine DW.x rfl rfl (X.mn rfl rfl) (by decide) ?_
                                refine DW.x rfl rfl (X.field Try.runUnderlying33 rfl Try.sizeOf3 rfl) (by decide) ?_
                                refine DW.x rfl rfl (X.loadB (k := 0) Try.isAgg3 rfl rfl rfl) (by decide) ?_
                                refine DW.x rfl rfl (X.move rfl) (by decide) ?_
                                refine DW.x rfl rfl (X.move rfl) (by decide) ?_
                                refine DW.xe rfl rfl (E.idxN i Try.runUnderlying28 Try.sizeOf3 rfl rfl hs64 (by omega)) (by decide) (fun p80 hp81 => ?_)
                                refine DW.x rfl rfl (X.loadInt Try.isAgg3 rfl hp81) (by decide) ?_
                                refine DW.x rfl rfl (X.mx rfl rfl) (by decide) ?_
                                refine DW.x (V := Value.agg [.int .i64 (min ((shE (tmL s (comL s t)) (dfL (evenL s x.Levels x.Shifts) (evenL t y.Levels y.Shifts) (comL s t)) time false i).Lo) (gt (dfL ((evenL s x.Levels x.Shifts)) ((evenL t y.Levels y.Shifts)) (comL s t)) i)), .int .i64 (max ((shE (tmL s (comL s t)) (dfL (evenL s x.Levels x.Shifts) (evenL t y.Levels y.Shifts) (comL s t)) time false i).Hi) (gt (dfL ((evenL s x.Levels x.Shifts)) ((evenL t y.Levels y.Shifts)) (comL s t)) i))].toArray) rfl rfl (X.build Try.zeroValue33 Try.runUnderlying33 (places33 _ Try.underlying33) rfl rfl) (by decide) ?_
                                refine DW.ts rfl rfl rfl rfl (T.storeBA (k := 0) Try.sizeOf33 rfl rfl rfl (one_cons rfl (one_cons rfl one_nil)) rfl rfl) ?_
                                refine DW.nil ?_
                                refine WK.nBlock ?_
                                refine WK.nThen ?_
                                refine WC.region ?_
                                refine WL.x (X.move rfl) (by decide) ?_
                                refine WL.x (X.add rfl rfl (by omega) (by omega)) (by decide) ?_
                                refine WL.x (X.assign rfl) (by decide) ?_
                                refine WL.nil ?_
                                refine WK.nThen ?_
                                have hdc : decide (gt (tmL s (comL s t)) i < time) = false := decide_eq_false (by assumption)
                                have hq1 : (shE (tmL s (comL s t)) (dfL (evenL s x.Levels x.Shifts) (evenL t y.Levels y.Shifts) (comL s t)) time false (i + 1)).Lo = min (shE (tmL s (comL s t)) (dfL (evenL s x.Levels x.Shifts) (evenL t y.Levels y.Shifts) (comL s t)) time false i).Lo (gt (dfL (evenL s x.Levels x.Shifts) (evenL t y.Levels y.Shifts) (comL s t)) i) := (by rw [shE_yes hdc])
                                have hq2 : (shE (tmL s (comL s t)) (dfL (evenL s x.Levels x.Shifts) (evenL t y.Levels y.Shifts) (comL s t)) time false (i + 1)).Hi = max (shE (tmL s (comL s t)) (dfL (evenL s x.Levels x.Shifts) (evenL t y.Levels y.Shifts) (comL s t)) time false i).Hi (gt (dfL (evenL s x.Levels x.Shifts) (evenL t y.Levels y.Shifts) (comL s t)) i) := (by rw [shE_yes hdc])
                                have hq3 : shE (tmL s (comL s t)) (dfL (evenL s x.Levels x.Shifts) (evenL t y.Levels y.Shifts) (comL s t)) time true (i + 1) = shE (tmL s (comL s t)) (dfL (evenL s x.Levels x.Shifts) (evenL t y.Levels y.Shifts) (comL s t)) time true i := shE_no (by rw [hdc]; simp)
                                rw [← hq1, ← hq2, ← hq3]
                                refine WK.next (i + 1) rfl (.refl _) (.cons rfl (.cons rfl (.cons rfl (.cons rfl (.cons rfl (.cons rfl (.cons rfl (.cons rfl (.cons rfl (.cons rfl .nil)))))))))) ?_ ?_
                                · omega
                                · omega
                            · refine WL.nil ?_
                              refine WK.nThen ?_
                              refine WC.condF rfl ?_
                              refine WC.exit ?_
                              refine WK.eThen ?_
                              refine WK.eThen ?_
                              refine WK.eHit ?_
                              refine WK.nThen ?_
                              refine WC.seq ?_
                              refine WC.seq ?_
                              have hin : (comL s t).length = i := (by omega)
                              have hn3 := sh_none hek hfk hrng hea hfa
                              have hh4 := sh_has hek hfk hrng hea hfa
                              rw [hin] at hn3 hh4
                              have hab := shE_bd (T := tmL s (comL s t)) (time := time) (b := true) (n := i) (fun j hj => hdb j (by omega))
                              have hac := shE_bd (T := tmL s (comL s t)) (time := time) (b := false) (n := i) (fun j hj => hdb j (by omega))
                              refine WC.region ?_
                              refine WL.x (X.field Try.runUnderlying33 rfl Try.sizeOf3 rfl) (by decide) ?_
                              refine WL.x (X.loadB (k := 1) Try.isAgg3 rfl rfl rfl) (by decide) ?_
                              refine WL.x (X.field Try.runUnderlying33 rfl Try.sizeOf3 rfl) (by decide) ?_
                              refine WL.x (X.loadB (k := 1) Try.isAgg3 rfl rfl rfl) (by decide) ?_
                              refine WL.cond (X.gtr rfl rfl) (by decide) (fun h82 => ?_) (fun h82 => ?_)
                              · refine WL.x (X.move rfl) (by decide) ?_
                                refine WL.no rfl rfl rfl (by decide) ?_
                                refine WL.no rfl rfl rfl (by decide) ?_
                                refine WL.no rfl rfl rfl (by decide) ?_
                                refine WL.no rfl rfl rfl (by decide) ?_
                                refine WL.no rfl rfl rfl (by decide) ?_
                                refine WL.x (X.pickT rfl rfl rfl) (by decide) ?_
                                refine WL.nil ?_
                                refine WK.nThen ?_
                                refine WC.condT rfl ?_
                                refine WC.seq ?_
                                refine WC.region ?_
                                refine WL.x (X.move rfl) (by decide) ?_
                                refine WL.x (X.move rfl) (by decide) ?_
                                refine WL.yes rfl rfl ?_
                                refine WL.x (X.move rfl) (by decide) ?_
                                refine WL.yes rfl rfl ?_
                                refine WL.x (X.eql rfl rfl) (by decide) ?_
                                refine WL.x (X.pickT rfl rfl rfl) (by decide) ?_
                                refine WL.x (X.assign rfl) (by decide) ?_
                                refine WL.nil ?_
                                refine WK.nThen ?_
                                refine WC.ret ?_
                                refine WK.rThen ?_
                                refine WK.ret1 rfl rfl (fun w' hw' => Ret.exact hw' ?_)
                                first | rfl | (exfalso; omega) | (exfalso; contradiction) | (exfalso; have q_ := ho (by omega); omega) | (exfalso; have q_ := hsw2 (by omega); omega) | (exfalso; have q_ := hn3 (by omega); omega) | (exfalso; have q_ := hh4 (by omega) (by omega) (by omega) (by omega); omega) | exact (bool_true (by have q_ := hh4 (by omega) (by omega) (by omega) (by omega); omega)).symm | exact (bool_true (hn3 (by omega))).symm | exact (bool_true (by omega)).symm
                              · refine WL.x (X.move rfl) (by decide) ?_
                                refine WL.yes rfl rfl ?_
                                refine WL.x (X.field Try.runUnderlying33 rfl Try.sizeOf3 rfl) (by decide) ?_
                                refine WL.yes rfl rfl ?_
                                refine WL.x (X.loadB (k := 0) Try.isAgg3 rfl rfl rfl) (by decide) ?_
                                refine WL.yes rfl rfl ?_
                                refine WL.x (X.field Try.runUnderlying33 rfl Try.sizeOf3 rfl) (by decide) ?_
                                refine WL.yes rfl rfl ?_
                                refine WL.x (X.loadB (k := 0) Try.isAgg3 rfl rfl rfl) (by decide) ?_
                                refine WL.yes rfl rfl ?_
                                refine WL.cond (X.gtr rfl rfl) (by decide) (fun h83 => ?_) (fun h83 => ?_)
                                · refine WL.x (X.pickF rfl rfl rfl) (by decide) ?_
                                  refine WL.nil ?_
                                  refine WK.nThen ?_
                                  refine WC.condT rfl ?_
                                  refine WC.seq ?_
                                  refine WC.region ?_
                                  refine WL.x (X.move rfl) (by decide) ?_
                                  refine WL.x (X.move rfl) (by decide) ?_
                                  refine WL.yes rfl rfl ?_
                                  refine WL.x (X.move rfl) (by decide) ?_
                                  refine WL.yes rfl rfl ?_
                                  refine WL.x (X.eql rfl rfl) (by decide) ?_
                                  refine WL.x (X.pickT rfl rfl rfl) (by decide) ?_
                                  refine WL.x (X.assign rfl) (by decide) ?_
                                  refine WL.nil ?_
                                  refine WK.nThen ?_
                                  refine WC.ret ?_
                                  refine WK.rThen ?_
                                  refine WK.ret1 rfl rfl (fun w' hw' => Ret.exact hw' ?_)
                                  first | rfl | (exfalso; omega) | (exfalso; contradiction) | (exfalso; have q_ := ho (by omega); omega) | (exfalso; have q_ := hsw2 (by omega); omega) | (exfalso; have q_ := hn3 (by omega); omega) | (exfalso; have q_ := hh4 (by omega) (by omega) (by omega) (by omega); omega) | exact (bool_true (by have q_ := hh4 (by omega) (by omega) (by omega) (by omega); omega)).symm | exact (bool_true (hn3 (by omega))).symm | exact (bool_true (by omega)).symm
                                · refine WL.x (X.pickF rfl rfl rfl) (by decide) ?_
                                  refine WL.nil ?_
                                  refine WK.nThen ?_
                                  refine WC.condF rfl ?_
                                  refine WC.skip ?_
                                  refine WK.nThen ?_
                                  refine WC.seq ?_
                                  refine WC.seq ?_
                                  refine WC.region ?_
                                  refine WL.x (X.field Try.runUnderlying33 rfl Try.sizeOf3 rfl) (by decide) ?_
                                  refine WL.x (X.loadB (k := 1) Try.isAgg3 rfl rfl rfl) (by decide) ?_
                                  refine WL.x (X.field Try.runUnderlying33 rfl Try.sizeOf3 rfl) (by decide) ?_
                                  refine WL.x (X.loadB (k := 1) Try.isAgg3 rfl rfl rfl) (by decide) ?_
                                  refine WL.x (X.sub rfl rfl (by omega) (by omega)) (by decide) ?_
                                  refine WL.x (X.move rfl) (by decide) ?_
                                  refine WL.cond (X.gtr rfl rfl) (by decide) (fun h84 => ?_) (fun h84 => ?_)
                                  · refine WL.x (X.move rfl) (by decide) ?_
                                    refine WL.no rfl rfl rfl (by decide) ?_
                                    refine WL.no rfl rfl rfl (by decide) ?_
                                    refine WL.no rfl rfl rfl (by decide) ?_
                                    refine WL.no rfl rfl rfl (by decide) ?_
                                    refine WL.no rfl rfl rfl (by decide) ?_
                                    refine WL.no rfl rfl rfl (by decide) ?_
                                    refine WL.no rfl rfl rfl (by decide) ?_
                                    refine WL.x (X.pickT rfl rfl rfl) (by decide) ?_
                                    refine WL.nil ?_
                                    refine WK.nThen ?_
                                    refine WC.condT rfl ?_
                                    refine WC.seq ?_
                                    refine WC.region ?_
                                    refine WL.x (X.move rfl) (by decide) ?_
                                    refine WL.x (X.assign rfl) (by decide) ?_
                                    refine WL.nil ?_
                                    refine WK.nThen ?_
                                    refine WC.ret ?_
                                    refine WK.rThen ?_
                                    refine WK.ret1 rfl rfl (fun w' hw' => Ret.exact hw' ?_)
                                    first | rfl | (exfalso; omega) | (exfalso; contradiction) | (exfalso; have q_ := ho (by omega); omega) | (exfalso; have q_ := hsw2 (by omega); omega) | (exfalso; have q_ := hn3 (by omega); omega) | (exfalso; have q_ := hh4 (by omega) (by omega) (by omega) (by omega); omega) | exact (bool_true (by have q_ := hh4 (by omega) (by omega) (by omega) (by omega); omega)).symm | exact (bool_true (hn3 (by omega))).symm | exact (bool_true (by omega)).symm
                                  · refine WL.x (X.move rfl) (by decide) ?_
                                    refine WL.yes rfl rfl ?_
                                    refine WL.x (X.field Try.runUnderlying33 rfl Try.sizeOf3 rfl) (by decide) ?_
                                    refine WL.yes rfl rfl ?_
                                    refine WL.x (X.loadB (k := 0) Try.isAgg3 rfl rfl rfl) (by decide) ?_
                                    refine WL.yes rfl rfl ?_
                                    refine WL.x (X.field Try.runUnderlying33 rfl Try.sizeOf3 rfl) (by decide) ?_
                                    refine WL.yes rfl rfl ?_
                                    refine WL.x (X.loadB (k := 0) Try.isAgg3 rfl rfl rfl) (by decide) ?_
                                    refine WL.yes rfl rfl ?_
                                    refine WL.x (X.sub rfl rfl (by omega) (by omega)) (by decide) ?_
                                    refine WL.yes rfl rfl ?_
                                    refine WL.x (X.move rfl) (by decide) ?_
                                    refine WL.yes rfl rfl ?_
                                    refine WL.cond (X.gtr rfl rfl) (by decide) (fun h85 => ?_) (fun h85 => ?_)
                                    · refine WL.x (X.pickF rfl rfl rfl) (by decide) ?_
                                      refine WL.nil ?_
                                      refine WK.nThen ?_
                                      refine WC.condT rfl ?_
                                      refine WC.seq ?_
                                      refine WC.region ?_
                                      refine WL.x (X.move rfl) (by decide) ?_
                                      refine WL.x (X.assign rfl) (by decide) ?_
                                      refine WL.nil ?_
                                      refine WK.nThen ?_
                                      refine WC.ret ?_
                                      refine WK.rThen ?_
                                      refine WK.ret1 rfl rfl (fun w' hw' => Ret.exact hw' ?_)
                                      first | rfl | (exfalso; omega) | (exfalso; contradiction) | (exfalso; have q_ := ho (by omega); omega) | (exfalso; have q_ := hsw2 (by omega); omega) | (exfalso; have q_ := hn3 (by omega); omega) | (exfalso; have q_ := hh4 (by omega) (by omega) (by omega) (by omega); omega) | exact (bool_true (by have q_ := hh4 (by omega) (by omega) (by omega) (by omega); omega)).symm | exact (bool_true (hn3 (by omega))).symm | exact (bool_true (by omega)).symm
                                    · refine WL.x (X.pickF rfl rfl rfl) (by decide) ?_
                                      refine WL.nil ?_
                                      refine WK.nThen ?_
                                      refine WC.condF rfl ?_
                                      refine WC.skip ?_
                                      refine WK.nThen ?_
                                      refine WC.seq ?_
                                      refine WC.region ?_
                                      refine WL.x (X.move rfl) (by decide) ?_
                                      refine WL.x (X.move rfl) (by decide) ?_
                                      refine WL.yes rfl rfl ?_
                                      refine WL.x (X.move rfl) (by decide) ?_
                                      refine WL.yes rfl rfl ?_
                                      refine WL.cond (X.eql rfl rfl) (by decide) (fun h86 => ?_) (fun h86 => ?_)
                                      · refine WL.x (X.pickT rfl rfl rfl) (by decide) ?_
                                        refine WL.x (X.move rfl) (by decide) ?_
                                        refine WL.yes rfl rfl ?_
                                        refine WL.x (X.field Try.runUnderlying33 rfl Try.sizeOf3 rfl) (by decide) ?_
                                        refine WL.yes rfl rfl ?_
                                        refine WL.x (X.loadB (k := 3) Try.isAgg3 rfl rfl rfl) (by decide) ?_
                                        refine WL.yes rfl rfl ?_
                                        refine WL.x (X.field Try.runUnderlying33 rfl Try.sizeOf3 rfl) (by decide) ?_
                                        refine WL.yes rfl rfl ?_
                                        refine WL.x (X.loadB (k := 0) Try.isAgg3 rfl rfl rfl) (by decide) ?_
                                        refine WL.yes rfl rfl ?_
                                        refine WL.x (X.field Try.runUnderlying33 rfl Try.sizeOf3 rfl) (by decide) ?_
                                        refine WL.yes rfl rfl ?_
                                        refine WL.x (X.loadB (k := 1) Try.isAgg3 rfl rfl rfl) (by decide) ?_
                                        refine WL.yes rfl rfl ?_
                                        refine WL.x (X.sub rfl rfl (by omega) (by omega)) (by decide) ?_
                                        refine WL.yes rfl rfl ?_
                                        refine WL.x (X.move rfl) (by decide) ?_
                                        refine WL.yes rfl rfl ?_
                                        refine WL.x (X.sub rfl rfl (by omega) (by omega)) (by decide) ?_
                                        refine WL.yes rfl rfl ?_
                                        refine WL.cond (X.leq rfl rfl) (by decide) (fun h87 => ?_) (fun h87 => ?_)
                                        · refine WL.x (X.pickT rfl rfl rfl) (by decide) ?_
                                          refine WL.x (X.move rfl) (by decide) ?_
                                          refine WL.yes rfl rfl ?_
                                          refine WL.x (X.field Try.runUnderlying33 rfl Try.sizeOf3 rfl) (by decide) ?_
                                          refine WL.yes rfl rfl ?_
                                          refine WL.x (X.loadB (k := 0) Try.isAgg3 rfl rfl rfl) (by decide) ?_
                                          refine WL.yes rfl rfl ?_
                                          refine WL.x (X.field Try.runUnderlying33 rfl Try.sizeOf3 rfl) (by decide) ?_
                                          refine WL.yes rfl rfl ?_
                                          refine WL.x (X.loadB (k := 1) Try.isAgg3 rfl rfl rfl) (by decide) ?_
                                          refine WL.yes rfl rfl ?_
                                          refine WL.x (X.sub rfl rfl (by omega) (by omega)) (by decide) ?_
                                          refine WL.yes rfl rfl ?_
                                          refine WL.x (X.move rfl) (by decide) ?_
                                          refine WL.yes rfl rfl ?_
                                          refine WL.x (X.add rfl rfl (by omega) (by omega)) (by decide) ?_
                                          refine WL.yes rfl rfl ?_
                                          refine WL.x (X.field Try.runUnderlying33 rfl Try.sizeOf3 rfl) (by decide) ?_
                                          refine WL.yes rfl rfl ?_
                                          refine WL.x (X.loadB (k := 3) Try.isAgg3 rfl rfl rfl) (by decide) ?_
                                          refine WL.yes rfl rfl ?_
                                          refine WL.x (X.leq rfl rfl) (by decide) ?_
                                          refine WL.x (X.pickT rfl rfl rfl) (by decide) ?_
                                          refine WL.x (X.assign rfl) (by decide) ?_
                                          refine WL.nil ?_
                                          refine WK.nThen ?_
                                          refine WC.ret ?_
                                          refine WK.ret1 rfl rfl (fun w' hw' => Ret.exact hw' ?_)
                                          first | rfl | (exfalso; omega) | (exfalso; contradiction) | (exfalso; have q_ := ho (by omega); omega) | (exfalso; have q_ := hsw2 (by omega); omega) | (exfalso; have q_ := hn3 (by omega); omega) | (exfalso; have q_ := hh4 (by omega) (by omega) (by omega) (by omega); omega) | exact (bool_true (by have q_ := hh4 (by omega) (by omega) (by omega) (by omega); omega)).symm | exact (bool_true (hn3 (by omega))).symm | exact (bool_true (by omega)).symm
                                        · refine WL.x (X.pickT rfl rfl rfl) (by decide) ?_
                                          refine WL.x (X.move rfl) (by decide) ?_
                                          refine WL.no rfl rfl rfl (by decide) ?_
                                          refine WL.no rfl rfl rfl (by decide) ?_
                                          refine WL.no rfl rfl rfl (by decide) ?_
                                          refine WL.no rfl rfl rfl (by decide) ?_
                                          refine WL.no rfl rfl rfl (by decide) ?_
                                          refine WL.no rfl rfl rfl (by decide) ?_
                                          refine WL.no rfl rfl rfl (by decide) ?_
                                          refine WL.no rfl rfl rfl (by decide) ?_
                                          refine WL.no rfl rfl rfl (by decide) ?_
                                          refine WL.no rfl rfl rfl (by decide) ?_
                                          refine WL.x (X.pickF rfl rfl rfl) (by decide) ?_
                                          refine WL.x (X.assign rfl) (by decide) ?_
                                          refine WL.nil ?_
                                          refine WK.nThen ?_
                                          refine WC.ret ?_
                                          refine WK.ret1 rfl rfl (fun w' hw' => Ret.exact hw' ?_)
                                          first | rfl | (exfalso; omega) | (exfalso; contradiction) | (exfalso; have q_ := ho (by omega); omega) | (exfalso; have q_ := hsw2 (by omega); omega) | (exfalso; have q_ := hn3 (by omega); omega) | (exfalso; have q_ := hh4 (by omega) (by omega) (by omega) (by omega); omega) | exact (bool_true (by have q_ := hh4 (by omega) (by omega) (by omega) (by omega); omega)).symm | exact (bool_true (hn3 (by omega))).symm | exact (bool_true (by omega)).symm
                                      · refine WL.x (X.pickT rfl rfl rfl) (by decide) ?_
                                        refine WL.x (X.move rfl) (by decide) ?_
                                        refine WL.no rfl rfl rfl (by decide) ?_
                                        refine WL.no rfl rfl rfl (by decide) ?_
                                        refine WL.no rfl rfl rfl (by decide) ?_
                                        refine WL.no rfl rfl rfl (by decide) ?_
                                        refine WL.no rfl rfl rfl (by decide) ?_
                                        refine WL.no rfl rfl rfl (by decide) ?_
                                        refine WL.no rfl rfl rfl (by decide) ?_
                                        refine WL.no rfl rfl rfl (by decide) ?_
                                        refine WL.no rfl rfl rfl (by decide) ?_
                                        refine WL.no rfl rfl rfl (by decide) ?_
                                        refine WL.x (X.pickF rfl rfl rfl) (by decide) ?_
                                        refine WL.x (X.move rfl) (by decide) ?_
                                        refine WL.no rfl rfl rfl (by decide) ?_
                                        refine WL.no rfl rfl rfl (by decide) ?_
                                        refine WL.no rfl rfl rfl (by decide) ?_
                                        refine WL.no rfl rfl rfl (by decide) ?_
                                        refine WL.no rfl rfl rfl (by decide) ?_
                                        refine WL.no rfl rfl rfl (by decide) ?_
                                        refine WL.no rfl rfl rfl (by decide) ?_
                                        refine WL.no rfl rfl rfl (by decide) ?_
                                        refine WL.no rfl rfl rfl (by decide) ?_
                                        refine WL.no rfl rfl rfl (by decide) ?_
                                        refine WL.x (X.pickF rfl rfl rfl) (by decide) ?_
                                        refine WL.x (X.assign rfl) (by decide) ?_
                                        refine WL.nil ?_
                                        refine WK.nThen ?_
                                        refine WC.ret ?_
                                        refine WK.ret1 rfl rfl (fun w' hw' => Ret.exact hw' ?_)
                                        first | rfl | (exfalso; omega) | (exfalso; contradiction) | (exfalso; have q_ := ho (by omega); omega) | (exfalso; have q_ := hsw2 (by omega); omega) | (exfalso; have q_ := hn3 (by omega); omega) | (exfalso; have q_ := hh4 (by omega) (by omega) (by omega) (by omega); omega) | exact (bool_true (by have q_ := hh4 (by omega) (by omega) (by omega) (by omega); omega)).symm | exact (bool_true (hn3 (by omega))).symm | exact (bool_true (by omega)).symm
                      · refine WL.yes rfl rfl ?_
                        refine WL.x (X.move rfl) (by decide) ?_
                        refine WL.no rfl rfl rfl (by decide) ?_
                        refine WL.no rfl rfl rfl (by decide) ?_
                        refine WL.yes rfl rfl ?_
                        refine WL.x (X.pickF rfl rfl rfl) (by decide) ?_
                        refine WL.x (X.pickF rfl rfl rfl) (by decide) ?_
                        refine WL.nil ?_
                        refine WK.nThen ?_
                        refine WC.condF rfl ?_
                        refine WC.skip ?_
                        refine WK.nThen ?_
                        refine WC.seq ?_
                        have he := evenR_ok (s := s) (lv := x.Levels) (sh := x.Shifts) (by omega)
                        have hek := he.1
                        have hea := he.2.1
                        have her : (evenR s x.Levels x.Shifts).1 = evenL s x.Levels x.Shifts := (by rw [he.2.2])
                        have hel := evenL_len s x.Levels x.Shifts
                        have heb := evenL_bd hek hea
                        have hen := hek.nV
                        have hf := evenR_ok (s := t) (lv := y.Levels) (sh := y.Shifts) (by omega)
                        have hfk := hf.1
                        have hfa := hf.2.1
                        have hfr : (evenR t y.Levels y.Shifts).1 = evenL t y.Levels y.Shifts := (by rw [hf.2.2])
                        have hfl := evenL_len t y.Levels y.Shifts
                        have hfb := evenL_bd hfk hfa
                        have hfn := hfk.nV
                        have hrng := adj_rng (s := s) (t := t) hek hfk (time := time) (most := most) (by omega)
                        have hcl := comL_len s t
                        have htl := tm_len s (comL s t)
                        have hdl := df_len (evenL s x.Levels x.Shifts) (evenL t y.Levels y.Shifts) (comL s t)
                        have hdb := fun i h => df_bd (s := s) (t := t) hek hea hfk hfa (i := i) h
                        rw [her] at hs44
                        rw [hfr] at hs51
                        refine WC.region ?_
                        refine WL.x (X.loadBA (k := 5) Try.isAgg25 Try.sizeOf25 rfl rfl rfl) (by decide) ?_
                        refine WL.x (X.loadBA (k := 4) Try.isAgg25 Try.sizeOf25 rfl rfl rfl) (by decide) ?_
                        refine WL.x (X.move rfl) (by decide) ?_
                        refine WL.x (X.move rfl) (by decide) ?_
                        refine WL.tm (T.call Try.call47 rfl (differences47 _ _ s ⟨_, _, rfl, hs2, hs4⟩ _ t ⟨_, _, rfl, hs8, hs10⟩ _ _ hs44 _ _ hs51 (by assumption) (by assumption) (by omega) (by omega) (by assumption) (by assumption))) (by decide) fun m88 r89 hle90 hR91 => ?_
                        obtain ⟨v92, v94, rfl, hs93, hs95⟩ := hR91
                        replace hs2 := hs2.mono hle90
                        replace hs4 := hs4.mono hle90
                        replace hs8 := hs8.mono hle90
                        replace hs10 := hs10.mono hle90
                        replace hs14 := hs14.mono hle90
                        replace hs16 := hs16.mono hle90
                        replace hs20 := hs20.mono hle90
                        replace hs22 := hs22.mono hle90
                        replace hs44 := hs44.mono hle90
                        replace hs51 := hs51.mono hle90
                        have hl96 := hs93.le
                        have hl97 := hs95.le
                        refine WL.x (X.move rfl) (by decide) ?_
                        refine WL.x (X.extract rfl rfl) (by decide) ?_
                        refine WL.x (X.extract rfl rfl) (by decide) ?_
                        refine WL.x (X.assign rfl) (by decide) ?_
                        refine WL.x (X.assign rfl) (by decide) ?_
                        refine WL.nil ?_
                        refine WK.nThen ?_
                        refine WC.seq ?_
                        refine WC.region ?_
                        refine WL.x (V := Value.agg [.int .i64 (1099511627776), .int .i64 (-1099511627776)].toArray) (X.build Try.zeroValue33 Try.runUnderlying33 (places33 _ Try.underlying33) rfl rfl) (by decide) ?_
                        refine WL.tn (T.alloc Try.zeroValue33 rfl) (by decide) fun b98 => ?_
                        refine WL.ts (T.storeBA (k := 0) Try.sizeOf33 rfl rfl rfl (one_cons rfl (one_cons rfl one_nil)) rfl rfl) ?_
                        refine WL.nil ?_
                        refine WK.nThen ?_
                        refine WC.seq ?_
                        refine WC.region ?_
                        refine WL.x (V := Value.agg [.int .i64 (1099511627776), .int .i64 (-1099511627776)].toArray) (X.build Try.zeroValue33 Try.runUnderlying33 (places33 _ Try.underlying33) rfl rfl) (by decide) ?_
                        refine WL.tn (T.alloc Try.zeroValue33 rfl) (by decide) fun b99 => ?_
                        refine WL.ts (T.storeBA (k := 0) Try.sizeOf33 rfl rfl rfl (one_cons rfl (one_cons rfl one_nil)) rfl rfl) ?_
                        refine WL.nil ?_
                        refine WK.nThen ?_
                        refine WC.seq ?_
                        refine WC.seq ?_
                        refine WC.region ?_
                        refine WL.x (X.assign rfl) (by decide) ?_
                        refine WL.nil ?_
                        refine WK.nThen ?_
                        refine WC.block ?_
                        refine WC.loop (G := Nat) (fun i => (comL s t).length - i) (fun i => m88) (fun i => [blk b99 33 [.int .i64 ((shE (tmL s (comL s t)) (dfL (evenL s x.Levels x.Shifts) (evenL t y.Levels y.Shifts) (comL s t)) time false i).Lo), .int .i64 ((shE (tmL s (comL s t)) (dfL (evenL s x.Levels x.Shifts) (evenL t y.Levels y.Shifts) (comL s t)) time false i).Hi)], blk b98 33 [.int .i64 ((shE (tmL s (comL s t)) (dfL (evenL s x.Levels x.Shifts) (evenL t y.Levels y.Shifts) (comL s t)) time true i).Lo), .int .i64 ((shE (tmL s (comL s t)) (dfL (evenL s x.Levels x.Shifts) (evenL t y.Levels y.Shifts) (comL s t)) time true i).Hi)], blk b34 33 [.int .i64 ((adjR t s time most).1.Lo), .int .i64 ((adjR t s time most).1.Hi)], blk b33 33 [.int .i64 ((adjR s t time most).1.Lo), .int .i64 ((adjR s t time most).1.Hi)], blk b28 52 [v19, v21], blk b27 52 [v13, v15], blk b26 25 [v7, v9], blk b25 25 [v1, v3]]) (fun i => [(4, .int .i64 (time)), (5, .int .i64 (most)), (13, .bool true), (14, .pointer (some ⟨b33, 0, none⟩)), (15, .int .i64 ((adjR s t time most).2)), (22, v92), (23, v94), (24, .pointer (some ⟨b98, 0, none⟩)), (25, .pointer (some ⟨b99, 0, none⟩)), (26, .int .i64 (↑i))]) (fun i => i ≤ (comL s t).length) 0 rfl (.refl _) (.cons rfl (.cons rfl (.cons rfl (.cons rfl (.cons rfl (.cons rfl (.cons rfl (.cons rfl (.cons rfl (.cons rfl .nil)))))))))) ?_ ?_
                        · exact Nat.zero_le _
                        · rintro i hF100
                          show WK _ _ m88 [blk b99 33 [.int .i64 ((shE (tmL s (comL s t)) (dfL (evenL s x.Levels x.Shifts) (evenL t y.Levels y.Shifts) (comL s t)) time false i).Lo), .int .i64 ((shE (tmL s (comL s t)) (dfL (evenL s x.Levels x.Shifts) (evenL t y.Levels y.Shifts) (comL s t)) time false i).Hi)], blk b98 33 [.int .i64 ((shE (tmL s (comL s t)) (dfL (evenL s x.Levels x.Shifts) (evenL t y.Levels y.Shifts) (comL s t)) time true i).Lo), .int .i64 ((shE (tmL s (comL s t)) (dfL (evenL s x.Levels x.Shifts) (evenL t y.Levels y.Shifts) (comL s t)) time true i).Hi)], blk b34 33 [.int .i64 ((adjR t s time most).1.Lo), .int .i64 ((adjR t s time most).1.Hi)], blk b33 33 [.int .i64 ((adjR s t time most).1.Lo), .int .i64 ((adjR s t time most).1.Hi)], blk b28 52 [v19, v21], blk b27 52 [v13, v15], blk b26 25 [v7, v9], blk b25 25 [v1, v3]] [(4, .int .i64 (time)), (5, .int .i64 (most)), (13, .bool true), (14, .pointer (some ⟨b33, 0, none⟩)), (15, .int .i64 ((adjR s t time most).2)), (22, v92), (23, v94), (24, .pointer (some ⟨b98, 0, none⟩)), (25, .pointer (some ⟨b99, 0, none⟩)), (26, .int .i64 (↑i))] _
                          replace hF100 : i ≤ (comL s t).length := hF100
                          have hi := hF100
                          have hab := shE_bd (T := tmL s (comL s t)) (time := time) (b := true) (n := i) (fun j hj => hdb j (by omega))
                          have hac := shE_bd (T := tmL s (comL s t)) (time := time) (b := false) (n := i) (fun j hj => hdb j (by omega))
                          refine WC.seq ?_
                          refine WC.seq ?_
                          refine WC.region ?_
                          refine WL.x (X.move rfl) (by decide) ?_
                          refine WL.x (X.move rfl) (by decide) ?_
                          refine WL.x (X.len Try.runUnderlying28 rfl hs95) (by decide) ?_
                          refine WL.cond (X.lss rfl rfl) (by decide) (fun h101 => ?_) (fun h101 => ?_)
                          · refine WL.nil ?_
                            refine WK.nThen ?_
                            refine WC.condT rfl ?_
                            refine WC.skip ?_
                            refine WK.nThen ?_
                            refine WC.seq ?_
                            refine WC.block ?_
                            refine WC.seq ?_
                            refine WC.region ?_
                            refine WL.x (X.move rfl) (by decide) ?_
                            refine WL.x (X.move rfl) (by decide) ?_
                            refine WL.xe (E.idxN i Try.runUnderlying28 Try.sizeOf3 rfl rfl hs93 (by omega)) (by decide) (fun p102 hp103 => ?_)
                            refine WL.x (X.loadInt Try.isAgg3 rfl hp103) (by decide) ?_
                            refine WL.x (X.move rfl) (by decide) ?_
                            refine WL.cond (X.lss rfl rfl) (by decide) (fun h104 => ?_) (fun h104 => ?_)
                            · refine WL.nil ?_
                              refine WK.nThen ?_
                              refine WC.condT rfl ?_
                              refine WC.draw (π := (.cons 0 (.cons 1 (.cons 2 (.cons 3 (.cons 4 (.cons 5 (.cons 6 (.cons 7 (.cons 8 (.cons 9 (.cons 10 (.cons 11 (.cons 12 (.cons 13 (.cons 14 (.cons 15 .done))))))))))))))))) [15] [15] rfl (by kernel_rfl) ?_
                              refine DW.x rfl rfl (X.field Try.runUnderlying33 rfl Try.sizeOf3 rfl) (by decide) ?_
                              refine DW.x rfl rfl (X.loadB (k := 1) Try.isAgg3 rfl rfl rfl) (by decide) ?_
                              refine DW.x rfl rfl (X.move rfl) (by decide) ?_
                              refine DW.x rfl rfl (X.move rfl) (by decide) ?_
                              refine DW.xe rfl rfl (E.idxN i Try.runUnderlying28 Try.sizeOf3 rfl rfl hs95 (by omega)) (by decide) (fun p105 hp106 => ?_)
                              refine DW.x rfl rfl (X.loadInt Try.isAgg3 rfl hp106) (by decide) ?_
                              refine DW.x rfl rfl (X.mn rfl rfl) (by decide) ?_
                              refine DW.x rfl rfl (X.field Try.runUnderlying33 rfl Try.sizeOf3 rfl) (by decide) ?_
                              refine DW.x rfl rfl (X.loadB (k := 1) Try.isAgg3 rfl rfl rfl) (by decide) ?_
                              refine DW.x rfl rfl (X.move rfl) (by decide) ?_
                              refine DW.x rfl rfl (X.move rfl) (by decide) ?_
                              refine DW.xe rfl rfl (E.idxN i Try.runUnderlying28 Try.sizeOf3 rfl rfl hs95 (by omega)) (by decide) (fun p107 hp108 => ?_)
                              refine DW.x rfl rfl (X.loadInt Try.isAgg3 rfl hp108) (by decide) ?_
                              refine DW.x rfl rfl (X.mx rfl rfl) (by decide) ?_
                              refine DW.x (V := Value.agg [.int .i64 (min ((shE (tmL s (comL s t)) (dfL (evenL s x.Levels x.Shifts) (evenL t y.Levels y.Shifts) (comL s t)) time true i).Lo) (gt (dfL ((evenL s x.Levels x.Shifts)) ((evenL t y.Levels y.Shifts)) (comL s t)) i)), .int .i64 (max ((shE (tmL s (comL s t)) (dfL (evenL s x.Levels x.Shifts) (evenL t y.Levels y.Shifts) (comL s t)) time true i).Hi) (gt (dfL ((evenL s x.Levels x.Shifts)) ((evenL t y.Levels y.Shifts)) (comL s t)) i))].toArray) rfl rfl (X.build Try.zeroValue33 Try.runUnderlying33 (places33 _ Try.underlying33) rfl rfl) (by decide) ?_
                              refine DW.ts rfl rfl rfl rfl (T.storeBA (k := 1) Try.sizeOf33 rfl rfl rfl (one_cons rfl (one_cons rfl one_nil)) rfl rfl) ?_
                              refine DW.nil ?_
                              refine WK.nBlock ?_
                              refine WK.nThen ?_
                              refine WC.region ?_
                              refine WL.x (X.move rfl) (by decide) ?_
                              refine WL.x (X.add rfl rfl (by omega) (by omega)) (by decide) ?_
                              refine WL.x (X.assign rfl) (by decide) ?_
                              refine WL.nil ?_
                              refine WK.nThen ?_
                              have hdc : decide (gt (tmL s (comL s t)) i < time) = true := decide_eq_true (by assumption)
                              have hq1 : (shE (tmL s (comL s t)) (dfL (evenL s x.Levels x.Shifts) (evenL t y.Levels y.Shifts) (comL s t)) time true (i + 1)).Lo = min (shE (tmL s (comL s t)) (dfL (evenL s x.Levels x.Shifts) (evenL t y.Levels y.Shifts) (comL s t)) time true i).Lo (gt (dfL (evenL s x.Levels x.Shifts) (evenL t y.Levels y.Shifts) (comL s t)) i) := (by rw [shE_yes hdc])
                              have hq2 : (shE (tmL s (comL s t)) (dfL (evenL s x.Levels x.Shifts) (evenL t y.Levels y.Shifts) (comL s t)) time true (i + 1)).Hi = max (shE (tmL s (comL s t)) (dfL (evenL s x.Levels x.Shifts) (evenL t y.Levels y.Shifts) (comL s t)) time true i).Hi (gt (dfL (evenL s x.Levels x.Shifts) (evenL t y.Levels y.Shifts) (comL s t)) i) := (by rw [shE_yes hdc])
                              have hq3 : shE (tmL s (comL s t)) (dfL (evenL s x.Levels x.Shifts) (evenL t y.Levels y.Shifts) (comL s t)) time false (i + 1) = shE (tmL s (comL s t)) (dfL (evenL s x.Levels x.Shifts) (evenL t y.Levels y.Shifts) (comL s t)) time false i := shE_no (by rw [hdc]; simp)
                              rw [← hq1, ← hq2, ← hq3]
                              refine WK.next (i + 1) rfl (.refl _) (.cons rfl (.cons rfl (.cons rfl (.cons rfl (.cons rfl (.cons rfl (.cons rfl (.cons rfl (.cons rfl (.cons rfl .nil)))))))))) ?_ ?_
                              · omega
                              · omega
                            · refine WL.nil ?_
                              refine WK.nThen ?_
                              refine WC.condF rfl ?_
                              refine WC.draw (π := (.cons 0 (.cons 1 (.cons 2 (.cons 3 (.cons 4 (.cons 5 (.cons 6 (.cons 7 (.cons 8 (.cons 9 (.cons 10 (.cons 11 (.cons 12 (.cons 13 (.cons 14 (.cons 15 .done))))))))))))))))) [15] [15] rfl (by kernel_rfl) ?_
                              refine DW.x rfl rfl (X.field Try.runUnderlying33 rfl Try.sizeOf3 rfl) (by decide) ?_
                              refine DW.x rfl rfl (X.loadB (k := 0) Try.isAgg3 rfl rfl rfl) (by decide) ?_
                              refine DW.x rfl rfl (X.move rfl) (by decide) ?_
                              refine DW.x rfl rfl (X.move rfl) (by decide) ?_
                              refine DW.xe rfl rfl (E.idxN i Try.runUnderlying28 Try.sizeOf3 rfl rfl hs95 (by omega)) (by decide) (fun p109 hp110 => ?_)
                              refine DW.x rfl rfl (X.loadInt Try.isAgg3 rfl hp110) (by decide) ?_
                              refine DW.x rfl rfl (X.mn rfl rfl) (by decide) ?_
                              refine DW.x rfl rfl (X.field Try.runUnderlying33 rfl Try.sizeOf3 rfl) (by decide) ?_
                              refine DW.x rfl rfl (X.loadB (k := 0) Try.isAgg3 rfl rfl rfl) (by decide) ?_
                              refine DW.x rfl rfl (X.move rfl) (by decide) ?_
                              refine DW.x rfl rfl (X.move rfl) (by decide) ?_
                              refine DW.xe rfl rfl (E.idxN i Try.runUnderlying28 Try.sizeOf3 rfl rfl hs95 (by omega)) (by decide) (fun p111 hp112 => ?_)
                              refine DW.x rfl rfl (X.loadInt Try.isAgg3 rfl hp112) (by decide) ?_
                              refine DW.x rfl rfl (X.mx rfl rfl) (by decide) ?_
                              refine DW.x (V := Value.agg [.int .i64 (min ((shE (tmL s (comL s t)) (dfL (evenL s x.Levels x.Shifts) (evenL t y.Levels y.Shifts) (comL s t)) time false i).Lo) (gt (dfL ((evenL s x.Levels x.Shifts)) ((evenL t y.Levels y.Shifts)) (comL s t)) i)), .int .i64 (max ((shE (tmL s (comL s t)) (dfL (evenL s x.Levels x.Shifts) (evenL t y.Levels y.Shifts) (comL s t)) time false i).Hi) (gt (dfL ((evenL s x.Levels x.Shifts)) ((evenL t y.Levels y.Shifts)) (comL s t)) i))].toArray) rfl rfl (X.build Try.zeroValue33 Try.runUnderlying33 (places33 _ Try.underlying33) rfl rfl) (by decide) ?_
                              refine DW.ts rfl rfl rfl rfl (T.storeBA (k := 0) Try.sizeOf33 rfl rfl rfl (one_cons rfl (one_cons rfl one_nil)) rfl rfl) ?_
                              refine DW.nil ?_
                              refine WK.nBlock ?_
                              refine WK.nThen ?_
                              refine WC.region ?_
                              refine WL.x (X.move rfl) (by decide) ?_
                              refine WL.x (X.add rfl rfl (by omega) (by omega)) (by decide) ?_
                              refine WL.x (X.assign rfl) (by decide) ?_
                              refine WL.nil ?_
                              refine WK.nThen ?_
                              have hdc : decide (gt (tmL s (comL s t)) i < time) = false := decide_eq_false (by assumption)
                              have hq1 : (shE (tmL s (comL s t)) (dfL (evenL s x.Levels x.Shifts) (evenL t y.Levels y.Shifts) (comL s t)) time false (i + 1)).Lo = min (shE (tmL s (comL s t)) (dfL (evenL s x.Levels x.Shifts) (evenL t y.Levels y.Shifts) (comL s t)) time false i).Lo (gt (dfL (evenL s x.Levels x.Shifts) (evenL t y.Levels y.Shifts) (comL s t)) i) := (by rw [shE_yes hdc])
                              have hq2 : (shE (tmL s (comL s t)) (dfL (evenL s x.Levels x.Shifts) (evenL t y.Levels y.Shifts) (comL s t)) time false (i + 1)).Hi = max (shE (tmL s (comL s t)) (dfL (evenL s x.Levels x.Shifts) (evenL t y.Levels y.Shifts) (comL s t)) time false i).Hi (gt (dfL (evenL s x.Levels x.Shifts) (evenL t y.Levels y.Shifts) (comL s t)) i) := (by rw [shE_yes hdc])
                              have hq3 : shE (tmL s (comL s t)) (dfL (evenL s x.Levels x.Shifts) (evenL t y.Levels y.Shifts) (comL s t)) time true (i + 1) = shE (tmL s (comL s t)) (dfL (evenL s x.Levels x.Shifts) (evenL t y.Levels y.Shifts) (comL s t)) time true i := shE_no (by rw [hdc]; simp)
                              rw [← hq1, ← hq2, ← hq3]
                              refine WK.next (i + 1) rfl (.refl _) (.cons rfl (.cons rfl (.cons rfl (.cons rfl (.cons rfl (.cons rfl (.cons rfl (.cons rfl (.cons rfl (.cons rfl .nil)))))))))) ?_ ?_
                              · omega
                              · omega
                          · refine WL.nil ?_
                            refine WK.nThen ?_
                            refine WC.condF rfl ?_
                            refine WC.exit ?_
                            refine WK.eThen ?_
                            refine WK.eThen ?_
                            refine WK.eHit ?_
                            refine WK.nThen ?_
                            refine WC.seq ?_
                            refine WC.seq ?_
                            have hin : (comL s t).length = i := (by omega)
                            have hn3 := sh_none hek hfk hrng hea hfa
                            have hh4 := sh_has hek hfk hrng hea hfa
                            rw [hin] at hn3 hh4
                            have hab := shE_bd (T := tmL s (comL s t)) (time := time) (b := true) (n := i) (fun j hj => hdb j (by omega))
                            have hac := shE_bd (T := tmL s (comL s t)) (time := time) (b := false) (n := i) (fun j hj => hdb j (by omega))
                            refine WC.region ?_
                            refine WL.x (X.field Try.runUnderlying33 rfl Try.sizeOf3 rfl) (by decide) ?_
                            refine WL.x (X.loadB (k := 1) Try.isAgg3 rfl rfl rfl) (by decide) ?_
                            refine WL.x (X.field Try.runUnderlying33 rfl Try.sizeOf3 rfl) (by decide) ?_
                            refine WL.x (X.loadB (k := 1) Try.isAgg3 rfl rfl rfl) (by decide) ?_
                            refine WL.cond (X.gtr rfl rfl) (by decide) (fun h113 => ?_) (fun h113 => ?_)
                            · refine WL.x (X.move rfl) (by decide) ?_
                              refine WL.no rfl rfl rfl (by decide) ?_
                              refine WL.no rfl rfl rfl (by decide) ?_
                              refine WL.no rfl rfl rfl (by decide) ?_
                              refine WL.no rfl rfl rfl (by decide) ?_
                              refine WL.no rfl rfl rfl (by decide) ?_
                              refine WL.x (X.pickT rfl rfl rfl) (by decide) ?_
                              refine WL.nil ?_
                              refine WK.nThen ?_
                              refine WC.condT rfl ?_
                              refine WC.seq ?_
                              refine WC.region ?_
                              refine WL.x (X.move rfl) (by decide) ?_
                              refine WL.x (X.move rfl) (by decide) ?_
                              refine WL.yes rfl rfl ?_
                              refine WL.x (X.move rfl) (by decide) ?_
                              refine WL.yes rfl rfl ?_
                              refine WL.x (X.eql rfl rfl) (by decide) ?_
                              refine WL.x (X.pickT rfl rfl rfl) (by decide) ?_
                              refine WL.x (X.assign rfl) (by decide) ?_
                              refine WL.nil ?_
                              refine WK.nThen ?_
                              refine WC.ret ?_
                              refine WK.rThen ?_
                              refine WK.ret1 rfl rfl (fun w' hw' => Ret.exact hw' ?_)
                              first | rfl | (exfalso; omega) | (exfalso; contradiction) | (exfalso; have q_ := ho (by omega); omega) | (exfalso; have q_ := hsw2 (by omega); omega) | (exfalso; have q_ := hn3 (by omega); omega) | (exfalso; have q_ := hh4 (by omega) (by omega) (by omega) (by omega); omega) | exact (bool_true (by have q_ := hh4 (by omega) (by omega) (by omega) (by omega); omega)).symm | exact (bool_true (hn3 (by omega))).symm | exact (bool_true (by omega)).symm
                            · refine WL.x (X.move rfl) (by decide) ?_
                              refine WL.yes rfl rfl ?_
                              refine WL.x (X.field Try.runUnderlying33 rfl Try.sizeOf3 rfl) (by decide) ?_
                              refine WL.yes rfl rfl ?_
                              refine WL.x (X.loadB (k := 0) Try.isAgg3 rfl rfl rfl) (by decide) ?_
                              refine WL.yes rfl rfl ?_
                              refine WL.x (X.field Try.runUnderlying33 rfl Try.sizeOf3 rfl) (by decide) ?_
                              refine WL.yes rfl rfl ?_
                              refine WL.x (X.loadB (k := 0) Try.isAgg3 rfl rfl rfl) (by decide) ?_
                              refine WL.yes rfl rfl ?_
                              refine WL.cond (X.gtr rfl rfl) (by decide) (fun h114 => ?_) (fun h114 => ?_)
                              · refine WL.x (X.pickF rfl rfl rfl) (by decide) ?_
                                refine WL.nil ?_
                                refine WK.nThen ?_
                                refine WC.condT rfl ?_
                                refine WC.seq ?_
                                refine WC.region ?_
                                refine WL.x (X.move rfl) (by decide) ?_
                                refine WL.x (X.move rfl) (by decide) ?_
                                refine WL.yes rfl rfl ?_
                                refine WL.x (X.move rfl) (by decide) ?_
                                refine WL.yes rfl rfl ?_
                                refine WL.x (X.eql rfl rfl) (by decide) ?_
                                refine WL.x (X.pickT rfl rfl rfl) (by decide) ?_
                                refine WL.x (X.assign rfl) (by decide) ?_
                                refine WL.nil ?_
                                refine WK.nThen ?_
                                refine WC.ret ?_
                                refine WK.rThen ?_
                                refine WK.ret1 rfl rfl (fun w' hw' => Ret.exact hw' ?_)
                                first | rfl | (exfalso; omega) | (exfalso; contradiction) | (exfalso; have q_ := ho (by omega); omega) | (exfalso; have q_ := hsw2 (by omega); omega) | (exfalso; have q_ := hn3 (by omega); omega) | (exfalso; have q_ := hh4 (by omega) (by omega) (by omega) (by omega); omega) | exact (bool_true (by have q_ := hh4 (by omega) (by omega) (by omega) (by omega); omega)).symm | exact (bool_true (hn3 (by omega))).symm | exact (bool_true (by omega)).symm
                              · refine WL.x (X.pickF rfl rfl rfl) (by decide) ?_
                                refine WL.nil ?_
                                refine WK.nThen ?_
                                refine WC.condF rfl ?_
                                refine WC.skip ?_
                                refine WK.nThen ?_
                                refine WC.seq ?_
                                refine WC.seq ?_
                                refine WC.region ?_
                                refine WL.x (X.field Try.runUnderlying33 rfl Try.sizeOf3 rfl) (by decide) ?_
                                refine WL.x (X.loadB (k := 1) Try.isAgg3 rfl rfl rfl) (by decide) ?_
                                refine WL.x (X.field Try.runUnderlying33 rfl Try.sizeOf3 rfl) (by decide) ?_
                                refine WL.x (X.loadB (k := 1) Try.isAgg3 rfl rfl rfl) (by decide) ?_
                                refine WL.x (X.sub rfl rfl (by omega) (by omega)) (by decide) ?_
                                refine WL.x (X.move rfl) (by decide) ?_
                                refine WL.cond (X.gtr rfl rfl) (by decide) (fun h115 => ?_) (fun h115 => ?_)
                                · refine WL.x (X.move rfl) (by decide) ?_
                                  refine WL.no rfl rfl rfl (by decide) ?_
                                  refine WL.no rfl rfl rfl (by decide) ?_
                                  refine WL.no rfl rfl rfl (by decide) ?_
                                  refine WL.no rfl rfl rfl (by decide) ?_
                                  refine WL.no rfl rfl rfl (by decide) ?_
                                  refine WL.no rfl rfl rfl (by decide) ?_
                                  refine WL.no rfl rfl rfl (by decide) ?_
                                  refine WL.x (X.pickT rfl rfl rfl) (by decide) ?_
                                  refine WL.nil ?_
                                  refine WK.nThen ?_
                                  refine WC.condT rfl ?_
                                  refine WC.seq ?_
                                  refine WC.region ?_
                                  refine WL.x (X.move rfl) (by decide) ?_
                                  refine WL.x (X.assign rfl) (by decide) ?_
                                  refine WL.nil ?_
                                  refine WK.nThen ?_
                                  refine WC.ret ?_
                                  refine WK.rThen ?_
                                  refine WK.ret1 rfl rfl (fun w' hw' => Ret.exact hw' ?_)
                                  first | rfl | (exfalso; omega) | (exfalso; contradiction) | (exfalso; have q_ := ho (by omega); omega) | (exfalso; have q_ := hsw2 (by omega); omega) | (exfalso; have q_ := hn3 (by omega); omega) | (exfalso; have q_ := hh4 (by omega) (by omega) (by omega) (by omega); omega) | exact (bool_true (by have q_ := hh4 (by omega) (by omega) (by omega) (by omega); omega)).symm | exact (bool_true (hn3 (by omega))).symm | exact (bool_true (by omega)).symm
                                · refine WL.x (X.move rfl) (by decide) ?_
                                  refine WL.yes rfl rfl ?_
                                  refine WL.x (X.field Try.runUnderlying33 rfl Try.sizeOf3 rfl) (by decide) ?_
                                  refine WL.yes rfl rfl ?_
                                  refine WL.x (X.loadB (k := 0) Try.isAgg3 rfl rfl rfl) (by decide) ?_
                                  refine WL.yes rfl rfl ?_
                                  refine WL.x (X.field Try.runUnderlying33 rfl Try.sizeOf3 rfl) (by decide) ?_
                                  refine WL.yes rfl rfl ?_
                                  refine WL.x (X.loadB (k := 0) Try.isAgg3 rfl rfl rfl) (by decide) ?_
                                  refine WL.yes rfl rfl ?_
                                  refine WL.x (X.sub rfl rfl (by omega) (by omega)) (by decide) ?_
                                  refine WL.yes rfl rfl ?_
                                  refine WL.x (X.move rfl) (by decide) ?_
                                  refine WL.yes rfl rfl ?_
                                  refine WL.cond (X.gtr rfl rfl) (by decide) (fun h116 => ?_) (fun h116 => ?_)
                                  · refine WL.x (X.pickF rfl rfl rfl) (by decide) ?_
                                    refine WL.nil ?_
                                    refine WK.nThen ?_
                                    refine WC.condT rfl ?_
                                    refine WC.seq ?_
                                    refine WC.region ?_
                                    refine WL.x (X.move rfl) (by decide) ?_
                                    refine WL.x (X.assign rfl) (by decide) ?_
                                    refine WL.nil ?_
                                    refine WK.nThen ?_
                                    refine WC.ret ?_
                                    refine WK.rThen ?_
                                    refine WK.ret1 rfl rfl (fun w' hw' => Ret.exact hw' ?_)
                                    first | rfl | (exfalso; omega) | (exfalso; contradiction) | (exfalso; have q_ := ho (by omega); omega) | (exfalso; have q_ := hsw2 (by omega); omega) | (exfalso; have q_ := hn3 (by omega); omega) | (exfalso; have q_ := hh4 (by omega) (by omega) (by omega) (by omega); omega) | exact (bool_true (by have q_ := hh4 (by omega) (by omega) (by omega) (by omega); omega)).symm | exact (bool_true (hn3 (by omega))).symm | exact (bool_true (by omega)).symm
                                  · refine WL.x (X.pickF rfl rfl rfl) (by decide) ?_
                                    refine WL.nil ?_
                                    refine WK.nThen ?_
                                    refine WC.condF rfl ?_
                                    refine WC.skip ?_
                                    refine WK.nThen ?_
                                    refine WC.seq ?_
                                    refine WC.region ?_
                                    refine WL.x (X.move rfl) (by decide) ?_
                                    refine WL.x (X.move rfl) (by decide) ?_
                                    refine WL.yes rfl rfl ?_
                                    refine WL.x (X.move rfl) (by decide) ?_
                                    refine WL.yes rfl rfl ?_
                                    refine WL.cond (X.eql rfl rfl) (by decide) (fun h117 => ?_) (fun h117 => ?_)
                                    · refine WL.x (X.pickT rfl rfl rfl) (by decide) ?_
                                      refine WL.x (X.move rfl) (by decide) ?_
                                      refine WL.yes rfl rfl ?_
                                      refine WL.x (X.field Try.runUnderlying33 rfl Try.sizeOf3 rfl) (by decide) ?_
                                      refine WL.yes rfl rfl ?_
                                      refine WL.x (X.loadB (k := 3) Try.isAgg3 rfl rfl rfl) (by decide) ?_
                                      refine WL.yes rfl rfl ?_
                                      refine WL.x (X.field Try.runUnderlying33 rfl Try.sizeOf3 rfl) (by decide) ?_
                                      refine WL.yes rfl rfl ?_
                                      refine WL.x (X.loadB (k := 0) Try.isAgg3 rfl rfl rfl) (by decide) ?_
                                      refine WL.yes rfl rfl ?_
                                      refine WL.x (X.field Try.runUnderlying33 rfl Try.sizeOf3 rfl) (by decide) ?_
                                      refine WL.yes rfl rfl ?_
                                      refine WL.x (X.loadB (k := 1) Try.isAgg3 rfl rfl rfl) (by decide) ?_
                                      refine WL.yes rfl rfl ?_
                                      refine WL.x (X.sub rfl rfl (by omega) (by omega)) (by decide) ?_
                                      refine WL.yes rfl rfl ?_
                                      refine WL.x (X.move rfl) (by decide) ?_
                                      refine WL.yes rfl rfl ?_
                                      refine WL.x (X.sub rfl rfl (by omega) (by omega)) (by decide) ?_
                                      refine WL.yes rfl rfl ?_
                                      refine WL.cond (X.leq rfl rfl) (by decide) (fun h118 => ?_) (fun h118 => ?_)
                                      · refine WL.x (X.pickT rfl rfl rfl) (by decide) ?_
                                        refine WL.x (X.move rfl) (by decide) ?_
                                        refine WL.yes rfl rfl ?_
                                        refine WL.x (X.field Try.runUnderlying33 rfl Try.sizeOf3 rfl) (by decide) ?_
                                        refine WL.yes rfl rfl ?_
                                        refine WL.x (X.loadB (k := 0) Try.isAgg3 rfl rfl rfl) (by decide) ?_
                                        refine WL.yes rfl rfl ?_
                                        refine WL.x (X.field Try.runUnderlying33 rfl Try.sizeOf3 rfl) (by decide) ?_
                                        refine WL.yes rfl rfl ?_
                                        refine WL.x (X.loadB (k := 1) Try.isAgg3 rfl rfl rfl) (by decide) ?_
                                        refine WL.yes rfl rfl ?_
                                        refine WL.x (X.sub rfl rfl (by omega) (by omega)) (by decide) ?_
                                        refine WL.yes rfl rfl ?_
                                        refine WL.x (X.move rfl) (by decide) ?_
                                        refine WL.yes rfl rfl ?_
                                        refine WL.x (X.add rfl rfl (by omega) (by omega)) (by decide) ?_
                                        refine WL.yes rfl rfl ?_
                                        refine WL.x (X.field Try.runUnderlying33 rfl Try.sizeOf3 rfl) (by decide) ?_
                                        refine WL.yes rfl rfl ?_
                                        refine WL.x (X.loadB (k := 3) Try.isAgg3 rfl rfl rfl) (by decide) ?_
                                        refine WL.yes rfl rfl ?_
                                        refine WL.x (X.leq rfl rfl) (by decide) ?_
                                        refine WL.x (X.pickT rfl rfl rfl) (by decide) ?_
                                        refine WL.x (X.assign rfl) (by decide) ?_
                                        refine WL.nil ?_
                                        refine WK.nThen ?_
                                        refine WC.ret ?_
                                        refine WK.ret1 rfl rfl (fun w' hw' => Ret.exact hw' ?_)
                                        first | rfl | (exfalso; omega) | (exfalso; contradiction) | (exfalso; have q_ := ho (by omega); omega) | (exfalso; have q_ := hsw2 (by omega); omega) | (exfalso; have q_ := hn3 (by omega); omega) | (exfalso; have q_ := hh4 (by omega) (by omega) (by omega) (by omega); omega) | exact (bool_true (by have q_ := hh4 (by omega) (by omega) (by omega) (by omega); omega)).symm | exact (bool_true (hn3 (by omega))).symm | exact (bool_true (by omega)).symm
                                      · refine WL.x (X.pickT rfl rfl rfl) (by decide) ?_
                                        refine WL.x (X.move rfl) (by decide) ?_
                                        refine WL.no rfl rfl rfl (by decide) ?_
                                        refine WL.no rfl rfl rfl (by decide) ?_
                                        refine WL.no rfl rfl rfl (by decide) ?_
                                        refine WL.no rfl rfl rfl (by decide) ?_
                                        refine WL.no rfl rfl rfl (by decide) ?_
                                        refine WL.no rfl rfl rfl (by decide) ?_
                                        refine WL.no rfl rfl rfl (by decide) ?_
                                        refine WL.no rfl rfl rfl (by decide) ?_
                                        refine WL.no rfl rfl rfl (by decide) ?_
                                        refine WL.no rfl rfl rfl (by decide) ?_
                                        refine WL.x (X.pickF rfl rfl rfl) (by decide) ?_
                                        refine WL.x (X.assign rfl) (by decide) ?_
                                        refine WL.nil ?_
                                        refine WK.nThen ?_
                                        refine WC.ret ?_
                                        refine WK.ret1 rfl rfl (fun w' hw' => Ret.exact hw' ?_)
                                        first | rfl | (exfalso; omega) | (exfalso; contradiction) | (exfalso; have q_ := ho (by omega); omega) | (exfalso; have q_ := hsw2 (by omega); omega) | (exfalso; have q_ := hn3 (by omega); omega) | (exfalso; have q_ := hh4 (by omega) (by omega) (by omega) (by omega); omega) | exact (bool_true (by have q_ := hh4 (by omega) (by omega) (by omega) (by omega); omega)).symm | exact (bool_true (hn3 (by omega))).symm | exact (bool_true (by omega)).symm
                                    · refine WL.x (X.pickT rfl rfl rfl) (by decide) ?_
                                      refine WL.x (X.move rfl) (by decide) ?_
                                      refine WL.no rfl rfl rfl (by decide) ?_
                                      refine WL.no rfl rfl rfl (by decide) ?_
                                      refine WL.no rfl rfl rfl (by decide) ?_
                                      refine WL.no rfl rfl rfl (by decide) ?_
                                      refine WL.no rfl rfl rfl (by decide) ?_
                                      refine WL.no rfl rfl rfl (by decide) ?_
                                      refine WL.no rfl rfl rfl (by decide) ?_
                                      refine WL.no rfl rfl rfl (by decide) ?_
                                      refine WL.no rfl rfl rfl (by decide) ?_
                                      refine WL.no rfl rfl rfl (by decide) ?_
                                      refine WL.x (X.pickF rfl rfl rfl) (by decide) ?_
                                      refine WL.x (X.move rfl) (by decide) ?_
                                      refine WL.no rfl rfl rfl (by decide) ?_
                                      refine WL.no rfl rfl rfl (by decide) ?_
                                      refine WL.no rfl rfl rfl (by decide) ?_
                                      refine WL.no rfl rfl rfl (by decide) ?_
                                      refine WL.no rfl rfl rfl (by decide) ?_
                                      refine WL.no rfl rfl rfl (by decide) ?_
                                      refine WL.no rfl rfl rfl (by decide) ?_
                                      refine WL.no rfl rfl rfl (by decide) ?_
                                      refine WL.no rfl rfl rfl (by decide) ?_
                                      refine WL.no rfl rfl rfl (by decide) ?_
                                      refine WL.x (X.pickF rfl rfl rfl) (by decide) ?_
                                      refine WL.x (X.assign rfl) (by decide) ?_
                                      refine WL.nil ?_
                                      refine WK.nThen ?_
                                      refine WC.ret ?_
                                      refine WK.ret1 rfl rfl (fun w' hw' => Ret.exact hw' ?_)
                                      first | rfl | (exfalso; omega) | (exfalso; contradiction) | (exfalso; have q_ := ho (by omega); omega) | (exfalso; have q_ := hsw2 (by omega); omega) | (exfalso; have q_ := hn3 (by omega); omega) | (exfalso; have q_ := hh4 (by omega) (by omega) (by omega) (by omega); omega) | exact (bool_true (by have q_ := hh4 (by omega) (by omega) (by omega) (by omega); omega)).symm | exact (bool_true (hn3 (by omega))).symm | exact (bool_true (by omega)).symm
          · refine WL.yes rfl rfl ?_
            refine WL.x (X.move rfl) (by decide) ?_
            refine WL.no rfl rfl rfl (by decide) ?_
            refine WL.no rfl rfl rfl (by decide) ?_
            refine WL.no rfl rfl rfl (by decide) ?_
            refine WL.no rfl rfl rfl (by decide) ?_
            refine WL.no rfl rfl rfl (by decide) ?_
            refine WL.no rfl rfl rfl (by decide) ?_
            refine WL.noU rfl rfl (by decide) ?_
            refine WL.noU rfl rfl (by decide) ?_
            refine WL.noU rfl rfl (by decide) ?_
            refine WL.noU rfl rfl (by decide) ?_
            refine WL.noU rfl rfl (by decide) ?_
            refine WL.noU rfl rfl (by decide) ?_
            refine WL.no rfl rfl rfl (by decide) ?_
            refine WL.no rfl rfl rfl (by decide) ?_
            refine WL.noU rfl rfl (by decide) ?_
            refine WL.noU rfl rfl (by decide) ?_
            refine WL.noU rfl rfl (by decide) ?_
            refine WL.noU rfl rfl (by decide) ?_
            refine WL.noU rfl rfl (by decide) ?_
            refine WL.noU rfl rfl (by decide) ?_
            refine WL.no rfl rfl rfl (by decide) ?_
            refine WL.yes rfl rfl ?_
            refine WL.x (X.pickF rfl rfl rfl) (by decide) ?_
            refine WL.x (X.pickF rfl rfl rfl) (by decide) ?_
            refine WL.nil ?_
            refine WK.nThen ?_
            refine WC.condF rfl ?_
            refine WC.skip ?_
            refine WK.nThen ?_
            refine WC.seq ?_
            refine WC.region ?_
            refine WL.x (X.loadBA (k := 5) Try.isAgg25 Try.sizeOf25 rfl rfl rfl) (by decide) ?_
            refine WL.x (X.field Try.runUnderlying52 rfl Try.sizeOf28 rfl) (by decide) ?_
            refine WL.x (X.loadB (k := 3) Try.isAgg28 rfl rfl rfl) (by decide) ?_
            refine WL.x (X.field Try.runUnderlying52 rfl Try.sizeOf28 rfl) (by decide) ?_
            refine WL.x (X.loadB (k := 3) Try.isAgg28 rfl rfl rfl) (by decide) ?_
            refine WL.tm (T.call Try.call39 rfl (even39 _ _ s ⟨_, _, rfl, hs2, hs4⟩ _ _ hs14 _ _ hs16 )) (by decide) fun m119 r120 hle121 hR122 => ?_
            obtain ⟨v123, rfl, hs124⟩ := hR122
            replace hs2 := hs2.mono hle121
            replace hs4 := hs4.mono hle121
            replace hs8 := hs8.mono hle121
            replace hs10 := hs10.mono hle121
            replace hs14 := hs14.mono hle121
            replace hs16 := hs16.mono hle121
            replace hs20 := hs20.mono hle121
            replace hs22 := hs22.mono hle121
            have hl125 := hs124.le
            refine WL.x (X.move rfl) (by decide) ?_
            refine WL.x (X.extract rfl rfl) (by decide) ?_
            refine WL.x (X.extract rfl rfl) (by decide) ?_
            refine WL.x (X.assign rfl) (by decide) ?_
            refine WL.x (X.assign rfl) (by decide) ?_
            refine WL.nil ?_
            refine WK.nThen ?_
            refine WC.seq ?_
            refine WC.region ?_
            refine WL.x (X.loadBA (k := 4) Try.isAgg25 Try.sizeOf25 rfl rfl rfl) (by decide) ?_
            refine WL.x (X.field Try.runUnderlying52 rfl Try.sizeOf28 rfl) (by decide) ?_
            refine WL.x (X.loadB (k := 2) Try.isAgg28 rfl rfl rfl) (by decide) ?_
            refine WL.x (X.field Try.runUnderlying52 rfl Try.sizeOf28 rfl) (by decide) ?_
            refine WL.x (X.loadB (k := 2) Try.isAgg28 rfl rfl rfl) (by decide) ?_
            refine WL.tm (T.call Try.call39 rfl (even39 _ _ t ⟨_, _, rfl, hs8, hs10⟩ _ _ hs20 _ _ hs22 )) (by decide) fun m126 r127 hle128 hR129 => ?_
            obtain ⟨v130, rfl, hs131⟩ := hR129
            replace hs2 := hs2.mono hle128
            replace hs4 := hs4.mono hle128
            replace hs8 := hs8.mono hle128
            replace hs10 := hs10.mono hle128
            replace hs14 := hs14.mono hle128
            replace hs16 := hs16.mono hle128
            replace hs20 := hs20.mono hle128
            replace hs22 := hs22.mono hle128
            replace hs124 := hs124.mono hle128
            have hl132 := hs131.le
            refine WL.x (X.move rfl) (by decide) ?_
            refine WL.x (X.extract rfl rfl) (by decide) ?_
            refine WL.x (X.extract rfl rfl) (by decide) ?_
            refine WL.x (X.assign rfl) (by decide) ?_
            refine WL.x (X.assign rfl) (by decide) ?_
            refine WL.nil ?_
            refine WK.nThen ?_
            refine WC.seq ?_
            refine WC.seq ?_
            refine WC.region ?_
            refine WL.x (X.move rfl) (by decide) ?_
            refine WL.condn (X.neq rfl rfl) (by decide) (fun h133 => ?_) (fun h133 => ?_)
            · refine WL.x (X.move rfl) (by decide) ?_
              refine WL.no rfl rfl rfl (by decide) ?_
              refine WL.no rfl rfl rfl (by decide) ?_
              refine WL.x (X.pickT rfl rfl rfl) (by decide) ?_
              refine WL.x (X.move rfl) (by decide) ?_
              refine WL.no rfl rfl rfl (by decide) ?_
              refine WL.no rfl rfl rfl (by decide) ?_
              refine WL.no rfl rfl rfl (by decide) ?_
              refine WL.noU rfl rfl (by decide) ?_
              refine WL.noU rfl rfl (by decide) ?_
              refine WL.no rfl rfl rfl (by decide) ?_
              refine WL.x (X.pickT rfl rfl rfl) (by decide) ?_
              refine WL.nil ?_
              refine WK.nThen ?_
              refine WC.condT rfl ?_
              refine WC.seq ?_
              refine WC.region ?_
              refine WL.x (X.move rfl) (by decide) ?_
              refine WL.x (X.assign rfl) (by decide) ?_
              refine WL.nil ?_
              refine WK.nThen ?_
              refine WC.ret ?_
              refine WK.rThen ?_
              refine WK.ret1 rfl rfl (fun w' hw' => Ret.exact hw' ?_)
              first | rfl | (exfalso; omega) | (exfalso; contradiction) | (exfalso; have q_ := ho (by omega); omega) | (exfalso; have q_ := hsw2 (by omega); omega) | (exfalso; have q_ := hn3 (by omega); omega) | (exfalso; have q_ := hh4 (by omega) (by omega) (by omega) (by omega); omega) | exact (bool_true (by have q_ := hh4 (by omega) (by omega) (by omega) (by omega); omega)).symm | exact (bool_true (hn3 (by omega))).symm | exact (bool_true (by omega)).symm
            · refine WL.x (X.move rfl) (by decide) ?_
              refine WL.yes rfl rfl ?_
              refine WL.x (X.move rfl) (by decide) ?_
              refine WL.yes rfl rfl ?_
              refine WL.condn (X.neq rfl rfl) (by decide) (fun h134 => ?_) (fun h134 => ?_)
              · refine WL.x (X.pickF rfl rfl rfl) (by decide) ?_
                refine WL.x (X.move rfl) (by decide) ?_
                refine WL.no rfl rfl rfl (by decide) ?_
                refine WL.no rfl rfl rfl (by decide) ?_
                refine WL.no rfl rfl rfl (by decide) ?_
                refine WL.noU rfl rfl (by decide) ?_
                refine WL.noU rfl rfl (by decide) ?_
                refine WL.no rfl rfl rfl (by decide) ?_
                refine WL.x (X.pickT rfl rfl rfl) (by decide) ?_
                refine WL.nil ?_
                refine WK.nThen ?_
                refine WC.condT rfl ?_
                refine WC.seq ?_
                refine WC.region ?_
                refine WL.x (X.move rfl) (by decide) ?_
                refine WL.x (X.assign rfl) (by decide) ?_
                refine WL.nil ?_
                refine WK.nThen ?_
                refine WC.ret ?_
                refine WK.rThen ?_
                refine WK.ret1 rfl rfl (fun w' hw' => Ret.exact hw' ?_)
                first | rfl | (exfalso; omega) | (exfalso; contradiction) | (exfalso; have q_ := ho (by omega); omega) | (exfalso; have q_ := hsw2 (by omega); omega) | (exfalso; have q_ := hn3 (by omega); omega) | (exfalso; have q_ := hh4 (by omega) (by omega) (by omega) (by omega); omega) | exact (bool_true (by have q_ := hh4 (by omega) (by omega) (by omega) (by omega); omega)).symm | exact (bool_true (hn3 (by omega))).symm | exact (bool_true (by omega)).symm
              · refine WL.x (X.pickF rfl rfl rfl) (by decide) ?_
                refine WL.x (X.move rfl) (by decide) ?_
                refine WL.yes rfl rfl ?_
                refine WL.x (X.move rfl) (by decide) ?_
                refine WL.yes rfl rfl ?_
                refine WL.condn (X.neq rfl rfl) (by decide) (fun h135 => ?_) (fun h135 => ?_)
                · refine WL.yes rfl rfl ?_
                  refine WL.x (X.move rfl) (by decide) ?_
                  refine WL.yes rfl rfl ?_
                  refine WL.x (X.move rfl) (by decide) ?_
                  refine WL.yes rfl rfl ?_
                  refine WL.condn (X.neq rfl rfl) (by decide) (fun h136 => ?_) (fun h136 => ?_)
                  · refine WL.yes rfl rfl ?_
                    refine WL.x (X.pickT rfl rfl rfl) (by decide) ?_
                    refine WL.x (X.pickF rfl rfl rfl) (by decide) ?_
                    refine WL.nil ?_
                    refine WK.nThen ?_
                    refine WC.condT rfl ?_
                    refine WC.seq ?_
                    refine WC.region ?_
                    refine WL.x (X.move rfl) (by decide) ?_
                    refine WL.x (X.assign rfl) (by decide) ?_
                    refine WL.nil ?_
                    refine WK.nThen ?_
                    refine WC.ret ?_
                    refine WK.rThen ?_
                    refine WK.ret1 rfl rfl (fun w' hw' => Ret.exact hw' ?_)
                    first | rfl | (exfalso; omega) | (exfalso; contradiction) | (exfalso; have q_ := ho (by omega); omega) | (exfalso; have q_ := hsw2 (by omega); omega) | (exfalso; have q_ := hn3 (by omega); omega) | (exfalso; have q_ := hh4 (by omega) (by omega) (by omega) (by omega); omega) | exact (bool_true (by have q_ := hh4 (by omega) (by omega) (by omega) (by omega); omega)).symm | exact (bool_true (hn3 (by omega))).symm | exact (bool_true (by omega)).symm
                  · refine WL.yes rfl rfl ?_
                    refine WL.x (X.pickT rfl rfl rfl) (by decide) ?_
                    refine WL.x (X.pickF rfl rfl rfl) (by decide) ?_
                    refine WL.nil ?_
                    refine WK.nThen ?_
                    refine WC.condF rfl ?_
                    refine WC.skip ?_
                    refine WK.nThen ?_
                    refine WC.seq ?_
                    have he := evenR_ok (s := s) (lv := x.Levels) (sh := x.Shifts) (by omega)
                    have hek := he.1
                    have hea := he.2.1
                    have her : (evenR s x.Levels x.Shifts).1 = evenL s x.Levels x.Shifts := (by rw [he.2.2])
                    have hel := evenL_len s x.Levels x.Shifts
                    have heb := evenL_bd hek hea
                    have hen := hek.nV
                    have hf := evenR_ok (s := t) (lv := y.Levels) (sh := y.Shifts) (by omega)
                    have hfk := hf.1
                    have hfa := hf.2.1
                    have hfr : (evenR t y.Levels y.Shifts).1 = evenL t y.Levels y.Shifts := (by rw [hf.2.2])
                    have hfl := evenL_len t y.Levels y.Shifts
                    have hfb := evenL_bd hfk hfa
                    have hfn := hfk.nV
                    have hrng := adj_rng (s := s) (t := t) hek hfk (time := time) (most := most) (by omega)
                    have hcl := comL_len s t
                    have htl := tm_len s (comL s t)
                    have hdl := df_len (evenL s x.Levels x.Shifts) (evenL t y.Levels y.Shifts) (comL s t)
                    have hdb := fun i h => df_bd (s := s) (t := t) hek hea hfk hfa (i := i) h
                    rw [her] at hs124
                    rw [hfr] at hs131
                    refine WC.region ?_
                    refine WL.x (X.loadBA (k := 5) Try.isAgg25 Try.sizeOf25 rfl rfl rfl) (by decide) ?_
                    refine WL.x (X.loadBA (k := 4) Try.isAgg25 Try.sizeOf25 rfl rfl rfl) (by decide) ?_
                    refine WL.x (X.move rfl) (by decide) ?_
                    refine WL.x (X.move rfl) (by decide) ?_
                    refine WL.tm (T.call Try.call47 rfl (differences47 _ _ s ⟨_, _, rfl, hs2, hs4⟩ _ t ⟨_, _, rfl, hs8, hs10⟩ _ _ hs124 _ _ hs131 (by assumption) (by assumption) (by omega) (by omega) (by assumption) (by assumption))) (by decide) fun m137 r138 hle139 hR140 => ?_
                    obtain ⟨v141, v143, rfl, hs142, hs144⟩ := hR140
                    replace hs2 := hs2.mono hle139
                    replace hs4 := hs4.mono hle139
                    replace hs8 := hs8.mono hle139
                    replace hs10 := hs10.mono hle139
                    replace hs14 := hs14.mono hle139
                    replace hs16 := hs16.mono hle139
                    replace hs20 := hs20.mono hle139
                    replace hs22 := hs22.mono hle139
                    replace hs124 := hs124.mono hle139
                    replace hs131 := hs131.mono hle139
                    have hl145 := hs142.le
                    have hl146 := hs144.le
                    refine WL.x (X.move rfl) (by decide) ?_
                    refine WL.x (X.extract rfl rfl) (by decide) ?_
                    refine WL.x (X.extract rfl rfl) (by decide) ?_
                    refine WL.x (X.assign rfl) (by decide) ?_
                    refine WL.x (X.assign rfl) (by decide) ?_
                    refine WL.nil ?_
                    refine WK.nThen ?_
                    refine WC.seq ?_
                    refine WC.region ?_
                    refine WL.x (V := Value.agg [.int .i64 (1099511627776), .int .i64 (-1099511627776)].toArray) (X.build Try.zeroValue33 Try.runUnderlying33 (places33 _ Try.underlying33) rfl rfl) (by decide) ?_
                    refine WL.tn (T.alloc Try.zeroValue33 rfl) (by decide) fun b147 => ?_
                    refine WL.ts (T.storeBA (k := 0) Try.sizeOf33 rfl rfl rfl (one_cons rfl (one_cons rfl one_nil)) rfl rfl) ?_
                    refine WL.nil ?_
                    refine WK.nThen ?_
                    refine WC.seq ?_
                    refine WC.region ?_
                    refine WL.x (V := Value.agg [.int .i64 (1099511627776), .int .i64 (-1099511627776)].toArray) (X.build Try.zeroValue33 Try.runUnderlying33 (places33 _ Try.underlying33) rfl rfl) (by decide) ?_
                    refine WL.tn (T.alloc Try.zeroValue33 rfl) (by decide) fun b148 => ?_
                    refine WL.ts (T.storeBA (k := 0) Try.sizeOf33 rfl rfl rfl (one_cons rfl (one_cons rfl one_nil)) rfl rfl) ?_
                    refine WL.nil ?_
                    refine WK.nThen ?_
                    refine WC.seq ?_
                    refine WC.seq ?_
                    refine WC.region ?_
                    refine WL.x (X.assign rfl) (by decide) ?_
                    refine WL.nil ?_
                    refine WK.nThen ?_
                    refine WC.block ?_
                    refine WC.loop (G := Nat) (fun i => (comL s t).length - i) (fun i => m137) (fun i => [blk b148 33 [.int .i64 ((shE (tmL s (comL s t)) (dfL (evenL s x.Levels x.Shifts) (evenL t y.Levels y.Shifts) (comL s t)) time false i).Lo), .int .i64 ((shE (tmL s (comL s t)) (dfL (evenL s x.Levels x.Shifts) (evenL t y.Levels y.Shifts) (comL s t)) time false i).Hi)], blk b147 33 [.int .i64 ((shE (tmL s (comL s t)) (dfL (evenL s x.Levels x.Shifts) (evenL t y.Levels y.Shifts) (comL s t)) time true i).Lo), .int .i64 ((shE (tmL s (comL s t)) (dfL (evenL s x.Levels x.Shifts) (evenL t y.Levels y.Shifts) (comL s t)) time true i).Hi)], blk b34 33 [.int .i64 ((adjR t s time most).1.Lo), .int .i64 ((adjR t s time most).1.Hi)], blk b33 33 [.int .i64 ((adjR s t time most).1.Lo), .int .i64 ((adjR s t time most).1.Hi)], blk b28 52 [v19, v21], blk b27 52 [v13, v15], blk b26 25 [v7, v9], blk b25 25 [v1, v3]]) (fun i => [(4, .int .i64 (time)), (5, .int .i64 (most)), (13, .bool true), (14, .pointer (some ⟨b33, 0, none⟩)), (15, .int .i64 ((adjR s t time most).2)), (22, v141), (23, v143), (24, .pointer (some ⟨b147, 0, none⟩)), (25, .pointer (some ⟨b148, 0, none⟩)), (26, .int .i64 (↑i))]) (fun i => i ≤ (comL s t).length) 0 rfl (.refl _) (.cons rfl (.cons rfl (.cons rfl (.cons rfl (.cons rfl (.cons rfl (.cons rfl (.cons rfl (.cons rfl (.cons rfl .nil)))))))))) ?_ ?_
                    · exact Nat.zero_le _
                    · rintro i hF149
                      show WK _ _ m137 [blk b148 33 [.int .i64 ((shE (tmL s (comL s t)) (dfL (evenL s x.Levels x.Shifts) (evenL t y.Levels y.Shifts) (comL s t)) time false i).Lo), .int .i64 ((shE (tmL s (comL s t)) (dfL (evenL s x.Levels x.Shifts) (evenL t y.Levels y.Shifts) (comL s t)) time false i).Hi)], blk b147 33 [.int .i64 ((shE (tmL s (comL s t)) (dfL (evenL s x.Levels x.Shifts) (evenL t y.Levels y.Shifts) (comL s t)) time true i).Lo), .int .i64 ((shE (tmL s (comL s t)) (dfL (evenL s x.Levels x.Shifts) (evenL t y.Levels y.Shifts) (comL s t)) time true i).Hi)], blk b34 33 [.int .i64 ((adjR t s time most).1.Lo), .int .i64 ((adjR t s time most).1.Hi)], blk b33 33 [.int .i64 ((adjR s t time most).1.Lo), .int .i64 ((adjR s t time most).1.Hi)], blk b28 52 [v19, v21], blk b27 52 [v13, v15], blk b26 25 [v7, v9], blk b25 25 [v1, v3]] [(4, .int .i64 (time)), (5, .int .i64 (most)), (13, .bool true), (14, .pointer (some ⟨b33, 0, none⟩)), (15, .int .i64 ((adjR s t time most).2)), (22, v141), (23, v143), (24, .pointer (some ⟨b147, 0, none⟩)), (25, .pointer (some ⟨b148, 0, none⟩)), (26, .int .i64 (↑i))] _
                      replace hF149 : i ≤ (comL s t).length := hF149
                      have hi := hF149
                      have hab := shE_bd (T := tmL s (comL s t)) (time := time) (b := true) (n := i) (fun j hj => hdb j (by omega))
                      have hac := shE_bd (T := tmL s (comL s t)) (time := time) (b := false) (n := i) (fun j hj => hdb j (by omega))
                      refine WC.seq ?_
                      refine WC.seq ?_
                      refine WC.region ?_
                      refine WL.x (X.move rfl) (by decide) ?_
                      refine WL.x (X.move rfl) (by decide) ?_
                      refine WL.x (X.len Try.runUnderlying28 rfl hs144) (by decide) ?_
                      refine WL.cond (X.lss rfl rfl) (by decide) (fun h150 => ?_) (fun h150 => ?_)
                      · refine WL.nil ?_
                        refine WK.nThen ?_
                        refine WC.condT rfl ?_
                        refine WC.skip ?_
                        refine WK.nThen ?_
                        refine WC.seq ?_
                        refine WC.block ?_
                        refine WC.seq ?_
                        refine WC.region ?_
                        refine WL.x (X.move rfl) (by decide) ?_
                        refine WL.x (X.move rfl) (by decide) ?_
                        refine WL.xe (E.idxN i Try.runUnderlying28 Try.sizeOf3 rfl rfl hs142 (by omega)) (by decide) (fun p151 hp152 => ?_)
                        refine WL.x (X.loadInt Try.isAgg3 rfl hp152) (by decide) ?_
                        refine WL.x (X.move rfl) (by decide) ?_
                        refine WL.cond (X.lss rfl rfl) (by decide) (fun h153 => ?_) (fun h153 => ?_)
                        · refine WL.nil ?_
                          refine WK.nThen ?_
                          refine WC.condT rfl ?_
                          refine WC.draw (π := (.cons 0 (.cons 1 (.cons 2 (.cons 3 (.cons 4 (.cons 5 (.cons 6 (.cons 7 (.cons 8 (.cons 9 (.cons 10 (.cons 11 (.cons 12 (.cons 13 (.cons 14 (.cons 15 .done))))))))))))))))) [15] [15] rfl (by kernel_rfl) ?_
                          refine DW.x rfl rfl (X.field Try.runUnderlying33 rfl Try.sizeOf3 rfl) (by decide) ?_
                          refine DW.x rfl rfl (X.loadB (k := 1) Try.isAgg3 rfl rfl rfl) (by decide) ?_
                          refine DW.x rfl rfl (X.move rfl) (by decide) ?_
                          refine DW.x rfl rfl (X.move rfl) (by decide) ?_
                          refine DW.xe rfl rfl (E.idxN i Try.runUnderlying28 Try.sizeOf3 rfl rfl hs144 (by omega)) (by decide) (fun p154 hp155 => ?_)
                          refine DW.x rfl rfl (X.loadInt Try.isAgg3 rfl hp155) (by decide) ?_
                          refine DW.x rfl rfl (X.mn rfl rfl) (by decide) ?_
                          refine DW.x rfl rfl (X.field Try.runUnderlying33 rfl Try.sizeOf3 rfl) (by decide) ?_
                          refine DW.x rfl rfl (X.loadB (k := 1) Try.isAgg3 rfl rfl rfl) (by decide) ?_
                          refine DW.x rfl rfl (X.move rfl) (by decide) ?_
                          refine DW.x rfl rfl (X.move rfl) (by decide) ?_
                          refine DW.xe rfl rfl (E.idxN i Try.runUnderlying28 Try.sizeOf3 rfl rfl hs144 (by omega)) (by decide) (fun p156 hp157 => ?_)
                          refine DW.x rfl rfl (X.loadInt Try.isAgg3 rfl hp157) (by decide) ?_
                          refine DW.x rfl rfl (X.mx rfl rfl) (by decide) ?_
                          refine DW.x (V := Value.agg [.int .i64 (min ((shE (tmL s (comL s t)) (dfL (evenL s x.Levels x.Shifts) (evenL t y.Levels y.Shifts) (comL s t)) time true i).Lo) (gt (dfL ((evenL s x.Levels x.Shifts)) ((evenL t y.Levels y.Shifts)) (comL s t)) i)), .int .i64 (max ((shE (tmL s (comL s t)) (dfL (evenL s x.Levels x.Shifts) (evenL t y.Levels y.Shifts) (comL s t)) time true i).Hi) (gt (dfL ((evenL s x.Levels x.Shifts)) ((evenL t y.Levels y.Shifts)) (comL s t)) i))].toArray) rfl rfl (X.build Try.zeroValue33 Try.runUnderlying33 (places33 _ Try.underlying33) rfl rfl) (by decide) ?_
                          refine DW.ts rfl rfl rfl rfl (T.storeBA (k := 1) Try.sizeOf33 rfl rfl rfl (one_cons rfl (one_cons rfl one_nil)) rfl rfl) ?_
                          refine DW.nil ?_
                          refine WK.nBlock ?_
                          refine WK.nThen ?_
                          refine WC.region ?_
                          refine WL.x (X.move rfl) (by decide) ?_
                          refine WL.x (X.add rfl rfl (by omega) (by omega)) (by decide) ?_
                          refine WL.x (X.assign rfl) (by decide) ?_
                          refine WL.nil ?_
                          refine WK.nThen ?_
                          have hdc : decide (gt (tmL s (comL s t)) i < time) = true := decide_eq_true (by assumption)
                          have hq1 : (shE (tmL s (comL s t)) (dfL (evenL s x.Levels x.Shifts) (evenL t y.Levels y.Shifts) (comL s t)) time true (i + 1)).Lo = min (shE (tmL s (comL s t)) (dfL (evenL s x.Levels x.Shifts) (evenL t y.Levels y.Shifts) (comL s t)) time true i).Lo (gt (dfL (evenL s x.Levels x.Shifts) (evenL t y.Levels y.Shifts) (comL s t)) i) := (by rw [shE_yes hdc])
                          have hq2 : (shE (tmL s (comL s t)) (dfL (evenL s x.Levels x.Shifts) (evenL t y.Levels y.Shifts) (comL s t)) time true (i + 1)).Hi = max (shE (tmL s (comL s t)) (dfL (evenL s x.Levels x.Shifts) (evenL t y.Levels y.Shifts) (comL s t)) time true i).Hi (gt (dfL (evenL s x.Levels x.Shifts) (evenL t y.Levels y.Shifts) (comL s t)) i) := (by rw [shE_yes hdc])
                          have hq3 : shE (tmL s (comL s t)) (dfL (evenL s x.Levels x.Shifts) (evenL t y.Levels y.Shifts) (comL s t)) time false (i + 1) = shE (tmL s (comL s t)) (dfL (evenL s x.Levels x.Shifts) (evenL t y.Levels y.Shifts) (comL s t)) time false i := shE_no (by rw [hdc]; simp)
                          rw [← hq1, ← hq2, ← hq3]
                          refine WK.next (i + 1) rfl (.refl _) (.cons rfl (.cons rfl (.cons rfl (.cons rfl (.cons rfl (.cons rfl (.cons rfl (.cons rfl (.cons rfl (.cons rfl .nil)))))))))) ?_ ?_
                          · omega
                          · omega
                        · refine WL.nil ?_
                          refine WK.nThen ?_
                          refine WC.condF rfl ?_
                          refine WC.draw (π := (.cons 0 (.cons 1 (.cons 2 (.cons 3 (.cons 4 (.cons 5 (.cons 6 (.cons 7 (.cons 8 (.cons 9 (.cons 10 (.cons 11 (.cons 12 (.cons 13 (.cons 14 (.cons 15 .done))))))))))))))))) [15] [15] rfl (by kernel_rfl) ?_
                          refine DW.x rfl rfl (X.field Try.runUnderlying33 rfl Try.sizeOf3 rfl) (by decide) ?_
                          refine DW.x rfl rfl (X.loadB (k := 0) Try.isAgg3 rfl rfl rfl) (by decide) ?_
                          refine DW.x rfl rfl (X.move rfl) (by decide) ?_
                          refine DW.x rfl rfl (X.move rfl) (by decide) ?_
                          refine DW.xe rfl rfl (E.idxN i Try.runUnderlying28 Try.sizeOf3 rfl rfl hs144 (by omega)) (by decide) (fun p158 hp159 => ?_)
                          refine DW.x rfl rfl (X.loadInt Try.isAgg3 rfl hp159) (by decide) ?_
                          refine DW.x rfl rfl (X.mn rfl rfl) (by decide) ?_
                          refine DW.x rfl rfl (X.field Try.runUnderlying33 rfl Try.sizeOf3 rfl) (by decide) ?_
                          refine DW.x rfl rfl (X.loadB (k := 0) Try.isAgg3 rfl rfl rfl) (by decide) ?_
                          refine DW.x rfl rfl (X.move rfl) (by decide) ?_
                          refine DW.x rfl rfl (X.move rfl) (by decide) ?_
                          refine DW.xe rfl rfl (E.idxN i Try.runUnderlying28 Try.sizeOf3 rfl rfl hs144 (by omega)) (by decide) (fun p160 hp161 => ?_)
                          refine DW.x rfl rfl (X.loadInt Try.isAgg3 rfl hp161) (by decide) ?_
                          refine DW.x rfl rfl (X.mx rfl rfl) (by decide) ?_
                          refine DW.x (V := Value.agg [.int .i64 (min ((shE (tmL s (comL s t)) (dfL (evenL s x.Levels x.Shifts) (evenL t y.Levels y.Shifts) (comL s t)) time false i).Lo) (gt (dfL ((evenL s x.Levels x.Shifts)) ((evenL t y.Levels y.Shifts)) (comL s t)) i)), .int .i64 (max ((shE (tmL s (comL s t)) (dfL (evenL s x.Levels x.Shifts) (evenL t y.Levels y.Shifts) (comL s t)) time false i).Hi) (gt (dfL ((evenL s x.Levels x.Shifts)) ((evenL t y.Levels y.Shifts)) (comL s t)) i))].toArray) rfl rfl (X.build Try.zeroValue33 Try.runUnderlying33 (places33 _ Try.underlying33) rfl rfl) (by decide) ?_
                          refine DW.ts rfl rfl rfl rfl (T.storeBA (k := 0) Try.sizeOf33 rfl rfl rfl (one_cons rfl (one_cons rfl one_nil)) rfl rfl) ?_
                          refine DW.nil ?_
                          refine WK.nBlock ?_
                          refine WK.nThen ?_
                          refine WC.region ?_
                          refine WL.x (X.move rfl) (by decide) ?_
                          refine WL.x (X.add rfl rfl (by omega) (by omega)) (by decide) ?_
                          refine WL.x (X.assign rfl) (by decide) ?_
                          refine WL.nil ?_
                          refine WK.nThen ?_
                          have hdc : decide (gt (tmL s (comL s t)) i < time) = false := decide_eq_false (by assumption)
                          have hq1 : (shE (tmL s (comL s t)) (dfL (evenL s x.Levels x.Shifts) (evenL t y.Levels y.Shifts) (comL s t)) time false (i + 1)).Lo = min (shE (tmL s (comL s t)) (dfL (evenL s x.Levels x.Shifts) (evenL t y.Levels y.Shifts) (comL s t)) time false i).Lo (gt (dfL (evenL s x.Levels x.Shifts) (evenL t y.Levels y.Shifts) (comL s t)) i) := (by rw [shE_yes hdc])
                          have hq2 : (shE (tmL s (comL s t)) (dfL (evenL s x.Levels x.Shifts) (evenL t y.Levels y.Shifts) (comL s t)) time false (i + 1)).Hi = max (shE (tmL s (comL s t)) (dfL (evenL s x.Levels x.Shifts) (evenL t y.Levels y.Shifts) (comL s t)) time false i).Hi (gt (dfL (evenL s x.Levels x.Shifts) (evenL t y.Levels y.Shifts) (comL s t)) i) := (by rw [shE_yes hdc])
                          have hq3 : shE (tmL s (comL s t)) (dfL (evenL s x.Levels x.Shifts) (evenL t y.Levels y.Shifts) (comL s t)) time true (i + 1) = shE (tmL s (comL s t)) (dfL (evenL s x.Levels x.Shifts) (evenL t y.Levels y.Shifts) (comL s t)) time true i := shE_no (by rw [hdc]; simp)
                          rw [← hq1, ← hq2, ← hq3]
                          refine WK.next (i + 1) rfl (.refl _) (.cons rfl (.cons rfl (.cons rfl (.cons rfl (.cons rfl (.cons rfl (.cons rfl (.cons rfl (.cons rfl (.cons rfl .nil)))))))))) ?_ ?_
                          · omega
                          · omega
                      · refine WL.nil ?_
                        refine WK.nThen ?_
                        refine WC.condF rfl ?_
                        refine WC.exit ?_
                        refine WK.eThen ?_
                        refine WK.eThen ?_
                        refine WK.eHit ?_
                        refine WK.nThen ?_
                        refine WC.seq ?_
                        refine WC.seq ?_
                        have hin : (comL s t).length = i := (by omega)
                        have hn3 := sh_none hek hfk hrng hea hfa
                        have hh4 := sh_has hek hfk hrng hea hfa
                        rw [hin] at hn3 hh4
                        have hab := shE_bd (T := tmL s (comL s t)) (time := time) (b := true) (n := i) (fun j hj => hdb j (by omega))
                        have hac := shE_bd (T := tmL s (comL s t)) (time := time) (b := false) (n := i) (fun j hj => hdb j (by omega))
                        refine WC.region ?_
                        refine WL.x (X.field Try.runUnderlying33 rfl Try.sizeOf3 rfl) (by decide) ?_
                        refine WL.x (X.loadB (k := 1) Try.isAgg3 rfl rfl rfl) (by decide) ?_
                        refine WL.x (X.field Try.runUnderlying33 rfl Try.sizeOf3 rfl) (by decide) ?_
                        refine WL.x (X.loadB (k := 1) Try.isAgg3 rfl rfl rfl) (by decide) ?_
                        refine WL.cond (X.gtr rfl rfl) (by decide) (fun h162 => ?_) (fun h162 => ?_)
                        · refine WL.x (X.move rfl) (by decide) ?_
                          refine WL.no rfl rfl rfl (by decide) ?_
                          refine WL.no rfl rfl rfl (by decide) ?_
                          refine WL.no rfl rfl rfl (by decide) ?_
                          refine WL.no rfl rfl rfl (by decide) ?_
                          refine WL.no rfl rfl rfl (by decide) ?_
                          refine WL.x (X.pickT rfl rfl rfl) (by decide) ?_
                          refine WL.nil ?_
                          refine WK.nThen ?_
                          refine WC.condT rfl ?_
                          refine WC.seq ?_
                          refine WC.region ?_
                          refine WL.x (X.move rfl) (by decide) ?_
                          refine WL.x (X.move rfl) (by decide) ?_
                          refine WL.yes rfl rfl ?_
                          refine WL.x (X.move rfl) (by decide) ?_
                          refine WL.yes rfl rfl ?_
                          refine WL.x (X.eql rfl rfl) (by decide) ?_
                          refine WL.x (X.pickT rfl rfl rfl) (by decide) ?_
                          refine WL.x (X.assign rfl) (by decide) ?_
                          refine WL.nil ?_
                          refine WK.nThen ?_
                          refine WC.ret ?_
                          refine WK.rThen ?_
                          refine WK.ret1 rfl rfl (fun w' hw' => Ret.exact hw' ?_)
                          first | rfl | (exfalso; omega) | (exfalso; contradiction) | (exfalso; have q_ := ho (by omega); omega) | (exfalso; have q_ := hsw2 (by omega); omega) | (exfalso; have q_ := hn3 (by omega); omega) | (exfalso; have q_ := hh4 (by omega) (by omega) (by omega) (by omega); omega) | exact (bool_true (by have q_ := hh4 (by omega) (by omega) (by omega) (by omega); omega)).symm | exact (bool_true (hn3 (by omega))).symm | exact (bool_true (by omega)).symm
                        · refine WL.x (X.move rfl) (by decide) ?_
                          refine WL.yes rfl rfl ?_
                          refine WL.x (X.field Try.runUnderlying33 rfl Try.sizeOf3 rfl) (by decide) ?_
                          refine WL.yes rfl rfl ?_
                          refine WL.x (X.loadB (k := 0) Try.isAgg3 rfl rfl rfl) (by decide) ?_
                          refine WL.yes rfl rfl ?_
                          refine WL.x (X.field Try.runUnderlying33 rfl Try.sizeOf3 rfl) (by decide) ?_
                          refine WL.yes rfl rfl ?_
                          refine WL.x (X.loadB (k := 0) Try.isAgg3 rfl rfl rfl) (by decide) ?_
                          refine WL.yes rfl rfl ?_
                          refine WL.cond (X.gtr rfl rfl) (by decide) (fun h163 => ?_) (fun h163 => ?_)
                          · refine WL.x (X.pickF rfl rfl rfl) (by decide) ?_
                            refine WL.nil ?_
                            refine WK.nThen ?_
                            refine WC.condT rfl ?_
                            refine WC.seq ?_
                            refine WC.region ?_
                            refine WL.x (X.move rfl) (by decide) ?_
                            refine WL.x (X.move rfl) (by decide) ?_
                            refine WL.yes rfl rfl ?_
                            refine WL.x (X.move rfl) (by decide) ?_
                            refine WL.yes rfl rfl ?_
                            refine WL.x (X.eql rfl rfl) (by decide) ?_
                            refine WL.x (X.pickT rfl rfl rfl) (by decide) ?_
                            refine WL.x (X.assign rfl) (by decide) ?_
                            refine WL.nil ?_
                            refine WK.nThen ?_
                            refine WC.ret ?_
                            refine WK.rThen ?_
                            refine WK.ret1 rfl rfl (fun w' hw' => Ret.exact hw' ?_)
                            first | rfl | (exfalso; omega) | (exfalso; contradiction) | (exfalso; have q_ := ho (by omega); omega) | (exfalso; have q_ := hsw2 (by omega); omega) | (exfalso; have q_ := hn3 (by omega); omega) | (exfalso; have q_ := hh4 (by omega) (by omega) (by omega) (by omega); omega) | exact (bool_true (by have q_ := hh4 (by omega) (by omega) (by omega) (by omega); omega)).symm | exact (bool_true (hn3 (by omega))).symm | exact (bool_true (by omega)).symm
                          · refine WL.x (X.pickF rfl rfl rfl) (by decide) ?_
                            refine WL.nil ?_
                            refine WK.nThen ?_
                            refine WC.condF rfl ?_
                            refine WC.skip ?_
                            refine WK.nThen ?_
                            refine WC.seq ?_
                            refine WC.seq ?_
                            refine WC.region ?_
                            refine WL.x (X.field Try.runUnderlying33 rfl Try.sizeOf3 rfl) (by decide) ?_
                            refine WL.x (X.loadB (k := 1) Try.isAgg3 rfl rfl rfl) (by decide) ?_
                            refine WL.x (X.field Try.runUnderlying33 rfl Try.sizeOf3 rfl) (by decide) ?_
                            refine WL.x (X.loadB (k := 1) Try.isAgg3 rfl rfl rfl) (by decide) ?_
                            refine WL.x (X.sub rfl rfl (by omega) (by omega)) (by decide) ?_
                            refine WL.x (X.move rfl) (by decide) ?_
                            refine WL.cond (X.gtr rfl rfl) (by decide) (fun h164 => ?_) (fun h164 => ?_)
                            · refine WL.x (X.move rfl) (by decide) ?_
                              refine WL.no rfl rfl rfl (by decide) ?_
                              refine WL.no rfl rfl rfl (by decide) ?_
                              refine WL.no rfl rfl rfl (by decide) ?_
                              refine WL.no rfl rfl rfl (by decide) ?_
                              refine WL.no rfl rfl rfl (by decide) ?_
                              refine WL.no rfl rfl rfl (by decide) ?_
                              refine WL.no rfl rfl rfl (by decide) ?_
                              refine WL.x (X.pickT rfl rfl rfl) (by decide) ?_
                              refine WL.nil ?_
                              refine WK.nThen ?_
                              refine WC.condT rfl ?_
                              refine WC.seq ?_
                              refine WC.region ?_
                              refine WL.x (X.move rfl) (by decide) ?_
                              refine WL.x (X.assign rfl) (by decide) ?_
                              refine WL.nil ?_
                              refine WK.nThen ?_
                              refine WC.ret ?_
                              refine WK.rThen ?_
                              refine WK.ret1 rfl rfl (fun w' hw' => Ret.exact hw' ?_)
                              first | rfl | (exfalso; omega) | (exfalso; contradiction) | (exfalso; have q_ := ho (by omega); omega) | (exfalso; have q_ := hsw2 (by omega); omega) | (exfalso; have q_ := hn3 (by omega); omega) | (exfalso; have q_ := hh4 (by omega) (by omega) (by omega) (by omega); omega) | exact (bool_true (by have q_ := hh4 (by omega) (by omega) (by omega) (by omega); omega)).symm | exact (bool_true (hn3 (by omega))).symm | exact (bool_true (by omega)).symm
                            · refine WL.x (X.move rfl) (by decide) ?_
                              refine WL.yes rfl rfl ?_
                              refine WL.x (X.field Try.runUnderlying33 rfl Try.sizeOf3 rfl) (by decide) ?_
                              refine WL.yes rfl rfl ?_
                              refine WL.x (X.loadB (k := 0) Try.isAgg3 rfl rfl rfl) (by decide) ?_
                              refine WL.yes rfl rfl ?_
                              refine WL.x (X.field Try.runUnderlying33 rfl Try.sizeOf3 rfl) (by decide) ?_
                              refine WL.yes rfl rfl ?_
                              refine WL.x (X.loadB (k := 0) Try.isAgg3 rfl rfl rfl) (by decide) ?_
                              refine WL.yes rfl rfl ?_
                              refine WL.x (X.sub rfl rfl (by omega) (by omega)) (by decide) ?_
                              refine WL.yes rfl rfl ?_
                              refine WL.x (X.move rfl) (by decide) ?_
                              refine WL.yes rfl rfl ?_
                              refine WL.cond (X.gtr rfl rfl) (by decide) (fun h165 => ?_) (fun h165 => ?_)
                              · refine WL.x (X.pickF rfl rfl rfl) (by decide) ?_
                                refine WL.nil ?_
                                refine WK.nThen ?_
                                refine WC.condT rfl ?_
                                refine WC.seq ?_
                                refine WC.region ?_
                                refine WL.x (X.move rfl) (by decide) ?_
                                refine WL.x (X.assign rfl) (by decide) ?_
                                refine WL.nil ?_
                                refine WK.nThen ?_
                                refine WC.ret ?_
                                refine WK.rThen ?_
                                refine WK.ret1 rfl rfl (fun w' hw' => Ret.exact hw' ?_)
                                first | rfl | (exfalso; omega) | (exfalso; contradiction) | (exfalso; have q_ := ho (by omega); omega) | (exfalso; have q_ := hsw2 (by omega); omega) | (exfalso; have q_ := hn3 (by omega); omega) | (exfalso; have q_ := hh4 (by omega) (by omega) (by omega) (by omega); omega) | exact (bool_true (by have q_ := hh4 (by omega) (by omega) (by omega) (by omega); omega)).symm | exact (bool_true (hn3 (by omega))).symm | exact (bool_true (by omega)).symm
                              · refine WL.x (X.pickF rfl rfl rfl) (by decide) ?_
                                refine WL.nil ?_
                                refine WK.nThen ?_
                                refine WC.condF rfl ?_
                                refine WC.skip ?_
                                refine WK.nThen ?_
                                refine WC.seq ?_
                                refine WC.region ?_
                                refine WL.x (X.move rfl) (by decide) ?_
                                refine WL.x (X.move rfl) (by decide) ?_
                                refine WL.yes rfl rfl ?_
                                refine WL.x (X.move rfl) (by decide) ?_
                                refine WL.yes rfl rfl ?_
                                refine WL.cond (X.eql rfl rfl) (by decide) (fun h166 => ?_) (fun h166 => ?_)
                                · refine WL.x (X.pickT rfl rfl rfl) (by decide) ?_
                                  refine WL.x (X.move rfl) (by decide) ?_
                                  refine WL.yes rfl rfl ?_
                                  refine WL.x (X.field Try.runUnderlying33 rfl Try.sizeOf3 rfl) (by decide) ?_
                                  refine WL.yes rfl rfl ?_
                                  refine WL.x (X.loadB (k := 3) Try.isAgg3 rfl rfl rfl) (by decide) ?_
                                  refine WL.yes rfl rfl ?_
                                  refine WL.x (X.field Try.runUnderlying33 rfl Try.sizeOf3 rfl) (by decide) ?_
                                  refine WL.yes rfl rfl ?_
                                  refine WL.x (X.loadB (k := 0) Try.isAgg3 rfl rfl rfl) (by decide) ?_
                                  refine WL.yes rfl rfl ?_
                                  refine WL.x (X.field Try.runUnderlying33 rfl Try.sizeOf3 rfl) (by decide) ?_
                                  refine WL.yes rfl rfl ?_
                                  refine WL.x (X.loadB (k := 1) Try.isAgg3 rfl rfl rfl) (by decide) ?_
                                  refine WL.yes rfl rfl ?_
                                  refine WL.x (X.sub rfl rfl (by omega) (by omega)) (by decide) ?_
                                  refine WL.yes rfl rfl ?_
                                  refine WL.x (X.move rfl) (by decide) ?_
                                  refine WL.yes rfl rfl ?_
                                  refine WL.x (X.sub rfl rfl (by omega) (by omega)) (by decide) ?_
                                  refine WL.yes rfl rfl ?_
                                  refine WL.cond (X.leq rfl rfl) (by decide) (fun h167 => ?_) (fun h167 => ?_)
                                  · refine WL.x (X.pickT rfl rfl rfl) (by decide) ?_
                                    refine WL.x (X.move rfl) (by decide) ?_
                                    refine WL.yes rfl rfl ?_
                                    refine WL.x (X.field Try.runUnderlying33 rfl Try.sizeOf3 rfl) (by decide) ?_
                                    refine WL.yes rfl rfl ?_
                                    refine WL.x (X.loadB (k := 0) Try.isAgg3 rfl rfl rfl) (by decide) ?_
                                    refine WL.yes rfl rfl ?_
                                    refine WL.x (X.field Try.runUnderlying33 rfl Try.sizeOf3 rfl) (by decide) ?_
                                    refine WL.yes rfl rfl ?_
                                    refine WL.x (X.loadB (k := 1) Try.isAgg3 rfl rfl rfl) (by decide) ?_
                                    refine WL.yes rfl rfl ?_
                                    refine WL.x (X.sub rfl rfl (by omega) (by omega)) (by decide) ?_
                                    refine WL.yes rfl rfl ?_
                                    refine WL.x (X.move rfl) (by decide) ?_
                                    refine WL.yes rfl rfl ?_
                                    refine WL.x (X.add rfl rfl (by omega) (by omega)) (by decide) ?_
                                    refine WL.yes rfl rfl ?_
                                    refine WL.x (X.field Try.runUnderlying33 rfl Try.sizeOf3 rfl) (by decide) ?_
                                    refine WL.yes rfl rfl ?_
                                    refine WL.x (X.loadB (k := 3) Try.isAgg3 rfl rfl rfl) (by decide) ?_
                                    refine WL.yes rfl rfl ?_
                                    refine WL.x (X.leq rfl rfl) (by decide) ?_
                                    refine WL.x (X.pickT rfl rfl rfl) (by decide) ?_
                                    refine WL.x (X.assign rfl) (by decide) ?_
                                    refine WL.nil ?_
                                    refine WK.nThen ?_
                                    refine WC.ret ?_
                                    refine WK.ret1 rfl rfl (fun w' hw' => Ret.exact hw' ?_)
                                    first | rfl | (exfalso; omega) | (exfalso; contradiction) | (exfalso; have q_ := ho (by omega); omega) | (exfalso; have q_ := hsw2 (by omega); omega) | (exfalso; have q_ := hn3 (by omega); omega) | (exfalso; have q_ := hh4 (by omega) (by omega) (by omega) (by omega); omega) | exact (bool_true (by have q_ := hh4 (by omega) (by omega) (by omega) (by omega); omega)).symm | exact (bool_true (hn3 (by omega))).symm | exact (bool_true (by omega)).symm
                                  · refine WL.x (X.pickT rfl rfl rfl) (by decide) ?_
                                    refine WL.x (X.move rfl) (by decide) ?_
                                    refine WL.no rfl rfl rfl (by decide) ?_
                                    refine WL.no rfl rfl rfl (by decide) ?_
                                    refine WL.no rfl rfl rfl (by decide) ?_
                                    refine WL.no rfl rfl rfl (by decide) ?_
                                    refine WL.no rfl rfl rfl (by decide) ?_
                                    refine WL.no rfl rfl rfl (by decide) ?_
                                    refine WL.no rfl rfl rfl (by decide) ?_
                                    refine WL.no rfl rfl rfl (by decide) ?_
                                    refine WL.no rfl rfl rfl (by decide) ?_
                                    refine WL.no rfl rfl rfl (by decide) ?_
                                    refine WL.x (X.pickF rfl rfl rfl) (by decide) ?_
                                    refine WL.x (X.assign rfl) (by decide) ?_
                                    refine WL.nil ?_
                                    refine WK.nThen ?_
                                    refine WC.ret ?_
                                    refine WK.ret1 rfl rfl (fun w' hw' => Ret.exact hw' ?_)
                                    first | rfl | (exfalso; omega) | (exfalso; contradiction) | (exfalso; have q_ := ho (by omega); omega) | (exfalso; have q_ := hsw2 (by omega); omega) | (exfalso; have q_ := hn3 (by omega); omega) | (exfalso; have q_ := hh4 (by omega) (by omega) (by omega) (by omega); omega) | exact (bool_true (by have q_ := hh4 (by omega) (by omega) (by omega) (by omega); omega)).symm | exact (bool_true (hn3 (by omega))).symm | exact (bool_true (by omega)).symm
                                · refine WL.x (X.pickT rfl rfl rfl) (by decide) ?_
                                  refine WL.x (X.move rfl) (by decide) ?_
                                  refine WL.no rfl rfl rfl (by decide) ?_
                                  refine WL.no rfl rfl rfl (by decide) ?_
                                  refine WL.no rfl rfl rfl (by decide) ?_
                                  refine WL.no rfl rfl rfl (by decide) ?_
                                  refine WL.no rfl rfl rfl (by decide) ?_
                                  refine WL.no rfl rfl rfl (by decide) ?_
                                  refine WL.no rfl rfl rfl (by decide) ?_
                                  refine WL.no rfl rfl rfl (by decide) ?_
                                  refine WL.no rfl rfl rfl (by decide) ?_
                                  refine WL.no rfl rfl rfl (by decide) ?_
                                  refine WL.x (X.pickF rfl rfl rfl) (by decide) ?_
                                  refine WL.x (X.move rfl) (by decide) ?_
                                  refine WL.no rfl rfl rfl (by decide) ?_
                                  refine WL.no rfl rfl rfl (by decide) ?_
                                  refine WL.no rfl rfl rfl (by decide) ?_
                                  refine WL.no rfl rfl rfl (by decide) ?_
                                  refine WL.no rfl rfl rfl (by decide) ?_
                                  refine WL.no rfl rfl rfl (by decide) ?_
                                  refine WL.no rfl rfl rfl (by decide) ?_
                                  refine WL.no rfl rfl rfl (by decide) ?_
                                  refine WL.no rfl rfl rfl (by decide) ?_
                                  refine WL.no rfl rfl rfl (by decide) ?_
                                  refine WL.x (X.pickF rfl rfl rfl) (by decide) ?_
                                  refine WL.x (X.assign rfl) (by decide) ?_
                                  refine WL.nil ?_
                                  refine WK.nThen ?_
                                  refine WC.ret ?_
                                  refine WK.ret1 rfl rfl (fun w' hw' => Ret.exact hw' ?_)
                                  first | rfl | (exfalso; omega) | (exfalso; contradiction) | (exfalso; have q_ := ho (by omega); omega) | (exfalso; have q_ := hsw2 (by omega); omega) | (exfalso; have q_ := hn3 (by omega); omega) | (exfalso; have q_ := hh4 (by omega) (by omega) (by omega) (by omega); omega) | exact (bool_true (by have q_ := hh4 (by omega) (by omega) (by omega) (by omega); omega)).symm | exact (bool_true (hn3 (by omega))).symm | exact (bool_true (by omega)).symm
                · refine WL.yes rfl rfl ?_
                  refine WL.x (X.move rfl) (by decide) ?_
                  refine WL.no rfl rfl rfl (by decide) ?_
                  refine WL.no rfl rfl rfl (by decide) ?_
                  refine WL.yes rfl rfl ?_
                  refine WL.x (X.pickF rfl rfl rfl) (by decide) ?_
                  refine WL.x (X.pickF rfl rfl rfl) (by decide) ?_
                  refine WL.nil ?_
                  refine WK.nThen ?_
                  refine WC.condF rfl ?_
                  refine WC.skip ?_
                  refine WK.nThen ?_
                  refine WC.seq ?_
                  have he := evenR_ok (s := s) (lv := x.Levels) (sh := x.Shifts) (by omega)
                  have hek := he.1
                  have hea := he.2.1
                  have her : (evenR s x.Levels x.Shifts).1 = evenL s x.Levels x.Shifts := (by rw [he.2.2])
                  have hel := evenL_len s x.Levels x.Shifts
                  have heb := evenL_bd hek hea
                  have hen := hek.nV
                  have hf := evenR_ok (s := t) (lv := y.Levels) (sh := y.Shifts) (by omega)
                  have hfk := hf.1
                  have hfa := hf.2.1
                  have hfr : (evenR t y.Levels y.Shifts).1 = evenL t y.Levels y.Shifts := (by rw [hf.2.2])
                  have hfl := evenL_len t y.Levels y.Shifts
                  have hfb := evenL_bd hfk hfa
                  have hfn := hfk.nV
                  have hrng := adj_rng (s := s) (t := t) hek hfk (time := time) (most := most) (by omega)
                  have hcl := comL_len s t
                  have htl := tm_len s (comL s t)
                  have hdl := df_len (evenL s x.Levels x.Shifts) (evenL t y.Levels y.Shifts) (comL s t)
                  have hdb := fun i h => df_bd (s := s) (t := t) hek hea hfk hfa (i := i) h
                  rw [her] at hs124
                  rw [hfr] at hs131
                  refine WC.region ?_
                  refine WL.x (X.loadBA (k := 5) Try.isAgg25 Try.sizeOf25 rfl rfl rfl) (by decide) ?_
                  refine WL.x (X.loadBA (k := 4) Try.isAgg25 Try.sizeOf25 rfl rfl rfl) (by decide) ?_
                  refine WL.x (X.move rfl) (by decide) ?_
                  refine WL.x (X.move rfl) (by decide) ?_
                  refine WL.tm (T.call Try.call47 rfl (differences47 _ _ s ⟨_, _, rfl, hs2, hs4⟩ _ t ⟨_, _, rfl, hs8, hs10⟩ _ _ hs124 _ _ hs131 (by assumption) (by assumption) (by omega) (by omega) (by assumption) (by assumption))) (by decide) fun m168 r169 hle170 hR171 => ?_
                  obtain ⟨v172, v174, rfl, hs173, hs175⟩ := hR171
                  replace hs2 := hs2.mono hle170
                  replace hs4 := hs4.mono hle170
                  replace hs8 := hs8.mono hle170
                  replace hs10 := hs10.mono hle170
                  replace hs14 := hs14.mono hle170
                  replace hs16 := hs16.mono hle170
                  replace hs20 := hs20.mono hle170
                  replace hs22 := hs22.mono hle170
                  replace hs124 := hs124.mono hle170
                  replace hs131 := hs131.mono hle170
                  have hl176 := hs173.le
                  have hl177 := hs175.le
                  refine WL.x (X.move rfl) (by decide) ?_
                  refine WL.x (X.extract rfl rfl) (by decide) ?_
                  refine WL.x (X.extract rfl rfl) (by decide) ?_
                  refine WL.x (X.assign rfl) (by decide) ?_
                  refine WL.x (X.assign rfl) (by decide) ?_
                  refine WL.nil ?_
                  refine WK.nThen ?_
                  refine WC.seq ?_
                  refine WC.region ?_
                  refine WL.x (V := Value.agg [.int .i64 (1099511627776), .int .i64 (-1099511627776)].toArray) (X.build Try.zeroValue33 Try.runUnderlying33 (places33 _ Try.underlying33) rfl rfl) (by decide) ?_
                  refine WL.tn (T.alloc Try.zeroValue33 rfl) (by decide) fun b178 => ?_
                  refine WL.ts (T.storeBA (k := 0) Try.sizeOf33 rfl rfl rfl (one_cons rfl (one_cons rfl one_nil)) rfl rfl) ?_
                  refine WL.nil ?_
                  refine WK.nThen ?_
                  refine WC.seq ?_
                  refine WC.region ?_
                  refine WL.x (V := Value.agg [.int .i64 (1099511627776), .int .i64 (-1099511627776)].toArray) (X.build Try.zeroValue33 Try.runUnderlying33 (places33 _ Try.underlying33) rfl rfl) (by decide) ?_
                  refine WL.tn (T.alloc Try.zeroValue33 rfl) (by decide) fun b179 => ?_
                  refine WL.ts (T.storeBA (k := 0) Try.sizeOf33 rfl rfl rfl (one_cons rfl (one_cons rfl one_nil)) rfl rfl) ?_
                  refine WL.nil ?_
                  refine WK.nThen ?_
                  refine WC.seq ?_
                  refine WC.seq ?_
                  refine WC.region ?_
                  refine WL.x (X.assign rfl) (by decide) ?_
                  refine WL.nil ?_
                  refine WK.nThen ?_
                  refine WC.block ?_
                  refine WC.loop (G := Nat) (fun i => (comL s t).length - i) (fun i => m168) (fun i => [blk b179 33 [.int .i64 ((shE (tmL s (comL s t)) (dfL (evenL s x.Levels x.Shifts) (evenL t y.Levels y.Shifts) (comL s t)) time false i).Lo), .int .i64 ((shE (tmL s (comL s t)) (dfL (evenL s x.Levels x.Shifts) (evenL t y.Levels y.Shifts) (comL s t)) time false i).Hi)], blk b178 33 [.int .i64 ((shE (tmL s (comL s t)) (dfL (evenL s x.Levels x.Shifts) (evenL t y.Levels y.Shifts) (comL s t)) time true i).Lo), .int .i64 ((shE (tmL s (comL s t)) (dfL (evenL s x.Levels x.Shifts) (evenL t y.Levels y.Shifts) (comL s t)) time true i).Hi)], blk b34 33 [.int .i64 ((adjR t s time most).1.Lo), .int .i64 ((adjR t s time most).1.Hi)], blk b33 33 [.int .i64 ((adjR s t time most).1.Lo), .int .i64 ((adjR s t time most).1.Hi)], blk b28 52 [v19, v21], blk b27 52 [v13, v15], blk b26 25 [v7, v9], blk b25 25 [v1, v3]]) (fun i => [(4, .int .i64 (time)), (5, .int .i64 (most)), (13, .bool true), (14, .pointer (some ⟨b33, 0, none⟩)), (15, .int .i64 ((adjR s t time most).2)), (22, v172), (23, v174), (24, .pointer (some ⟨b178, 0, none⟩)), (25, .pointer (some ⟨b179, 0, none⟩)), (26, .int .i64 (↑i))]) (fun i => i ≤ (comL s t).length) 0 rfl (.refl _) (.cons rfl (.cons rfl (.cons rfl (.cons rfl (.cons rfl (.cons rfl (.cons rfl (.cons rfl (.cons rfl (.cons rfl .nil)))))))))) ?_ ?_
                  · exact Nat.zero_le _
                  · rintro i hF180
                    show WK _ _ m168 [blk b179 33 [.int .i64 ((shE (tmL s (comL s t)) (dfL (evenL s x.Levels x.Shifts) (evenL t y.Levels y.Shifts) (comL s t)) time false i).Lo), .int .i64 ((shE (tmL s (comL s t)) (dfL (evenL s x.Levels x.Shifts) (evenL t y.Levels y.Shifts) (comL s t)) time false i).Hi)], blk b178 33 [.int .i64 ((shE (tmL s (comL s t)) (dfL (evenL s x.Levels x.Shifts) (evenL t y.Levels y.Shifts) (comL s t)) time true i).Lo), .int .i64 ((shE (tmL s (comL s t)) (dfL (evenL s x.Levels x.Shifts) (evenL t y.Levels y.Shifts) (comL s t)) time true i).Hi)], blk b34 33 [.int .i64 ((adjR t s time most).1.Lo), .int .i64 ((adjR t s time most).1.Hi)], blk b33 33 [.int .i64 ((adjR s t time most).1.Lo), .int .i64 ((adjR s t time most).1.Hi)], blk b28 52 [v19, v21], blk b27 52 [v13, v15], blk b26 25 [v7, v9], blk b25 25 [v1, v3]] [(4, .int .i64 (time)), (5, .int .i64 (most)), (13, .bool true), (14, .pointer (some ⟨b33, 0, none⟩)), (15, .int .i64 ((adjR s t time most).2)), (22, v172), (23, v174), (24, .pointer (some ⟨b178, 0, none⟩)), (25, .pointer (some ⟨b179, 0, none⟩)), (26, .int .i64 (↑i))] _
                    replace hF180 : i ≤ (comL s t).length := hF180
                    have hi := hF180
                    have hab := shE_bd (T := tmL s (comL s t)) (time := time) (b := true) (n := i) (fun j hj => hdb j (by omega))
                    have hac := shE_bd (T := tmL s (comL s t)) (time := time) (b := false) (n := i) (fun j hj => hdb j (by omega))
                    refine WC.seq ?_
                    refine WC.seq ?_
                    refine WC.region ?_
                    refine WL.x (X.move rfl) (by decide) ?_
                    refine WL.x (X.move rfl) (by decide) ?_
                    refine WL.x (X.len Try.runUnderlying28 rfl hs175) (by decide) ?_
                    refine WL.cond (X.lss rfl rfl) (by decide) (fun h181 => ?_) (fun h181 => ?_)
                    · refine WL.nil ?_
                      refine WK.nThen ?_
                      refine WC.condT rfl ?_
                      refine WC.skip ?_
                      refine WK.nThen ?_
                      refine WC.seq ?_
                      refine WC.block ?_
                      refine WC.seq ?_
                      refine WC.region ?_
                      refine WL.x (X.move rfl) (by decide) ?_
                      refine WL.x (X.move rfl) (by decide) ?_
                      refine WL.xe (E.idxN i Try.runUnderlying28 Try.sizeOf3 rfl rfl hs173 (by omega)) (by decide) (fun p182 hp183 => ?_)
                      refine WL.x (X.loadInt Try.isAgg3 rfl hp183) (by decide) ?_
                      refine WL.x (X.move rfl) (by decide) ?_
                      refine WL.cond (X.lss rfl rfl) (by decide) (fun h184 => ?_) (fun h184 => ?_)
                      · refine WL.nil ?_
                        refine WK.nThen ?_
                        refine WC.condT rfl ?_
                        refine WC.draw (π := (.cons 0 (.cons 1 (.cons 2 (.cons 3 (.cons 4 (.cons 5 (.cons 6 (.cons 7 (.cons 8 (.cons 9 (.cons 10 (.cons 11 (.cons 12 (.cons 13 (.cons 14 (.cons 15 .done))))))))))))))))) [15] [15] rfl (by kernel_rfl) ?_
                        refine DW.x rfl rfl (X.field Try.runUnderlying33 rfl Try.sizeOf3 rfl) (by decide) ?_
                        refine DW.x rfl rfl (X.loadB (k := 1) Try.isAgg3 rfl rfl rfl) (by decide) ?_
                        refine DW.x rfl rfl (X.move rfl) (by decide) ?_
                        refine DW.x rfl rfl (X.move rfl) (by decide) ?_
                        refine DW.xe rfl rfl (E.idxN i Try.runUnderlying28 Try.sizeOf3 rfl rfl hs175 (by omega)) (by decide) (fun p185 hp186 => ?_)
                        refine DW.x rfl rfl (X.loadInt Try.isAgg3 rfl hp186) (by decide) ?_
                        refine DW.x rfl rfl (X.mn rfl rfl) (by decide) ?_
                        refine DW.x rfl rfl (X.field Try.runUnderlying33 rfl Try.sizeOf3 rfl) (by decide) ?_
                        refine DW.x rfl rfl (X.loadB (k := 1) Try.isAgg3 rfl rfl rfl) (by decide) ?_
                        refine DW.x rfl rfl (X.move rfl) (by decide) ?_
                        refine DW.x rfl rfl (X.move rfl) (by decide) ?_
                        refine DW.xe rfl rfl (E.idxN i Try.runUnderlying28 Try.sizeOf3 rfl rfl hs175 (by omega)) (by decide) (fun p187 hp188 => ?_)
                        refine DW.x rfl rfl (X.loadInt Try.isAgg3 rfl hp188) (by decide) ?_
                        refine DW.x rfl rfl (X.mx rfl rfl) (by decide) ?_
                        refine DW.x (V := Value.agg [.int .i64 (min ((shE (tmL s (comL s t)) (dfL (evenL s x.Levels x.Shifts) (evenL t y.Levels y.Shifts) (comL s t)) time true i).Lo) (gt (dfL ((evenL s x.Levels x.Shifts)) ((evenL t y.Levels y.Shifts)) (comL s t)) i)), .int .i64 (max ((shE (tmL s (comL s t)) (dfL (evenL s x.Levels x.Shifts) (evenL t y.Levels y.Shifts) (comL s t)) time true i).Hi) (gt (dfL ((evenL s x.Levels x.Shifts)) ((evenL t y.Levels y.Shifts)) (comL s t)) i))].toArray) rfl rfl (X.build Try.zeroValue33 Try.runUnderlying33 (places33 _ Try.underlying33) rfl rfl) (by decide) ?_
                        refine DW.ts rfl rfl rfl rfl (T.storeBA (k := 1) Try.sizeOf33 rfl rfl rfl (one_cons rfl (one_cons rfl one_nil)) rfl rfl) ?_
                        refine DW.nil ?_
                        refine WK.nBlock ?_
                        refine WK.nThen ?_
                        refine WC.region ?_
                        refine WL.x (X.move rfl) (by decide) ?_
                        refine WL.x (X.add rfl rfl (by omega) (by omega)) (by decide) ?_
                        refine WL.x (X.assign rfl) (by decide) ?_
                        refine WL.nil ?_
                        refine WK.nThen ?_
                        have hdc : decide (gt (tmL s (comL s t)) i < time) = true := decide_eq_true (by assumption)
                        have hq1 : (shE (tmL s (comL s t)) (dfL (evenL s x.Levels x.Shifts) (evenL t y.Levels y.Shifts) (comL s t)) time true (i + 1)).Lo = min (shE (tmL s (comL s t)) (dfL (evenL s x.Levels x.Shifts) (evenL t y.Levels y.Shifts) (comL s t)) time true i).Lo (gt (dfL (evenL s x.Levels x.Shifts) (evenL t y.Levels y.Shifts) (comL s t)) i) := (by rw [shE_yes hdc])
                        have hq2 : (shE (tmL s (comL s t)) (dfL (evenL s x.Levels x.Shifts) (evenL t y.Levels y.Shifts) (comL s t)) time true (i + 1)).Hi = max (shE (tmL s (comL s t)) (dfL (evenL s x.Levels x.Shifts) (evenL t y.Levels y.Shifts) (comL s t)) time true i).Hi (gt (dfL (evenL s x.Levels x.Shifts) (evenL t y.Levels y.Shifts) (comL s t)) i) := (by rw [shE_yes hdc])
                        have hq3 : shE (tmL s (comL s t)) (dfL (evenL s x.Levels x.Shifts) (evenL t y.Levels y.Shifts) (comL s t)) time false (i + 1) = shE (tmL s (comL s t)) (dfL (evenL s x.Levels x.Shifts) (evenL t y.Levels y.Shifts) (comL s t)) time false i := shE_no (by rw [hdc]; simp)
                        rw [← hq1, ← hq2, ← hq3]
                        refine WK.next (i + 1) rfl (.refl _) (.cons rfl (.cons rfl (.cons rfl (.cons rfl (.cons rfl (.cons rfl (.cons rfl (.cons rfl (.cons rfl (.cons rfl .nil)))))))))) ?_ ?_
                        · omega
                        · omega
                      · refine WL.nil ?_
                        refine WK.nThen ?_
                        refine WC.condF rfl ?_
                        refine WC.draw (π := (.cons 0 (.cons 1 (.cons 2 (.cons 3 (.cons 4 (.cons 5 (.cons 6 (.cons 7 (.cons 8 (.cons 9 (.cons 10 (.cons 11 (.cons 12 (.cons 13 (.cons 14 (.cons 15 .done))))))))))))))))) [15] [15] rfl (by kernel_rfl) ?_
                        refine DW.x rfl rfl (X.field Try.runUnderlying33 rfl Try.sizeOf3 rfl) (by decide) ?_
                        refine DW.x rfl rfl (X.loadB (k := 0) Try.isAgg3 rfl rfl rfl) (by decide) ?_
                        refine DW.x rfl rfl (X.move rfl) (by decide) ?_
                        refine DW.x rfl rfl (X.move rfl) (by decide) ?_
                        refine DW.xe rfl rfl (E.idxN i Try.runUnderlying28 Try.sizeOf3 rfl rfl hs175 (by omega)) (by decide) (fun p189 hp190 => ?_)
                        refine DW.x rfl rfl (X.loadInt Try.isAgg3 rfl hp190) (by decide) ?_
                        refine DW.x rfl rfl (X.mn rfl rfl) (by decide) ?_
                        refine DW.x rfl rfl (X.field Try.runUnderlying33 rfl Try.sizeOf3 rfl) (by decide) ?_
                        refine DW.x rfl rfl (X.loadB (k := 0) Try.isAgg3 rfl rfl rfl) (by decide) ?_
                        refine DW.x rfl rfl (X.move rfl) (by decide) ?_
                        refine DW.x rfl rfl (X.move rfl) (by decide) ?_
                        refine DW.xe rfl rfl (E.idxN i Try.runUnderlying28 Try.sizeOf3 rfl rfl hs175 (by omega)) (by decide) (fun p191 hp192 => ?_)
                        refine DW.x rfl rfl (X.loadInt Try.isAgg3 rfl hp192) (by decide) ?_
                        refine DW.x rfl rfl (X.mx rfl rfl) (by decide) ?_
                        refine DW.x (V := Value.agg [.int .i64 (min ((shE (tmL s (comL s t)) (dfL (evenL s x.Levels x.Shifts) (evenL t y.Levels y.Shifts) (comL s t)) time false i).Lo) (gt (dfL ((evenL s x.Levels x.Shifts)) ((evenL t y.Levels y.Shifts)) (comL s t)) i)), .int .i64 (max ((shE (tmL s (comL s t)) (dfL (evenL s x.Levels x.Shifts) (evenL t y.Levels y.Shifts) (comL s t)) time false i).Hi) (gt (dfL ((evenL s x.Levels x.Shifts)) ((evenL t y.Levels y.Shifts)) (comL s t)) i))].toArray) rfl rfl (X.build Try.zeroValue33 Try.runUnderlying33 (places33 _ Try.underlying33) rfl rfl) (by decide) ?_
                        refine DW.ts rfl rfl rfl rfl (T.storeBA (k := 0) Try.sizeOf33 rfl rfl rfl (one_cons rfl (one_cons rfl one_nil)) rfl rfl) ?_
                        refine DW.nil ?_
                        refine WK.nBlock ?_
                        refine WK.nThen ?_
                        refine WC.region ?_
                        refine WL.x (X.move rfl) (by decide) ?_
                        refine WL.x (X.add rfl rfl (by omega) (by omega)) (by decide) ?_
                        refine WL.x (X.assign rfl) (by decide) ?_
                        refine WL.nil ?_
                        refine WK.nThen ?_
                        have hdc : decide (gt (tmL s (comL s t)) i < time) = false := decide_eq_false (by assumption)
                        have hq1 : (shE (tmL s (comL s t)) (dfL (evenL s x.Levels x.Shifts) (evenL t y.Levels y.Shifts) (comL s t)) time false (i + 1)).Lo = min (shE (tmL s (comL s t)) (dfL (evenL s x.Levels x.Shifts) (evenL t y.Levels y.Shifts) (comL s t)) time false i).Lo (gt (dfL (evenL s x.Levels x.Shifts) (evenL t y.Levels y.Shifts) (comL s t)) i) := (by rw [shE_yes hdc])
                        have hq2 : (shE (tmL s (comL s t)) (dfL (evenL s x.Levels x.Shifts) (evenL t y.Levels y.Shifts) (comL s t)) time false (i + 1)).Hi = max (shE (tmL s (comL s t)) (dfL (evenL s x.Levels x.Shifts) (evenL t y.Levels y.Shifts) (comL s t)) time false i).Hi (gt (dfL (evenL s x.Levels x.Shifts) (evenL t y.Levels y.Shifts) (comL s t)) i) := (by rw [shE_yes hdc])
                        have hq3 : shE (tmL s (comL s t)) (dfL (evenL s x.Levels x.Shifts) (evenL t y.Levels y.Shifts) (comL s t)) time true (i + 1) = shE (tmL s (comL s t)) (dfL (evenL s x.Levels x.Shifts) (evenL t y.Levels y.Shifts) (comL s t)) time true i := shE_no (by rw [hdc]; simp)
                        rw [← hq1, ← hq2, ← hq3]
                        refine WK.next (i + 1) rfl (.refl _) (.cons rfl (.cons rfl (.cons rfl (.cons rfl (.cons rfl (.cons rfl (.cons rfl (.cons rfl (.cons rfl (.cons rfl .nil)))))))))) ?_ ?_
                        · omega
                        · omega
                    · refine WL.nil ?_
                      refine WK.nThen ?_
                      refine WC.condF rfl ?_
                      refine WC.exit ?_
                      refine WK.eThen ?_
                      refine WK.eThen ?_
                      refine WK.eHit ?_
                      refine WK.nThen ?_
                      refine WC.seq ?_
                      refine WC.seq ?_
                      have hin : (comL s t).length = i := (by omega)
                      have hn3 := sh_none hek hfk hrng hea hfa
                      have hh4 := sh_has hek hfk hrng hea hfa
                      rw [hin] at hn3 hh4
                      have hab := shE_bd (T := tmL s (comL s t)) (time := time) (b := true) (n := i) (fun j hj => hdb j (by omega))
                      have hac := shE_bd (T := tmL s (comL s t)) (time := time) (b := false) (n := i) (fun j hj => hdb j (by omega))
                      refine WC.region ?_
                      refine WL.x (X.field Try.runUnderlying33 rfl Try.sizeOf3 rfl) (by decide) ?_
                      refine WL.x (X.loadB (k := 1) Try.isAgg3 rfl rfl rfl) (by decide) ?_
                      refine WL.x (X.field Try.runUnderlying33 rfl Try.sizeOf3 rfl) (by decide) ?_
                      refine WL.x (X.loadB (k := 1) Try.isAgg3 rfl rfl rfl) (by decide) ?_
                      refine WL.cond (X.gtr rfl rfl) (by decide) (fun h193 => ?_) (fun h193 => ?_)
                      · refine WL.x (X.move rfl) (by decide) ?_
                        refine WL.no rfl rfl rfl (by decide) ?_
                        refine WL.no rfl rfl rfl (by decide) ?_
                        refine WL.no rfl rfl rfl (by decide) ?_
                        refine WL.no rfl rfl rfl (by decide) ?_
                        refine WL.no rfl rfl rfl (by decide) ?_
                        refine WL.x (X.pickT rfl rfl rfl) (by decide) ?_
                        refine WL.nil ?_
                        refine WK.nThen ?_
                        refine WC.condT rfl ?_
                        refine WC.seq ?_
                        refine WC.region ?_
                        refine WL.x (X.move rfl) (by decide) ?_
                        refine WL.x (X.move rfl) (by decide) ?_
                        refine WL.yes rfl rfl ?_
                        refine WL.x (X.move rfl) (by decide) ?_
                        refine WL.yes rfl rfl ?_
                        refine WL.x (X.eql rfl rfl) (by decide) ?_
                        refine WL.x (X.pickT rfl rfl rfl) (by decide) ?_
                        refine WL.x (X.assign rfl) (by decide) ?_
                        refine WL.nil ?_
                        refine WK.nThen ?_
                        refine WC.ret ?_
                        refine WK.rThen ?_
                        refine WK.ret1 rfl rfl (fun w' hw' => Ret.exact hw' ?_)
                        first | rfl | (exfalso; omega) | (exfalso; contradiction) | (exfalso; have q_ := ho (by omega); omega) | (exfalso; have q_ := hsw2 (by omega); omega) | (exfalso; have q_ := hn3 (by omega); omega) | (exfalso; have q_ := hh4 (by omega) (by omega) (by omega) (by omega); omega) | exact (bool_true (by have q_ := hh4 (by omega) (by omega) (by omega) (by omega); omega)).symm | exact (bool_true (hn3 (by omega))).symm | exact (bool_true (by omega)).symm
                      · refine WL.x (X.move rfl) (by decide) ?_
                        refine WL.yes rfl rfl ?_
                        refine WL.x (X.field Try.runUnderlying33 rfl Try.sizeOf3 rfl) (by decide) ?_
                        refine WL.yes rfl rfl ?_
                        refine WL.x (X.loadB (k := 0) Try.isAgg3 rfl rfl rfl) (by decide) ?_
                        refine WL.yes rfl rfl ?_
                        refine WL.x (X.field Try.runUnderlying33 rfl Try.sizeOf3 rfl) (by decide) ?_
                        refine WL.yes rfl rfl ?_
                        refine WL.x (X.loadB (k := 0) Try.isAgg3 rfl rfl rfl) (by decide) ?_
                        refine WL.yes rfl rfl ?_
                        refine WL.cond (X.gtr rfl rfl) (by decide) (fun h194 => ?_) (fun h194 => ?_)
                        · refine WL.x (X.pickF rfl rfl rfl) (by decide) ?_
                          refine WL.nil ?_
                          refine WK.nThen ?_
                          refine WC.condT rfl ?_
                          refine WC.seq ?_
                          refine WC.region ?_
                          refine WL.x (X.move rfl) (by decide) ?_
                          refine WL.x (X.move rfl) (by decide) ?_
                          refine WL.yes rfl rfl ?_
                          refine WL.x (X.move rfl) (by decide) ?_
                          refine WL.yes rfl rfl ?_
                          refine WL.x (X.eql rfl rfl) (by decide) ?_
                          refine WL.x (X.pickT rfl rfl rfl) (by decide) ?_
                          refine WL.x (X.assign rfl) (by decide) ?_
                          refine WL.nil ?_
                          refine WK.nThen ?_
                          refine WC.ret ?_
                          refine WK.rThen ?_
                          refine WK.ret1 rfl rfl (fun w' hw' => Ret.exact hw' ?_)
                          first | rfl | (exfalso; omega) | (exfalso; contradiction) | (exfalso; have q_ := ho (by omega); omega) | (exfalso; have q_ := hsw2 (by omega); omega) | (exfalso; have q_ := hn3 (by omega); omega) | (exfalso; have q_ := hh4 (by omega) (by omega) (by omega) (by omega); omega) | exact (bool_true (by have q_ := hh4 (by omega) (by omega) (by omega) (by omega); omega)).symm | exact (bool_true (hn3 (by omega))).symm | exact (bool_true (by omega)).symm
                        · refine WL.x (X.pickF rfl rfl rfl) (by decide) ?_
                          refine WL.nil ?_
                          refine WK.nThen ?_
                          refine WC.condF rfl ?_
                          refine WC.skip ?_
                          refine WK.nThen ?_
                          refine WC.seq ?_
                          refine WC.seq ?_
                          refine WC.region ?_
                          refine WL.x (X.field Try.runUnderlying33 rfl Try.sizeOf3 rfl) (by decide) ?_
                          refine WL.x (X.loadB (k := 1) Try.isAgg3 rfl rfl rfl) (by decide) ?_
                          refine WL.x (X.field Try.runUnderlying33 rfl Try.sizeOf3 rfl) (by decide) ?_
                          refine WL.x (X.loadB (k := 1) Try.isAgg3 rfl rfl rfl) (by decide) ?_
                          refine WL.x (X.sub rfl rfl (by omega) (by omega)) (by decide) ?_
                          refine WL.x (X.move rfl) (by decide) ?_
                          refine WL.cond (X.gtr rfl rfl) (by decide) (fun h195 => ?_) (fun h195 => ?_)
                          · refine WL.x (X.move rfl) (by decide) ?_
                            refine WL.no rfl rfl rfl (by decide) ?_
                            refine WL.no rfl rfl rfl (by decide) ?_
                            refine WL.no rfl rfl rfl (by decide) ?_
                            refine WL.no rfl rfl rfl (by decide) ?_
                            refine WL.no rfl rfl rfl (by decide) ?_
                            refine WL.no rfl rfl rfl (by decide) ?_
                            refine WL.no rfl rfl rfl (by decide) ?_
                            refine WL.x (X.pickT rfl rfl rfl) (by decide) ?_
                            refine WL.nil ?_
                            refine WK.nThen ?_
                            refine WC.condT rfl ?_
                            refine WC.seq ?_
                            refine WC.region ?_
                            refine WL.x (X.move rfl) (by decide) ?_
                            refine WL.x (X.assign rfl) (by decide) ?_
                            refine WL.nil ?_
                            refine WK.nThen ?_
                            refine WC.ret ?_
                            refine WK.rThen ?_
                            refine WK.ret1 rfl rfl (fun w' hw' => Ret.exact hw' ?_)
                            first | rfl | (exfalso; omega) | (exfalso; contradiction) | (exfalso; have q_ := ho (by omega); omega) | (exfalso; have q_ := hsw2 (by omega); omega) | (exfalso; have q_ := hn3 (by omega); omega) | (exfalso; have q_ := hh4 (by omega) (by omega) (by omega) (by omega); omega) | exact (bool_true (by have q_ := hh4 (by omega) (by omega) (by omega) (by omega); omega)).symm | exact (bool_true (hn3 (by omega))).symm | exact (bool_true (by omega)).symm
                          · refine WL.x (X.move rfl) (by decide) ?_
                            refine WL.yes rfl rfl ?_
                            refine WL.x (X.field Try.runUnderlying33 rfl Try.sizeOf3 rfl) (by decide) ?_
                            refine WL.yes rfl rfl ?_
                            refine WL.x (X.loadB (k := 0) Try.isAgg3 rfl rfl rfl) (by decide) ?_
                            refine WL.yes rfl rfl ?_
                            refine WL.x (X.field Try.runUnderlying33 rfl Try.sizeOf3 rfl) (by decide) ?_
                            refine WL.yes rfl rfl ?_
                            refine WL.x (X.loadB (k := 0) Try.isAgg3 rfl rfl rfl) (by decide) ?_
                            refine WL.yes rfl rfl ?_
                            refine WL.x (X.sub rfl rfl (by omega) (by omega)) (by decide) ?_
                            refine WL.yes rfl rfl ?_
                            refine WL.x (X.move rfl) (by decide) ?_
                            refine WL.yes rfl rfl ?_
                            refine WL.cond (X.gtr rfl rfl) (by decide) (fun h196 => ?_) (fun h196 => ?_)
                            · refine WL.x (X.pickF rfl rfl rfl) (by decide) ?_
                              refine WL.nil ?_
                              refine WK.nThen ?_
                              refine WC.condT rfl ?_
                              refine WC.seq ?_
                              refine WC.region ?_
                              refine WL.x (X.move rfl) (by decide) ?_
                              refine WL.x (X.assign rfl) (by decide) ?_
                              refine WL.nil ?_
                              refine WK.nThen ?_
                              refine WC.ret ?_
                              refine WK.rThen ?_
                              refine WK.ret1 rfl rfl (fun w' hw' => Ret.exact hw' ?_)
                              first | rfl | (exfalso; omega) | (exfalso; contradiction) | (exfalso; have q_ := ho (by omega); omega) | (exfalso; have q_ := hsw2 (by omega); omega) | (exfalso; have q_ := hn3 (by omega); omega) | (exfalso; have q_ := hh4 (by omega) (by omega) (by omega) (by omega); omega) | exact (bool_true (by have q_ := hh4 (by omega) (by omega) (by omega) (by omega); omega)).symm | exact (bool_true (hn3 (by omega))).symm | exact (bool_true (by omega)).symm
                            · refine WL.x (X.pickF rfl rfl rfl) (by decide) ?_
                              refine WL.nil ?_
                              refine WK.nThen ?_
                              refine WC.condF rfl ?_
                              refine WC.skip ?_
                              refine WK.nThen ?_
                              refine WC.seq ?_
                              refine WC.region ?_
                              refine WL.x (X.move rfl) (by decide) ?_
                              refine WL.x (X.move rfl) (by decide) ?_
                              refine WL.yes rfl rfl ?_
                              refine WL.x (X.move rfl) (by decide) ?_
                              refine WL.yes rfl rfl ?_
                              refine WL.cond (X.eql rfl rfl) (by decide) (fun h197 => ?_) (fun h197 => ?_)
                              · refine WL.x (X.pickT rfl rfl rfl) (by decide) ?_
                                refine WL.x (X.move rfl) (by decide) ?_
                                refine WL.yes rfl rfl ?_
                                refine WL.x (X.field Try.runUnderlying33 rfl Try.sizeOf3 rfl) (by decide) ?_
                                refine WL.yes rfl rfl ?_
                                refine WL.x (X.loadB (k := 3) Try.isAgg3 rfl rfl rfl) (by decide) ?_
                                refine WL.yes rfl rfl ?_
                                refine WL.x (X.field Try.runUnderlying33 rfl Try.sizeOf3 rfl) (by decide) ?_
                                refine WL.yes rfl rfl ?_
                                refine WL.x (X.loadB (k := 0) Try.isAgg3 rfl rfl rfl) (by decide) ?_
                                refine WL.yes rfl rfl ?_
                                refine WL.x (X.field Try.runUnderlying33 rfl Try.sizeOf3 rfl) (by decide) ?_
                                refine WL.yes rfl rfl ?_
                                refine WL.x (X.loadB (k := 1) Try.isAgg3 rfl rfl rfl) (by decide) ?_
                                refine WL.yes rfl rfl ?_
                                refine WL.x (X.sub rfl rfl (by omega) (by omega)) (by decide) ?_
                                refine WL.yes rfl rfl ?_
                                refine WL.x (X.move rfl) (by decide) ?_
                                refine WL.yes rfl rfl ?_
                                refine WL.x (X.sub rfl rfl (by omega) (by omega)) (by decide) ?_
                                refine WL.yes rfl rfl ?_
                                refine WL.cond (X.leq rfl rfl) (by decide) (fun h198 => ?_) (fun h198 => ?_)
                                · refine WL.x (X.pickT rfl rfl rfl) (by decide) ?_
                                  refine WL.x (X.move rfl) (by decide) ?_
                                  refine WL.yes rfl rfl ?_
                                  refine WL.x (X.field Try.runUnderlying33 rfl Try.sizeOf3 rfl) (by decide) ?_
                                  refine WL.yes rfl rfl ?_
                                  refine WL.x (X.loadB (k := 0) Try.isAgg3 rfl rfl rfl) (by decide) ?_
                                  refine WL.yes rfl rfl ?_
                                  refine WL.x (X.field Try.runUnderlying33 rfl Try.sizeOf3 rfl) (by decide) ?_
                                  refine WL.yes rfl rfl ?_
                                  refine WL.x (X.loadB (k := 1) Try.isAgg3 rfl rfl rfl) (by decide) ?_
                                  refine WL.yes rfl rfl ?_
                                  refine WL.x (X.sub rfl rfl (by omega) (by omega)) (by decide) ?_
                                  refine WL.yes rfl rfl ?_
                                  refine WL.x (X.move rfl) (by decide) ?_
                                  refine WL.yes rfl rfl ?_
                                  refine WL.x (X.add rfl rfl (by omega) (by omega)) (by decide) ?_
                                  refine WL.yes rfl rfl ?_
                                  refine WL.x (X.field Try.runUnderlying33 rfl Try.sizeOf3 rfl) (by decide) ?_
                                  refine WL.yes rfl rfl ?_
                                  refine WL.x (X.loadB (k := 3) Try.isAgg3 rfl rfl rfl) (by decide) ?_
                                  refine WL.yes rfl rfl ?_
                                  refine WL.x (X.leq rfl rfl) (by decide) ?_
                                  refine WL.x (X.pickT rfl rfl rfl) (by decide) ?_
                                  refine WL.x (X.assign rfl) (by decide) ?_
                                  refine WL.nil ?_
                                  refine WK.nThen ?_
                                  refine WC.ret ?_
                                  refine WK.ret1 rfl rfl (fun w' hw' => Ret.exact hw' ?_)
                                  first | rfl | (exfalso; omega) | (exfalso; contradiction) | (exfalso; have q_ := ho (by omega); omega) | (exfalso; have q_ := hsw2 (by omega); omega) | (exfalso; have q_ := hn3 (by omega); omega) | (exfalso; have q_ := hh4 (by omega) (by omega) (by omega) (by omega); omega) | exact (bool_true (by have q_ := hh4 (by omega) (by omega) (by omega) (by omega); omega)).symm | exact (bool_true (hn3 (by omega))).symm | exact (bool_true (by omega)).symm
                                · refine WL.x (X.pickT rfl rfl rfl) (by decide) ?_
                                  refine WL.x (X.move rfl) (by decide) ?_
                                  refine WL.no rfl rfl rfl (by decide) ?_
                                  refine WL.no rfl rfl rfl (by decide) ?_
                                  refine WL.no rfl rfl rfl (by decide) ?_
                                  refine WL.no rfl rfl rfl (by decide) ?_
                                  refine WL.no rfl rfl rfl (by decide) ?_
                                  refine WL.no rfl rfl rfl (by decide) ?_
                                  refine WL.no rfl rfl rfl (by decide) ?_
                                  refine WL.no rfl rfl rfl (by decide) ?_
                                  refine WL.no rfl rfl rfl (by decide) ?_
                                  refine WL.no rfl rfl rfl (by decide) ?_
                                  refine WL.x (X.pickF rfl rfl rfl) (by decide) ?_
                                  refine WL.x (X.assign rfl) (by decide) ?_
                                  refine WL.nil ?_
                                  refine WK.nThen ?_
                                  refine WC.ret ?_
                                  refine WK.ret1 rfl rfl (fun w' hw' => Ret.exact hw' ?_)
                                  first | rfl | (exfalso; omega) | (exfalso; contradiction) | (exfalso; have q_ := ho (by omega); omega) | (exfalso; have q_ := hsw2 (by omega); omega) | (exfalso; have q_ := hn3 (by omega); omega) | (exfalso; have q_ := hh4 (by omega) (by omega) (by omega) (by omega); omega) | exact (bool_true (by have q_ := hh4 (by omega) (by omega) (by omega) (by omega); omega)).symm | exact (bool_true (hn3 (by omega))).symm | exact (bool_true (by omega)).symm
                              · refine WL.x (X.pickT rfl rfl rfl) (by decide) ?_
                                refine WL.x (X.move rfl) (by decide) ?_
                                refine WL.no rfl rfl rfl (by decide) ?_
                                refine WL.no rfl rfl rfl (by decide) ?_
                                refine WL.no rfl rfl rfl (by decide) ?_
                                refine WL.no rfl rfl rfl (by decide) ?_
                                refine WL.no rfl rfl rfl (by decide) ?_
                                refine WL.no rfl rfl rfl (by decide) ?_
                                refine WL.no rfl rfl rfl (by decide) ?_
                                refine WL.no rfl rfl rfl (by decide) ?_
                                refine WL.no rfl rfl rfl (by decide) ?_
                                refine WL.no rfl rfl rfl (by decide) ?_
                                refine WL.x (X.pickF rfl rfl rfl) (by decide) ?_
                                refine WL.x (X.move rfl) (by decide) ?_
                                refine WL.no rfl rfl rfl (by decide) ?_
                                refine WL.no rfl rfl rfl (by decide) ?_
                                refine WL.no rfl rfl rfl (by decide) ?_
                                refine WL.no rfl rfl rfl (by decide) ?_
                                refine WL.no rfl rfl rfl (by decide) ?_
                                refine WL.no rfl rfl rfl (by decide) ?_
                                refine WL.no rfl rfl rfl (by decide) ?_
                                refine WL.no rfl rfl rfl (by decide) ?_
                                refine WL.no rfl rfl rfl (by decide) ?_
                                refine WL.no rfl rfl rfl (by decide) ?_
                                refine WL.x (X.pickF rfl rfl rfl) (by decide) ?_
                                refine WL.x (X.assign rfl) (by decide) ?_
                                refine WL.nil ?_
                                refine WK.nThen ?_
                                refine WC.ret ?_
                                refine WK.ret1 rfl rfl (fun w' hw' => Ret.exact hw' ?_)
                                first | rfl | (exfalso; omega) | (exfalso; contradiction) | (exfalso; have q_ := ho (by omega); omega) | (exfalso; have q_ := hsw2 (by omega); omega) | (exfalso; have q_ := hn3 (by omega); omega) | (exfalso; have q_ := hh4 (by omega) (by omega) (by omega) (by omega); omega) | exact (bool_true (by have q_ := hh4 (by omega) (by omega) (by omega) (by omega); omega)).symm | exact (bool_true (hn3 (by omega))).symm | exact (bool_true (by omega)).symm
        · refine WL.yes rfl rfl ?_
          refine WL.x (X.not rfl) (by decide) ?_
          refine WL.x (X.pickF rfl rfl rfl) (by decide) ?_
          refine WL.nil ?_
          refine WK.nThen ?_
          refine WC.condT rfl ?_
          refine WC.seq ?_
          refine WC.region ?_
          refine WL.x (X.move rfl) (by decide) ?_
          refine WL.x (X.assign rfl) (by decide) ?_
          refine WL.nil ?_
          refine WK.nThen ?_
          refine WC.ret ?_
          refine WK.rThen ?_
          refine WK.ret1 rfl rfl (fun w' hw' => Ret.exact hw' ?_)
          first | rfl | (exfalso; omega) | (exfalso; contradiction) | (exfalso; have q_ := ho (by omega); omega) | (exfalso; have q_ := hsw2 (by omega); omega) | (exfalso; have q_ := hn3 (by omega); omega) | (exfalso; have q_ := hh4 (by omega) (by omega) (by omega) (by omega); omega) | exact (bool_true (by have q_ := hh4 (by omega) (by omega) (by omega) (by omega); omega)).symm | exact (bool_true (hn3 (by omega))).symm | exact (bool_true (by omega)).symm
      · refine WL.yes rfl rfl ?_
        refine WL.x (X.not rfl) (by decide) ?_
        refine WL.x (X.pickF rfl rfl rfl) (by decide) ?_
        refine WL.x (X.move rfl) (by decide) ?_
        refine WL.no rfl rfl rfl (by decide) ?_
        refine WL.no rfl rfl rfl (by decide) ?_
        refine WL.no rfl rfl rfl (by decide) ?_
        refine WL.x (X.pickT rfl rfl rfl) (by decide) ?_
        refine WL.nil ?_
        refine WK.nThen ?_
        refine WC.condT rfl ?_
        refine WC.seq ?_
        refine WC.region ?_
        refine WL.x (X.move rfl) (by decide) ?_
        refine WL.x (X.assign rfl) (by decide) ?_
        refine WL.nil ?_
        refine WK.nThen ?_
        refine WC.ret ?_
        refine WK.rThen ?_
        refine WK.ret1 rfl rfl (fun w' hw' => Ret.exact hw' ?_)
        first | rfl | (exfalso; omega) | (exfalso; contradiction) | (exfalso; have q_ := ho (by omega); omega) | (exfalso; have q_ := hsw2 (by omega); omega) | (exfalso; have q_ := hn3 (by omega); omega) | (exfalso; have q_ := hh4 (by omega) (by omega) (by omega) (by omega); omega) | exact (bool_true (by have q_ := hh4 (by omega) (by omega) (by omega) (by omega); omega)).symm | exact (bool_true (hn3 (by omega))).symm | exact (bool_true (by omega)).symm
    · refine WL.yes rfl rfl ?_
      refine WL.x (X.not rfl) (by decide) ?_
      refine WL.x (X.pickF rfl rfl rfl) (by decide) ?_
      refine WL.x (X.move rfl) (by decide) ?_
      refine WL.no rfl rfl rfl (by decide) ?_
      refine WL.no rfl rfl rfl (by decide) ?_
      refine WL.no rfl rfl rfl (by decide) ?_
      refine WL.x (X.pickT rfl rfl rfl) (by decide) ?_
      refine WL.x (X.move rfl) (by decide) ?_
      refine WL.no rfl rfl rfl (by decide) ?_
      refine WL.no rfl rfl rfl (by decide) ?_
      refine WL.no rfl rfl rfl (by decide) ?_
      refine WL.x (X.pickT rfl rfl rfl) (by decide) ?_
      refine WL.nil ?_
      refine WK.nThen ?_
      refine WC.condT rfl ?_
      refine WC.seq ?_
      refine WC.region ?_
      refine WL.x (X.move rfl) (by decide) ?_
      refine WL.x (X.assign rfl) (by decide) ?_
      refine WL.nil ?_
      refine WK.nThen ?_
      refine WC.ret ?_
      refine WK.rThen ?_
      refine WK.ret1 rfl rfl (fun w' hw' => Ret.exact hw' ?_)
      first | rfl | (exfalso; omega) | (exfalso; contradiction) | (exfalso; have q_ := ho (by omega); omega) | (exfalso; have q_ := hsw2 (by omega); omega) | (exfalso; have q_ := hn3 (by omega); omega) | (exfalso; have q_ := hh4 (by omega) (by omega) (by omega) (by omega); omega) | exact (bool_true (by have q_ := hh4 (by omega) (by omega) (by omega) (by omega); omega)).symm | exact (bool_true (hn3 (by omega))).symm | exact (bool_true (by omega)).symm
  · refine WL.x (X.not rfl) (by decide) ?_
    refine WL.x (X.move rfl) (by decide) ?_
    refine WL.no rfl rfl rfl (by decide) ?_
    refine WL.no rfl rfl rfl (by decide) ?_
    refine WL.no rfl rfl rfl (by decide) ?_
    refine WL.x (X.pickT rfl rfl rfl) (by decide) ?_
    refine WL.x (X.move rfl) (by decide) ?_
    refine WL.no rfl rfl rfl (by decide) ?_
    refine WL.no rfl rfl rfl (by decide) ?_
    refine WL.no rfl rfl rfl (by decide) ?_
    refine WL.x (X.pickT rfl rfl rfl) (by decide) ?_
    refine WL.x (X.move rfl) (by decide) ?_
    refine WL.no rfl rfl rfl (by decide) ?_
    refine WL.no rfl rfl rfl (by decide) ?_
    refine WL.no rfl rfl rfl (by decide) ?_
    refine WL.x (X.pickT rfl rfl rfl) (by decide) ?_
    refine WL.nil ?_
    refine WK.nThen ?_
    refine WC.condT rfl ?_
    refine WC.seq ?_
    refine WC.region ?_
    refine WL.x (X.move rfl) (by decide) ?_
    refine WL.x (X.assign rfl) (by decide) ?_
    refine WL.nil ?_
    refine WK.nThen ?_
    refine WC.ret ?_
    refine WK.rThen ?_
    refine WK.ret1 rfl rfl (fun w' hw' => Ret.exact hw' ?_)
    first | rfl | (exfalso; omega) | (exfalso; contradiction) | (exfalso; have q_ := ho (by omega); omega) | (exfalso; have q_ := hsw2 (by omega); omega) | (exfalso; have q_ := hn3 (by omega); omega) | (exfalso; have q_ := hh4 (by omega) (by omega) (by omega) (by omega); omega) | exact (bool_true (by have q_ := hh4 (by omega) (by omega) (by omega) (by omega); omega)).symm | exact (bool_true (hn3 (by omega))).symm | exact (bool_true (by omega)).symm
end Go.Proofs.C8
