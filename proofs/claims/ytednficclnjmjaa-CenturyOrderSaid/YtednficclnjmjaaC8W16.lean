import Derived.Test.YtednficclnjmjaaC8LOrd
import Derived.Test.YtednficclnjmjaaC8W15
/- Century: walks, sixteenth part, by program. -/
namespace Go.Proofs.C8
open Go Go.Kx
set_option linter.unusedSimpArgs false

set_option maxRecDepth 20000 in
set_option maxHeartbeats 4000000 in
theorem same57 (m : Mem) (cs : List Value) (s : Ser) (hs : Enc.rd m cs s) (ct : List Value) (t : Ser) (ht : Enc.rd m ct t) (ca : List Value) (a : Span) (ha : Enc.rd m ca a) (time : Int) (most : Int)  (he : Eqv t s) (hlo : -9223372036854775808 ≤ most ∧ most ≤ 9223372036854775807) : Exact Try.prog 57 #[.agg cs.toArray, .agg ct.toArray, .agg ca.toArray, .int .i64 (time), .int .i64 (most)] m (.bool true) := by
 obtain ⟨v1, v3, rfl, hs2, hs4⟩ := hs
 have hl5 := hs2.le
 have hl6 := hs4.le
 obtain ⟨v7, v9, rfl, hs8, hs10⟩ := ht
 have hl11 := hs8.le
 have hl12 := hs10.le
 obtain rfl := ha
 refine Exact.start Try.func57 rfl Try.ntmps57 rfl fun wld => ?_
 refine WC.seq ?_
 refine WC.region ?_
 refine WL.tn (T.boxB rfl rfl) (by decide) fun b13 => ?_
 refine WL.tn (T.boxB rfl rfl) (by decide) fun b14 => ?_
 refine WL.tn (T.boxB rfl rfl) (by decide) fun b15 => ?_
 refine WL.x (X.assign rfl) (by decide) ?_
 refine WL.nil ?_
 refine WK.nThen ?_
 refine WC.seq ?_
 refine WC.region ?_
 refine WL.x (X.loadBA (k := 2) Try.isAgg25 Try.sizeOf25 rfl rfl rfl) (by decide) ?_
 refine WL.tm (T.call Try.call50 rfl (evens50 _ _ s ⟨_, _, rfl, hs2, hs4⟩ )) (by decide) fun m16 r17 hle18 hR19 => ?_
 obtain ⟨v20, rfl, hs21⟩ := hR19
 replace hs2 := hs2.mono hle18
 replace hs4 := hs4.mono hle18
 replace hs8 := hs8.mono hle18
 replace hs10 := hs10.mono hle18
 have hl22 := hs21.le
 refine WL.x (X.move rfl) (by decide) ?_
 refine WL.x (X.extract rfl rfl) (by decide) ?_
 refine WL.x (X.extract rfl rfl) (by decide) ?_
 refine WL.x (X.assign rfl) (by decide) ?_
 refine WL.x (X.assign rfl) (by decide) ?_
 refine WL.nil ?_
 refine WK.nThen ?_
 refine WC.seq ?_
 refine WC.region ?_
 refine WL.x (X.loadBA (k := 1) Try.isAgg25 Try.sizeOf25 rfl rfl rfl) (by decide) ?_
 refine WL.tm (T.call Try.call50 rfl (evens50 _ _ t ⟨_, _, rfl, hs8, hs10⟩ )) (by decide) fun m23 r24 hle25 hR26 => ?_
 obtain ⟨v27, rfl, hs28⟩ := hR26
 replace hs2 := hs2.mono hle25
 replace hs4 := hs4.mono hle25
 replace hs8 := hs8.mono hle25
 replace hs10 := hs10.mono hle25
 replace hs21 := hs21.mono hle25
 have hl29 := hs28.le
 refine WL.x (X.move rfl) (by decide) ?_
 refine WL.x (X.extract rfl rfl) (by decide) ?_
 refine WL.x (X.extract rfl rfl) (by decide) ?_
 refine WL.x (X.assign rfl) (by decide) ?_
 refine WL.x (X.assign rfl) (by decide) ?_
 refine WL.nil ?_
 refine WK.nThen ?_
 refine WC.seq ?_
 rw [eqv_evs he] at hs28
 try rw [eqv_evs he]
 refine WC.region ?_
 refine WL.x (X.loadBA (k := 2) Try.isAgg25 Try.sizeOf25 rfl rfl rfl) (by decide) ?_
 refine WL.x (X.call Try.call36 rfl (slope36 _ _ s ⟨_, _, rfl, hs2, hs4⟩ )) (by decide) ?_
 refine WL.x (X.move rfl) (by decide) ?_
 refine WL.x (X.extract rfl rfl) (by decide) ?_
 refine WL.x (X.extract rfl rfl) (by decide) ?_
 refine WL.x (X.extract rfl rfl) (by decide) ?_
 refine WL.tn (T.alloc Try.zeroValue45 rfl) (by decide) fun b30 => ?_
 refine WL.tn (T.alloc Try.zeroValue45 rfl) (by decide) fun b31 => ?_
 refine WL.ts (T.storeBA (k := 1) Try.sizeOf45 rfl rfl rfl (one_cons rfl (one_cons rfl one_nil)) rfl rfl) ?_
 refine WL.ts (T.storeBA (k := 0) Try.sizeOf45 rfl rfl rfl (one_cons rfl (one_cons rfl one_nil)) rfl rfl) ?_
 refine WL.x (X.assign rfl) (by decide) ?_
 refine WL.nil ?_
 refine WK.nThen ?_
 refine WC.seq ?_
 refine WC.region ?_
 refine WL.x (X.loadBA (k := 3) Try.isAgg25 Try.sizeOf25 rfl rfl rfl) (by decide) ?_
 refine WL.x (X.call Try.call36 rfl (slope36 _ _ t ⟨_, _, rfl, hs8, hs10⟩ )) (by decide) ?_
 refine WL.x (X.move rfl) (by decide) ?_
 refine WL.x (X.extract rfl rfl) (by decide) ?_
 refine WL.x (X.extract rfl rfl) (by decide) ?_
 refine WL.x (X.extract rfl rfl) (by decide) ?_
 refine WL.tn (T.alloc Try.zeroValue45 rfl) (by decide) fun b32 => ?_
 refine WL.tn (T.alloc Try.zeroValue45 rfl) (by decide) fun b33 => ?_
 refine WL.ts (T.storeBA (k := 1) Try.sizeOf45 rfl rfl rfl (one_cons rfl (one_cons rfl one_nil)) rfl rfl) ?_
 refine WL.ts (T.storeBA (k := 0) Try.sizeOf45 rfl rfl rfl (one_cons rfl (one_cons rfl one_nil)) rfl rfl) ?_
 refine WL.x (X.assign rfl) (by decide) ?_
 refine WL.nil ?_
 refine WK.nThen ?_
 refine WC.seq ?_
 refine WC.seq ?_
 try rw [eqv_slope he]
 refine WC.region ?_
 refine WL.x (X.move rfl) (by decide) ?_
 refine WL.x (X.move rfl) (by decide) ?_
 refine WL.x (OpX.t (X.call Try.call54 rfl (sameSpans54 _ _ _ hs21 _ _ hs28 )) rfl) (by decide) ?_
 refine WL.x (X.not rfl) (by decide) ?_
 refine WL.x (X.move rfl) (by decide) ?_
 refine WL.yes rfl rfl ?_
 refine WL.x (X.move rfl) (by decide) ?_
 refine WL.yes rfl rfl ?_
 refine WL.x (X.move rfl) (by decide) ?_
 refine WL.yes rfl rfl ?_
 refine WL.x (OpX.f (X.neq rfl rfl) (fun h => h rfl)) (by decide) ?_
 refine WL.x (X.pickF rfl rfl rfl) (by decide) ?_
 refine WL.x (X.move rfl) (by decide) ?_
 refine WL.yes rfl rfl ?_
 refine WL.x (X.loadBA (k := 3) Try.isAgg45 Try.sizeOf45 rfl rfl rfl) (by decide) ?_
 refine WL.yes rfl rfl ?_
 refine WL.x (X.loadBA (k := 1) Try.isAgg45 Try.sizeOf45 rfl rfl rfl) (by decide) ?_
 refine WL.yes rfl rfl ?_
 refine WL.x (OpX.f (X.neqS (a := (slopeR s).1) (b := (slopeR s).1) gd45 (fun w => eqS45 9998 _ _ w) rfl rfl) (fun h => h rfl)) (by decide) ?_
 refine WL.x (X.pickF rfl rfl rfl) (by decide) ?_
 refine WL.x (X.move rfl) (by decide) ?_
 refine WL.yes rfl rfl ?_
 refine WL.x (X.loadBA (k := 2) Try.isAgg45 Try.sizeOf45 rfl rfl rfl) (by decide) ?_
 refine WL.yes rfl rfl ?_
 refine WL.x (X.loadBA (k := 0) Try.isAgg45 Try.sizeOf45 rfl rfl rfl) (by decide) ?_
 refine WL.yes rfl rfl ?_
 refine WL.x (OpX.f (X.neqS (a := (slopeR s).2.1) (b := (slopeR s).2.1) gd45 (fun w => eqS45 9998 _ _ w) rfl rfl) (fun h => h rfl)) (by decide) ?_
 refine WL.x (X.pickF rfl rfl rfl) (by decide) ?_
 refine WL.x (X.move rfl) (by decide) ?_
 refine WL.yes rfl rfl ?_
 refine WL.x (X.move rfl) (by decide) ?_
 refine WL.yes rfl rfl ?_
 refine WL.x (X.move rfl) (by decide) ?_
 refine WL.yes rfl rfl ?_
 refine WL.x (OpX.f (X.neq rfl rfl) (fun h => h rfl)) (by decide) ?_
 refine WL.x (X.pickF rfl rfl rfl) (by decide) ?_
 refine WL.nil ?_
 refine WK.nThen ?_
 refine WC.condF rfl ?_
 refine WC.skip ?_
 refine WK.nThen ?_
 refine WC.seq ?_
 refine WC.region ?_
 refine WL.x (X.loadBA (k := 6) Try.isAgg25 Try.sizeOf25 rfl rfl rfl) (by decide) ?_
 refine WL.x (X.loadBA (k := 4) Try.isAgg33 Try.sizeOf33 rfl rfl rfl) (by decide) ?_
 refine WL.x (X.call Try.call37 rfl (extremes37 _ _ s ⟨_, _, rfl, hs2, hs4⟩ _ a rfl )) (by decide) ?_
 refine WL.x (X.move rfl) (by decide) ?_
 refine WL.x (X.extract rfl rfl) (by decide) ?_
 refine WL.x (X.extract rfl rfl) (by decide) ?_
 refine WL.x (X.extract rfl rfl) (by decide) ?_
 refine WL.tn (T.alloc Try.zeroValue33 rfl) (by decide) fun b34 => ?_
 refine WL.tn (T.alloc Try.zeroValue33 rfl) (by decide) fun b35 => ?_
 refine WL.ts (T.storeBA (k := 1) Try.sizeOf33 rfl rfl rfl (one_cons rfl (one_cons rfl one_nil)) rfl rfl) ?_
 refine WL.ts (T.storeBA (k := 0) Try.sizeOf33 rfl rfl rfl (one_cons rfl (one_cons rfl one_nil)) rfl rfl) ?_
 refine WL.x (X.assign rfl) (by decide) ?_
 refine WL.nil ?_
 refine WK.nThen ?_
 refine WC.seq ?_
 refine WC.region ?_
 refine WL.x (X.loadBA (k := 7) Try.isAgg25 Try.sizeOf25 rfl rfl rfl) (by decide) ?_
 refine WL.x (X.loadBA (k := 6) Try.isAgg33 Try.sizeOf33 rfl rfl rfl) (by decide) ?_
 refine WL.x (X.call Try.call37 rfl (extremes37 _ _ t ⟨_, _, rfl, hs8, hs10⟩ _ a rfl )) (by decide) ?_
 refine WL.x (X.move rfl) (by decide) ?_
 refine WL.x (X.extract rfl rfl) (by decide) ?_
 refine WL.x (X.extract rfl rfl) (by decide) ?_
 refine WL.x (X.extract rfl rfl) (by decide) ?_
 refine WL.tn (T.alloc Try.zeroValue33 rfl) (by decide) fun b36 => ?_
 refine WL.tn (T.alloc Try.zeroValue33 rfl) (by decide) fun b37 => ?_
 refine WL.ts (T.storeBA (k := 1) Try.sizeOf33 rfl rfl rfl (one_cons rfl (one_cons rfl one_nil)) rfl rfl) ?_
 refine WL.ts (T.storeBA (k := 0) Try.sizeOf33 rfl rfl rfl (one_cons rfl (one_cons rfl one_nil)) rfl rfl) ?_
 refine WL.x (X.assign rfl) (by decide) ?_
 refine WL.nil ?_
 refine WK.nThen ?_
 refine WC.seq ?_
 try rw [eqv_ext he a]
 refine WC.region ?_
 refine WL.x (X.loadBA (k := 10) Try.isAgg25 Try.sizeOf25 rfl rfl rfl) (by decide) ?_
 refine WL.x (X.move rfl) (by decide) ?_
 refine WL.x (X.call Try.call43 rfl (rank43 _ _ s ⟨_, _, rfl, hs2, hs4⟩ _ )) (by decide) ?_
 refine WL.x (X.move rfl) (by decide) ?_
 refine WL.x (X.extract rfl rfl) (by decide) ?_
 refine WL.x (X.extract rfl rfl) (by decide) ?_
 refine WL.tn (T.alloc Try.zeroValue33 rfl) (by decide) fun b38 => ?_
 refine WL.ts (T.storeBA (k := 0) Try.sizeOf33 rfl rfl rfl (one_cons rfl (one_cons rfl one_nil)) rfl rfl) ?_
 refine WL.x (X.assign rfl) (by decide) ?_
 refine WL.nil ?_
 refine WK.nThen ?_
 refine WC.seq ?_
 refine WC.region ?_
 refine WL.x (X.loadBA (k := 10) Try.isAgg25 Try.sizeOf25 rfl rfl rfl) (by decide) ?_
 refine WL.x (X.move rfl) (by decide) ?_
 refine WL.x (X.call Try.call43 rfl (rank43 _ _ t ⟨_, _, rfl, hs8, hs10⟩ _ )) (by decide) ?_
 refine WL.x (X.move rfl) (by decide) ?_
 refine WL.x (X.extract rfl rfl) (by decide) ?_
 refine WL.x (X.extract rfl rfl) (by decide) ?_
 refine WL.tn (T.alloc Try.zeroValue33 rfl) (by decide) fun b39 => ?_
 refine WL.ts (T.storeBA (k := 0) Try.sizeOf33 rfl rfl rfl (one_cons rfl (one_cons rfl one_nil)) rfl rfl) ?_
 refine WL.x (X.assign rfl) (by decide) ?_
 refine WL.nil ?_
 refine WK.nThen ?_
 refine WC.seq ?_
 refine WC.seq ?_
 try rw [eqv_rank he time]
 refine WC.region ?_
 refine WL.x (X.loadBA (k := 5) Try.isAgg33 Try.sizeOf33 rfl rfl rfl) (by decide) ?_
 refine WL.x (X.loadBA (k := 3) Try.isAgg33 Try.sizeOf33 rfl rfl rfl) (by decide) ?_
 refine WL.x (OpX.f (X.neqS (a := (extR s a).1) (b := (extR s a).1) gd33 (fun w => eqS33 9998 _ _ w) rfl rfl) (fun h => h rfl)) (by decide) ?_
 refine WL.x (X.move rfl) (by decide) ?_
 refine WL.yes rfl rfl ?_
 refine WL.x (X.loadBA (k := 4) Try.isAgg33 Try.sizeOf33 rfl rfl rfl) (by decide) ?_
 refine WL.yes rfl rfl ?_
 refine WL.x (X.loadBA (k := 2) Try.isAgg33 Try.sizeOf33 rfl rfl rfl) (by decide) ?_
 refine WL.yes rfl rfl ?_
 refine WL.x (OpX.f (X.neqS (a := (extR s a).2.1) (b := (extR s a).2.1) gd33 (fun w => eqS33 9998 _ _ w) rfl rfl) (fun h => h rfl)) (by decide) ?_
 refine WL.x (X.pickF rfl rfl rfl) (by decide) ?_
 refine WL.x (X.move rfl) (by decide) ?_
 refine WL.yes rfl rfl ?_
 refine WL.x (X.move rfl) (by decide) ?_
 refine WL.yes rfl rfl ?_
 refine WL.x (X.move rfl) (by decide) ?_
 refine WL.yes rfl rfl ?_
 refine WL.x (OpX.f (X.neq rfl rfl) (fun h => h rfl)) (by decide) ?_
 refine WL.x (X.pickF rfl rfl rfl) (by decide) ?_
 refine WL.x (X.move rfl) (by decide) ?_
 refine WL.yes rfl rfl ?_
 refine WL.x (X.loadBA (k := 1) Try.isAgg33 Try.sizeOf33 rfl rfl rfl) (by decide) ?_
 refine WL.yes rfl rfl ?_
 refine WL.x (X.loadBA (k := 0) Try.isAgg33 Try.sizeOf33 rfl rfl rfl) (by decide) ?_
 refine WL.yes rfl rfl ?_
 refine WL.x (OpX.f (X.neqS (a := (rankR s time).1) (b := (rankR s time).1) gd33 (fun w => eqS33 9998 _ _ w) rfl rfl) (fun h => h rfl)) (by decide) ?_
 refine WL.x (X.pickF rfl rfl rfl) (by decide) ?_
 refine WL.x (X.move rfl) (by decide) ?_
 refine WL.yes rfl rfl ?_
 refine WL.x (X.move rfl) (by decide) ?_
 refine WL.yes rfl rfl ?_
 refine WL.x (X.move rfl) (by decide) ?_
 refine WL.yes rfl rfl ?_
 refine WL.x (OpX.f (X.neq rfl rfl) (fun h => h rfl)) (by decide) ?_
 refine WL.x (X.pickF rfl rfl rfl) (by decide) ?_
 refine WL.nil ?_
 refine WK.nThen ?_
 refine WC.condF rfl ?_
 refine WC.skip ?_
 refine WK.nThen ?_
 refine WC.seq ?_
 refine WC.region ?_
 refine WL.x (X.loadBA (k := 12) Try.isAgg25 Try.sizeOf25 rfl rfl rfl) (by decide) ?_
 refine WL.x (X.move rfl) (by decide) ?_
 refine WL.tm (T.call Try.call28 rfl (steps28 _ _ s ⟨_, _, rfl, hs2, hs4⟩ _ )) (by decide) fun m40 r41 hle42 hR43 => ?_
 obtain ⟨v44, rfl, hs45⟩ := hR43
 replace hs2 := hs2.mono hle42
 replace hs4 := hs4.mono hle42
 replace hs8 := hs8.mono hle42
 replace hs10 := hs10.mono hle42
 replace hs21 := hs21.mono hle42
 replace hs28 := hs28.mono hle42
 have hl46 := hs45.le
 refine WL.x (X.move rfl) (by decide) ?_
 refine WL.x (X.extract rfl rfl) (by decide) ?_
 refine WL.x (X.extract rfl rfl) (by decide) ?_
 refine WL.x (X.extract rfl rfl) (by decide) ?_
 refine WL.x (X.assign rfl) (by decide) ?_
 refine WL.x (X.assign rfl) (by decide) ?_
 refine WL.x (X.assign rfl) (by decide) ?_
 refine WL.nil ?_
 refine WK.nThen ?_
 refine WC.seq ?_
 refine WC.region ?_
 refine WL.x (X.loadBA (k := 11) Try.isAgg25 Try.sizeOf25 rfl rfl rfl) (by decide) ?_
 refine WL.x (X.move rfl) (by decide) ?_
 refine WL.tm (T.call Try.call28 rfl (steps28 _ _ t ⟨_, _, rfl, hs8, hs10⟩ _ )) (by decide) fun m47 r48 hle49 hR50 => ?_
 obtain ⟨v51, rfl, hs52⟩ := hR50
 replace hs2 := hs2.mono hle49
 replace hs4 := hs4.mono hle49
 replace hs8 := hs8.mono hle49
 replace hs10 := hs10.mono hle49
 replace hs21 := hs21.mono hle49
 replace hs28 := hs28.mono hle49
 replace hs45 := hs45.mono hle49
 have hl53 := hs52.le
 refine WL.x (X.move rfl) (by decide) ?_
 refine WL.x (X.extract rfl rfl) (by decide) ?_
 refine WL.x (X.extract rfl rfl) (by decide) ?_
 refine WL.x (X.extract rfl rfl) (by decide) ?_
 refine WL.x (X.assign rfl) (by decide) ?_
 refine WL.x (X.assign rfl) (by decide) ?_
 refine WL.x (X.assign rfl) (by decide) ?_
 refine WL.nil ?_
 refine WK.nThen ?_
 refine WC.seq ?_
 rw [eqv_stp he most] at hs52
 try rw [eqv_stp he most]
 refine WC.region ?_
 refine WL.x (X.loadBA (k := 12) Try.isAgg25 Try.sizeOf25 rfl rfl rfl) (by decide) ?_
 refine WL.tm (T.call Try.call30 rfl (mono30 _ _ s ⟨_, _, rfl, hs2, hs4⟩ )) (by decide) fun m54 r55 hle56 hR57 => ?_
 obtain ⟨v58, rfl, hs59⟩ := hR57
 replace hs2 := hs2.mono hle56
 replace hs4 := hs4.mono hle56
 replace hs8 := hs8.mono hle56
 replace hs10 := hs10.mono hle56
 replace hs21 := hs21.mono hle56
 replace hs28 := hs28.mono hle56
 replace hs45 := hs45.mono hle56
 replace hs52 := hs52.mono hle56
 have hl60 := hs59.le
 refine WL.x (X.move rfl) (by decide) ?_
 refine WL.x (X.extract rfl rfl) (by decide) ?_
 refine WL.x (X.extract rfl rfl) (by decide) ?_
 refine WL.x (X.assign rfl) (by decide) ?_
 refine WL.x (X.assign rfl) (by decide) ?_
 refine WL.nil ?_
 refine WK.nThen ?_
 refine WC.seq ?_
 refine WC.region ?_
 refine WL.x (X.loadBA (k := 11) Try.isAgg25 Try.sizeOf25 rfl rfl rfl) (by decide) ?_
 refine WL.tm (T.call Try.call30 rfl (mono30 _ _ t ⟨_, _, rfl, hs8, hs10⟩ )) (by decide) fun m61 r62 hle63 hR64 => ?_
 obtain ⟨v65, rfl, hs66⟩ := hR64
 replace hs2 := hs2.mono hle63
 replace hs4 := hs4.mono hle63
 replace hs8 := hs8.mono hle63
 replace hs10 := hs10.mono hle63
 replace hs21 := hs21.mono hle63
 replace hs28 := hs28.mono hle63
 replace hs45 := hs45.mono hle63
 replace hs52 := hs52.mono hle63
 replace hs59 := hs59.mono hle63
 have hl67 := hs66.le
 refine WL.x (X.move rfl) (by decide) ?_
 refine WL.x (X.extract rfl rfl) (by decide) ?_
 refine WL.x (X.extract rfl rfl) (by decide) ?_
 refine WL.x (X.assign rfl) (by decide) ?_
 refine WL.x (X.assign rfl) (by decide) ?_
 refine WL.nil ?_
 refine WK.nThen ?_
 refine WC.seq ?_
 rw [eqv_mono he] at hs66
 try rw [eqv_mono he]
 refine WC.region ?_
 refine WL.x (X.move rfl) (by decide) ?_
 refine WL.x (X.move rfl) (by decide) ?_
 refine WL.x (OpX.t (X.eql rfl rfl) rfl) (by decide) ?_
 refine WL.x (X.move rfl) (by decide) ?_
 refine WL.yes rfl rfl ?_
 refine WL.x (X.move rfl) (by decide) ?_
 refine WL.yes rfl rfl ?_
 refine WL.x (X.move rfl) (by decide) ?_
 refine WL.yes rfl rfl ?_
 refine WL.x (OpX.t (X.call Try.call27 rfl (sameInts27 _ _ _ hs45 _ _ hs52 )) rfl) (by decide) ?_
 refine WL.x (X.pickT rfl rfl rfl) (by decide) ?_
 refine WL.x (X.move rfl) (by decide) ?_
 refine WL.yes rfl rfl ?_
 refine WL.x (X.move rfl) (by decide) ?_
 refine WL.yes rfl rfl ?_
 refine WL.x (X.move rfl) (by decide) ?_
 refine WL.yes rfl rfl ?_
 refine WL.x (OpX.t (X.eql rfl rfl) rfl) (by decide) ?_
 refine WL.x (X.pickT rfl rfl rfl) (by decide) ?_
 refine WL.x (X.move rfl) (by decide) ?_
 refine WL.yes rfl rfl ?_
 refine WL.x (X.move rfl) (by decide) ?_
 refine WL.yes rfl rfl ?_
 refine WL.x (X.move rfl) (by decide) ?_
 refine WL.yes rfl rfl ?_
 refine WL.x (OpX.t (X.call Try.call27 rfl (sameInts27 _ _ _ hs59 _ _ hs66 )) rfl) (by decide) ?_
 refine WL.x (X.pickT rfl rfl rfl) (by decide) ?_
 refine WL.x (X.move rfl) (by decide) ?_
 refine WL.yes rfl rfl ?_
 refine WL.x (X.move rfl) (by decide) ?_
 refine WL.yes rfl rfl ?_
 refine WL.x (X.move rfl) (by decide) ?_
 refine WL.yes rfl rfl ?_
 refine WL.x (OpX.t (X.eql rfl rfl) rfl) (by decide) ?_
 refine WL.x (X.pickT rfl rfl rfl) (by decide) ?_
 refine WL.x (X.assign rfl) (by decide) ?_
 refine WL.nil ?_
 refine WK.nThen ?_
 refine WC.ret ?_
 refine WK.ret1 rfl rfl (fun w' hw' => Ret.exact hw' ?_)
 first | rfl | (exfalso; omega) | (exfalso; contradiction) | exact (bool_true rfl).symm

end Go.Proofs.C8
