import Derived.Test.YtednficclnjmjaaC8Br
import Derived.Test.YtednficclnjmjaaC8W9
import Derived.Test.YtednficclnjmjaaC8W17
/- The walk of the statement CenturySteps: its function answers true. -/
namespace Go.Proofs.C8
open Go Go.Kx
set_option linter.unusedSimpArgs false
set_option linter.unusedVariables false
set_option maxRecDepth 20000 in
set_option maxHeartbeats 4000000 in
theorem law3 (m : Mem) (cs : List Value) (s : Ser) (hs : Enc.rd m cs s) (ct : List Value) (t : Ser) (ht : Enc.rd m ct t) (time : Int) (most : Int)  (ok0 : Rng.ok s) (ok1 : Rng.ok t) (lo2 : -9223372036854775808 ≤ time) (hi2 : time ≤ 9223372036854775807) (lo3 : -9223372036854775808 ≤ most) (hi3 : most ≤ 9223372036854775807) : Exact Try.prog 3 #[.agg cs.toArray, .agg ct.toArray, .int .i64 (time), .int .i64 (most)] m (.bool true) := by
 obtain ⟨v1, v3, rfl, hs2, hs4⟩ := hs
 have hl5 := hs2.le
 have hl6 := hs4.le
 obtain ⟨v7, v9, rfl, hs8, hs10⟩ := ht
 have hl11 := hs8.le
 have hl12 := hs10.le
 refine Exact.start Try.func3 rfl Try.ntmps3 rfl fun wld => ?_
 refine WC.seq ?_
 refine WC.region ?_
 refine WL.tn (T.boxB rfl rfl) (by decide) fun b13 => ?_
 refine WL.tn (T.boxB rfl rfl) (by decide) fun b14 => ?_
 refine WL.x (X.assign rfl) (by decide) ?_
 refine WL.nil ?_
 refine WK.nThen ?_
 refine WC.seq ?_
 refine WC.region ?_
 refine WL.x (X.call Try.call21 rfl (awake21 _  )) (by decide) ?_
 refine WL.x (X.assign rfl) (by decide) ?_
 refine WL.nil ?_
 refine WK.nThen ?_
 refine WC.seq ?_
 refine WC.seq ?_
 refine WC.region ?_
 refine WL.x (X.loadBA (k := 1) Try.isAgg25 Try.sizeOf25 rfl rfl rfl) (by decide) ?_
 refine WL.cond (X.call Try.call22 rfl (few22 _ _ s ⟨_, _, rfl, hs2, hs4⟩ )) (by decide) (fun h15 => ?_) (fun h15 => ?_)
 ·refine WL.x (X.not rfl) (by decide) ?_
  refine WL.x (X.move rfl) (by decide) ?_
  refine WL.yes rfl rfl ?_
  refine WL.x (X.loadBA (k := 0) Try.isAgg25 Try.sizeOf25 rfl rfl rfl) (by decide) ?_
  refine WL.yes rfl rfl ?_
  refine WL.cond (X.call Try.call22 rfl (few22 _ _ t ⟨_, _, rfl, hs8, hs10⟩ )) (by decide) (fun h16 => ?_) (fun h16 => ?_)
  ·refine WL.yes rfl rfl ?_
   refine WL.x (X.not rfl) (by decide) ?_
   refine WL.x (X.pickF rfl rfl rfl) (by decide) ?_
   refine WL.nil ?_
   refine WK.nThen ?_
   refine WC.condF rfl ?_
   refine WC.skip ?_
   refine WK.nThen ?_
   refine WC.seq ?_
   refine WC.region ?_
   refine WL.x (X.loadBA (k := 1) Try.isAgg25 Try.sizeOf25 rfl rfl rfl) (by decide) ?_
   refine WL.x (X.loadBA (k := 0) Try.isAgg25 Try.sizeOf25 rfl rfl rfl) (by decide) ?_
   refine WL.x (X.move rfl) (by decide) ?_
   refine WL.tm (T.call Try.call23 rfl (break23 _ _ s ⟨_, _, rfl, hs2, hs4⟩ _ t ⟨_, _, rfl, hs8, hs10⟩ _ )) (by decide) fun m17 r18 hle19 hR20 => ?_
   obtain ⟨v21, rfl, hs22⟩ := hR20
   replace hs2 := hs2.mono hle19
   replace hs4 := hs4.mono hle19
   replace hs8 := hs8.mono hle19
   replace hs10 := hs10.mono hle19
   have hl23 := hs22.le
   refine WL.x (X.move rfl) (by decide) ?_
   refine WL.x (X.extract rfl rfl) (by decide) ?_
   refine WL.x (X.extract rfl rfl) (by decide) ?_
   refine WL.x (X.assign rfl) (by decide) ?_
   refine WL.x (X.assign rfl) (by decide) ?_
   refine WL.nil ?_
   refine WK.nThen ?_
   refine WC.seq ?_
   refine WC.region ?_
   refine WL.x (X.loadBA (k := 1) Try.isAgg25 Try.sizeOf25 rfl rfl rfl) (by decide) ?_
   refine WL.x (X.loadBA (k := 0) Try.isAgg25 Try.sizeOf25 rfl rfl rfl) (by decide) ?_
   refine WL.x (X.move rfl) (by decide) ?_
   refine WL.tm (T.call Try.call24 rfl (break24 _ _ s ⟨_, _, rfl, hs2, hs4⟩ _ t ⟨_, _, rfl, hs8, hs10⟩ _ )) (by decide) fun m24 r25 hle26 hR27 => ?_
   obtain ⟨v28, rfl, hs29⟩ := hR27
   replace hs2 := hs2.mono hle26
   replace hs4 := hs4.mono hle26
   replace hs8 := hs8.mono hle26
   replace hs10 := hs10.mono hle26
   replace hs22 := hs22.mono hle26
   have hl30 := hs29.le
   refine WL.x (X.move rfl) (by decide) ?_
   refine WL.x (X.extract rfl rfl) (by decide) ?_
   refine WL.x (X.extract rfl rfl) (by decide) ?_
   refine WL.x (X.assign rfl) (by decide) ?_
   refine WL.x (X.assign rfl) (by decide) ?_
   refine WL.nil ?_
   refine WK.nThen ?_
   refine WC.seq ?_
   refine WC.region ?_
   refine WL.x (X.loadBA (k := 1) Try.isAgg25 Try.sizeOf25 rfl rfl rfl) (by decide) ?_
   refine WL.x (X.loadBA (k := 0) Try.isAgg25 Try.sizeOf25 rfl rfl rfl) (by decide) ?_
   refine WL.x (X.move rfl) (by decide) ?_
   refine WL.x (X.move rfl) (by decide) ?_
   refine WL.x (X.call Try.call25 rfl (adjust25 _ _ s ⟨_, _, rfl, hs2, hs4⟩ _ t ⟨_, _, rfl, hs8, hs10⟩ _ _ )) (by decide) ?_
   refine WL.x (X.move rfl) (by decide) ?_
   refine WL.x (X.extract rfl rfl) (by decide) ?_
   refine WL.x (X.extract rfl rfl) (by decide) ?_
   refine WL.tn (T.alloc Try.zeroValue33 rfl) (by decide) fun b31 => ?_
   refine WL.ts (T.storeBA (k := 0) Try.sizeOf33 rfl rfl rfl (one_cons rfl (one_cons rfl one_nil)) rfl rfl) ?_
   refine WL.x (X.assign rfl) (by decide) ?_
   refine WL.nil ?_
   refine WK.nThen ?_
   refine WC.seq ?_
   refine WC.region ?_
   refine WL.x (X.loadBA (k := 2) Try.isAgg25 Try.sizeOf25 rfl rfl rfl) (by decide) ?_
   refine WL.x (X.loadBA (k := 1) Try.isAgg25 Try.sizeOf25 rfl rfl rfl) (by decide) ?_
   refine WL.x (X.move rfl) (by decide) ?_
   refine WL.x (X.move rfl) (by decide) ?_
   refine WL.x (X.call Try.call26 rfl (adjust26 _ _ s ⟨_, _, rfl, hs2, hs4⟩ _ t ⟨_, _, rfl, hs8, hs10⟩ _ _ )) (by decide) ?_
   refine WL.x (X.move rfl) (by decide) ?_
   refine WL.x (X.extract rfl rfl) (by decide) ?_
   refine WL.x (X.extract rfl rfl) (by decide) ?_
   refine WL.tn (T.alloc Try.zeroValue33 rfl) (by decide) fun b32 => ?_
   refine WL.ts (T.storeBA (k := 0) Try.sizeOf33 rfl rfl rfl (one_cons rfl (one_cons rfl one_nil)) rfl rfl) ?_
   refine WL.x (X.assign rfl) (by decide) ?_
   refine WL.nil ?_
   refine WK.nThen ?_
   refine WC.seq ?_
   refine WC.seq ?_
   refine WC.region ?_
   refine WL.x (X.move rfl) (by decide) ?_
   refine WL.x (X.move rfl) (by decide) ?_
   refine WL.x (OpX.t (X.call Try.call27 rfl (sameInts27 _ _ _ hs22 _ _ hs29 )) rfl) (by decide) ?_
   refine WL.x (X.not rfl) (by decide) ?_
   refine WL.x (X.move rfl) (by decide) ?_
   refine WL.yes rfl rfl ?_
   refine WL.x (X.move rfl) (by decide) ?_
   refine WL.yes rfl rfl ?_
   refine WL.x (X.move rfl) (by decide) ?_
   refine WL.yes rfl rfl ?_
   refine WL.x (OpX.f (X.neq rfl rfl) (fun h => h rfl)) (by decide) ?_
   refine WL.x (X.pickF rfl rfl rfl) (by decide) ?_
   refine WL.x (X.move rfl) (by decide) ?_
   refine WL.yes rfl rfl ?_
   refine WL.x (X.loadBA (k := 1) Try.isAgg33 Try.sizeOf33 rfl rfl rfl) (by decide) ?_
   refine WL.yes rfl rfl ?_
   refine WL.x (X.loadBA (k := 0) Try.isAgg33 Try.sizeOf33 rfl rfl rfl) (by decide) ?_
   refine WL.yes rfl rfl ?_
   refine WL.x (OpX.f (X.neqS (a := (adjR s t time most).1) (b := (adjR s t time most).1) gd33 (fun w => eqS33 9998 _ _ w) rfl rfl) (fun h => h rfl)) (by decide) ?_
   refine WL.x (X.pickF rfl rfl rfl) (by decide) ?_
   refine WL.x (X.move rfl) (by decide) ?_
   refine WL.yes rfl rfl ?_
   refine WL.x (X.move rfl) (by decide) ?_
   refine WL.yes rfl rfl ?_
   refine WL.x (X.move rfl) (by decide) ?_
   refine WL.yes rfl rfl ?_
   refine WL.x (OpX.f (X.neq rfl rfl) (fun h => h rfl)) (by decide) ?_
   refine WL.x (X.pickF rfl rfl rfl) (by decide) ?_
   refine WL.nil ?_
   refine WK.nThen ?_
   refine WC.condF rfl ?_
   refine WC.skip ?_
   refine WK.nThen ?_
   refine WC.seq ?_
   refine WC.region ?_
   refine WL.x (X.loadBA (k := 3) Try.isAgg25 Try.sizeOf25 rfl rfl rfl) (by decide) ?_
   refine WL.x (X.move rfl) (by decide) ?_
   refine WL.tm (T.call Try.call28 rfl (steps28 _ _ s ⟨_, _, rfl, hs2, hs4⟩ _ )) (by decide) fun m33 r34 hle35 hR36 => ?_
   obtain ⟨v37, rfl, hs38⟩ := hR36
   replace hs2 := hs2.mono hle35
   replace hs4 := hs4.mono hle35
   replace hs8 := hs8.mono hle35
   replace hs10 := hs10.mono hle35
   replace hs22 := hs22.mono hle35
   replace hs29 := hs29.mono hle35
   have hl39 := hs38.le
   refine WL.x (X.move rfl) (by decide) ?_
   refine WL.x (X.extract rfl rfl) (by decide) ?_
   refine WL.x (X.extract rfl rfl) (by decide) ?_
   refine WL.x (X.extract rfl rfl) (by decide) ?_
   refine WL.x (X.assign rfl) (by decide) ?_
   refine WL.x (X.assign rfl) (by decide) ?_
   refine WL.x (X.assign rfl) (by decide) ?_
   refine WL.nil ?_
   refine WK.nThen ?_
   refine WC.seq ?_
   refine WC.region ?_
   refine WL.x (X.loadBA (k := 3) Try.isAgg25 Try.sizeOf25 rfl rfl rfl) (by decide) ?_
   refine WL.x (X.move rfl) (by decide) ?_
   refine WL.tm (T.call Try.call29 rfl (steps29 _ _ s ⟨_, _, rfl, hs2, hs4⟩ _ )) (by decide) fun m40 r41 hle42 hR43 => ?_
   obtain ⟨v44, rfl, hs45⟩ := hR43
   replace hs2 := hs2.mono hle42
   replace hs4 := hs4.mono hle42
   replace hs8 := hs8.mono hle42
   replace hs10 := hs10.mono hle42
   replace hs22 := hs22.mono hle42
   replace hs29 := hs29.mono hle42
   replace hs38 := hs38.mono hle42
   have hl46 := hs45.le
   refine WL.x (X.move rfl) (by decide) ?_
   refine WL.x (X.extract rfl rfl) (by decide) ?_
   refine WL.x (X.extract rfl rfl) (by decide) ?_
   refine WL.x (X.extract rfl rfl) (by decide) ?_
   refine WL.x (X.assign rfl) (by decide) ?_
   refine WL.x (X.assign rfl) (by decide) ?_
   refine WL.x (X.assign rfl) (by decide) ?_
   refine WL.nil ?_
   refine WK.nThen ?_
   refine WC.seq ?_
   refine WC.region ?_
   refine WL.x (X.loadBA (k := 3) Try.isAgg25 Try.sizeOf25 rfl rfl rfl) (by decide) ?_
   refine WL.tm (T.call Try.call30 rfl (mono30 _ _ s ⟨_, _, rfl, hs2, hs4⟩ )) (by decide) fun m47 r48 hle49 hR50 => ?_
   obtain ⟨v51, rfl, hs52⟩ := hR50
   replace hs2 := hs2.mono hle49
   replace hs4 := hs4.mono hle49
   replace hs8 := hs8.mono hle49
   replace hs10 := hs10.mono hle49
   replace hs22 := hs22.mono hle49
   replace hs29 := hs29.mono hle49
   replace hs38 := hs38.mono hle49
   replace hs45 := hs45.mono hle49
   have hl53 := hs52.le
   refine WL.x (X.move rfl) (by decide) ?_
   refine WL.x (X.extract rfl rfl) (by decide) ?_
   refine WL.x (X.extract rfl rfl) (by decide) ?_
   refine WL.x (X.assign rfl) (by decide) ?_
   refine WL.x (X.assign rfl) (by decide) ?_
   refine WL.nil ?_
   refine WK.nThen ?_
   refine WC.seq ?_
   refine WC.region ?_
   refine WL.x (X.loadBA (k := 3) Try.isAgg25 Try.sizeOf25 rfl rfl rfl) (by decide) ?_
   refine WL.tm (T.call Try.call31 rfl (mono31 _ _ s ⟨_, _, rfl, hs2, hs4⟩ )) (by decide) fun m54 r55 hle56 hR57 => ?_
   obtain ⟨v58, rfl, hs59⟩ := hR57
   replace hs2 := hs2.mono hle56
   replace hs4 := hs4.mono hle56
   replace hs8 := hs8.mono hle56
   replace hs10 := hs10.mono hle56
   replace hs22 := hs22.mono hle56
   replace hs29 := hs29.mono hle56
   replace hs38 := hs38.mono hle56
   replace hs45 := hs45.mono hle56
   replace hs52 := hs52.mono hle56
   have hl60 := hs59.le
   refine WL.x (X.move rfl) (by decide) ?_
   refine WL.x (X.extract rfl rfl) (by decide) ?_
   refine WL.x (X.extract rfl rfl) (by decide) ?_
   refine WL.x (X.assign rfl) (by decide) ?_
   refine WL.x (X.assign rfl) (by decide) ?_
   refine WL.nil ?_
   refine WK.nThen ?_
   refine WC.seq ?_
   refine WC.region ?_
   refine WL.x (X.loadBA (k := 3) Try.isAgg25 Try.sizeOf25 rfl rfl rfl) (by decide) ?_
   refine WL.tm (T.call Try.call32 rfl (falls32 _ _ s ⟨_, _, rfl, hs2, hs4⟩ )) (by decide) fun m61 r62 hle63 hR64 => ?_
   obtain ⟨v65, rfl, hs66⟩ := hR64
   replace hs2 := hs2.mono hle63
   replace hs4 := hs4.mono hle63
   replace hs8 := hs8.mono hle63
   replace hs10 := hs10.mono hle63
   replace hs22 := hs22.mono hle63
   replace hs29 := hs29.mono hle63
   replace hs38 := hs38.mono hle63
   replace hs45 := hs45.mono hle63
   replace hs52 := hs52.mono hle63
   replace hs59 := hs59.mono hle63
   have hl67 := hs66.le
   refine WL.x (X.move rfl) (by decide) ?_
   refine WL.x (X.extract rfl rfl) (by decide) ?_
   refine WL.x (X.extract rfl rfl) (by decide) ?_
   refine WL.x (X.assign rfl) (by decide) ?_
   refine WL.x (X.assign rfl) (by decide) ?_
   refine WL.nil ?_
   refine WK.nThen ?_
   refine WC.seq ?_
   refine WC.region ?_
   refine WL.x (X.loadBA (k := 3) Try.isAgg25 Try.sizeOf25 rfl rfl rfl) (by decide) ?_
   refine WL.tm (T.call Try.call33 rfl (falls33 _ _ s ⟨_, _, rfl, hs2, hs4⟩ )) (by decide) fun m68 r69 hle70 hR71 => ?_
   obtain ⟨v72, rfl, hs73⟩ := hR71
   replace hs2 := hs2.mono hle70
   replace hs4 := hs4.mono hle70
   replace hs8 := hs8.mono hle70
   replace hs10 := hs10.mono hle70
   replace hs22 := hs22.mono hle70
   replace hs29 := hs29.mono hle70
   replace hs38 := hs38.mono hle70
   replace hs45 := hs45.mono hle70
   replace hs52 := hs52.mono hle70
   replace hs59 := hs59.mono hle70
   replace hs66 := hs66.mono hle70
   have hl74 := hs73.le
   refine WL.x (X.move rfl) (by decide) ?_
   refine WL.x (X.extract rfl rfl) (by decide) ?_
   refine WL.x (X.extract rfl rfl) (by decide) ?_
   refine WL.x (X.assign rfl) (by decide) ?_
   refine WL.x (X.assign rfl) (by decide) ?_
   refine WL.nil ?_
   refine WK.nThen ?_
   refine WC.seq ?_
   refine WC.region ?_
   refine WL.x (X.move rfl) (by decide) ?_
   refine WL.x (X.move rfl) (by decide) ?_
   refine WL.yes rfl rfl ?_
   refine WL.x (X.move rfl) (by decide) ?_
   refine WL.yes rfl rfl ?_
   refine WL.x (X.move rfl) (by decide) ?_
   refine WL.yes rfl rfl ?_
   refine WL.x (OpX.t (X.eql rfl rfl) rfl) (by decide) ?_
   refine WL.x (X.pickT rfl rfl rfl) (by decide) ?_
   refine WL.x (X.move rfl) (by decide) ?_
   refine WL.yes rfl rfl ?_
   refine WL.x (X.move rfl) (by decide) ?_
   refine WL.yes rfl rfl ?_
   refine WL.x (X.move rfl) (by decide) ?_
   refine WL.yes rfl rfl ?_
   refine WL.x (OpX.t (X.call Try.call27 rfl (sameInts27 _ _ _ hs38 _ _ hs45 )) rfl) (by decide) ?_
   refine WL.x (X.pickT rfl rfl rfl) (by decide) ?_
   refine WL.x (X.move rfl) (by decide) ?_
   refine WL.yes rfl rfl ?_
   refine WL.x (X.move rfl) (by decide) ?_
   refine WL.yes rfl rfl ?_
   refine WL.x (X.move rfl) (by decide) ?_
   refine WL.yes rfl rfl ?_
   refine WL.x (OpX.t (X.eql rfl rfl) rfl) (by decide) ?_
   refine WL.x (X.pickT rfl rfl rfl) (by decide) ?_
   refine WL.x (X.move rfl) (by decide) ?_
   refine WL.yes rfl rfl ?_
   refine WL.x (X.move rfl) (by decide) ?_
   refine WL.yes rfl rfl ?_
   refine WL.x (X.move rfl) (by decide) ?_
   refine WL.yes rfl rfl ?_
   refine WL.x (OpX.t (X.call Try.call27 rfl (sameInts27 _ _ _ hs52 _ _ hs59 )) rfl) (by decide) ?_
   refine WL.x (X.pickT rfl rfl rfl) (by decide) ?_
   refine WL.x (X.move rfl) (by decide) ?_
   refine WL.yes rfl rfl ?_
   refine WL.x (X.move rfl) (by decide) ?_
   refine WL.yes rfl rfl ?_
   refine WL.x (X.move rfl) (by decide) ?_
   refine WL.yes rfl rfl ?_
   refine WL.x (OpX.t (X.eql rfl rfl) rfl) (by decide) ?_
   refine WL.x (X.pickT rfl rfl rfl) (by decide) ?_
   refine WL.x (X.move rfl) (by decide) ?_
   refine WL.yes rfl rfl ?_
   refine WL.x (X.move rfl) (by decide) ?_
   refine WL.yes rfl rfl ?_
   refine WL.x (X.move rfl) (by decide) ?_
   refine WL.yes rfl rfl ?_
   refine WL.x (OpX.t (X.call Try.call27 rfl (sameInts27 _ _ _ hs66 _ _ hs73 )) rfl) (by decide) ?_
   refine WL.x (X.pickT rfl rfl rfl) (by decide) ?_
   refine WL.x (X.move rfl) (by decide) ?_
   refine WL.yes rfl rfl ?_
   refine WL.x (X.move rfl) (by decide) ?_
   refine WL.yes rfl rfl ?_
   refine WL.x (X.move rfl) (by decide) ?_
   refine WL.yes rfl rfl ?_
   refine WL.x (OpX.t (X.eql rfl rfl) rfl) (by decide) ?_
   refine WL.x (X.pickT rfl rfl rfl) (by decide) ?_
   refine WL.x (X.assign rfl) (by decide) ?_
   refine WL.nil ?_
   refine WK.nThen ?_
   refine WC.ret ?_
   refine WK.ret1 rfl rfl (fun w' hw' => Ret.exact hw' ?_)
   first | rfl | (exfalso; omega) | (exfalso; contradiction) | exact (bool_true rfl).symm | exact (bool_true (by omega)).symm
  ·refine WL.yes rfl rfl ?_
   refine WL.x (X.not rfl) (by decide) ?_
   refine WL.x (X.pickF rfl rfl rfl) (by decide) ?_
   refine WL.nil ?_
   refine WK.nThen ?_
   refine WC.condT rfl ?_
   refine WC.seq ?_
   refine WC.region ?_
   refine WL.x (X.move rfl) (by decide) ?_
   refine WL.x (X.assign rfl) (by decide) ?_
   refine WL.nil ?_
   refine WK.nThen ?_
   refine WC.ret ?_
   refine WK.rThen ?_
   refine WK.ret1 rfl rfl (fun w' hw' => Ret.exact hw' ?_)
   first | rfl | (exfalso; omega) | (exfalso; contradiction) | exact (bool_true rfl).symm | exact (bool_true (by omega)).symm
 ·refine WL.x (X.not rfl) (by decide) ?_
  refine WL.x (X.move rfl) (by decide) ?_
  refine WL.no rfl rfl rfl (by decide) ?_
  refine WL.no rfl rfl rfl (by decide) ?_
  refine WL.no rfl rfl rfl (by decide) ?_
  refine WL.x (X.pickT rfl rfl rfl) (by decide) ?_
  refine WL.nil ?_
  refine WK.nThen ?_
  refine WC.condT rfl ?_
  refine WC.seq ?_
  refine WC.region ?_
  refine WL.x (X.move rfl) (by decide) ?_
  refine WL.x (X.assign rfl) (by decide) ?_
  refine WL.nil ?_
  refine WK.nThen ?_
  refine WC.ret ?_
  refine WK.rThen ?_
  refine WK.ret1 rfl rfl (fun w' hw' => Ret.exact hw' ?_)
  first | rfl | (exfalso; omega) | (exfalso; contradiction) | exact (bool_true rfl).symm | exact (bool_true (by omega)).symm
end Go.Proofs.C8
