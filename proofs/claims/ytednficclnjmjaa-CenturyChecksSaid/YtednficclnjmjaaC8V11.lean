import Derived.Test.YtednficclnjmjaaC8Br
import Derived.Test.YtednficclnjmjaaC8W9
import Derived.Test.YtednficclnjmjaaC8W14
/- The walk of the statement CenturyChecks: its function answers true. -/
namespace Go.Proofs.C8
open Go Go.Kx
set_option linter.unusedSimpArgs false
set_option linter.unusedVariables false
set_option maxRecDepth 20000 in
set_option maxHeartbeats 4000000 in
theorem law11 (m : Mem) (cs : List Value) (s : Ser) (hs : Enc.rd m cs s) (cx : List Value) (x : Rl) (hx : Enc.rd m cx x)  (ok0 : Rng.ok s) (ok1 : Rng.ok x) : Exact Try.prog 11 #[.agg cs.toArray, .agg cx.toArray] m (.bool true) := by
 obtain ⟨v1, v3, rfl, hs2, hs4⟩ := hs
 have hl5 := hs2.le
 have hl6 := hs4.le
 obtain ⟨v7, v9, rfl, hs8, hs10⟩ := hx
 have hl11 := hs8.le
 have hl12 := hs10.le
 refine Exact.start Try.func11 rfl Try.ntmps11 rfl fun wld => ?_
 refine WC.seq ?_
 refine WC.region ?_
 refine WL.tn (T.boxB rfl rfl) (by decide) fun b13 => ?_
 refine WL.tn (T.boxB rfl rfl) (by decide) fun b14 => ?_
 refine WL.x (X.assign rfl) (by decide) ?_
 refine WL.nil ?_
 refine WK.nThen ?_
 refine WC.seq ?_
 refine WC.region ?_
 refine WL.x (X.call Try.call21 rfl (awake21 _  )) (by decide) ?_
 refine WL.x (X.assign rfl) (by decide) ?_
 refine WL.nil ?_
 refine WK.nThen ?_
 refine WC.seq ?_
 refine WC.seq ?_
 refine WC.region ?_
 refine WL.x (X.loadBA (k := 1) Try.isAgg25 Try.sizeOf25 rfl rfl rfl) (by decide) ?_
 refine WL.cond (X.call Try.call22 rfl (few22 _ _ s ⟨_, _, rfl, hs2, hs4⟩ )) (by decide) (fun h15 => ?_) (fun h15 => ?_)
 ·refine WL.x (X.not rfl) (by decide) ?_
  refine WL.x (X.move rfl) (by decide) ?_
  refine WL.yes rfl rfl ?_
  refine WL.x (X.loadBA (k := 0) Try.isAgg52 Try.sizeOf52 rfl rfl rfl) (by decide) ?_
  refine WL.yes rfl rfl ?_
  refine WL.cond (X.call Try.call38 rfl (light38 _ _ x ⟨_, _, rfl, hs8, hs10⟩ )) (by decide) (fun h16 => ?_) (fun h16 => ?_)
  ·refine WL.yes rfl rfl ?_
   refine WL.x (X.not rfl) (by decide) ?_
   refine WL.x (X.pickF rfl rfl rfl) (by decide) ?_
   refine WL.nil ?_
   refine WK.nThen ?_
   refine WC.condF rfl ?_
   refine WC.skip ?_
   refine WK.nThen ?_
   refine WC.seq ?_
   refine WC.region ?_
   refine WL.x (X.loadBA (k := 1) Try.isAgg25 Try.sizeOf25 rfl rfl rfl) (by decide) ?_
   refine WL.x (X.call Try.call34 rfl (check34 _ _ s ⟨_, _, rfl, hs2, hs4⟩ )) (by decide) ?_
   refine WL.x (X.move rfl) (by decide) ?_
   refine WL.x (X.extract rfl rfl) (by decide) ?_
   refine WL.x (X.extract rfl rfl) (by decide) ?_
   refine WL.x (X.assign rfl) (by decide) ?_
   refine WL.x (X.assign rfl) (by decide) ?_
   refine WL.nil ?_
   refine WK.nThen ?_
   refine WC.seq ?_
   refine WC.region ?_
   refine WL.x (X.loadBA (k := 1) Try.isAgg25 Try.sizeOf25 rfl rfl rfl) (by decide) ?_
   refine WL.x (X.call Try.call48 rfl (check48 _ _ s ⟨_, _, rfl, hs2, hs4⟩ )) (by decide) ?_
   refine WL.x (X.move rfl) (by decide) ?_
   refine WL.x (X.extract rfl rfl) (by decide) ?_
   refine WL.x (X.extract rfl rfl) (by decide) ?_
   refine WL.x (X.assign rfl) (by decide) ?_
   refine WL.x (X.assign rfl) (by decide) ?_
   refine WL.nil ?_
   refine WK.nThen ?_
   refine WC.seq ?_
   refine WC.region ?_
   refine WL.x (X.loadBA (k := 1) Try.isAgg25 Try.sizeOf25 rfl rfl rfl) (by decide) ?_
   refine WL.x (X.field Try.runUnderlying52 rfl Try.sizeOf28 rfl) (by decide) ?_
   refine WL.x (X.loadB (k := 0) Try.isAgg28 rfl rfl rfl) (by decide) ?_
   refine WL.x (X.field Try.runUnderlying52 rfl Try.sizeOf28 rfl) (by decide) ?_
   refine WL.x (X.loadB (k := 0) Try.isAgg28 rfl rfl rfl) (by decide) ?_
   refine WL.tm (T.call Try.call39 rfl (even39 _ _ s ⟨_, _, rfl, hs2, hs4⟩ _ _ hs8 _ _ hs10 )) (by decide) fun m17 r18 hle19 hR20 => ?_
   obtain ⟨v21, rfl, hs22⟩ := hR20
   replace hs2 := hs2.mono hle19
   replace hs4 := hs4.mono hle19
   replace hs8 := hs8.mono hle19
   replace hs10 := hs10.mono hle19
   have hl23 := hs22.le
   refine WL.x (X.move rfl) (by decide) ?_
   refine WL.x (X.extract rfl rfl) (by decide) ?_
   refine WL.x (X.extract rfl rfl) (by decide) ?_
   refine WL.x (X.assign rfl) (by decide) ?_
   refine WL.x (X.assign rfl) (by decide) ?_
   refine WL.nil ?_
   refine WK.nThen ?_
   refine WC.seq ?_
   refine WC.region ?_
   refine WL.x (X.loadBA (k := 1) Try.isAgg25 Try.sizeOf25 rfl rfl rfl) (by decide) ?_
   refine WL.x (X.field Try.runUnderlying52 rfl Try.sizeOf28 rfl) (by decide) ?_
   refine WL.x (X.loadB (k := 0) Try.isAgg28 rfl rfl rfl) (by decide) ?_
   refine WL.x (X.field Try.runUnderlying52 rfl Try.sizeOf28 rfl) (by decide) ?_
   refine WL.x (X.loadB (k := 0) Try.isAgg28 rfl rfl rfl) (by decide) ?_
   refine WL.tm (T.call Try.call49 rfl (even49 _ _ s ⟨_, _, rfl, hs2, hs4⟩ _ _ hs8 _ _ hs10 )) (by decide) fun m24 r25 hle26 hR27 => ?_
   obtain ⟨v28, rfl, hs29⟩ := hR27
   replace hs2 := hs2.mono hle26
   replace hs4 := hs4.mono hle26
   replace hs8 := hs8.mono hle26
   replace hs10 := hs10.mono hle26
   replace hs22 := hs22.mono hle26
   have hl30 := hs29.le
   refine WL.x (X.move rfl) (by decide) ?_
   refine WL.x (X.extract rfl rfl) (by decide) ?_
   refine WL.x (X.extract rfl rfl) (by decide) ?_
   refine WL.x (X.assign rfl) (by decide) ?_
   refine WL.x (X.assign rfl) (by decide) ?_
   refine WL.nil ?_
   refine WK.nThen ?_
   refine WC.seq ?_
   refine WC.region ?_
   refine WL.x (X.loadBA (k := 1) Try.isAgg25 Try.sizeOf25 rfl rfl rfl) (by decide) ?_
   refine WL.tm (T.call Try.call50 rfl (evens50 _ _ s ⟨_, _, rfl, hs2, hs4⟩ )) (by decide) fun m31 r32 hle33 hR34 => ?_
   obtain ⟨v35, rfl, hs36⟩ := hR34
   replace hs2 := hs2.mono hle33
   replace hs4 := hs4.mono hle33
   replace hs8 := hs8.mono hle33
   replace hs10 := hs10.mono hle33
   replace hs22 := hs22.mono hle33
   replace hs29 := hs29.mono hle33
   have hl37 := hs36.le
   refine WL.x (X.move rfl) (by decide) ?_
   refine WL.x (X.extract rfl rfl) (by decide) ?_
   refine WL.x (X.extract rfl rfl) (by decide) ?_
   refine WL.x (X.assign rfl) (by decide) ?_
   refine WL.x (X.assign rfl) (by decide) ?_
   refine WL.nil ?_
   refine WK.nThen ?_
   refine WC.seq ?_
   refine WC.region ?_
   refine WL.x (X.loadBA (k := 1) Try.isAgg25 Try.sizeOf25 rfl rfl rfl) (by decide) ?_
   refine WL.tm (T.call Try.call51 rfl (evens51 _ _ s ⟨_, _, rfl, hs2, hs4⟩ )) (by decide) fun m38 r39 hle40 hR41 => ?_
   obtain ⟨v42, rfl, hs43⟩ := hR41
   replace hs2 := hs2.mono hle40
   replace hs4 := hs4.mono hle40
   replace hs8 := hs8.mono hle40
   replace hs10 := hs10.mono hle40
   replace hs22 := hs22.mono hle40
   replace hs29 := hs29.mono hle40
   replace hs36 := hs36.mono hle40
   have hl44 := hs43.le
   refine WL.x (X.move rfl) (by decide) ?_
   refine WL.x (X.extract rfl rfl) (by decide) ?_
   refine WL.x (X.extract rfl rfl) (by decide) ?_
   refine WL.x (X.assign rfl) (by decide) ?_
   refine WL.x (X.assign rfl) (by decide) ?_
   refine WL.nil ?_
   refine WK.nThen ?_
   refine WC.seq ?_
   refine WC.draw (π := (.cons 0 (.cons 1 (.cons 2 (.cons 3 (.cons 4 (.cons 5 (.cons 6 (.cons 7 (.cons 8 (.cons 9 (.cons 10 (.cons 11 (.cons 12 (.cons 13 (.cons 14 (.cons 15 (.cons 16 (.cons 17 (.cons 18 (.cons 19 (.cons 20 (.cons 21 (.cons 22 (.cons 23 (.cons 24 (.cons 25 (.cons 26 (.cons 27 (.cons 28 (.cons 29 (.cons 30 (.cons 31 (.cons 32 (.cons 33 (.cons 34 (.cons 35 (.cons 36 (.cons 37 (.cons 38 (.cons 39 (.cons 40 (.cons 41 (.cons 42 (.cons 43 (.cons 44 (.cons 45 (.cons 46 .done)))))))))))))))))))))))))))))))))))))))))))))))) [] [] rfl (by kernel_rfl) ?_
   refine DW.x rfl rfl (X.move rfl) (by decide) ?_
   refine DW.x rfl rfl (X.move rfl) (by decide) ?_
   refine DW.x rfl rfl (X.move rfl) (by decide) ?_
   refine DW.x rfl rfl (X.move rfl) (by decide) ?_
   refine DW.x rfl rfl (OpX.t (X.eql rfl rfl) rfl) (by decide) ?_
   refine DW.x rfl rfl (X.pickT rfl rfl rfl) (by decide) ?_
   refine DW.x rfl rfl (X.move rfl) (by decide) ?_
   refine DW.x rfl rfl (X.move rfl) (by decide) ?_
   refine DW.x rfl rfl (X.move rfl) (by decide) ?_
   refine DW.x rfl rfl (OpX.t (X.eql rfl rfl) rfl) (by decide) ?_
   refine DW.x rfl rfl (X.pickT rfl rfl rfl) (by decide) ?_
   refine DW.x rfl rfl (X.move rfl) (by decide) ?_
   refine DW.x rfl rfl (X.loadBA (k := 1) Try.isAgg25 Try.sizeOf25 rfl rfl rfl) (by decide) ?_
   refine DW.x rfl rfl (X.field Try.runUnderlying52 rfl Try.sizeOf28 rfl) (by decide) ?_
   refine DW.x rfl rfl (X.loadB (k := 0) Try.isAgg28 rfl rfl rfl) (by decide) ?_
   refine DW.x rfl rfl (X.field Try.runUnderlying52 rfl Try.sizeOf28 rfl) (by decide) ?_
   refine DW.x rfl rfl (X.loadB (k := 0) Try.isAgg28 rfl rfl rfl) (by decide) ?_
   refine DW.x rfl rfl (X.call Try.call52 rfl (keeps52 _ _ s ⟨_, _, rfl, hs2, hs4⟩ _ _ hs8 _ _ hs10 )) (by decide) ?_
   refine DW.x rfl rfl (X.loadBA (k := 1) Try.isAgg25 Try.sizeOf25 rfl rfl rfl) (by decide) ?_
   refine DW.x rfl rfl (X.field Try.runUnderlying52 rfl Try.sizeOf28 rfl) (by decide) ?_
   refine DW.x rfl rfl (X.loadB (k := 0) Try.isAgg28 rfl rfl rfl) (by decide) ?_
   refine DW.x rfl rfl (X.field Try.runUnderlying52 rfl Try.sizeOf28 rfl) (by decide) ?_
   refine DW.x rfl rfl (X.loadB (k := 0) Try.isAgg28 rfl rfl rfl) (by decide) ?_
   refine DW.x rfl rfl (X.call Try.call53 rfl (keeps53 _ _ s ⟨_, _, rfl, hs2, hs4⟩ _ _ hs8 _ _ hs10 )) (by decide) ?_
   refine DW.x rfl rfl (OpX.t (X.eql rfl rfl) rfl) (by decide) ?_
   refine DW.x rfl rfl (X.pickT rfl rfl rfl) (by decide) ?_
   refine DW.x rfl rfl (X.move rfl) (by decide) ?_
   refine DW.x rfl rfl (X.move rfl) (by decide) ?_
   refine DW.x rfl rfl (X.move rfl) (by decide) ?_
   refine DW.x rfl rfl (OpX.t (X.call Try.call27 rfl (sameInts27 _ _ _ hs22 _ _ hs29 )) rfl) (by decide) ?_
   refine DW.x rfl rfl (X.pickT rfl rfl rfl) (by decide) ?_
   refine DW.x rfl rfl (X.move rfl) (by decide) ?_
   refine DW.x rfl rfl (X.move rfl) (by decide) ?_
   refine DW.x rfl rfl (X.move rfl) (by decide) ?_
   refine DW.x rfl rfl (OpX.t (X.eql rfl rfl) rfl) (by decide) ?_
   refine DW.x rfl rfl (X.pickT rfl rfl rfl) (by decide) ?_
   refine DW.x rfl rfl (X.move rfl) (by decide) ?_
   refine DW.x rfl rfl (X.move rfl) (by decide) ?_
   refine DW.x rfl rfl (X.move rfl) (by decide) ?_
   refine DW.x rfl rfl (OpX.t (X.call Try.call54 rfl (sameSpans54 _ _ _ hs36 _ _ hs43 )) rfl) (by decide) ?_
   refine DW.x rfl rfl (X.pickT rfl rfl rfl) (by decide) ?_
   refine DW.x rfl rfl (X.move rfl) (by decide) ?_
   refine DW.x rfl rfl (X.move rfl) (by decide) ?_
   refine DW.x rfl rfl (X.move rfl) (by decide) ?_
   refine DW.x rfl rfl (OpX.t (X.eql rfl rfl) rfl) (by decide) ?_
   refine DW.x rfl rfl (X.pickT rfl rfl rfl) (by decide) ?_
   refine DW.x rfl rfl (X.assign rfl) (by decide) ?_
   refine DW.nil ?_
   refine WK.nThen ?_
   refine WC.ret ?_
   refine WK.ret1 rfl rfl (fun w' hw' => Ret.exact hw' ?_)
   first | rfl | (exfalso; omega) | (exfalso; contradiction) | exact (bool_true rfl).symm | exact (bool_true (by omega)).symm
  ·refine WL.yes rfl rfl ?_
   refine WL.x (X.not rfl) (by decide) ?_
   refine WL.x (X.pickF rfl rfl rfl) (by decide) ?_
   refine WL.nil ?_
   refine WK.nThen ?_
   refine WC.condT rfl ?_
   refine WC.seq ?_
   refine WC.region ?_
   refine WL.x (X.move rfl) (by decide) ?_
   refine WL.x (X.assign rfl) (by decide) ?_
   refine WL.nil ?_
   refine WK.nThen ?_
   refine WC.ret ?_
   refine WK.rThen ?_
   refine WK.ret1 rfl rfl (fun w' hw' => Ret.exact hw' ?_)
   first | rfl | (exfalso; omega) | (exfalso; contradiction) | exact (bool_true rfl).symm | exact (bool_true (by omega)).symm
 ·refine WL.x (X.not rfl) (by decide) ?_
  refine WL.x (X.move rfl) (by decide) ?_
  refine WL.no rfl rfl rfl (by decide) ?_
  refine WL.no rfl rfl rfl (by decide) ?_
  refine WL.no rfl rfl rfl (by decide) ?_
  refine WL.x (X.pickT rfl rfl rfl) (by decide) ?_
  refine WL.nil ?_
  refine WK.nThen ?_
  refine WC.condT rfl ?_
  refine WC.seq ?_
  refine WC.region ?_
  refine WL.x (X.move rfl) (by decide) ?_
  refine WL.x (X.assign rfl) (by decide) ?_
  refine WL.nil ?_
  refine WK.nThen ?_
  refine WC.ret ?_
  refine WK.rThen ?_
  refine WK.ret1 rfl rfl (fun w' hw' => Ret.exact hw' ?_)
  first | rfl | (exfalso; omega) | (exfalso; contradiction) | exact (bool_true rfl).symm | exact (bool_true (by omega)).symm
end Go.Proofs.C8
