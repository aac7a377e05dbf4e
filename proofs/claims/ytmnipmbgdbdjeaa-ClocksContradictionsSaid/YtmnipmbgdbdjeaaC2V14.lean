import Derived.Test.YtmnipmbgdbdjeaaC2Br
import Derived.Test.YtmnipmbgdbdjeaaC2W10
import Derived.Test.YtmnipmbgdbdjeaaC2W14
/- The walk of the statement ClocksContradictions: its function answers true. -/
namespace Go.Proofs.C2
open Go Go.Kx
set_option linter.unusedSimpArgs false
set_option linter.unusedVariables false
set_option maxRecDepth 20000 in
set_option maxHeartbeats 4000000 in
theorem law14 (m : Mem) (cc : List Value) (c : Clk) (hc : Enc.rd m cc c) (cx : List Value) (x : Ask) (hx : Enc.rd m cx x)  (ok0 : Rng.ok c) (ok1 : Rng.ok x) : Exact Try.prog 14 #[.agg cc.toArray, .agg cx.toArray] m (.bool true) := by
  obtain ⟨v1, v3, v5, rfl, hs2, hs4, hs6⟩ := hc
  have hl7 := hs2.le
  have hl8 := hs4.le
  have hl9 := hs6.le
  obtain ⟨v10, v12, v14, rfl, hs11, hs13, hs15⟩ := hx
  have hl16 := hs11.le
  have hl17 := hs13.le
  have hl18 := hs15.le
  refine Exact.start Try.func14 rfl Try.ntmps14 rfl fun wld => ?_
  refine WC.seq ?_
  refine WC.region ?_
  refine WL.tn (T.boxB rfl rfl) (by decide) fun b19 => ?_
  refine WL.tn (T.boxB rfl rfl) (by decide) fun b20 => ?_
  refine WL.x (X.assign rfl) (by decide) ?_
  refine WL.nil ?_
  refine WK.nThen ?_
  refine WC.seq ?_
  refine WC.region ?_
  refine WL.x (X.call Try.call19 rfl (awake19 _  )) (by decide) ?_
  refine WL.x (X.assign rfl) (by decide) ?_
  refine WL.nil ?_
  refine WK.nThen ?_
  refine WC.seq ?_
  refine WC.seq ?_
  refine WC.region ?_
  refine WL.x (X.loadBA (k := 1) Try.isAgg28 Try.sizeOf28 rfl rfl rfl) (by decide) ?_
  refine WL.cond (X.call Try.call20 rfl (few20 _ _ c ⟨_, _, _, rfl, hs2, hs4, hs6⟩ )) (by decide) (fun h21 => ?_) (fun h21 => ?_)
  · refine WL.x (X.not rfl) (by decide) ?_
    refine WL.x (X.move rfl) (by decide) ?_
    refine WL.yes rfl rfl ?_
    refine WL.x (X.loadBA (k := 0) Try.isAgg36 Try.sizeOf36 rfl rfl rfl) (by decide) ?_
    refine WL.yes rfl rfl ?_
    refine WL.cond (X.call Try.call42 rfl (light42 _ _ x ⟨_, _, _, rfl, hs11, hs13, hs15⟩ )) (by decide) (fun h22 => ?_) (fun h22 => ?_)
    · refine WL.yes rfl rfl ?_
      refine WL.x (X.not rfl) (by decide) ?_
      refine WL.x (X.pickF rfl rfl rfl) (by decide) ?_
      refine WL.nil ?_
      refine WK.nThen ?_
      refine WC.condF rfl ?_
      refine WC.skip ?_
      refine WK.nThen ?_
      refine WC.seq ?_
      have hlt := (‹lightA x› : lightA x)
      unfold lightA at hlt
      refine WC.region ?_
      refine WL.x (X.field Try.runUnderlying28 rfl Try.sizeOf25 rfl) (by decide) ?_
      refine WL.x (X.loadBP (k := 1) (vs := [v1, v3]) Try.isAgg25 Try.sizeOf25 rfl rfl rfl rfl) (by decide) ?_
      refine WL.x (X.field Try.runUnderlying28 rfl Try.sizeOf26 rfl) (by decide) ?_
      refine WL.x (X.loadB (k := 1) Try.isAgg26 rfl rfl rfl) (by decide) ?_
      refine WL.x (X.field Try.runUnderlying36 rfl Try.sizeOf29 rfl) (by decide) ?_
      refine WL.x (X.loadB (k := 0) Try.isAgg29 rfl rfl rfl) (by decide) ?_
      refine WL.x (X.field Try.runUnderlying36 rfl Try.sizeOf29 rfl) (by decide) ?_
      refine WL.x (X.loadB (k := 0) Try.isAgg29 rfl rfl rfl) (by decide) ?_
      refine WL.x (X.field Try.runUnderlying36 rfl Try.sizeOf29 rfl) (by decide) ?_
      refine WL.x (X.loadB (k := 0) Try.isAgg29 rfl rfl rfl) (by decide) ?_
      refine WL.tm (T.call Try.call60 rfl (median60 _ _ c.D ⟨_, _, rfl, hs2, hs4⟩ _ _ hs6 _ _ hs11 _ _ hs13 _ _ hs15 )) (by decide) fun m23 r24 hle25 hR26 => ?_
      obtain ⟨v27, rfl, hs28⟩ := hR26
      replace hs2 := hs2.mono hle25
      replace hs4 := hs4.mono hle25
      replace hs6 := hs6.mono hle25
      replace hs11 := hs11.mono hle25
      replace hs13 := hs13.mono hle25
      replace hs15 := hs15.mono hle25
      have hl29 := hs28.le
      refine WL.x (X.move rfl) (by decide) ?_
      refine WL.x (X.extract rfl rfl) (by decide) ?_
      refine WL.x (X.extract rfl rfl) (by decide) ?_
      refine WL.x (X.assign rfl) (by decide) ?_
      refine WL.x (X.assign rfl) (by decide) ?_
      refine WL.nil ?_
      refine WK.nThen ?_
      refine WC.seq ?_
      refine WC.region ?_
      refine WL.x (X.field Try.runUnderlying28 rfl Try.sizeOf25 rfl) (by decide) ?_
      refine WL.x (X.loadBP (k := 1) (vs := [v1, v3]) Try.isAgg25 Try.sizeOf25 rfl rfl rfl rfl) (by decide) ?_
      refine WL.x (X.field Try.runUnderlying28 rfl Try.sizeOf26 rfl) (by decide) ?_
      refine WL.x (X.loadB (k := 1) Try.isAgg26 rfl rfl rfl) (by decide) ?_
      refine WL.x (X.field Try.runUnderlying36 rfl Try.sizeOf29 rfl) (by decide) ?_
      refine WL.x (X.loadB (k := 0) Try.isAgg29 rfl rfl rfl) (by decide) ?_
      refine WL.x (X.field Try.runUnderlying36 rfl Try.sizeOf29 rfl) (by decide) ?_
      refine WL.x (X.loadB (k := 0) Try.isAgg29 rfl rfl rfl) (by decide) ?_
      refine WL.x (X.field Try.runUnderlying36 rfl Try.sizeOf29 rfl) (by decide) ?_
      refine WL.x (X.loadB (k := 0) Try.isAgg29 rfl rfl rfl) (by decide) ?_
      refine WL.tm (T.call Try.call61 rfl (median61 _ _ c.D ⟨_, _, rfl, hs2, hs4⟩ _ _ hs6 _ _ hs11 _ _ hs13 _ _ hs15 )) (by decide) fun m30 r31 hle32 hR33 => ?_
      obtain ⟨v34, rfl, hs35⟩ := hR33
      replace hs2 := hs2.mono hle32
      replace hs4 := hs4.mono hle32
      replace hs6 := hs6.mono hle32
      replace hs11 := hs11.mono hle32
      replace hs13 := hs13.mono hle32
      replace hs15 := hs15.mono hle32
      replace hs28 := hs28.mono hle32
      have hl36 := hs35.le
      refine WL.x (X.move rfl) (by decide) ?_
      refine WL.x (X.extract rfl rfl) (by decide) ?_
      refine WL.x (X.extract rfl rfl) (by decide) ?_
      refine WL.x (X.assign rfl) (by decide) ?_
      refine WL.x (X.assign rfl) (by decide) ?_
      refine WL.nil ?_
      refine WK.nThen ?_
      refine WC.seq ?_
      refine WC.region ?_
      refine WL.x (X.field Try.runUnderlying28 rfl Try.sizeOf25 rfl) (by decide) ?_
      refine WL.x (X.loadBP (k := 1) (vs := [v1, v3]) Try.isAgg25 Try.sizeOf25 rfl rfl rfl rfl) (by decide) ?_
      refine WL.x (X.field Try.runUnderlying28 rfl Try.sizeOf26 rfl) (by decide) ?_
      refine WL.x (X.loadB (k := 1) Try.isAgg26 rfl rfl rfl) (by decide) ?_
      refine WL.tm (T.call Try.call40 rfl (contradiction40 _ _ c.D ⟨_, _, rfl, hs2, hs4⟩ _ _ hs6 )) (by decide) fun m37 r38 hle39 hR40 => ?_
      obtain ⟨v41, rfl, hs42⟩ := hR40
      replace hs2 := hs2.mono hle39
      replace hs4 := hs4.mono hle39
      replace hs6 := hs6.mono hle39
      replace hs11 := hs11.mono hle39
      replace hs13 := hs13.mono hle39
      replace hs15 := hs15.mono hle39
      replace hs28 := hs28.mono hle39
      replace hs35 := hs35.mono hle39
      have hl43 := hs42.le
      refine WL.x (X.move rfl) (by decide) ?_
      refine WL.x (X.extract rfl rfl) (by decide) ?_
      refine WL.x (X.extract rfl rfl) (by decide) ?_
      refine WL.x (X.assign rfl) (by decide) ?_
      refine WL.x (X.assign rfl) (by decide) ?_
      refine WL.nil ?_
      refine WK.nThen ?_
      refine WC.seq ?_
      refine WC.region ?_
      refine WL.x (X.field Try.runUnderlying28 rfl Try.sizeOf25 rfl) (by decide) ?_
      refine WL.x (X.loadBP (k := 1) (vs := [v1, v3]) Try.isAgg25 Try.sizeOf25 rfl rfl rfl rfl) (by decide) ?_
      refine WL.x (X.field Try.runUnderlying28 rfl Try.sizeOf26 rfl) (by decide) ?_
      refine WL.x (X.loadB (k := 1) Try.isAgg26 rfl rfl rfl) (by decide) ?_
      refine WL.tm (T.call Try.call62 rfl (contradiction62 _ _ c.D ⟨_, _, rfl, hs2, hs4⟩ _ _ hs6 )) (by decide) fun m44 r45 hle46 hR47 => ?_
      obtain ⟨v48, rfl, hs49⟩ := hR47
      replace hs2 := hs2.mono hle46
      replace hs4 := hs4.mono hle46
      replace hs6 := hs6.mono hle46
      replace hs11 := hs11.mono hle46
      replace hs13 := hs13.mono hle46
      replace hs15 := hs15.mono hle46
      replace hs28 := hs28.mono hle46
      replace hs35 := hs35.mono hle46
      replace hs42 := hs42.mono hle46
      have hl50 := hs49.le
      refine WL.x (X.move rfl) (by decide) ?_
      refine WL.x (X.extract rfl rfl) (by decide) ?_
      refine WL.x (X.extract rfl rfl) (by decide) ?_
      refine WL.x (X.assign rfl) (by decide) ?_
      refine WL.x (X.assign rfl) (by decide) ?_
      refine WL.nil ?_
      refine WK.nThen ?_
      refine WC.seq ?_
      refine WC.seq ?_
      refine WC.region ?_
      refine WL.x (X.move rfl) (by decide) ?_
      refine WL.x (X.move rfl) (by decide) ?_
      refine WL.x (OpX.t (X.call Try.call50 rfl (sameInts50 _ _ _ hs28 _ _ hs35 )) rfl) (by decide) ?_
      refine WL.x (X.not rfl) (by decide) ?_
      refine WL.x (X.move rfl) (by decide) ?_
      refine WL.yes rfl rfl ?_
      refine WL.x (X.move rfl) (by decide) ?_
      refine WL.yes rfl rfl ?_
      refine WL.x (X.move rfl) (by decide) ?_
      refine WL.yes rfl rfl ?_
      refine WL.x (OpX.f (X.neq rfl rfl) (fun h => h rfl)) (by decide) ?_
      refine WL.x (X.pickF rfl rfl rfl) (by decide) ?_
      refine WL.x (X.move rfl) (by decide) ?_
      refine WL.yes rfl rfl ?_
      refine WL.x (X.move rfl) (by decide) ?_
      refine WL.yes rfl rfl ?_
      refine WL.x (X.move rfl) (by decide) ?_
      refine WL.yes rfl rfl ?_
      refine WL.x (OpX.t (X.call Try.call50 rfl (sameInts50 _ _ _ hs42 _ _ hs49 )) rfl) (by decide) ?_
      refine WL.yes rfl rfl ?_
      refine WL.x (X.not rfl) (by decide) ?_
      refine WL.x (X.pickF rfl rfl rfl) (by decide) ?_
      refine WL.x (X.move rfl) (by decide) ?_
      refine WL.yes rfl rfl ?_
      refine WL.x (X.move rfl) (by decide) ?_
      refine WL.yes rfl rfl ?_
      refine WL.x (X.move rfl) (by decide) ?_
      refine WL.yes rfl rfl ?_
      refine WL.x (OpX.f (X.neq rfl rfl) (fun h => h rfl)) (by decide) ?_
      refine WL.x (X.pickF rfl rfl rfl) (by decide) ?_
      refine WL.nil ?_
      refine WK.nThen ?_
      refine WC.condF rfl ?_
      refine WC.skip ?_
      refine WK.nThen ?_
      refine WC.seq ?_
      refine WC.region ?_
      refine WL.x (X.field Try.runUnderlying28 rfl Try.sizeOf25 rfl) (by decide) ?_
      refine WL.x (X.loadBP (k := 1) (vs := [v1, v3]) Try.isAgg25 Try.sizeOf25 rfl rfl rfl rfl) (by decide) ?_
      refine WL.x (X.field Try.runUnderlying28 rfl Try.sizeOf26 rfl) (by decide) ?_
      refine WL.x (X.loadB (k := 1) Try.isAgg26 rfl rfl rfl) (by decide) ?_
      refine WL.tm (T.call Try.call31 rfl (pairs31 _ _ c.D ⟨_, _, rfl, hs2, hs4⟩ _ _ hs6 )) (by decide) fun m51 r52 hle53 hR54 => ?_
      obtain ⟨v55, rfl, hs56⟩ := hR54
      replace hs2 := hs2.mono hle53
      replace hs4 := hs4.mono hle53
      replace hs6 := hs6.mono hle53
      replace hs11 := hs11.mono hle53
      replace hs13 := hs13.mono hle53
      replace hs15 := hs15.mono hle53
      replace hs28 := hs28.mono hle53
      replace hs35 := hs35.mono hle53
      replace hs42 := hs42.mono hle53
      replace hs49 := hs49.mono hle53
      have hl57 := hs56.le
      refine WL.x (X.move rfl) (by decide) ?_
      refine WL.x (X.extract rfl rfl) (by decide) ?_
      refine WL.x (X.extract rfl rfl) (by decide) ?_
      refine WL.x (X.assign rfl) (by decide) ?_
      refine WL.x (X.assign rfl) (by decide) ?_
      refine WL.nil ?_
      refine WK.nThen ?_
      refine WC.seq ?_
      refine WC.region ?_
      refine WL.x (X.field Try.runUnderlying28 rfl Try.sizeOf25 rfl) (by decide) ?_
      refine WL.x (X.loadBP (k := 1) (vs := [v1, v3]) Try.isAgg25 Try.sizeOf25 rfl rfl rfl rfl) (by decide) ?_
      refine WL.x (X.field Try.runUnderlying28 rfl Try.sizeOf26 rfl) (by decide) ?_
      refine WL.x (X.loadB (k := 1) Try.isAgg26 rfl rfl rfl) (by decide) ?_
      refine WL.tm (T.call Try.call63 rfl (pairs63 _ _ c.D ⟨_, _, rfl, hs2, hs4⟩ _ _ hs6 )) (by decide) fun m58 r59 hle60 hR61 => ?_
      obtain ⟨v62, rfl, hs63⟩ := hR61
      replace hs2 := hs2.mono hle60
      replace hs4 := hs4.mono hle60
      replace hs6 := hs6.mono hle60
      replace hs11 := hs11.mono hle60
      replace hs13 := hs13.mono hle60
      replace hs15 := hs15.mono hle60
      replace hs28 := hs28.mono hle60
      replace hs35 := hs35.mono hle60
      replace hs42 := hs42.mono hle60
      replace hs49 := hs49.mono hle60
      replace hs56 := hs56.mono hle60
      have hl64 := hs63.le
      refine WL.x (X.move rfl) (by decide) ?_
      refine WL.x (X.extract rfl rfl) (by decide) ?_
      refine WL.x (X.extract rfl rfl) (by decide) ?_
      refine WL.x (X.assign rfl) (by decide) ?_
      refine WL.x (X.assign rfl) (by decide) ?_
      refine WL.nil ?_
      refine WK.nThen ?_
      refine WC.seq ?_
      refine WC.region ?_
      refine WL.x (X.field Try.runUnderlying28 rfl Try.sizeOf25 rfl) (by decide) ?_
      refine WL.x (X.loadBP (k := 1) (vs := [v1, v3]) Try.isAgg25 Try.sizeOf25 rfl rfl rfl rfl) (by decide) ?_
      refine WL.x (X.field Try.runUnderlying28 rfl Try.sizeOf26 rfl) (by decide) ?_
      refine WL.x (X.loadB (k := 1) Try.isAgg26 rfl rfl rfl) (by decide) ?_
      refine WL.tm (T.call Try.call35 rfl (drops35 _ _ c.D ⟨_, _, rfl, hs2, hs4⟩ _ _ hs6 )) (by decide) fun m65 r66 hle67 hR68 => ?_
      obtain ⟨v69, rfl, hs70⟩ := hR68
      replace hs2 := hs2.mono hle67
      replace hs4 := hs4.mono hle67
      replace hs6 := hs6.mono hle67
      replace hs11 := hs11.mono hle67
      replace hs13 := hs13.mono hle67
      replace hs15 := hs15.mono hle67
      replace hs28 := hs28.mono hle67
      replace hs35 := hs35.mono hle67
      replace hs42 := hs42.mono hle67
      replace hs49 := hs49.mono hle67
      replace hs56 := hs56.mono hle67
      replace hs63 := hs63.mono hle67
      have hl71 := hs70.le
      refine WL.x (X.move rfl) (by decide) ?_
      refine WL.x (X.extract rfl rfl) (by decide) ?_
      refine WL.x (X.extract rfl rfl) (by decide) ?_
      refine WL.x (X.assign rfl) (by decide) ?_
      refine WL.x (X.assign rfl) (by decide) ?_
      refine WL.nil ?_
      refine WK.nThen ?_
      refine WC.seq ?_
      refine WC.region ?_
      refine WL.x (X.field Try.runUnderlying28 rfl Try.sizeOf25 rfl) (by decide) ?_
      refine WL.x (X.loadBP (k := 1) (vs := [v1, v3]) Try.isAgg25 Try.sizeOf25 rfl rfl rfl rfl) (by decide) ?_
      refine WL.x (X.field Try.runUnderlying28 rfl Try.sizeOf26 rfl) (by decide) ?_
      refine WL.x (X.loadB (k := 1) Try.isAgg26 rfl rfl rfl) (by decide) ?_
      refine WL.tm (T.call Try.call64 rfl (drops64 _ _ c.D ⟨_, _, rfl, hs2, hs4⟩ _ _ hs6 )) (by decide) fun m72 r73 hle74 hR75 => ?_
      obtain ⟨v76, rfl, hs77⟩ := hR75
      replace hs2 := hs2.mono hle74
      replace hs4 := hs4.mono hle74
      replace hs6 := hs6.mono hle74
      replace hs11 := hs11.mono hle74
      replace hs13 := hs13.mono hle74
      replace hs15 := hs15.mono hle74
      replace hs28 := hs28.mono hle74
      replace hs35 := hs35.mono hle74
      replace hs42 := hs42.mono hle74
      replace hs49 := hs49.mono hle74
      replace hs56 := hs56.mono hle74
      replace hs63 := hs63.mono hle74
      replace hs70 := hs70.mono hle74
      have hl78 := hs77.le
      refine WL.x (X.move rfl) (by decide) ?_
      refine WL.x (X.extract rfl rfl) (by decide) ?_
      refine WL.x (X.extract rfl rfl) (by decide) ?_
      refine WL.x (X.assign rfl) (by decide) ?_
      refine WL.x (X.assign rfl) (by decide) ?_
      refine WL.nil ?_
      refine WK.nThen ?_
      refine WC.seq ?_
      refine WC.region ?_
      refine WL.x (X.move rfl) (by decide) ?_
      refine WL.x (X.move rfl) (by decide) ?_
      refine WL.yes rfl rfl ?_
      refine WL.x (X.move rfl) (by decide) ?_
      refine WL.yes rfl rfl ?_
      refine WL.x (X.move rfl) (by decide) ?_
      refine WL.yes rfl rfl ?_
      refine WL.x (OpX.t (X.call Try.call65 rfl (sameLists65 _ _ _ hs56 _ _ hs63 )) rfl) (by decide) ?_
      refine WL.x (X.pickT rfl rfl rfl) (by decide) ?_
      refine WL.x (X.move rfl) (by decide) ?_
      refine WL.yes rfl rfl ?_
      refine WL.x (X.move rfl) (by decide) ?_
      refine WL.yes rfl rfl ?_
      refine WL.x (X.move rfl) (by decide) ?_
      refine WL.yes rfl rfl ?_
      refine WL.x (OpX.t (X.eql rfl rfl) rfl) (by decide) ?_
      refine WL.x (X.pickT rfl rfl rfl) (by decide) ?_
      refine WL.x (X.move rfl) (by decide) ?_
      refine WL.yes rfl rfl ?_
      refine WL.x (X.move rfl) (by decide) ?_
      refine WL.yes rfl rfl ?_
      refine WL.x (X.move rfl) (by decide) ?_
      refine WL.yes rfl rfl ?_
      refine WL.x (OpX.t (X.call Try.call65 rfl (sameLists65 _ _ _ hs70 _ _ hs77 )) rfl) (by decide) ?_
      refine WL.x (X.pickT rfl rfl rfl) (by decide) ?_
      refine WL.x (X.move rfl) (by decide) ?_
      refine WL.yes rfl rfl ?_
      refine WL.x (X.move rfl) (by decide) ?_
      refine WL.yes rfl rfl ?_
      refine WL.x (X.move rfl) (by decide) ?_
      refine WL.yes rfl rfl ?_
      refine WL.x (OpX.t (X.eql rfl rfl) rfl) (by decide) ?_
      refine WL.x (X.pickT rfl rfl rfl) (by decide) ?_
      refine WL.x (X.assign rfl) (by decide) ?_
      refine WL.nil ?_
      refine WK.nThen ?_
      refine WC.ret ?_
      refine WK.ret1 rfl rfl (fun w' hw' => Ret.exact hw' ?_)
      first | rfl | (exfalso; omega) | (exfalso; contradiction) | exact (bool_true (by omega)).symm
    refine WL.yes rfl rfl ?_
    refine WL.x (X.not rfl) (by decide) ?_
    refine WL.x (X.pickF rfl rfl rfl) (by decide) ?_
    refine WL.nil ?_
    refine WK.nThen ?_
    refine WC.condT rfl ?_
    refine WC.seq ?_
    refine WC.region ?_
    refine WL.x (X.move rfl) (by decide) ?_
    refine WL.x (X.assign rfl) (by decide) ?_
    refine WL.nil ?_
    refine WK.nThen ?_
    refine WC.ret ?_
    refine WK.rThen ?_
    refine WK.ret1 rfl rfl (fun w' hw' => Ret.exact hw' ?_)
    first | rfl | (exfalso; omega) | (exfalso; contradiction) | exact (bool_true (by omega)).symm
  refine WL.x (X.not rfl) (by decide) ?_
  refine WL.x (X.move rfl) (by decide) ?_
  refine WL.no rfl rfl rfl (by decide) ?_
  refine WL.no rfl rfl rfl (by decide) ?_
  refine WL.no rfl rfl rfl (by decide) ?_
  refine WL.x (X.pickT rfl rfl rfl) (by decide) ?_
  refine WL.nil ?_
  refine WK.nThen ?_
  refine WC.condT rfl ?_
  refine WC.seq ?_
  refine WC.region ?_
  refine WL.x (X.move rfl) (by decide) ?_
  refine WL.x (X.assign rfl) (by decide) ?_
  refine WL.nil ?_
  refine WK.nThen ?_
  refine WC.ret ?_
  refine WK.rThen ?_
  refine WK.ret1 rfl rfl (fun w' hw' => Ret.exact hw' ?_)
  first | rfl | (exfalso; omega) | (exfalso; contradiction) | exact (bool_true (by omega)).symm
end Go.Proofs.C2
