/- The walk of the statement StationsChecks. -/
import Derived.Test.YtcpecjgppbiplaaS5Law
import Derived.Test.YtcpecjgppbiplaaS5W10
import Derived.Test.YtcpecjgppbiplaaS5Br
namespace Go.Proofs.S5
open Go Go.Kx
set_option linter.unusedVariables false

set_option maxHeartbeats 4000000 in
theorem law16 (m : Mem) (vl : Value) (l : List Station) (hl : Sl m vl l) (cs : List Value) (s : Station) (hs : Enc.rd m cs s) (ch : List Value) (h : Height) (hh : Enc.rd m ch h) (id : Int) (week : Int)  (ok0 : Rng.ok l) (ok1 : Rng.ok s) (ok2 : Rng.ok h) (lo3 : -9223372036854775808 ≤ id) (hi3 : id ≤ 9223372036854775807) (lo4 : -9223372036854775808 ≤ week) (hi4 : week ≤ 9223372036854775807) : Exact Try.prog 16 #[vl, .agg cs.toArray, .agg ch.toArray, .int .i64 (id), .int .i64 (week)] m (.bool true) := by
  have ll := hl.le
  obtain ⟨v1, rfl, hs2⟩ := hs
  have hl3 := hs2.le
  obtain rfl := hh
  refine Exact.start Try.func16 rfl Try.ntmps16 rfl fun wld => ?_
  refine WC.seq ?_
  refine WC.region ?_
  refine WL.tn (T.boxB rfl rfl) (by decide) fun b4 => ?_
  refine WL.tn (T.boxB rfl rfl) (by decide) fun b5 => ?_
  refine WL.x (X.assign rfl) (by decide) ?_
  refine WL.nil ?_
  refine WK.nThen ?_
  refine WC.seq ?_
  refine WC.region ?_
  refine WL.x (X.call Try.call17 rfl (awake17 _  )) (by decide) ?_
  refine WL.x (X.assign rfl) (by decide) ?_
  refine WL.nil ?_
  refine WK.nThen ?_
  refine WC.seq ?_
  refine WC.seq ?_
  refine WC.region ?_
  refine WL.x (X.move rfl) (by decide) ?_
  refine WL.cond (X.call Try.call18 rfl (few18 _ _ _ hl )) (by decide) (fun h6 => ?_) (fun h6 => ?_)
  · refine WL.x (X.not rfl) (by decide) ?_
    refine WL.x (X.move rfl) (by decide) ?_
    refine WL.yes rfl rfl ?_
    refine WL.x (X.loadBA (k := 1) Try.isAgg58 Try.sizeOf58 rfl rfl rfl) (by decide) ?_
    refine WL.yes rfl rfl ?_
    refine WL.cond (X.call Try.call40 rfl (one40 _ _ s ⟨_, rfl, hs2⟩ )) (by decide) (fun h7 => ?_) (fun h7 => ?_)
    · refine WL.yes rfl rfl ?_
      refine WL.x (X.not rfl) (by decide) ?_
      refine WL.x (X.pickF rfl rfl rfl) (by decide) ?_
      refine WL.nil ?_
      refine WK.nThen ?_
      refine WC.condF rfl ?_
      refine WC.skip ?_
      refine WK.nThen ?_
      refine WC.seq ?_
      refine WC.region ?_
      refine WL.x (X.move rfl) (by decide) ?_
      refine WL.x (X.call Try.call53 rfl (check53 _ _ _ hl )) (by decide) ?_
      refine WL.x (X.move rfl) (by decide) ?_
      refine WL.x (X.extract rfl rfl) (by decide) ?_
      refine WL.x (X.extract rfl rfl) (by decide) ?_
      refine WL.x (X.assign rfl) (by decide) ?_
      refine WL.x (X.assign rfl) (by decide) ?_
      refine WL.nil ?_
      refine WK.nThen ?_
      refine WC.seq ?_
      refine WC.region ?_
      refine WL.x (X.move rfl) (by decide) ?_
      refine WL.x (X.call Try.call54 rfl (check54 _ _ _ hl )) (by decide) ?_
      refine WL.x (X.move rfl) (by decide) ?_
      refine WL.x (X.extract rfl rfl) (by decide) ?_
      refine WL.x (X.extract rfl rfl) (by decide) ?_
      refine WL.x (X.assign rfl) (by decide) ?_
      refine WL.x (X.assign rfl) (by decide) ?_
      refine WL.nil ?_
      refine WK.nThen ?_
      refine WC.seq ?_
      refine WC.region ?_
      refine WL.x (X.move rfl) (by decide) ?_
      refine WL.x (X.move rfl) (by decide) ?_
      refine WL.x (X.call Try.call55 rfl (stationOf55 _ _ _ hl _ )) (by decide) ?_
      refine WL.x (X.move rfl) (by decide) ?_
      refine WL.x (X.extract rfl rfl) (by decide) ?_
      refine WL.x (X.extract rfl rfl) (by decide) ?_
      refine WL.x (X.assign rfl) (by decide) ?_
      refine WL.x (X.assign rfl) (by decide) ?_
      refine WL.nil ?_
      refine WK.nThen ?_
      refine WC.seq ?_
      refine WC.region ?_
      refine WL.x (X.move rfl) (by decide) ?_
      refine WL.x (X.move rfl) (by decide) ?_
      refine WL.x (X.call Try.call56 rfl (stationOf56 _ _ _ hl _ )) (by decide) ?_
      refine WL.x (X.move rfl) (by decide) ?_
      refine WL.x (X.extract rfl rfl) (by decide) ?_
      refine WL.x (X.extract rfl rfl) (by decide) ?_
      refine WL.x (X.assign rfl) (by decide) ?_
      refine WL.x (X.assign rfl) (by decide) ?_
      refine WL.nil ?_
      refine WK.nThen ?_
      refine WC.seq ?_
      refine WC.region ?_
      refine WL.x (X.loadBA (k := 1) Try.isAgg58 Try.sizeOf58 rfl rfl rfl) (by decide) ?_
      refine WL.x (X.move rfl) (by decide) ?_
      refine WL.x (X.call Try.call49 rfl (height49 _ _ s ⟨_, rfl, hs2⟩ _ )) (by decide) ?_
      refine WL.x (X.move rfl) (by decide) ?_
      refine WL.x (X.extract rfl rfl) (by decide) ?_
      refine WL.x (X.extract rfl rfl) (by decide) ?_
      refine WL.tn (T.alloc Try.zeroValue49 rfl) (by decide) fun b8 => ?_
      refine WL.ts (T.storeBA (k := 0) Try.sizeOf49 rfl rfl rfl (one_cons rfl (one_cons rfl one_nil)) rfl rfl) ?_
      refine WL.x (X.assign rfl) (by decide) ?_
      refine WL.nil ?_
      refine WK.nThen ?_
      refine WC.seq ?_
      refine WC.region ?_
      refine WL.x (X.loadBA (k := 2) Try.isAgg58 Try.sizeOf58 rfl rfl rfl) (by decide) ?_
      refine WL.x (X.move rfl) (by decide) ?_
      refine WL.x (X.call Try.call57 rfl (height57 _ _ s ⟨_, rfl, hs2⟩ _ )) (by decide) ?_
      refine WL.x (X.move rfl) (by decide) ?_
      refine WL.x (X.extract rfl rfl) (by decide) ?_
      refine WL.x (X.extract rfl rfl) (by decide) ?_
      refine WL.tn (T.alloc Try.zeroValue49 rfl) (by decide) fun b9 => ?_
      refine WL.ts (T.storeBA (k := 0) Try.sizeOf49 rfl rfl rfl (one_cons rfl (one_cons rfl one_nil)) rfl rfl) ?_
      refine WL.x (X.assign rfl) (by decide) ?_
      refine WL.nil ?_
      refine WK.nThen ?_
      refine WC.seq ?_
      refine WC.seq ?_
      refine WC.region ?_
      refine WL.x (X.move rfl) (by decide) ?_
      refine WL.x (X.move rfl) (by decide) ?_
      refine WL.x (OpX.f (X.neq rfl rfl) (fun h => h rfl)) (by decide) ?_
      refine WL.x (X.move rfl) (by decide) ?_
      refine WL.yes rfl rfl ?_
      refine WL.x (X.move rfl) (by decide) ?_
      refine WL.yes rfl rfl ?_
      refine WL.x (X.move rfl) (by decide) ?_
      refine WL.yes rfl rfl ?_
      refine WL.x (OpX.f (X.neq rfl rfl) (fun h => h rfl)) (by decide) ?_
      refine WL.x (X.pickF rfl rfl rfl) (by decide) ?_
      refine WL.x (X.move rfl) (by decide) ?_
      refine WL.yes rfl rfl ?_
      refine WL.x (X.move rfl) (by decide) ?_
      refine WL.yes rfl rfl ?_
      refine WL.x (X.move rfl) (by decide) ?_
      refine WL.yes rfl rfl ?_
      refine WL.x (OpX.f (X.neq rfl rfl) (fun h => h rfl)) (by decide) ?_
      refine WL.x (X.pickF rfl rfl rfl) (by decide) ?_
      refine WL.x (X.move rfl) (by decide) ?_
      refine WL.yes rfl rfl ?_
      refine WL.x (X.move rfl) (by decide) ?_
      refine WL.yes rfl rfl ?_
      refine WL.x (X.move rfl) (by decide) ?_
      refine WL.yes rfl rfl ?_
      refine WL.x (OpX.f (X.neq rfl rfl) (fun h => h rfl)) (by decide) ?_
      refine WL.x (X.pickF rfl rfl rfl) (by decide) ?_
      refine WL.x (X.move rfl) (by decide) ?_
      refine WL.yes rfl rfl ?_
      refine WL.x (X.loadBA (k := 1) Try.isAgg49 Try.sizeOf49 rfl rfl rfl) (by decide) ?_
      refine WL.yes rfl rfl ?_
      refine WL.x (X.loadBA (k := 0) Try.isAgg49 Try.sizeOf49 rfl rfl rfl) (by decide) ?_
      refine WL.yes rfl rfl ?_
      refine WL.x (OpX.f (X.neqS (a := (heightR s week).1) (b := (heightR s week).1) gd49 (fun w => eqS49 9998 _ _ w) rfl rfl) (fun h => h rfl)) (by decide) ?_
      refine WL.x (X.pickF rfl rfl rfl) (by decide) ?_
      refine WL.x (X.move rfl) (by decide) ?_
      refine WL.yes rfl rfl ?_
      refine WL.x (X.move rfl) (by decide) ?_
      refine WL.yes rfl rfl ?_
      refine WL.x (X.move rfl) (by decide) ?_
      refine WL.yes rfl rfl ?_
      refine WL.x (OpX.f (X.neq rfl rfl) (fun h => h rfl)) (by decide) ?_
      refine WL.x (X.pickF rfl rfl rfl) (by decide) ?_
      refine WL.nil ?_
      refine WK.nThen ?_
      refine WC.condF rfl ?_
      refine WC.skip ?_
      refine WK.nThen ?_
      refine WC.seq ?_
      refine WC.region ?_
      refine WL.x (X.loadBA (k := 3) Try.isAgg58 Try.sizeOf58 rfl rfl rfl) (by decide) ?_
      refine WL.x (X.loadBA (k := 2) Try.isAgg71 Try.sizeOf71 rfl rfl rfl) (by decide) ?_
      refine WL.tm (T.call Try.call51 rfl (move51 _ _ s ⟨_, rfl, hs2⟩ _ h rfl )) (by decide) fun m10 r11 hle12 hR13 => ?_
      obtain ⟨c14, rfl, hc15⟩ := hR13
      replace hl := hl.mono hle12
      replace hs2 := hs2.mono hle12
      obtain ⟨v16, rfl, hs17⟩ := hc15
      have hl18 := hs17.le
      refine WL.x (X.move rfl) (by decide) ?_
      refine WL.x (X.extract rfl rfl) (by decide) ?_
      refine WL.x (X.extract rfl rfl) (by decide) ?_
      refine WL.tn (T.alloc Try.zeroValue58 rfl) (by decide) fun b19 => ?_
      refine WL.ts (T.storeBA (k := 0) Try.sizeOf58 rfl rfl rfl (one_cons rfl (one_cons rfl (one_cons rfl (one_cons hs17.one one_nil)))) rfl rfl) ?_
      refine WL.x (X.assign rfl) (by decide) ?_
      refine WL.nil ?_
      refine WK.nThen ?_
      refine WC.seq ?_
      refine WC.region ?_
      refine WL.x (X.loadBA (k := 4) Try.isAgg58 Try.sizeOf58 rfl rfl rfl) (by decide) ?_
      refine WL.x (X.loadBA (k := 3) Try.isAgg71 Try.sizeOf71 rfl rfl rfl) (by decide) ?_
      refine WL.tm (T.call Try.call58 rfl (move58 _ _ s ⟨_, rfl, hs2⟩ _ h rfl )) (by decide) fun m20 r21 hle22 hR23 => ?_
      obtain ⟨c24, rfl, hc25⟩ := hR23
      replace hl := hl.mono hle22
      replace hs2 := hs2.mono hle22
      replace hs17 := hs17.mono hle22
      obtain ⟨v26, rfl, hs27⟩ := hc25
      have hl28 := hs27.le
      refine WL.x (X.move rfl) (by decide) ?_
      refine WL.x (X.extract rfl rfl) (by decide) ?_
      refine WL.x (X.extract rfl rfl) (by decide) ?_
      refine WL.tn (T.alloc Try.zeroValue58 rfl) (by decide) fun b29 => ?_
      refine WL.ts (T.storeBA (k := 0) Try.sizeOf58 rfl rfl rfl (one_cons rfl (one_cons rfl (one_cons rfl (one_cons hs27.one one_nil)))) rfl rfl) ?_
      refine WL.x (X.assign rfl) (by decide) ?_
      refine WL.nil ?_
      refine WK.nThen ?_
      refine WC.seq ?_
      refine WC.region ?_
      refine WL.x (X.loadBA (k := 5) Try.isAgg58 Try.sizeOf58 rfl rfl rfl) (by decide) ?_
      refine WL.tm (T.call Try.call59 rfl (steps59 _ _ s ⟨_, rfl, hs2⟩ )) (by decide) fun m30 r31 hle32 hR33 => ?_
      obtain ⟨v34, rfl, hs35⟩ := hR33
      replace hl := hl.mono hle32
      replace hs2 := hs2.mono hle32
      replace hs17 := hs17.mono hle32
      replace hs27 := hs27.mono hle32
      have hl36 := hs35.le
      refine WL.x (X.move rfl) (by decide) ?_
      refine WL.x (X.extract rfl rfl) (by decide) ?_
      refine WL.x (X.extract rfl rfl) (by decide) ?_
      refine WL.x (X.assign rfl) (by decide) ?_
      refine WL.x (X.assign rfl) (by decide) ?_
      refine WL.nil ?_
      refine WK.nThen ?_
      refine WC.seq ?_
      refine WC.region ?_
      refine WL.x (X.loadBA (k := 5) Try.isAgg58 Try.sizeOf58 rfl rfl rfl) (by decide) ?_
      refine WL.tm (T.call Try.call60 rfl (steps60 _ _ s ⟨_, rfl, hs2⟩ )) (by decide) fun m37 r38 hle39 hR40 => ?_
      obtain ⟨v41, rfl, hs42⟩ := hR40
      replace hl := hl.mono hle39
      replace hs2 := hs2.mono hle39
      replace hs17 := hs17.mono hle39
      replace hs27 := hs27.mono hle39
      replace hs35 := hs35.mono hle39
      have hl43 := hs42.le
      refine WL.x (X.move rfl) (by decide) ?_
      refine WL.x (X.extract rfl rfl) (by decide) ?_
      refine WL.x (X.extract rfl rfl) (by decide) ?_
      refine WL.x (X.assign rfl) (by decide) ?_
      refine WL.x (X.assign rfl) (by decide) ?_
      refine WL.nil ?_
      refine WK.nThen ?_
      refine WC.seq ?_
      refine WC.region ?_
      refine WL.x (X.move rfl) (by decide) ?_
      refine WL.x (X.move rfl) (by decide) ?_
      refine WL.yes rfl rfl ?_
      refine WL.x (X.loadBA (k := 1) Try.isAgg58 Try.sizeOf58 rfl rfl rfl) (by decide) ?_
      refine WL.yes rfl rfl ?_
      refine WL.x (X.loadBA (k := 0) Try.isAgg58 Try.sizeOf58 rfl rfl rfl) (by decide) ?_
      refine WL.yes rfl rfl ?_
      refine WL.x (OpX.t (X.call Try.call52 rfl (sameStation52 _ _ ((moveR s h).1) ⟨_, rfl, hs17⟩ _ ((moveR s h).1) ⟨_, rfl, hs27⟩ )) rfl) (by decide) ?_
      refine WL.x (X.pickT rfl rfl rfl) (by decide) ?_
      refine WL.x (X.move rfl) (by decide) ?_
      refine WL.yes rfl rfl ?_
      refine WL.x (X.move rfl) (by decide) ?_
      refine WL.yes rfl rfl ?_
      refine WL.x (X.move rfl) (by decide) ?_
      refine WL.yes rfl rfl ?_
      refine WL.x (OpX.t (X.eql rfl rfl) rfl) (by decide) ?_
      refine WL.x (X.pickT rfl rfl rfl) (by decide) ?_
      refine WL.x (X.move rfl) (by decide) ?_
      refine WL.yes rfl rfl ?_
      refine WL.x (X.move rfl) (by decide) ?_
      refine WL.yes rfl rfl ?_
      refine WL.x (X.move rfl) (by decide) ?_
      refine WL.yes rfl rfl ?_
      refine WL.x (OpX.t (X.call Try.call24 rfl (sameInts24 _ _ _ hs35 _ _ hs42 )) rfl) (by decide) ?_
      refine WL.x (X.pickT rfl rfl rfl) (by decide) ?_
      refine WL.x (X.move rfl) (by decide) ?_
      refine WL.yes rfl rfl ?_
      refine WL.x (X.move rfl) (by decide) ?_
      refine WL.yes rfl rfl ?_
      refine WL.x (X.move rfl) (by decide) ?_
      refine WL.yes rfl rfl ?_
      refine WL.x (OpX.t (X.eql rfl rfl) rfl) (by decide) ?_
      refine WL.x (X.pickT rfl rfl rfl) (by decide) ?_
      refine WL.x (X.assign rfl) (by decide) ?_
      refine WL.nil ?_
      refine WK.nThen ?_
      refine WC.ret ?_
      refine WK.ret1 rfl rfl (fun w' hw' => Ret.exact hw' ?_)
      first | rfl | (exfalso; omega) | exact (bool_true (by omega)).symm
    · refine WL.yes rfl rfl ?_
      refine WL.x (X.not rfl) (by decide) ?_
      refine WL.x (X.pickF rfl rfl rfl) (by decide) ?_
      refine WL.nil ?_
      refine WK.nThen ?_
      refine WC.condT rfl ?_
      refine WC.seq ?_
      refine WC.region ?_
      refine WL.x (X.move rfl) (by decide) ?_
      refine WL.x (X.assign rfl) (by decide) ?_
      refine WL.nil ?_
      refine WK.nThen ?_
      refine WC.ret ?_
      refine WK.rThen ?_
      refine WK.ret1 rfl rfl (fun w' hw' => Ret.exact hw' ?_)
      first | rfl | (exfalso; omega) | exact (bool_true (by omega)).symm
  · refine WL.x (X.not rfl) (by decide) ?_
    refine WL.x (X.move rfl) (by decide) ?_
    refine WL.no rfl rfl rfl (by decide) ?_
    refine WL.no rfl rfl rfl (by decide) ?_
    refine WL.no rfl rfl rfl (by decide) ?_
    refine WL.x (X.pickT rfl rfl rfl) (by decide) ?_
    refine WL.nil ?_
    refine WK.nThen ?_
    refine WC.condT rfl ?_
    refine WC.seq ?_
    refine WC.region ?_
    refine WL.x (X.move rfl) (by decide) ?_
    refine WL.x (X.assign rfl) (by decide) ?_
    refine WL.nil ?_
    refine WK.nThen ?_
    refine WC.ret ?_
    refine WK.rThen ?_
    refine WK.ret1 rfl rfl (fun w' hw' => Ret.exact hw' ?_)
    first | rfl | (exfalso; omega) | exact (bool_true (by omega)).symm
end Go.Proofs.S5
