/- The walk of the statement ClocksLattice: its function answers true. -/
import Derived.Test.YtmnipmbgdbdjeaaC2Br
import Derived.Test.YtmnipmbgdbdjeaaC2W10
import Derived.Test.YtmnipmbgdbdjeaaC2LG
namespace Go.Proofs.C2
open Go Go.Kx
set_option linter.unusedSimpArgs false
set_option linter.unusedVariables false
set_option maxRecDepth 20000 in
set_option maxHeartbeats 4000000 in
theorem law12 (m : Mem) (cc : List Value) (c : Clk) (hc : Enc.rd m cc c) (cx : List Value) (x : Ask) (hx : Enc.rd m cx x)  (ok0 : Rng.ok c) (ok1 : Rng.ok x) : Exact Try.prog 12 #[.agg cc.toArray, .agg cx.toArray] m (.bool true) := by
  obtain ⟨v1, v3, v5, rfl, hs2, hs4, hs6⟩ := hc
  have hl7 := hs2.le
  have hl8 := hs4.le
  have hl9 := hs6.le
  obtain ⟨v10, v12, v14, rfl, hs11, hs13, hs15⟩ := hx
  have hl16 := hs11.le
  have hl17 := hs13.le
  have hl18 := hs15.le
  refine Exact.start Try.func12 rfl Try.ntmps12 rfl fun wld => ?_
  refine WC.seq ?_
  refine WC.region ?_
  refine WL.tn (T.boxB rfl rfl) (by decide) fun b19 => ?_
  refine WL.tn (T.boxB rfl rfl) (by decide) fun b20 => ?_
  refine WL.x (X.assign rfl) (by decide) ?_
  refine WL.nil ?_
  refine WK.nThen ?_
  refine WC.seq ?_
  refine WC.region ?_
  refine WL.x (X.call Try.call19 rfl (awake19 _  )) (by decide) ?_
  refine WL.x (X.assign rfl) (by decide) ?_
  refine WL.nil ?_
  refine WK.nThen ?_
  refine WC.seq ?_
  refine WC.seq ?_
  refine WC.region ?_
  refine WL.x (X.loadBA (k := 1) Try.isAgg28 Try.sizeOf28 rfl rfl rfl) (by decide) ?_
  refine WL.cond (X.call Try.call20 rfl (few20 _ _ c ⟨_, _, _, rfl, hs2, hs4, hs6⟩ )) (by decide) (fun h21 => ?_) (fun h21 => ?_)
  · refine WL.x (X.not rfl) (by decide) ?_
    refine WL.x (X.move rfl) (by decide) ?_
    refine WL.yes rfl rfl ?_
    refine WL.x (X.loadBA (k := 0) Try.isAgg36 Try.sizeOf36 rfl rfl rfl) (by decide) ?_
    refine WL.yes rfl rfl ?_
    refine WL.cond (X.call Try.call42 rfl (light42 _ _ x ⟨_, _, _, rfl, hs11, hs13, hs15⟩ )) (by decide) (fun h22 => ?_) (fun h22 => ?_)
    · refine WL.yes rfl rfl ?_
      refine WL.x (X.not rfl) (by decide) ?_
      refine WL.x (X.pickF rfl rfl rfl) (by decide) ?_
      refine WL.nil ?_
      refine WK.nThen ?_
      refine WC.condF rfl ?_
      refine WC.skip ?_
      refine WK.nThen ?_
      refine WC.seq ?_
      have hlt := (‹lightA x› : lightA x)
      unfold lightA at hlt
      refine WC.region ?_
      refine WL.x (X.field Try.runUnderlying28 rfl Try.sizeOf25 rfl) (by decide) ?_
      refine WL.x (X.loadBP (k := 1) (vs := [v1, v3]) Try.isAgg25 Try.sizeOf25 rfl rfl rfl rfl) (by decide) ?_
      refine WL.x (X.field Try.runUnderlying28 rfl Try.sizeOf26 rfl) (by decide) ?_
      refine WL.x (X.loadB (k := 1) Try.isAgg26 rfl rfl rfl) (by decide) ?_
      refine WL.tm (T.call Try.call47 rfl (earliest47 _ _ c.D ⟨_, _, rfl, hs2, hs4⟩ _ _ hs6 )) (by decide) fun m23 r24 hle25 hR26 => ?_
      obtain ⟨v27, rfl, hs28⟩ := hR26
      replace hs2 := hs2.mono hle25
      replace hs4 := hs4.mono hle25
      replace hs6 := hs6.mono hle25
      replace hs11 := hs11.mono hle25
      replace hs13 := hs13.mono hle25
      replace hs15 := hs15.mono hle25
      have hl29 := hs28.le
      refine WL.x (X.move rfl) (by decide) ?_
      refine WL.x (X.extract rfl rfl) (by decide) ?_
      refine WL.x (X.extract rfl rfl) (by decide) ?_
      refine WL.x (X.assign rfl) (by decide) ?_
      refine WL.x (X.assign rfl) (by decide) ?_
      refine WL.nil ?_
      refine WK.nThen ?_
      refine WC.seq ?_
      refine WC.region ?_
      refine WL.x (X.field Try.runUnderlying28 rfl Try.sizeOf25 rfl) (by decide) ?_
      refine WL.x (X.loadBP (k := 1) (vs := [v1, v3]) Try.isAgg25 Try.sizeOf25 rfl rfl rfl rfl) (by decide) ?_
      refine WL.x (X.field Try.runUnderlying28 rfl Try.sizeOf26 rfl) (by decide) ?_
      refine WL.x (X.loadB (k := 1) Try.isAgg26 rfl rfl rfl) (by decide) ?_
      refine WL.tm (T.call Try.call46 rfl (latest46 _ _ c.D ⟨_, _, rfl, hs2, hs4⟩ _ _ hs6 )) (by decide) fun m30 r31 hle32 hR33 => ?_
      obtain ⟨v34, rfl, hs35⟩ := hR33
      replace hs2 := hs2.mono hle32
      replace hs4 := hs4.mono hle32
      replace hs6 := hs6.mono hle32
      replace hs11 := hs11.mono hle32
      replace hs13 := hs13.mono hle32
      replace hs15 := hs15.mono hle32
      replace hs28 := hs28.mono hle32
      have hl36 := hs35.le
      refine WL.x (X.move rfl) (by decide) ?_
      refine WL.x (X.extract rfl rfl) (by decide) ?_
      refine WL.x (X.extract rfl rfl) (by decide) ?_
      refine WL.x (X.assign rfl) (by decide) ?_
      refine WL.x (X.assign rfl) (by decide) ?_
      refine WL.nil ?_
      refine WK.nThen ?_
      refine WC.seq ?_
      refine WC.region ?_
      refine WL.x (X.field Try.runUnderlying28 rfl Try.sizeOf25 rfl) (by decide) ?_
      refine WL.x (X.loadBP (k := 1) (vs := [v1, v3]) Try.isAgg25 Try.sizeOf25 rfl rfl rfl rfl) (by decide) ?_
      refine WL.x (X.field Try.runUnderlying28 rfl Try.sizeOf26 rfl) (by decide) ?_
      refine WL.x (X.loadB (k := 1) Try.isAgg26 rfl rfl rfl) (by decide) ?_
      refine WL.x (X.call Try.call33 rfl (feasible33 _ _ c.D ⟨_, _, rfl, hs2, hs4⟩ _ _ hs6 )) (by decide) ?_
      refine WL.x (X.move rfl) (by decide) ?_
      refine WL.x (X.extract rfl rfl) (by decide) ?_
      refine WL.x (X.extract rfl rfl) (by decide) ?_
      refine WL.x (X.assign rfl) (by decide) ?_
      refine WL.x (X.assign rfl) (by decide) ?_
      refine WL.nil ?_
      refine WK.nThen ?_
      refine WC.seq ?_
      refine WC.seq ?_
      refine WC.region ?_
      refine WL.x (X.move rfl) (by decide) ?_
      refine WL.condn (X.neq rfl rfl) (by decide) (fun h37 => ?_) (fun h37 => ?_)
      · refine WL.x (X.move rfl) (by decide) ?_
        refine WL.no rfl rfl rfl (by decide) ?_
        refine WL.no rfl rfl rfl (by decide) ?_
        refine WL.x (X.pickT rfl rfl rfl) (by decide) ?_
        refine WL.nil ?_
        refine WK.nThen ?_
        refine WC.condT rfl ?_
        refine WC.seq ?_
        have hq := lat_no (d := c.D) (m := c.M) (fun hh_ => by first | omega | (have h2_ := hh_.2; simp_all))
        have hq1 := hq.1
        have hq2 := hq.2.1
        have hq3 := hq.2.2 x.One
        refine WC.region ?_
        refine WL.x (X.move rfl) (by decide) ?_
        refine WL.x (X.move rfl) (by decide) ?_
        refine WL.yes rfl rfl ?_
        refine WL.x (X.move rfl) (by decide) ?_
        refine WL.yes rfl rfl ?_
        refine WL.condn (X.neq rfl rfl) (by decide) (fun h38 => ?_) (fun h38 => ?_)
        · refine WL.x (X.pickT rfl rfl rfl) (by decide) ?_
          refine WL.x (X.move rfl) (by decide) ?_
          refine WL.yes rfl rfl ?_
          refine WL.x (X.move rfl) (by decide) ?_
          refine WL.yes rfl rfl ?_
          refine WL.x (X.move rfl) (by decide) ?_
          refine WL.yes rfl rfl ?_
          refine WL.cond (X.eql rfl rfl) (by decide) (fun h39 => ?_) (fun h39 => ?_)
          · refine WL.x (X.pickT rfl rfl rfl) (by decide) ?_
            refine WL.x (X.move rfl) (by decide) ?_
            refine WL.yes rfl rfl ?_
            refine WL.x (X.loadBA (k := 1) Try.isAgg28 Try.sizeOf28 rfl rfl rfl) (by decide) ?_
            refine WL.yes rfl rfl ?_
            refine WL.x (X.field Try.runUnderlying36 rfl Try.sizeOf29 rfl) (by decide) ?_
            refine WL.yes rfl rfl ?_
            refine WL.x (X.loadB (k := 0) Try.isAgg29 rfl rfl rfl) (by decide) ?_
            refine WL.yes rfl rfl ?_
            refine WL.x (X.call Try.call48 rfl (is48 _ _ c ⟨_, _, _, rfl, hs2, hs4, hs6⟩ _ _ hs11 )) (by decide) ?_
            refine WL.yes rfl rfl ?_
            refine WL.x (X.notp rfl) (by decide) ?_
            refine WL.x (X.pickT rfl rfl rfl) (by decide) ?_
            refine WL.x (X.assign rfl) (by decide) ?_
            refine WL.nil ?_
            refine WK.nThen ?_
            refine WC.ret ?_
            refine WK.rThen ?_
            refine WK.ret1 rfl rfl (fun w' hw' => Ret.exact hw' ?_)
            first | rfl | (exfalso; omega) | (exfalso; contradiction) | (exfalso; have q_ := (hk2 (by omega)).1; contradiction) | (exfalso; have q_ := (hk2 (by omega)).2; contradiction) | exact (bool_true (by omega)).symm
          · refine WL.x (X.pickT rfl rfl rfl) (by decide) ?_
            refine WL.x (X.move rfl) (by decide) ?_
            refine WL.no rfl rfl rfl (by decide) ?_
            refine WL.no rfl rfl rfl (by decide) ?_
            refine WL.no rfl rfl rfl (by decide) ?_
            refine WL.no rfl rfl rfl (by decide) ?_
            refine WL.no rfl rfl rfl (by decide) ?_
            refine WL.x (X.pickF rfl rfl rfl) (by decide) ?_
            refine WL.x (X.assign rfl) (by decide) ?_
            refine WL.nil ?_
            refine WK.nThen ?_
            refine WC.ret ?_
            refine WK.rThen ?_
            refine WK.ret1 rfl rfl (fun w' hw' => Ret.exact hw' ?_)
            first | rfl | (exfalso; omega) | (exfalso; contradiction) | (exfalso; have q_ := (hk2 (by omega)).1; contradiction) | (exfalso; have q_ := (hk2 (by omega)).2; contradiction) | exact (bool_true (by omega)).symm
        · refine WL.x (X.pickT rfl rfl rfl) (by decide) ?_
          refine WL.x (X.move rfl) (by decide) ?_
          refine WL.no rfl rfl rfl (by decide) ?_
          refine WL.no rfl rfl rfl (by decide) ?_
          refine WL.no rfl rfl rfl (by decide) ?_
          refine WL.x (X.pickF rfl rfl rfl) (by decide) ?_
          refine WL.x (X.move rfl) (by decide) ?_
          refine WL.no rfl rfl rfl (by decide) ?_
          refine WL.no rfl rfl rfl (by decide) ?_
          refine WL.no rfl rfl rfl (by decide) ?_
          refine WL.no rfl rfl rfl (by decide) ?_
          refine WL.no rfl rfl rfl (by decide) ?_
          refine WL.x (X.pickF rfl rfl rfl) (by decide) ?_
          refine WL.x (X.assign rfl) (by decide) ?_
          refine WL.nil ?_
          refine WK.nThen ?_
          refine WC.ret ?_
          refine WK.rThen ?_
          refine WK.ret1 rfl rfl (fun w' hw' => Ret.exact hw' ?_)
          first | rfl | (exfalso; omega) | (exfalso; contradiction) | (exfalso; have q_ := (hk2 (by omega)).1; contradiction) | (exfalso; have q_ := (hk2 (by omega)).2; contradiction) | exact (bool_true (by omega)).symm
      · refine WL.x (X.move rfl) (by decide) ?_
        refine WL.yes rfl rfl ?_
        refine WL.x (X.move rfl) (by decide) ?_
        refine WL.yes rfl rfl ?_
        refine WL.condb (X.not rfl) (by decide) (fun h40 => ?_) (fun h40 => ?_)
        · refine WL.x (X.pickF rfl rfl rfl) (by decide) ?_
          refine WL.nil ?_
          refine WK.nThen ?_
          refine WC.condT rfl ?_
          refine WC.seq ?_
          have hq := lat_no (d := c.D) (m := c.M) (fun hh_ => by first | omega | (have h2_ := hh_.2; simp_all))
          have hq1 := hq.1
          have hq2 := hq.2.1
          have hq3 := hq.2.2 x.One
          refine WC.region ?_
          refine WL.x (X.move rfl) (by decide) ?_
          refine WL.x (X.move rfl) (by decide) ?_
          refine WL.yes rfl rfl ?_
          refine WL.x (X.move rfl) (by decide) ?_
          refine WL.yes rfl rfl ?_
          refine WL.condn (X.neq rfl rfl) (by decide) (fun h41 => ?_) (fun h41 => ?_)
          · refine WL.x (X.pickT rfl rfl rfl) (by decide) ?_
            refine WL.x (X.move rfl) (by decide) ?_
            refine WL.yes rfl rfl ?_
            refine WL.x (X.move rfl) (by decide) ?_
            refine WL.yes rfl rfl ?_
            refine WL.x (X.move rfl) (by decide) ?_
            refine WL.yes rfl rfl ?_
            refine WL.cond (X.eql rfl rfl) (by decide) (fun h42 => ?_) (fun h42 => ?_)
            · refine WL.x (X.pickT rfl rfl rfl) (by decide) ?_
              refine WL.x (X.move rfl) (by decide) ?_
              refine WL.yes rfl rfl ?_
              refine WL.x (X.loadBA (k := 1) Try.isAgg28 Try.sizeOf28 rfl rfl rfl) (by decide) ?_
              refine WL.yes rfl rfl ?_
              refine WL.x (X.field Try.runUnderlying36 rfl Try.sizeOf29 rfl) (by decide) ?_
              refine WL.yes rfl rfl ?_
              refine WL.x (X.loadB (k := 0) Try.isAgg29 rfl rfl rfl) (by decide) ?_
              refine WL.yes rfl rfl ?_
              refine WL.x (X.call Try.call48 rfl (is48 _ _ c ⟨_, _, _, rfl, hs2, hs4, hs6⟩ _ _ hs11 )) (by decide) ?_
              refine WL.yes rfl rfl ?_
              refine WL.x (X.notp rfl) (by decide) ?_
              refine WL.x (X.pickT rfl rfl rfl) (by decide) ?_
              refine WL.x (X.assign rfl) (by decide) ?_
              refine WL.nil ?_
              refine WK.nThen ?_
              refine WC.ret ?_
              refine WK.rThen ?_
              refine WK.ret1 rfl rfl (fun w' hw' => Ret.exact hw' ?_)
              first | rfl | (exfalso; omega) | (exfalso; contradiction) | (exfalso; have q_ := (hk2 (by omega)).1; contradiction) | (exfalso; have q_ := (hk2 (by omega)).2; contradiction) | exact (bool_true (by omega)).symm
            · refine WL.x (X.pickT rfl rfl rfl) (by decide) ?_
              refine WL.x (X.move rfl) (by decide) ?_
              refine WL.no rfl rfl rfl (by decide) ?_
              refine WL.no rfl rfl rfl (by decide) ?_
              refine WL.no rfl rfl rfl (by decide) ?_
              refine WL.no rfl rfl rfl (by decide) ?_
              refine WL.no rfl rfl rfl (by decide) ?_
              refine WL.x (X.pickF rfl rfl rfl) (by decide) ?_
              refine WL.x (X.assign rfl) (by decide) ?_
              refine WL.nil ?_
              refine WK.nThen ?_
              refine WC.ret ?_
              refine WK.rThen ?_
              refine WK.ret1 rfl rfl (fun w' hw' => Ret.exact hw' ?_)
              first | rfl | (exfalso; omega) | (exfalso; contradiction) | (exfalso; have q_ := (hk2 (by omega)).1; contradiction) | (exfalso; have q_ := (hk2 (by omega)).2; contradiction) | exact (bool_true (by omega)).symm
          · refine WL.x (X.pickT rfl rfl rfl) (by decide) ?_
            refine WL.x (X.move rfl) (by decide) ?_
            refine WL.no rfl rfl rfl (by decide) ?_
            refine WL.no rfl rfl rfl (by decide) ?_
            refine WL.no rfl rfl rfl (by decide) ?_
            refine WL.x (X.pickF rfl rfl rfl) (by decide) ?_
            refine WL.x (X.move rfl) (by decide) ?_
            refine WL.no rfl rfl rfl (by decide) ?_
            refine WL.no rfl rfl rfl (by decide) ?_
            refine WL.no rfl rfl rfl (by decide) ?_
            refine WL.no rfl rfl rfl (by decide) ?_
            refine WL.no rfl rfl rfl (by decide) ?_
            refine WL.x (X.pickF rfl rfl rfl) (by decide) ?_
            refine WL.x (X.assign rfl) (by decide) ?_
            refine WL.nil ?_
            refine WK.nThen ?_
            refine WC.ret ?_
            refine WK.rThen ?_
            refine WK.ret1 rfl rfl (fun w' hw' => Ret.exact hw' ?_)
            first | rfl | (exfalso; omega) | (exfalso; contradiction) | (exfalso; have q_ := (hk2 (by omega)).1; contradiction) | (exfalso; have q_ := (hk2 (by omega)).2; contradiction) | exact (bool_true (by omega)).symm
        · refine WL.x (X.pickF rfl rfl rfl) (by decide) ?_
          refine WL.nil ?_
          refine WK.nThen ?_
          refine WC.condF rfl ?_
          refine WC.skip ?_
          refine WK.nThen ?_
          refine WC.seq ?_
          refine WC.seq ?_
          have hf1 : (feasR c.D c.M).2 = 0 := (by omega)
          have hf2 : (feasR c.D c.M).1 = true := (by simpa using ‹(!(feasR c.D c.M).1) = false›)
          have hy := lat_yes hf1 hf2
          have hy1 := hy.2.1
          have hk := lat_keep hf1 hf2
          have hk1 := hk.1
          have hk2 := hk.2 x.One
          refine WC.region ?_
          refine WL.x (X.move rfl) (by decide) ?_
          refine WL.condn (X.neq rfl rfl) (by decide) (fun h43 => ?_) (fun h43 => ?_)
          · refine WL.x (X.move rfl) (by decide) ?_
            refine WL.no rfl rfl rfl (by decide) ?_
            refine WL.no rfl rfl rfl (by decide) ?_
            refine WL.x (X.pickT rfl rfl rfl) (by decide) ?_
            refine WL.x (X.move rfl) (by decide) ?_
            refine WL.no rfl rfl rfl (by decide) ?_
            refine WL.no rfl rfl rfl (by decide) ?_
            refine WL.no rfl rfl rfl (by decide) ?_
            refine WL.no rfl rfl rfl (by decide) ?_
            refine WL.x (X.pickT rfl rfl rfl) (by decide) ?_
            refine WL.x (X.move rfl) (by decide) ?_
            refine WL.no rfl rfl rfl (by decide) ?_
            refine WL.no rfl rfl rfl (by decide) ?_
            refine WL.no rfl rfl rfl (by decide) ?_
            refine WL.no rfl rfl rfl (by decide) ?_
            refine WL.x (X.pickT rfl rfl rfl) (by decide) ?_
            refine WL.nil ?_
            refine WK.nThen ?_
            refine WC.condT rfl ?_
            refine WC.seq ?_
            refine WC.region ?_
            refine WL.x (X.assign rfl) (by decide) ?_
            refine WL.nil ?_
            refine WK.nThen ?_
            refine WC.ret ?_
            refine WK.rThen ?_
            refine WK.ret1 rfl rfl (fun w' hw' => Ret.exact hw' ?_)
            first | rfl | (exfalso; omega) | (exfalso; contradiction) | (exfalso; have q_ := (hk2 (by omega)).1; contradiction) | (exfalso; have q_ := (hk2 (by omega)).2; contradiction) | exact (bool_true (by omega)).symm
          · refine WL.x (X.move rfl) (by decide) ?_
            refine WL.yes rfl rfl ?_
            refine WL.x (X.move rfl) (by decide) ?_
            refine WL.yes rfl rfl ?_
            refine WL.condn (X.neq rfl rfl) (by decide) (fun h44 => ?_) (fun h44 => ?_)
            · refine WL.x (X.pickF rfl rfl rfl) (by decide) ?_
              refine WL.x (X.move rfl) (by decide) ?_
              refine WL.no rfl rfl rfl (by decide) ?_
              refine WL.no rfl rfl rfl (by decide) ?_
              refine WL.no rfl rfl rfl (by decide) ?_
              refine WL.no rfl rfl rfl (by decide) ?_
              refine WL.x (X.pickT rfl rfl rfl) (by decide) ?_
              refine WL.x (X.move rfl) (by decide) ?_
              refine WL.no rfl rfl rfl (by decide) ?_
              refine WL.no rfl rfl rfl (by decide) ?_
              refine WL.no rfl rfl rfl (by decide) ?_
              refine WL.no rfl rfl rfl (by decide) ?_
              refine WL.x (X.pickT rfl rfl rfl) (by decide) ?_
              refine WL.nil ?_
              refine WK.nThen ?_
              refine WC.condT rfl ?_
              refine WC.seq ?_
              refine WC.region ?_
              refine WL.x (X.assign rfl) (by decide) ?_
              refine WL.nil ?_
              refine WK.nThen ?_
              refine WC.ret ?_
              refine WK.rThen ?_
              refine WK.ret1 rfl rfl (fun w' hw' => Ret.exact hw' ?_)
              first | rfl | (exfalso; omega) | (exfalso; contradiction) | (exfalso; have q_ := (hk2 (by omega)).1; contradiction) | (exfalso; have q_ := (hk2 (by omega)).2; contradiction) | exact (bool_true (by omega)).symm
            · refine WL.x (X.pickF rfl rfl rfl) (by decide) ?_
              refine WL.x (X.move rfl) (by decide) ?_
              refine WL.yes rfl rfl ?_
              refine WL.x (X.loadBA (k := 1) Try.isAgg28 Try.sizeOf28 rfl rfl rfl) (by decide) ?_
              refine WL.yes rfl rfl ?_
              refine WL.x (X.move rfl) (by decide) ?_
              refine WL.yes rfl rfl ?_
              refine WL.cond (X.call Try.call48 rfl (is48 _ _ c ⟨_, _, _, rfl, hs2, hs4, hs6⟩ _ _ hs28 )) (by decide) (fun h45 => ?_) (fun h45 => ?_)
              · refine WL.yes rfl rfl ?_
                refine WL.x (X.not rfl) (by decide) ?_
                refine WL.x (X.pickF rfl rfl rfl) (by decide) ?_
                refine WL.x (X.move rfl) (by decide) ?_
                refine WL.yes rfl rfl ?_
                refine WL.x (X.loadBA (k := 1) Try.isAgg28 Try.sizeOf28 rfl rfl rfl) (by decide) ?_
                refine WL.yes rfl rfl ?_
                refine WL.x (X.move rfl) (by decide) ?_
                refine WL.yes rfl rfl ?_
                refine WL.cond (X.call Try.call48 rfl (is48 _ _ c ⟨_, _, _, rfl, hs2, hs4, hs6⟩ _ _ hs35 )) (by decide) (fun h46 => ?_) (fun h46 => ?_)
                · refine WL.yes rfl rfl ?_
                  refine WL.x (X.not rfl) (by decide) ?_
                  refine WL.x (X.pickF rfl rfl rfl) (by decide) ?_
                  refine WL.nil ?_
                  refine WK.nThen ?_
                  refine WC.condF rfl ?_
                  refine WC.skip ?_
                  refine WK.nThen ?_
                  refine WC.seq ?_
                  refine WC.seq ?_
                  refine WC.region ?_
                  refine WL.x (X.loadBA (k := 1) Try.isAgg28 Try.sizeOf28 rfl rfl rfl) (by decide) ?_
                  refine WL.x (X.field Try.runUnderlying36 rfl Try.sizeOf29 rfl) (by decide) ?_
                  refine WL.x (X.loadB (k := 0) Try.isAgg29 rfl rfl rfl) (by decide) ?_
                  refine WL.cond (X.call Try.call48 rfl (is48 _ _ c ⟨_, _, _, rfl, hs2, hs4, hs6⟩ _ _ hs11 )) (by decide) (fun h47 => ?_) (fun h47 => ?_)
                  · refine WL.x (X.move rfl) (by decide) ?_
                    refine WL.yes rfl rfl ?_
                    refine WL.x (X.move rfl) (by decide) ?_
                    refine WL.yes rfl rfl ?_
                    refine WL.x (X.field Try.runUnderlying36 rfl Try.sizeOf29 rfl) (by decide) ?_
                    refine WL.yes rfl rfl ?_
                    refine WL.x (X.loadB (k := 0) Try.isAgg29 rfl rfl rfl) (by decide) ?_
                    refine WL.yes rfl rfl ?_
                    refine WL.cond (X.call Try.call51 rfl (ahead51 _ _ _ hs28 _ _ hs11 )) (by decide) (fun h48 => ?_) (fun h48 => ?_)
                    · refine WL.yes rfl rfl ?_
                      refine WL.x (X.not rfl) (by decide) ?_
                      refine WL.yes rfl rfl ?_
                      refine WL.x (X.move rfl) (by decide) ?_
                      refine WL.yes rfl rfl ?_
                      refine WL.x (X.field Try.runUnderlying36 rfl Try.sizeOf29 rfl) (by decide) ?_
                      refine WL.yes rfl rfl ?_
                      refine WL.x (X.loadB (k := 0) Try.isAgg29 rfl rfl rfl) (by decide) ?_
                      refine WL.yes rfl rfl ?_
                      refine WL.x (X.move rfl) (by decide) ?_
                      refine WL.yes rfl rfl ?_
                      refine WL.cond (X.call Try.call51 rfl (ahead51 _ _ _ hs11 _ _ hs35 )) (by decide) (fun h49 => ?_) (fun h49 => ?_)
                      · refine WL.yes rfl rfl ?_
                        refine WL.x (X.not rfl) (by decide) ?_
                        refine WL.yes rfl rfl ?_
                        refine WL.x (X.pickF rfl rfl rfl) (by decide) ?_
                        refine WL.x (X.pickT rfl rfl rfl) (by decide) ?_
                        refine WL.nil ?_
                        refine WK.nThen ?_
                        refine WC.condF rfl ?_
                        refine WC.skip ?_
                        refine WK.nThen ?_
                        refine WC.seq ?_
                        refine WC.seq ?_
                        refine WC.region ?_
                        refine WL.x (X.loadBA (k := 1) Try.isAgg28 Try.sizeOf28 rfl rfl rfl) (by decide) ?_
                        refine WL.x (X.field Try.runUnderlying36 rfl Try.sizeOf29 rfl) (by decide) ?_
                        refine WL.x (X.loadB (k := 0) Try.isAgg29 rfl rfl rfl) (by decide) ?_
                        refine WL.cond (X.call Try.call48 rfl (is48 _ _ c ⟨_, _, _, rfl, hs2, hs4, hs6⟩ _ _ hs11 )) (by decide) (fun h50 => ?_) (fun h50 => ?_)
                        · refine WL.x (X.not rfl) (by decide) ?_
                          refine WL.x (X.move rfl) (by decide) ?_
                          refine WL.yes rfl rfl ?_
                          refine WL.x (X.loadBA (k := 1) Try.isAgg28 Try.sizeOf28 rfl rfl rfl) (by decide) ?_
                          refine WL.yes rfl rfl ?_
                          refine WL.x (X.field Try.runUnderlying36 rfl Try.sizeOf29 rfl) (by decide) ?_
                          refine WL.yes rfl rfl ?_
                          refine WL.x (X.loadB (k := 0) Try.isAgg29 rfl rfl rfl) (by decide) ?_
                          refine WL.yes rfl rfl ?_
                          refine WL.cond (X.call Try.call48 rfl (is48 _ _ c ⟨_, _, _, rfl, hs2, hs4, hs6⟩ _ _ hs13 )) (by decide) (fun h51 => ?_) (fun h51 => ?_)
                          · refine WL.yes rfl rfl ?_
                            refine WL.x (X.not rfl) (by decide) ?_
                            refine WL.x (X.pickF rfl rfl rfl) (by decide) ?_
                            refine WL.nil ?_
                            refine WK.nThen ?_
                            refine WC.condF rfl ?_
                            refine WC.skip ?_
                            refine WK.nThen ?_
                            refine WC.seq ?_
                            have hle := lat_ends (d := c.D) (m := c.M) (a := x.One) (b := x.Two) (by omega) (by omega)
                            have hle1 := hle.1
                            have hle2 := hle.2
                            refine WK.ownF Int 3 ?_
                            refine WC.region ?_
                            refine WL.x (X.assign rfl) (by decide) ?_
                            refine WL.nil ?_
                            refine WK.nThen ?_
                            refine WC.seq ?_
                            refine WK.ownF Int 3 ?_
                            refine WC.region ?_
                            refine WL.x (X.assign rfl) (by decide) ?_
                            refine WL.nil ?_
                            refine WK.nThen ?_
                            refine WC.seq ?_
                            refine WC.seq ?_
                            refine WC.region ?_
                            refine WL.x (X.assign rfl) (by decide) ?_
                            refine WL.nil ?_
                            refine WK.nThen ?_
                            refine WC.block ?_
                            refine WC.loop (G := Nat × Value × Value) (fun (i, va, vb) => x.One.length - i) (fun (i, va, vb) => m30) (fun (i, va, vb) => [rowF (vb) 3 ((List.range i).map (fun i => max (gt x.One i) (gt x.Two i))), rowF (va) 3 ((List.range i).map (fun i => min (gt x.One i) (gt x.Two i))), blk b20 36 [.int .i64 (x.A), .int .i64 (x.B), .int .i64 (x.Tick), v10, v12, v14, .int .i64 (x.First.Column), .int .i64 (x.First.Ticks.Lo), .int .i64 (x.First.Ticks.Hi), .int .i64 (x.Second.Column), .int .i64 (x.Second.Ticks.Lo), .int .i64 (x.Second.Ticks.Hi), .int .i64 (x.Stop.Column), .int .i64 (x.Stop.Ticks.Lo), .int .i64 (x.Stop.Ticks.Hi)], blk b19 28 [v1, v3, v5]]) (fun (i, va, vb) => [(2, .pointer (some ⟨b19, 0, none⟩)), (3, .pointer (some ⟨b20, 0, none⟩)), (5, .bool true), (12, va), (13, vb), (14, .int .i64 (↑i))]) (fun (i, va, vb) => i ≤ x.One.length) ((0, Value.slice none 0 0, (Value.slice none 0 0))) rfl (.refl _) (.cons rfl (.cons rfl (.cons rfl (.cons rfl (.cons rfl (.cons rfl .nil)))))) ?_ ?_
                            · exact Nat.zero_le _
                            · rintro ⟨i, va, vb⟩ hF52
                              show WK _ _ m30 [rowF (vb) 3 ((List.range i).map (fun i => max (gt x.One i) (gt x.Two i))), rowF (va) 3 ((List.range i).map (fun i => min (gt x.One i) (gt x.Two i))), blk b20 36 [.int .i64 (x.A), .int .i64 (x.B), .int .i64 (x.Tick), v10, v12, v14, .int .i64 (x.First.Column), .int .i64 (x.First.Ticks.Lo), .int .i64 (x.First.Ticks.Hi), .int .i64 (x.Second.Column), .int .i64 (x.Second.Ticks.Lo), .int .i64 (x.Second.Ticks.Hi), .int .i64 (x.Stop.Column), .int .i64 (x.Stop.Ticks.Lo), .int .i64 (x.Stop.Ticks.Hi)], blk b19 28 [v1, v3, v5]] [(2, .pointer (some ⟨b19, 0, none⟩)), (3, .pointer (some ⟨b20, 0, none⟩)), (5, .bool true), (12, va), (13, vb), (14, .int .i64 (↑i))] _
                              replace hF52 : i ≤ x.One.length := hF52
                              have hi := hF52
                              refine WC.seq ?_
                              refine WC.seq ?_
                              refine WC.region ?_
                              refine WL.x (X.move rfl) (by decide) ?_
                              refine WL.x (X.field Try.runUnderlying36 rfl Try.sizeOf29 rfl) (by decide) ?_
                              refine WL.x (X.loadB (k := 2) Try.isAgg29 rfl rfl rfl) (by decide) ?_
                              refine WL.x (X.len Try.runUnderlying29 rfl hs11) (by decide) ?_
                              refine WL.cond (X.lss rfl rfl) (by decide) (fun h53 => ?_) (fun h53 => ?_)
                              · refine WL.nil ?_
                                refine WK.nThen ?_
                                refine WC.condT rfl ?_
                                refine WC.skip ?_
                                refine WK.nThen ?_
                                refine WC.seq ?_
                                refine WC.block ?_
                                refine WC.seq ?_
                                refine WC.draw (π := (.cons 0 (.cons 1 (.cons 2 (.cons 3 (.cons 4 (.cons 5 (.cons 6 (.cons 7 (.cons 8 (.cons 9 (.cons 10 (.cons 11 (.cons 12 (.cons 13 (.cons 14 .done)))))))))))))))) [12, 13] [13] rfl (by kernel_rfl) ?_
                                refine DW.x rfl rfl (X.move rfl) (by decide) ?_
                                refine DW.x rfl rfl (X.field Try.runUnderlying36 rfl Try.sizeOf29 rfl) (by decide) ?_
                                refine DW.x rfl rfl (X.loadB (k := 2) Try.isAgg29 rfl rfl rfl) (by decide) ?_
                                refine DW.x rfl rfl (X.move rfl) (by decide) ?_
                                refine DW.xe rfl rfl (E.idxN i Try.runUnderlying29 Try.sizeOf3 rfl rfl hs11 (by omega)) (by decide) (fun p54 hp55 => ?_)
                                refine DW.x rfl rfl (X.loadInt Try.isAgg3 rfl hp55) (by decide) ?_
                                refine DW.x rfl rfl (X.field Try.runUnderlying36 rfl Try.sizeOf29 rfl) (by decide) ?_
                                refine DW.x rfl rfl (X.loadB (k := 2) Try.isAgg29 rfl rfl rfl) (by decide) ?_
                                refine DW.x rfl rfl (X.move rfl) (by decide) ?_
                                refine DW.xe rfl rfl (E.idxN i Try.runUnderlying29 Try.sizeOf3 rfl rfl hs13 (by omega)) (by decide) (fun p56 hp57 => ?_)
                                refine DW.x rfl rfl (X.loadInt Try.isAgg3 rfl hp57) (by decide) ?_
                                refine DW.x rfl rfl (X.mn rfl rfl) (by decide) ?_
                                refine DW.tl rfl rfl rfl (T.lit1 sl29 rfl rfl rfl (by decide)) (by decide) fun b58 => ?_
                                refine DW.ta rfl rfl rfl rfl (T.appendF (k := 1) (a := min (gt x.One i) (gt x.Two i)) sl29 rfl rfl rfl rfl (by first | omega | (simp; omega)) (by decide)) (by decide) (fun v59 => ?_)
                                refine DW.x rfl rfl (X.assign rfl) (by decide) ?_
                                refine DW.nil ?_
                                refine WK.nThen ?_
                                refine WC.draw (π := (.cons 0 (.cons 1 (.cons 2 (.cons 3 (.cons 4 (.cons 5 (.cons 6 (.cons 7 (.cons 8 (.cons 9 (.cons 10 (.cons 11 (.cons 12 (.cons 13 (.cons 14 .done)))))))))))))))) [12, 13] [13] rfl (by kernel_rfl) ?_
                                refine DW.x rfl rfl (X.move rfl) (by decide) ?_
                                refine DW.x rfl rfl (X.field Try.runUnderlying36 rfl Try.sizeOf29 rfl) (by decide) ?_
                                refine DW.x rfl rfl (X.loadB (k := 2) Try.isAgg29 rfl rfl rfl) (by decide) ?_
                                refine DW.x rfl rfl (X.move rfl) (by decide) ?_
                                refine DW.xe rfl rfl (E.idxN i Try.runUnderlying29 Try.sizeOf3 rfl rfl hs11 (by omega)) (by decide) (fun p60 hp61 => ?_)
                                refine DW.x rfl rfl (X.loadInt Try.isAgg3 rfl hp61) (by decide) ?_
                                refine DW.x rfl rfl (X.field Try.runUnderlying36 rfl Try.sizeOf29 rfl) (by decide) ?_
                                refine DW.x rfl rfl (X.loadB (k := 2) Try.isAgg29 rfl rfl rfl) (by decide) ?_
                                refine DW.x rfl rfl (X.move rfl) (by decide) ?_
                                refine DW.xe rfl rfl (E.idxN i Try.runUnderlying29 Try.sizeOf3 rfl rfl hs13 (by omega)) (by decide) (fun p62 hp63 => ?_)
                                refine DW.x rfl rfl (X.loadInt Try.isAgg3 rfl hp63) (by decide) ?_
                                refine DW.x rfl rfl (X.mx rfl rfl) (by decide) ?_
                                refine DW.tl rfl rfl rfl (T.lit1 sl29 rfl rfl rfl (by decide)) (by decide) fun b64 => ?_
                                refine DW.ta rfl rfl rfl rfl (T.appendF (k := 0) (a := max (gt x.One i) (gt x.Two i)) sl29 rfl rfl rfl rfl (by first | omega | (simp; omega)) (by decide)) (by decide) (fun v65 => ?_)
                                refine DW.x rfl rfl (X.assign rfl) (by decide) ?_
                                refine DW.nil ?_
                                refine WK.nBlock ?_
                                refine WK.nThen ?_
                                refine WC.region ?_
                                refine WL.x (X.move rfl) (by decide) ?_
                                refine WL.x (X.add rfl rfl (by omega) (by omega)) (by decide) ?_
                                refine WL.x (X.assign rfl) (by decide) ?_
                                refine WL.nil ?_
                                refine WK.nThen ?_
                                have he66 : (((List.range i).map (fun i => min (gt x.One i) (gt x.Two i))) ++ [min (gt x.One i) (gt x.Two i)]) = ((List.range (i + 1)).map (fun i => min (gt x.One i) (gt x.Two i))) := map_succ _ _
                                rw [he66]
                                have he67 : (((List.range i).map (fun i => max (gt x.One i) (gt x.Two i))) ++ [max (gt x.One i) (gt x.Two i)]) = ((List.range (i + 1)).map (fun i => max (gt x.One i) (gt x.Two i))) := map_succ _ _
                                rw [he67]
                                refine WK.next ((i + 1, v59, v65)) rfl (.refl _) (.cons rfl (.cons rfl (.cons rfl (.cons rfl (.cons rfl (.cons rfl .nil)))))) ?_ ?_
                                · omega
                                · (dsimp only; omega)
                              · refine WL.nil ?_
                                refine WK.nThen ?_
                                refine WC.condF rfl ?_
                                refine WC.exit ?_
                                refine WK.eThen ?_
                                refine WK.eThen ?_
                                refine WK.eHit ?_
                                refine WK.nThen ?_
                                refine WC.seq ?_
                                have he68 : ((List.range i).map (fun i => min (gt x.One i) (gt x.Two i))) = (minL x.One x.Two) := (by rw [show i = x.One.length by omega]; rfl)
                                rw [he68]
                                have he69 : ((List.range i).map (fun i => max (gt x.One i) (gt x.Two i))) = (maxL x.One x.Two) := (by rw [show i = x.One.length by omega]; rfl)
                                rw [he69]
                                have hml1 := minL_len x.One x.Two
                                have hml2 := maxL_len x.One x.Two
                                refine WC.region ?_
                                refine WL.x (X.move rfl) (by decide) ?_
                                refine WL.x (X.move rfl) (by decide) ?_
                                refine WL.yes rfl rfl ?_
                                refine WL.x (X.loadBA (k := 3) Try.isAgg28 Try.sizeOf28 rfl rfl rfl) (by decide) ?_
                                refine WL.yes rfl rfl ?_
                                refine WL.x (X.move rfl) (by decide) ?_
                                refine WL.yes rfl rfl ?_
                                refine WL.freezeF 1 rfl rfl (by first | (unfold lenB; omega) | (simp [lenB]; omega)) (fun m70 hle71 hs72 => ?_)
                                replace hs2 := hs2.mono hle71
                                replace hs4 := hs4.mono hle71
                                replace hs6 := hs6.mono hle71
                                replace hs11 := hs11.mono hle71
                                replace hs13 := hs13.mono hle71
                                replace hs15 := hs15.mono hle71
                                replace hs28 := hs28.mono hle71
                                replace hs35 := hs35.mono hle71
                                refine WL.cond (X.call Try.call48 rfl (is48 _ _ c ⟨_, _, _, rfl, hs2, hs4, hs6⟩ _ _ hs72 )) (by decide) (fun h73 => ?_) (fun h73 => ?_)
                                · refine WL.x (X.pickT rfl rfl rfl) (by decide) ?_
                                  refine WL.x (X.move rfl) (by decide) ?_
                                  refine WL.yes rfl rfl ?_
                                  refine WL.x (X.loadBA (k := 2) Try.isAgg28 Try.sizeOf28 rfl rfl rfl) (by decide) ?_
                                  refine WL.yes rfl rfl ?_
                                  refine WL.x (X.move rfl) (by decide) ?_
                                  refine WL.yes rfl rfl ?_
                                  refine WL.freezeF 0 rfl rfl (by first | (unfold lenB; omega) | (simp [lenB]; omega)) (fun m74 hle75 hs76 => ?_)
                                  replace hs2 := hs2.mono hle75
                                  replace hs4 := hs4.mono hle75
                                  replace hs6 := hs6.mono hle75
                                  replace hs11 := hs11.mono hle75
                                  replace hs13 := hs13.mono hle75
                                  replace hs15 := hs15.mono hle75
                                  replace hs28 := hs28.mono hle75
                                  replace hs35 := hs35.mono hle75
                                  replace hs72 := hs72.mono hle75
                                  refine WL.x (X.call Try.call48 rfl (is48 _ _ c ⟨_, _, _, rfl, hs2, hs4, hs6⟩ _ _ hs76 )) (by decide) ?_
                                  refine WL.x (X.pickT rfl rfl rfl) (by decide) ?_
                                  refine WL.x (X.assign rfl) (by decide) ?_
                                  refine WL.nil ?_
                                  refine WK.nThen ?_
                                  refine WC.ret ?_
                                  refine WK.ret1 rfl rfl (fun w' hw' => Ret.exact hw' ?_)
                                  first | rfl | (exfalso; omega) | (exfalso; contradiction) | (exfalso; have q_ := (hk2 (by omega)).1; contradiction) | (exfalso; have q_ := (hk2 (by omega)).2; contradiction) | exact (bool_true (by omega)).symm
                                · refine WL.x (X.pickT rfl rfl rfl) (by decide) ?_
                                  refine WL.x (X.move rfl) (by decide) ?_
                                  refine WL.no rfl rfl rfl (by decide) ?_
                                  refine WL.no rfl rfl rfl (by decide) ?_
                                  refine WL.no rfl rfl rfl (by decide) ?_
                                  refine WL.x (X.pickF rfl rfl rfl) (by decide) ?_
                                  refine WL.x (X.assign rfl) (by decide) ?_
                                  refine WL.nil ?_
                                  refine WK.nThen ?_
                                  refine WC.ret ?_
                                  refine WK.ret1 rfl rfl (fun w' hw' => Ret.exact hw' ?_)
                                  first | rfl | (exfalso; omega) | (exfalso; contradiction) | (exfalso; have q_ := (hk2 (by omega)).1; contradiction) | (exfalso; have q_ := (hk2 (by omega)).2; contradiction) | exact (bool_true (by omega)).symm
                          · refine WL.yes rfl rfl ?_
                            refine WL.x (X.not rfl) (by decide) ?_
                            refine WL.x (X.pickF rfl rfl rfl) (by decide) ?_
                            refine WL.nil ?_
                            refine WK.nThen ?_
                            refine WC.condT rfl ?_
                            refine WC.seq ?_
                            refine WC.region ?_
                            refine WL.x (X.move rfl) (by decide) ?_
                            refine WL.x (X.assign rfl) (by decide) ?_
                            refine WL.nil ?_
                            refine WK.nThen ?_
                            refine WC.ret ?_
                            refine WK.rThen ?_
                            refine WK.ret1 rfl rfl (fun w' hw' => Ret.exact hw' ?_)
                            first | rfl | (exfalso; omega) | (exfalso; contradiction) | (exfalso; have q_ := (hk2 (by omega)).1; contradiction) | (exfalso; have q_ := (hk2 (by omega)).2; contradiction) | exact (bool_true (by omega)).symm
                        · refine WL.x (X.not rfl) (by decide) ?_
                          refine WL.x (X.move rfl) (by decide) ?_
                          refine WL.no rfl rfl rfl (by decide) ?_
                          refine WL.no rfl rfl rfl (by decide) ?_
                          refine WL.no rfl rfl rfl (by decide) ?_
                          refine WL.no rfl rfl rfl (by decide) ?_
                          refine WL.no rfl rfl rfl (by decide) ?_
                          refine WL.x (X.pickT rfl rfl rfl) (by decide) ?_
                          refine WL.nil ?_
                          refine WK.nThen ?_
                          refine WC.condT rfl ?_
                          refine WC.seq ?_
                          refine WC.region ?_
                          refine WL.x (X.move rfl) (by decide) ?_
                          refine WL.x (X.assign rfl) (by decide) ?_
                          refine WL.nil ?_
                          refine WK.nThen ?_
                          refine WC.ret ?_
                          refine WK.rThen ?_
                          refine WK.ret1 rfl rfl (fun w' hw' => Ret.exact hw' ?_)
                          first | rfl | (exfalso; omega) | (exfalso; contradiction) | (exfalso; have q_ := (hk2 (by omega)).1; contradiction) | (exfalso; have q_ := (hk2 (by omega)).2; contradiction) | exact (bool_true (by omega)).symm
                      · refine WL.yes rfl rfl ?_
                        refine WL.x (X.not rfl) (by decide) ?_
                        refine WL.yes rfl rfl ?_
                        refine WL.x (X.pickF rfl rfl rfl) (by decide) ?_
                        refine WL.x (X.pickT rfl rfl rfl) (by decide) ?_
                        refine WL.nil ?_
                        refine WK.nThen ?_
                        refine WC.condT rfl ?_
                        refine WC.seq ?_
                        refine WC.region ?_
                        refine WL.x (X.assign rfl) (by decide) ?_
                        refine WL.nil ?_
                        refine WK.nThen ?_
                        refine WC.ret ?_
                        refine WK.rThen ?_
                        refine WK.ret1 rfl rfl (fun w' hw' => Ret.exact hw' ?_)
                        first | rfl | (exfalso; omega) | (exfalso; contradiction) | (exfalso; have q_ := (hk2 (by omega)).1; contradiction) | (exfalso; have q_ := (hk2 (by omega)).2; contradiction) | exact (bool_true (by omega)).symm
                    · refine WL.yes rfl rfl ?_
                      refine WL.x (X.not rfl) (by decide) ?_
                      refine WL.yes rfl rfl ?_
                      refine WL.x (X.move rfl) (by decide) ?_
                      refine WL.no rfl rfl rfl (by decide) ?_
                      refine WL.no rfl rfl rfl (by decide) ?_
                      refine WL.no rfl rfl rfl (by decide) ?_
                      refine WL.no rfl rfl rfl (by decide) ?_
                      refine WL.no rfl rfl rfl (by decide) ?_
                      refine WL.yes rfl rfl ?_
                      refine WL.x (X.pickT rfl rfl rfl) (by decide) ?_
                      refine WL.x (X.pickT rfl rfl rfl) (by decide) ?_
                      refine WL.nil ?_
                      refine WK.nThen ?_
                      refine WC.condT rfl ?_
                      refine WC.seq ?_
                      refine WC.region ?_
                      refine WL.x (X.assign rfl) (by decide) ?_
                      refine WL.nil ?_
                      refine WK.nThen ?_
                      refine WC.ret ?_
                      refine WK.rThen ?_
                      refine WK.ret1 rfl rfl (fun w' hw' => Ret.exact hw' ?_)
                      first | rfl | (exfalso; omega) | (exfalso; contradiction) | (exfalso; have q_ := (hk2 (by omega)).1; contradiction) | (exfalso; have q_ := (hk2 (by omega)).2; contradiction) | exact (bool_true (by omega)).symm
                  · refine WL.x (X.move rfl) (by decide) ?_
                    refine WL.no rfl rfl rfl (by decide) ?_
                    refine WL.no rfl rfl rfl (by decide) ?_
                    refine WL.no rfl rfl rfl (by decide) ?_
                    refine WL.no rfl rfl rfl (by decide) ?_
                    refine WL.no rfl rfl rfl (by decide) ?_
                    refine WL.no rfl rfl rfl (by decide) ?_
                    refine WL.noU rfl rfl (by decide) ?_
                    refine WL.noU rfl rfl (by decide) ?_
                    refine WL.noU rfl rfl (by decide) ?_
                    refine WL.noU rfl rfl (by decide) ?_
                    refine WL.noU rfl rfl (by decide) ?_
                    refine WL.no rfl rfl rfl (by decide) ?_
                    refine WL.x (X.pickF rfl rfl rfl) (by decide) ?_
                    refine WL.nil ?_
                    refine WK.nThen ?_
                    refine WC.condF rfl ?_
                    refine WC.skip ?_
                    refine WK.nThen ?_
                    refine WC.seq ?_
                    refine WC.seq ?_
                    refine WC.region ?_
                    refine WL.x (X.loadBA (k := 1) Try.isAgg28 Try.sizeOf28 rfl rfl rfl) (by decide) ?_
                    refine WL.x (X.field Try.runUnderlying36 rfl Try.sizeOf29 rfl) (by decide) ?_
                    refine WL.x (X.loadB (k := 0) Try.isAgg29 rfl rfl rfl) (by decide) ?_
                    refine WL.cond (X.call Try.call48 rfl (is48 _ _ c ⟨_, _, _, rfl, hs2, hs4, hs6⟩ _ _ hs11 )) (by decide) (fun h77 => ?_) (fun h77 => ?_)
                    · refine WL.x (X.not rfl) (by decide) ?_
                      refine WL.x (X.move rfl) (by decide) ?_
                      refine WL.yes rfl rfl ?_
                      refine WL.x (X.loadBA (k := 1) Try.isAgg28 Try.sizeOf28 rfl rfl rfl) (by decide) ?_
                      refine WL.yes rfl rfl ?_
                      refine WL.x (X.field Try.runUnderlying36 rfl Try.sizeOf29 rfl) (by decide) ?_
                      refine WL.yes rfl rfl ?_
                      refine WL.x (X.loadB (k := 0) Try.isAgg29 rfl rfl rfl) (by decide) ?_
                      refine WL.yes rfl rfl ?_
                      refine WL.cond (X.call Try.call48 rfl (is48 _ _ c ⟨_, _, _, rfl, hs2, hs4, hs6⟩ _ _ hs13 )) (by decide) (fun h78 => ?_) (fun h78 => ?_)
                      · refine WL.yes rfl rfl ?_
                        refine WL.x (X.not rfl) (by decide) ?_
                        refine WL.x (X.pickF rfl rfl rfl) (by decide) ?_
                        refine WL.nil ?_
                        refine WK.nThen ?_
                        refine WC.condF rfl ?_
                        refine WC.skip ?_
                        refine WK.nThen ?_
                        refine WC.seq ?_
                        have hle := lat_ends (d := c.D) (m := c.M) (a := x.One) (b := x.Two) (by omega) (by omega)
                        have hle1 := hle.1
                        have hle2 := hle.2
                        refine WK.ownF Int 3 ?_
                        refine WC.region ?_
                        refine WL.x (X.assign rfl) (by decide) ?_
                        refine WL.nil ?_
                        refine WK.nThen ?_
                        refine WC.seq ?_
                        refine WK.ownF Int 3 ?_
                        refine WC.region ?_
                        refine WL.x (X.assign rfl) (by decide) ?_
                        refine WL.nil ?_
                        refine WK.nThen ?_
                        refine WC.seq ?_
                        refine WC.seq ?_
                        refine WC.region ?_
                        refine WL.x (X.assign rfl) (by decide) ?_
                        refine WL.nil ?_
                        refine WK.nThen ?_
                        refine WC.block ?_
                        refine WC.loop (G := Nat × Value × Value) (fun (i, va, vb) => x.One.length - i) (fun (i, va, vb) => m30) (fun (i, va, vb) => [rowF (vb) 3 ((List.range i).map (fun i => max (gt x.One i) (gt x.Two i))), rowF (va) 3 ((List.range i).map (fun i => min (gt x.One i) (gt x.Two i))), blk b20 36 [.int .i64 (x.A), .int .i64 (x.B), .int .i64 (x.Tick), v10, v12, v14, .int .i64 (x.First.Column), .int .i64 (x.First.Ticks.Lo), .int .i64 (x.First.Ticks.Hi), .int .i64 (x.Second.Column), .int .i64 (x.Second.Ticks.Lo), .int .i64 (x.Second.Ticks.Hi), .int .i64 (x.Stop.Column), .int .i64 (x.Stop.Ticks.Lo), .int .i64 (x.Stop.Ticks.Hi)], blk b19 28 [v1, v3, v5]]) (fun (i, va, vb) => [(2, .pointer (some ⟨b19, 0, none⟩)), (3, .pointer (some ⟨b20, 0, none⟩)), (5, .bool true), (12, va), (13, vb), (14, .int .i64 (↑i))]) (fun (i, va, vb) => i ≤ x.One.length) ((0, Value.slice none 0 0, (Value.slice none 0 0))) rfl (.refl _) (.cons rfl (.cons rfl (.cons rfl (.cons rfl (.cons rfl (.cons rfl .nil)))))) ?_ ?_
                        · exact Nat.zero_le _
                        · rintro ⟨i, va, vb⟩ hF79
                          show WK _ _ m30 [rowF (vb) 3 ((List.range i).map (fun i => max (gt x.One i) (gt x.Two i))), rowF (va) 3 ((List.range i).map (fun i => min (gt x.One i) (gt x.Two i))), blk b20 36 [.int .i64 (x.A), .int .i64 (x.B), .int .i64 (x.Tick), v10, v12, v14, .int .i64 (x.First.Column), .int .i64 (x.First.Ticks.Lo), .int .i64 (x.First.Ticks.Hi), .int .i64 (x.Second.Column), .int .i64 (x.Second.Ticks.Lo), .int .i64 (x.Second.Ticks.Hi), .int .i64 (x.Stop.Column), .int .i64 (x.Stop.Ticks.Lo), .int .i64 (x.Stop.Ticks.Hi)], blk b19 28 [v1, v3, v5]] [(2, .pointer (some ⟨b19, 0, none⟩)), (3, .pointer (some ⟨b20, 0, none⟩)), (5, .bool true), (12, va), (13, vb), (14, .int .i64 (↑i))] _
                          replace hF79 : i ≤ x.One.length := hF79
                          have hi := hF79
                          refine WC.seq ?_
                          refine WC.seq ?_
                          refine WC.region ?_
                          refine WL.x (X.move rfl) (by decide) ?_
                          refine WL.x (X.field Try.runUnderlying36 rfl Try.sizeOf29 rfl) (by decide) ?_
                          refine WL.x (X.loadB (k := 2) Try.isAgg29 rfl rfl rfl) (by decide) ?_
                          refine WL.x (X.len Try.runUnderlying29 rfl hs11) (by decide) ?_
                          refine WL.cond (X.lss rfl rfl) (by decide) (fun h80 => ?_) (fun h80 => ?_)
                          · refine WL.nil ?_
                            refine WK.nThen ?_
                            refine WC.condT rfl ?_
                            refine WC.skip ?_
                            refine WK.nThen ?_
                            refine WC.seq ?_
                            refine WC.block ?_
                            refine WC.seq ?_
                            refine WC.draw (π := (.cons 0 (.cons 1 (.cons 2 (.cons 3 (.cons 4 (.cons 5 (.cons 6 (.cons 7 (.cons 8 (.cons 9 (.cons 10 (.cons 11 (.cons 12 (.cons 13 (.cons 14 .done)))))))))))))))) [12, 13] [13] rfl (by kernel_rfl) ?_
                            refine DW.x rfl rfl (X.move rfl) (by decide) ?_
                            refine DW.x rfl rfl (X.field Try.runUnderlying36 rfl Try.sizeOf29 rfl) (by decide) ?_
                            refine DW.x rfl rfl (X.loadB (k := 2) Try.isAgg29 rfl rfl rfl) (by decide) ?_
                            refine DW.x rfl rfl (X.move rfl) (by decide) ?_
                            refine DW.xe rfl rfl (E.idxN i Try.runUnderlying29 Try.sizeOf3 rfl rfl hs11 (by omega)) (by decide) (fun p81 hp82 => ?_)
                            refine DW.x rfl rfl (X.loadInt Try.isAgg3 rfl hp82) (by decide) ?_
                            refine DW.x rfl rfl (X.field Try.runUnderlying36 rfl Try.sizeOf29 rfl) (by decide) ?_
                            refine DW.x rfl rfl (X.loadB (k := 2) Try.isAgg29 rfl rfl rfl) (by decide) ?_
                            refine DW.x rfl rfl (X.move rfl) (by decide) ?_
                            refine DW.xe rfl rfl (E.idxN i Try.runUnderlying29 Try.sizeOf3 rfl rfl hs13 (by omega)) (by decide) (fun p83 hp84 => ?_)
                            refine DW.x rfl rfl (X.loadInt Try.isAgg3 rfl hp84) (by decide) ?_
                            refine DW.x rfl rfl (X.mn rfl rfl) (by decide) ?_
                            refine DW.tl rfl rfl rfl (T.lit1 sl29 rfl rfl rfl (by decide)) (by decide) fun b85 => ?_
                            refine DW.ta rfl rfl rfl rfl (T.appendF (k := 1) (a := min (gt x.One i) (gt x.Two i)) sl29 rfl rfl rfl rfl (by first | omega | (simp; omega)) (by decide)) (by decide) (fun v86 => ?_)
                            refine DW.x rfl rfl (X.assign rfl) (by decide) ?_
                            refine DW.nil ?_
                            refine WK.nThen ?_
                            refine WC.draw (π := (.cons 0 (.cons 1 (.cons 2 (.cons 3 (.cons 4 (.cons 5 (.cons 6 (.cons 7 (.cons 8 (.cons 9 (.cons 10 (.cons 11 (.cons 12 (.cons 13 (.cons 14 .done)))))))))))))))) [12, 13] [13] rfl (by kernel_rfl) ?_
                            refine DW.x rfl rfl (X.move rfl) (by decide) ?_
                            refine DW.x rfl rfl (X.field Try.runUnderlying36 rfl Try.sizeOf29 rfl) (by decide) ?_
                            refine DW.x rfl rfl (X.loadB (k := 2) Try.isAgg29 rfl rfl rfl) (by decide) ?_
                            refine DW.x rfl rfl (X.move rfl) (by decide) ?_
                            refine DW.xe rfl rfl (E.idxN i Try.runUnderlying29 Try.sizeOf3 rfl rfl hs11 (by omega)) (by decide) (fun p87 hp88 => ?_)
                            refine DW.x rfl rfl (X.loadInt Try.isAgg3 rfl hp88) (by decide) ?_
                            refine DW.x rfl rfl (X.field Try.runUnderlying36 rfl Try.sizeOf29 rfl) (by decide) ?_
                            refine DW.x rfl rfl (X.loadB (k := 2) Try.isAgg29 rfl rfl rfl) (by decide) ?_
                            refine DW.x rfl rfl (X.move rfl) (by decide) ?_
                            refine DW.xe rfl rfl (E.idxN i Try.runUnderlying29 Try.sizeOf3 rfl rfl hs13 (by omega)) (by decide) (fun p89 hp90 => ?_)
                            refine DW.x rfl rfl (X.loadInt Try.isAgg3 rfl hp90) (by decide) ?_
                            refine DW.x rfl rfl (X.mx rfl rfl) (by decide) ?_
                            refine DW.tl rfl rfl rfl (T.lit1 sl29 rfl rfl rfl (by decide)) (by decide) fun b91 => ?_
                            refine DW.ta rfl rfl rfl rfl (T.appendF (k := 0) (a := max (gt x.One i) (gt x.Two i)) sl29 rfl rfl rfl rfl (by first | omega | (simp; omega)) (by decide)) (by decide) (fun v92 => ?_)
                            refine DW.x rfl rfl (X.assign rfl) (by decide) ?_
                            refine DW.nil ?_
                            refine WK.nBlock ?_
                            refine WK.nThen ?_
                            refine WC.region ?_
                            refine WL.x (X.move rfl) (by decide) ?_
                            refine WL.x (X.add rfl rfl (by omega) (by omega)) (by decide) ?_
                            refine WL.x (X.assign rfl) (by decide) ?_
                            refine WL.nil ?_
                            refine WK.nThen ?_
                            have he93 : (((List.range i).map (fun i => min (gt x.One i) (gt x.Two i))) ++ [min (gt x.One i) (gt x.Two i)]) = ((List.range (i + 1)).map (fun i => min (gt x.One i) (gt x.Two i))) := map_succ _ _
                            rw [he93]
                            have he94 : (((List.range i).map (fun i => max (gt x.One i) (gt x.Two i))) ++ [max (gt x.One i) (gt x.Two i)]) = ((List.range (i + 1)).map (fun i => max (gt x.One i) (gt x.Two i))) := map_succ _ _
                            rw [he94]
                            refine WK.next ((i + 1, v86, v92)) rfl (.refl _) (.cons rfl (.cons rfl (.cons rfl (.cons rfl (.cons rfl (.cons rfl .nil)))))) ?_ ?_
                            · omega
                            · (dsimp only; omega)
                          · refine WL.nil ?_
                            refine WK.nThen ?_
                            refine WC.condF rfl ?_
                            refine WC.exit ?_
                            refine WK.eThen ?_
                            refine WK.eThen ?_
                            refine WK.eHit ?_
                            refine WK.nThen ?_
                            refine WC.seq ?_
                            have he95 : ((List.range i).map (fun i => min (gt x.One i) (gt x.Two i))) = (minL x.One x.Two) := (by rw [show i = x.One.length by omega]; rfl)
                            rw [he95]
                            have he96 : ((List.range i).map (fun i => max (gt x.One i) (gt x.Two i))) = (maxL x.One x.Two) := (by rw [show i = x.One.length by omega]; rfl)
                            rw [he96]
                            have hml1 := minL_len x.One x.Two
                            have hml2 := maxL_len x.One x.Two
                            refine WC.region ?_
                            refine WL.x (X.move rfl) (by decide) ?_
                            refine WL.x (X.move rfl) (by decide) ?_
                            refine WL.yes rfl rfl ?_
                            refine WL.x (X.loadBA (k := 3) Try.isAgg28 Try.sizeOf28 rfl rfl rfl) (by decide) ?_
                            refine WL.yes rfl rfl ?_
                            refine WL.x (X.move rfl) (by decide) ?_
                            refine WL.yes rfl rfl ?_
                            refine WL.freezeF 1 rfl rfl (by first | (unfold lenB; omega) | (simp [lenB]; omega)) (fun m97 hle98 hs99 => ?_)
                            replace hs2 := hs2.mono hle98
                            replace hs4 := hs4.mono hle98
                            replace hs6 := hs6.mono hle98
                            replace hs11 := hs11.mono hle98
                            replace hs13 := hs13.mono hle98
                            replace hs15 := hs15.mono hle98
                            replace hs28 := hs28.mono hle98
                            replace hs35 := hs35.mono hle98
                            refine WL.cond (X.call Try.call48 rfl (is48 _ _ c ⟨_, _, _, rfl, hs2, hs4, hs6⟩ _ _ hs99 )) (by decide) (fun h100 => ?_) (fun h100 => ?_)
                            · refine WL.x (X.pickT rfl rfl rfl) (by decide) ?_
                              refine WL.x (X.move rfl) (by decide) ?_
                              refine WL.yes rfl rfl ?_
                              refine WL.x (X.loadBA (k := 2) Try.isAgg28 Try.sizeOf28 rfl rfl rfl) (by decide) ?_
                              refine WL.yes rfl rfl ?_
                              refine WL.x (X.move rfl) (by decide) ?_
                              refine WL.yes rfl rfl ?_
                              refine WL.freezeF 0 rfl rfl (by first | (unfold lenB; omega) | (simp [lenB]; omega)) (fun m101 hle102 hs103 => ?_)
                              replace hs2 := hs2.mono hle102
                              replace hs4 := hs4.mono hle102
                              replace hs6 := hs6.mono hle102
                              replace hs11 := hs11.mono hle102
                              replace hs13 := hs13.mono hle102
                              replace hs15 := hs15.mono hle102
                              replace hs28 := hs28.mono hle102
                              replace hs35 := hs35.mono hle102
                              replace hs99 := hs99.mono hle102
                              refine WL.x (X.call Try.call48 rfl (is48 _ _ c ⟨_, _, _, rfl, hs2, hs4, hs6⟩ _ _ hs103 )) (by decide) ?_
                              refine WL.x (X.pickT rfl rfl rfl) (by decide) ?_
                              refine WL.x (X.assign rfl) (by decide) ?_
                              refine WL.nil ?_
                              refine WK.nThen ?_
                              refine WC.ret ?_
                              refine WK.ret1 rfl rfl (fun w' hw' => Ret.exact hw' ?_)
                              first | rfl | (exfalso; omega) | (exfalso; contradiction) | (exfalso; have q_ := (hk2 (by omega)).1; contradiction) | (exfalso; have q_ := (hk2 (by omega)).2; contradiction) | exact (bool_true (by omega)).symm
                            · refine WL.x (X.pickT rfl rfl rfl) (by decide) ?_
                              refine WL.x (X.move rfl) (by decide) ?_
                              refine WL.no rfl rfl rfl (by decide) ?_
                              refine WL.no rfl rfl rfl (by decide) ?_
                              refine WL.no rfl rfl rfl (by decide) ?_
                              refine WL.x (X.pickF rfl rfl rfl) (by decide) ?_
                              refine WL.x (X.assign rfl) (by decide) ?_
                              refine WL.nil ?_
                              refine WK.nThen ?_
                              refine WC.ret ?_
                              refine WK.ret1 rfl rfl (fun w' hw' => Ret.exact hw' ?_)
                              first | rfl | (exfalso; omega) | (exfalso; contradiction) | (exfalso; have q_ := (hk2 (by omega)).1; contradiction) | (exfalso; have q_ := (hk2 (by omega)).2; contradiction) | exact (bool_true (by omega)).symm
                      · refine WL.yes rfl rfl ?_
                        refine WL.x (X.not rfl) (by decide) ?_
                        refine WL.x (X.pickF rfl rfl rfl) (by decide) ?_
                        refine WL.nil ?_
                        refine WK.nThen ?_
                        refine WC.condT rfl ?_
                        refine WC.seq ?_
                        refine WC.region ?_
                        refine WL.x (X.move rfl) (by decide) ?_
                        refine WL.x (X.assign rfl) (by decide) ?_
                        refine WL.nil ?_
                        refine WK.nThen ?_
                        refine WC.ret ?_
                        refine WK.rThen ?_
                        refine WK.ret1 rfl rfl (fun w' hw' => Ret.exact hw' ?_)
                        first | rfl | (exfalso; omega) | (exfalso; contradiction) | (exfalso; have q_ := (hk2 (by omega)).1; contradiction) | (exfalso; have q_ := (hk2 (by omega)).2; contradiction) | exact (bool_true (by omega)).symm
                    · refine WL.x (X.not rfl) (by decide) ?_
                      refine WL.x (X.move rfl) (by decide) ?_
                      refine WL.no rfl rfl rfl (by decide) ?_
                      refine WL.no rfl rfl rfl (by decide) ?_
                      refine WL.no rfl rfl rfl (by decide) ?_
                      refine WL.no rfl rfl rfl (by decide) ?_
                      refine WL.no rfl rfl rfl (by decide) ?_
                      refine WL.x (X.pickT rfl rfl rfl) (by decide) ?_
                      refine WL.nil ?_
                      refine WK.nThen ?_
                      refine WC.condT rfl ?_
                      refine WC.seq ?_
                      refine WC.region ?_
                      refine WL.x (X.move rfl) (by decide) ?_
                      refine WL.x (X.assign rfl) (by decide) ?_
                      refine WL.nil ?_
                      refine WK.nThen ?_
                      refine WC.ret ?_
                      refine WK.rThen ?_
                      refine WK.ret1 rfl rfl (fun w' hw' => Ret.exact hw' ?_)
                      first | rfl | (exfalso; omega) | (exfalso; contradiction) | (exfalso; have q_ := (hk2 (by omega)).1; contradiction) | (exfalso; have q_ := (hk2 (by omega)).2; contradiction) | exact (bool_true (by omega)).symm
                · refine WL.yes rfl rfl ?_
                  refine WL.x (X.not rfl) (by decide) ?_
                  refine WL.x (X.pickF rfl rfl rfl) (by decide) ?_
                  refine WL.nil ?_
                  refine WK.nThen ?_
                  refine WC.condT rfl ?_
                  refine WC.seq ?_
                  refine WC.region ?_
                  refine WL.x (X.assign rfl) (by decide) ?_
                  refine WL.nil ?_
                  refine WK.nThen ?_
                  refine WC.ret ?_
                  refine WK.rThen ?_
                  refine WK.ret1 rfl rfl (fun w' hw' => Ret.exact hw' ?_)
                  first | rfl | (exfalso; omega) | (exfalso; contradiction) | (exfalso; have q_ := (hk2 (by omega)).1; contradiction) | (exfalso; have q_ := (hk2 (by omega)).2; contradiction) | exact (bool_true (by omega)).symm
              · refine WL.yes rfl rfl ?_
                refine WL.x (X.not rfl) (by decide) ?_
                refine WL.x (X.pickF rfl rfl rfl) (by decide) ?_
                refine WL.x (X.move rfl) (by decide) ?_
                refine WL.no rfl rfl rfl (by decide) ?_
                refine WL.no rfl rfl rfl (by decide) ?_
                refine WL.no rfl rfl rfl (by decide) ?_
                refine WL.no rfl rfl rfl (by decide) ?_
                refine WL.x (X.pickT rfl rfl rfl) (by decide) ?_
                refine WL.nil ?_
                refine WK.nThen ?_
                refine WC.condT rfl ?_
                refine WC.seq ?_
                refine WC.region ?_
                refine WL.x (X.assign rfl) (by decide) ?_
                refine WL.nil ?_
                refine WK.nThen ?_
                refine WC.ret ?_
                refine WK.rThen ?_
                refine WK.ret1 rfl rfl (fun w' hw' => Ret.exact hw' ?_)
                first | rfl | (exfalso; omega) | (exfalso; contradiction) | (exfalso; have q_ := (hk2 (by omega)).1; contradiction) | (exfalso; have q_ := (hk2 (by omega)).2; contradiction) | exact (bool_true (by omega)).symm
    · refine WL.yes rfl rfl ?_
      refine WL.x (X.not rfl) (by decide) ?_
      refine WL.x (X.pickF rfl rfl rfl) (by decide) ?_
      refine WL.nil ?_
      refine WK.nThen ?_
      refine WC.condT rfl ?_
      refine WC.seq ?_
      refine WC.region ?_
      refine WL.x (X.move rfl) (by decide) ?_
      refine WL.x (X.assign rfl) (by decide) ?_
      refine WL.nil ?_
      refine WK.nThen ?_
      refine WC.ret ?_
      refine WK.rThen ?_
      refine WK.ret1 rfl rfl (fun w' hw' => Ret.exact hw' ?_)
      first | rfl | (exfalso; omega) | (exfalso; contradiction) | (exfalso; have q_ := (hk2 (by omega)).1; contradiction) | (exfalso; have q_ := (hk2 (by omega)).2; contradiction) | exact (bool_true (by omega)).symm
  · refine WL.x (X.not rfl) (by decide) ?_
    refine WL.x (X.move rfl) (by decide) ?_
    refine WL.no rfl rfl rfl (by decide) ?_
    refine WL.no rfl rfl rfl (by decide) ?_
    refine WL.no rfl rfl rfl (by decide) ?_
    refine WL.x (X.pickT rfl rfl rfl) (by decide) ?_
    refine WL.nil ?_
    refine WK.nThen ?_
    refine WC.condT rfl ?_
    refine WC.seq ?_
    refine WC.region ?_
    refine WL.x (X.move rfl) (by decide) ?_
    refine WL.x (X.assign rfl) (by decide) ?_
    refine WL.nil ?_
    refine WK.nThen ?_
    refine WC.ret ?_
    refine WK.rThen ?_
    refine WK.ret1 rfl rfl (fun w' hw' => Ret.exact hw' ?_)
    first | rfl | (exfalso; omega) | (exfalso; contradiction) | (exfalso; have q_ := (hk2 (by omega)).1; contradiction) | (exfalso; have q_ := (hk2 (by omega)).2; contradiction) | exact (bool_true (by omega)).symm
end Go.Proofs.C2
