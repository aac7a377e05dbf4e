import Derived.Test.YtmnipmbgdbdjeaaC2Br
import Derived.Test.YtmnipmbgdbdjeaaC2W10
import Derived.Test.YtmnipmbgdbdjeaaC2LM
/- The walk of the statement ClocksTurned: its function answers true. -/
namespace Go.Proofs.C2
open Go Go.Kx
set_option linter.unusedSimpArgs false
set_option linter.unusedVariables false
set_option maxRecDepth 20000 in
set_option maxHeartbeats 4000000 in
theorem law11 (m : Mem) (cc : List Value) (c : Clk) (hc : Enc.rd m cc c) (cx : List Value) (x : Ask) (hx : Enc.rd m cx x)  (ok0 : Rng.ok c) (ok1 : Rng.ok x) : Exact Try.prog 11 #[.agg cc.toArray, .agg cx.toArray] m (.bool true) := by
  obtain ⟨v1, v3, v5, rfl, hs2, hs4, hs6⟩ := hc
  have hl7 := hs2.le
  have hl8 := hs4.le
  have hl9 := hs6.le
  obtain ⟨v10, v12, v14, rfl, hs11, hs13, hs15⟩ := hx
  have hl16 := hs11.le
  have hl17 := hs13.le
  have hl18 := hs15.le
  refine Exact.start Try.func11 rfl Try.ntmps11 rfl fun wld => ?_
  refine WC.seq ?_
  refine WC.region ?_
  refine WL.tn (T.boxB rfl rfl) (by decide) fun b19 => ?_
  refine WL.tn (T.boxB rfl rfl) (by decide) fun b20 => ?_
  refine WL.x (X.assign rfl) (by decide) ?_
  refine WL.nil ?_
  refine WK.nThen ?_
  refine WC.seq ?_
  refine WC.region ?_
  refine WL.x (X.call Try.call19 rfl (awake19 _  )) (by decide) ?_
  refine WL.x (X.assign rfl) (by decide) ?_
  refine WL.nil ?_
  refine WK.nThen ?_
  refine WC.seq ?_
  refine WC.seq ?_
  refine WC.region ?_
  refine WL.x (X.loadBA (k := 1) Try.isAgg28 Try.sizeOf28 rfl rfl rfl) (by decide) ?_
  refine WL.cond (X.call Try.call20 rfl (few20 _ _ c ⟨_, _, _, rfl, hs2, hs4, hs6⟩ )) (by decide) (fun h21 => ?_) (fun h21 => ?_)
  · refine WL.x (X.not rfl) (by decide) ?_
    refine WL.x (X.move rfl) (by decide) ?_
    refine WL.yes rfl rfl ?_
    refine WL.x (X.loadBA (k := 0) Try.isAgg36 Try.sizeOf36 rfl rfl rfl) (by decide) ?_
    refine WL.yes rfl rfl ?_
    refine WL.cond (X.call Try.call42 rfl (light42 _ _ x ⟨_, _, _, rfl, hs11, hs13, hs15⟩ )) (by decide) (fun h22 => ?_) (fun h22 => ?_)
    · refine WL.yes rfl rfl ?_
      refine WL.x (X.not rfl) (by decide) ?_
      refine WL.x (X.pickF rfl rfl rfl) (by decide) ?_
      refine WL.x (X.move rfl) (by decide) ?_
      refine WL.yes rfl rfl ?_
      refine WL.x (X.field Try.runUnderlying28 rfl Try.sizeOf25 rfl) (by decide) ?_
      refine WL.yes rfl rfl ?_
      refine WL.x (X.loadBP (k := 1) (vs := [v1, v3]) Try.isAgg25 Try.sizeOf25 rfl rfl rfl rfl) (by decide) ?_
      refine WL.yes rfl rfl ?_
      refine WL.x (X.call Try.call43 rfl (check43 _ _ c.D ⟨_, _, rfl, hs2, hs4⟩ )) (by decide) ?_
      refine WL.yes rfl rfl ?_
      refine WL.condn (X.neq rfl rfl) (by decide) (fun h23 => ?_) (fun h23 => ?_)
      · refine WL.x (X.pickF rfl rfl rfl) (by decide) ?_
        refine WL.nil ?_
        refine WK.nThen ?_
        refine WC.condT rfl ?_
        refine WC.seq ?_
        refine WC.region ?_
        refine WL.x (X.move rfl) (by decide) ?_
        refine WL.x (X.assign rfl) (by decide) ?_
        refine WL.nil ?_
        refine WK.nThen ?_
        refine WC.ret ?_
        refine WK.rThen ?_
        refine WK.ret1 rfl rfl (fun w' hw' => Ret.exact hw' ?_)
        first | rfl | (exfalso; omega) | (exfalso; contradiction) | exact (bool_true hte2).symm | exact (bool_true (by first | omega | assumption)).symm
      refine WL.x (X.pickF rfl rfl rfl) (by decide) ?_
      refine WL.nil ?_
      refine WK.nThen ?_
      refine WC.condF rfl ?_
      refine WC.skip ?_
      refine WK.nThen ?_
      refine WC.seq ?_
      refine WC.seq ?_
      have hlt := (‹lightA x› : lightA x)
      unfold lightA at hlt
      refine WC.region ?_
      refine WL.x (X.field Try.runUnderlying28 rfl Try.sizeOf25 rfl) (by decide) ?_
      refine WL.x (X.loadBP (k := 1) (vs := [v1, v3]) Try.isAgg25 Try.sizeOf25 rfl rfl rfl rfl) (by decide) ?_
      refine WL.x (X.field Try.runUnderlying28 rfl Try.sizeOf26 rfl) (by decide) ?_
      refine WL.x (X.loadB (k := 1) Try.isAgg26 rfl rfl rfl) (by decide) ?_
      refine WL.x (X.call Try.call44 rfl (marks44 _ _ c.D ⟨_, _, rfl, hs2, hs4⟩ _ _ hs6 )) (by decide) ?_
      refine WL.x (X.move rfl) (by decide) ?_
      refine WL.x (X.extract rfl rfl) (by decide) ?_
      refine WL.x (X.extract rfl rfl) (by decide) ?_
      refine WL.x (X.assign rfl) (by decide) ?_
      refine WL.x (X.assign rfl) (by decide) ?_
      refine WL.nil ?_
      refine WK.nThen ?_
      refine WC.seq ?_
      refine WC.region ?_
      refine WL.x (X.move rfl) (by decide) ?_
      refine WL.condn (X.neq rfl rfl) (by decide) (fun h24 => ?_) (fun h24 => ?_)
      · refine WL.nil ?_
        refine WK.nThen ?_
        refine WC.condT rfl ?_
        refine WC.seq ?_
        refine WC.region ?_
        refine WL.x (X.move rfl) (by decide) ?_
        refine WL.x (X.assign rfl) (by decide) ?_
        refine WL.nil ?_
        refine WK.nThen ?_
        refine WC.ret ?_
        refine WK.rThen ?_
        refine WK.ret1 rfl rfl (fun w' hw' => Ret.exact hw' ?_)
        first | rfl | (exfalso; omega) | (exfalso; contradiction) | exact (bool_true hte2).symm | exact (bool_true (by first | omega | assumption)).symm
      refine WL.nil ?_
      refine WK.nThen ?_
      refine WC.condF rfl ?_
      refine WC.skip ?_
      refine WK.nThen ?_
      refine WC.seq ?_
      refine WC.seq ?_
      refine WC.region ?_
      refine WL.x (X.assign rfl) (by decide) ?_
      refine WL.nil ?_
      refine WK.nThen ?_
      refine WC.block ?_
      refine WC.loop (G := Nat) (fun k => x.One.length - k) (fun k => m) (fun k => [blk b20 36 [.int .i64 (x.A), .int .i64 (x.B), .int .i64 (x.Tick), v10, v12, v14, .int .i64 (x.First.Column), .int .i64 (x.First.Ticks.Lo), .int .i64 (x.First.Ticks.Hi), .int .i64 (x.Second.Column), .int .i64 (x.Second.Ticks.Lo), .int .i64 (x.Second.Ticks.Hi), .int .i64 (x.Stop.Column), .int .i64 (x.Stop.Ticks.Lo), .int .i64 (x.Stop.Ticks.Hi)], blk b19 28 [v1, v3, v5]]) (fun k => [(2, .pointer (some ⟨b19, 0, none⟩)), (3, .pointer (some ⟨b20, 0, none⟩)), (5, .bool true), (8, .int .i64 (↑k))]) (fun k => k ≤ x.One.length ∧ (∀ j, j < k → 0 ≤ gt x.One j ∧ gt x.One j ≤ 400)) 0 rfl (.refl _) (.cons rfl (.cons rfl (.cons rfl (.cons rfl .nil)))) ?_ ?_
      · exact ⟨Nat.zero_le _, fun j hj => absurd hj (Nat.not_lt_zero _)⟩
      · rintro k hF25
        show WK _ _ m [blk b20 36 [.int .i64 (x.A), .int .i64 (x.B), .int .i64 (x.Tick), v10, v12, v14, .int .i64 (x.First.Column), .int .i64 (x.First.Ticks.Lo), .int .i64 (x.First.Ticks.Hi), .int .i64 (x.Second.Column), .int .i64 (x.Second.Ticks.Lo), .int .i64 (x.Second.Ticks.Hi), .int .i64 (x.Stop.Column), .int .i64 (x.Stop.Ticks.Lo), .int .i64 (x.Stop.Ticks.Hi)], blk b19 28 [v1, v3, v5]] [(2, .pointer (some ⟨b19, 0, none⟩)), (3, .pointer (some ⟨b20, 0, none⟩)), (5, .bool true), (8, .int .i64 (↑k))] _
        replace hF25 : k ≤ x.One.length ∧ (∀ j, j < k → 0 ≤ gt x.One j ∧ gt x.One j ≤ 400) := hF25
        obtain ⟨hk, hall⟩ := hF25
        refine WC.seq ?_
        refine WC.seq ?_
        refine WC.region ?_
        refine WL.x (X.move rfl) (by decide) ?_
        refine WL.x (X.field Try.runUnderlying36 rfl Try.sizeOf29 rfl) (by decide) ?_
        refine WL.x (X.loadB (k := 0) Try.isAgg29 rfl rfl rfl) (by decide) ?_
        refine WL.x (X.len Try.runUnderlying29 rfl hs11) (by decide) ?_
        refine WL.cond (X.lss rfl rfl) (by decide) (fun h26 => ?_) (fun h26 => ?_)
        · refine WL.nil ?_
          refine WK.nThen ?_
          refine WC.condT rfl ?_
          refine WC.skip ?_
          refine WK.nThen ?_
          refine WC.seq ?_
          refine WC.block ?_
          refine WC.seq ?_
          refine WC.region ?_
          refine WL.x (X.field Try.runUnderlying36 rfl Try.sizeOf29 rfl) (by decide) ?_
          refine WL.x (X.loadB (k := 0) Try.isAgg29 rfl rfl rfl) (by decide) ?_
          refine WL.x (X.move rfl) (by decide) ?_
          refine WL.xe (E.idxN k Try.runUnderlying29 Try.sizeOf3 rfl rfl hs11 (by omega)) (by decide) (fun p27 hp28 => ?_)
          refine WL.x (X.loadInt Try.isAgg3 rfl hp28) (by decide) ?_
          refine WL.cond (X.lss rfl rfl) (by decide) (fun h29 => ?_) (fun h29 => ?_)
          · refine WL.x (X.move rfl) (by decide) ?_
            refine WL.no rfl rfl rfl (by decide) ?_
            refine WL.no rfl rfl rfl (by decide) ?_
            refine WL.no rfl rfl rfl (by decide) ?_
            refine WL.no rfl rfl rfl (by decide) ?_
            refine WL.no rfl rfl rfl (by decide) ?_
            refine WL.no rfl rfl rfl (by decide) ?_
            refine WL.x (X.pickT rfl rfl rfl) (by decide) ?_
            refine WL.nil ?_
            refine WK.nThen ?_
            refine WC.condT rfl ?_
            refine WC.seq ?_
            refine WC.region ?_
            refine WL.x (X.move rfl) (by decide) ?_
            refine WL.x (X.assign rfl) (by decide) ?_
            refine WL.nil ?_
            refine WK.nThen ?_
            refine WC.ret ?_
            refine WK.rBlock ?_
            refine WK.rThen ?_
            refine WK.rThen ?_
            refine WK.rBlock ?_
            refine WK.rThen ?_
            refine WK.ret1 rfl rfl (fun w' hw' => Ret.exact hw' ?_)
            first | rfl | (exfalso; omega) | (exfalso; contradiction) | exact (bool_true hte2).symm | exact (bool_true (by first | omega | assumption)).symm
          refine WL.x (X.move rfl) (by decide) ?_
          refine WL.yes rfl rfl ?_
          refine WL.x (X.field Try.runUnderlying36 rfl Try.sizeOf29 rfl) (by decide) ?_
          refine WL.yes rfl rfl ?_
          refine WL.x (X.loadB (k := 0) Try.isAgg29 rfl rfl rfl) (by decide) ?_
          refine WL.yes rfl rfl ?_
          refine WL.x (X.move rfl) (by decide) ?_
          refine WL.yes rfl rfl ?_
          refine WL.xe (E.idxN k Try.runUnderlying29 Try.sizeOf3 rfl rfl hs11 (by omega)) (by decide) (fun p30 hp31 => ?_)
          refine WL.yes rfl rfl ?_
          refine WL.x (X.loadInt Try.isAgg3 rfl hp31) (by decide) ?_
          refine WL.yes rfl rfl ?_
          refine WL.cond (X.gtr rfl rfl) (by decide) (fun h32 => ?_) (fun h32 => ?_)
          · refine WL.x (X.pickF rfl rfl rfl) (by decide) ?_
            refine WL.nil ?_
            refine WK.nThen ?_
            refine WC.condT rfl ?_
            refine WC.seq ?_
            refine WC.region ?_
            refine WL.x (X.move rfl) (by decide) ?_
            refine WL.x (X.assign rfl) (by decide) ?_
            refine WL.nil ?_
            refine WK.nThen ?_
            refine WC.ret ?_
            refine WK.rBlock ?_
            refine WK.rThen ?_
            refine WK.rThen ?_
            refine WK.rBlock ?_
            refine WK.rThen ?_
            refine WK.ret1 rfl rfl (fun w' hw' => Ret.exact hw' ?_)
            first | rfl | (exfalso; omega) | (exfalso; contradiction) | exact (bool_true hte2).symm | exact (bool_true (by first | omega | assumption)).symm
          refine WL.x (X.pickF rfl rfl rfl) (by decide) ?_
          refine WL.nil ?_
          refine WK.nThen ?_
          refine WC.condF rfl ?_
          refine WC.skip ?_
          refine WK.nBlock ?_
          refine WK.nThen ?_
          refine WC.region ?_
          refine WL.x (X.move rfl) (by decide) ?_
          refine WL.x (X.add rfl rfl (by omega) (by omega)) (by decide) ?_
          refine WL.x (X.assign rfl) (by decide) ?_
          refine WL.nil ?_
          refine WK.nThen ?_
          refine WK.next (k + 1) rfl (.refl _) (.cons rfl (.cons rfl (.cons rfl (.cons rfl .nil)))) ?_ ?_
          · exact ⟨by omega, fun j hj => by rcases Nat.lt_succ_iff_lt_or_eq.1 hj with h | h; exact hall j h; subst h; omega⟩
          · omega
        refine WL.nil ?_
        refine WK.nThen ?_
        refine WC.condF rfl ?_
        refine WC.exit ?_
        refine WK.eThen ?_
        refine WK.eThen ?_
        refine WK.eHit ?_
        refine WK.nThen ?_
        refine WC.seq ?_
        have hokc : Ok c.D c.M := marks_zero (by omega)
        have hone : ∀ i, i < x.One.length → 0 ≤ gt x.One i ∧ gt x.One i ≤ 400 := (fun i hi => hall i (by omega))
        refine WC.region ?_
        refine WL.x (X.loadBA (k := 1) Try.isAgg28 Try.sizeOf28 rfl rfl rfl) (by decide) ?_
        refine WL.tm (T.call Try.call45 rfl (turned45 _ _ c ⟨_, _, _, rfl, hs2, hs4, hs6⟩ (by assumption))) (by decide) fun m33 r34 hle35 hR36 => ?_
        obtain ⟨c37, rfl, hc38⟩ := hR36
        replace hs2 := hs2.mono hle35
        replace hs4 := hs4.mono hle35
        replace hs6 := hs6.mono hle35
        replace hs11 := hs11.mono hle35
        replace hs13 := hs13.mono hle35
        replace hs15 := hs15.mono hle35
        obtain ⟨v39, v41, v43, rfl, hs40, hs42, hs44⟩ := hc38
        have hl45 := hs40.le
        have hl46 := hs42.le
        have hl47 := hs44.le
        refine WL.tn (T.alloc Try.zeroValue28 rfl) (by decide) fun b48 => ?_
        refine WL.ts (T.storeBA (k := 0) Try.sizeOf28 rfl rfl rfl (one_cons hs40.one (one_cons hs42.one (one_cons hs44.one one_nil))) rfl rfl) ?_
        refine WL.nil ?_
        refine WK.nThen ?_
        refine WC.seq ?_
        refine WC.region ?_
        refine WL.x (X.field Try.runUnderlying28 rfl Try.sizeOf25 rfl) (by decide) ?_
        refine WL.x (X.loadBP (k := 2) (vs := [v1, v3]) Try.isAgg25 Try.sizeOf25 rfl rfl rfl rfl) (by decide) ?_
        refine WL.x (X.field Try.runUnderlying28 rfl Try.sizeOf26 rfl) (by decide) ?_
        refine WL.x (X.loadB (k := 2) Try.isAgg26 rfl rfl rfl) (by decide) ?_
        refine WL.tm (T.call Try.call46 rfl (latest46 _ _ c.D ⟨_, _, rfl, hs2, hs4⟩ _ _ hs6 )) (by decide) fun m49 r50 hle51 hR52 => ?_
        obtain ⟨v53, rfl, hs54⟩ := hR52
        replace hs2 := hs2.mono hle51
        replace hs4 := hs4.mono hle51
        replace hs6 := hs6.mono hle51
        replace hs11 := hs11.mono hle51
        replace hs13 := hs13.mono hle51
        replace hs15 := hs15.mono hle51
        replace hs40 := hs40.mono hle51
        replace hs42 := hs42.mono hle51
        replace hs44 := hs44.mono hle51
        have hl55 := hs54.le
        refine WL.x (X.move rfl) (by decide) ?_
        refine WL.x (X.extract rfl rfl) (by decide) ?_
        refine WL.x (X.extract rfl rfl) (by decide) ?_
        refine WL.x (X.assign rfl) (by decide) ?_
        refine WL.x (X.assign rfl) (by decide) ?_
        refine WL.nil ?_
        refine WK.nThen ?_
        refine WC.seq ?_
        refine WC.region ?_
        refine WL.x (X.field Try.runUnderlying28 rfl Try.sizeOf25 rfl) (by decide) ?_
        refine WL.x (X.loadBP (k := 0) (vs := [v39, v41]) Try.isAgg25 Try.sizeOf25 rfl rfl rfl rfl) (by decide) ?_
        refine WL.x (X.field Try.runUnderlying28 rfl Try.sizeOf26 rfl) (by decide) ?_
        refine WL.x (X.loadB (k := 0) Try.isAgg26 rfl rfl rfl) (by decide) ?_
        refine WL.tm (T.call Try.call47 rfl (earliest47 _ _ ((turnC c).D) ⟨_, _, rfl, hs40, hs42⟩ _ _ hs44 )) (by decide) fun m56 r57 hle58 hR59 => ?_
        obtain ⟨v60, rfl, hs61⟩ := hR59
        replace hs2 := hs2.mono hle58
        replace hs4 := hs4.mono hle58
        replace hs6 := hs6.mono hle58
        replace hs11 := hs11.mono hle58
        replace hs13 := hs13.mono hle58
        replace hs15 := hs15.mono hle58
        replace hs40 := hs40.mono hle58
        replace hs42 := hs42.mono hle58
        replace hs44 := hs44.mono hle58
        replace hs54 := hs54.mono hle58
        have hl62 := hs61.le
        refine WL.x (X.move rfl) (by decide) ?_
        refine WL.x (X.extract rfl rfl) (by decide) ?_
        refine WL.x (X.extract rfl rfl) (by decide) ?_
        refine WL.x (X.assign rfl) (by decide) ?_
        refine WL.x (X.assign rfl) (by decide) ?_
        refine WL.nil ?_
        refine WK.nThen ?_
        refine WC.seq ?_
        refine WC.seq ?_
        have htk : keepE (turnC c).D (turnC c).M (backL x.One) = 0 ↔ _ := turned_keep hokc (l := x.One)
        have hte := turned_err hokc
        have hte1 : (earR (turnC c).D (turnC c).M).2 = (latR c.D c.M).2 := hte.1
        refine WC.draw (π := (.cons 0 (.cons 1 (.cons 2 (.cons 3 (.cons 4 (.cons 5 (.cons 6 (.cons 7 (.cons 8 (.cons 9 (.cons 10 (.cons 11 (.cons 12 (.cons 13 (.cons 14 .done)))))))))))))))) [7] [] rfl (by kernel_rfl) ?_
        refine DW.x rfl rfl (X.loadBA (k := 2) Try.isAgg28 Try.sizeOf28 rfl rfl rfl) (by decide) ?_
        refine DW.x rfl rfl (X.field Try.runUnderlying36 rfl Try.sizeOf29 rfl) (by decide) ?_
        refine DW.x rfl rfl (X.loadB (k := 1) Try.isAgg29 rfl rfl rfl) (by decide) ?_
        refine DW.cond rfl rfl (X.call Try.call48 rfl (is48 _ _ c ⟨_, _, _, rfl, hs2, hs4, hs6⟩ _ _ hs11 )) (by decide) (fun h63 => ?_) (fun h63 => ?_)
        · refine DW.x rfl rfl (X.loadBA (k := 0) Try.isAgg28 Try.sizeOf28 rfl rfl rfl) (by decide) ?_
          refine DW.x rfl rfl (X.field Try.runUnderlying36 rfl Try.sizeOf29 rfl) (by decide) ?_
          refine DW.x rfl rfl (X.loadB (k := 1) Try.isAgg29 rfl rfl rfl) (by decide) ?_
          refine DW.tm rfl rfl rfl (T.call Try.call49 rfl (back49 _ _ _ hs11 (by first | omega | assumption) (by first | omega | assumption))) (by decide) fun m64 r65 hle66 hR67 => ?_
          obtain ⟨v68, hv_, hs69⟩ := hR67
          rw [← hv_] at hs69
          clear hv_ v68
          replace hs2 := hs2.mono hle66
          replace hs4 := hs4.mono hle66
          replace hs6 := hs6.mono hle66
          replace hs11 := hs11.mono hle66
          replace hs13 := hs13.mono hle66
          replace hs15 := hs15.mono hle66
          replace hs40 := hs40.mono hle66
          replace hs42 := hs42.mono hle66
          replace hs44 := hs44.mono hle66
          replace hs54 := hs54.mono hle66
          replace hs61 := hs61.mono hle66
          have hl70 := hs69.le
          refine DW.cond rfl rfl (X.call Try.call48 rfl (is48 _ _ (turnC c) ⟨_, _, _, rfl, hs40, hs42, hs44⟩ _ _ hs69 )) (by decide) (fun h71 => ?_) (fun h71 => ?_)
          · refine DW.x rfl rfl (OpX.f (X.neqB Try.underlying4 rfl rfl) (fun h => h rfl)) (by decide) ?_
            refine DW.x rfl rfl (X.move rfl) (by decide) ?_
            refine DW.x rfl rfl (X.move rfl) (by decide) ?_
            refine DW.x rfl rfl (X.move rfl) (by decide) ?_
            refine DW.condn rfl rfl (X.neq rfl rfl) (by decide) (fun h72 => ?_) (fun h72 => ?_)
            · refine DW.x rfl rfl (X.pickF rfl rfl rfl) (by decide) ?_
              refine DW.nil ?_
              refine WK.nThen ?_
              refine WC.condT rfl ?_
              refine WC.seq ?_
              refine WC.region ?_
              refine WL.x (X.assign rfl) (by decide) ?_
              refine WL.nil ?_
              refine WK.nThen ?_
              refine WC.ret ?_
              refine WK.rThen ?_
              refine WK.ret1 rfl rfl (fun w' hw' => Ret.exact hw' ?_)
              first | rfl | (exfalso; omega) | (exfalso; contradiction) | exact (bool_true hte2).symm | exact (bool_true (by first | omega | assumption)).symm
            refine DW.x rfl rfl (X.pickF rfl rfl rfl) (by decide) ?_
            refine DW.nil ?_
            refine WK.nThen ?_
            refine WC.condF rfl ?_
            refine WC.skip ?_
            refine WK.nThen ?_
            refine WC.seq ?_
            have hte2 : (latR c.D c.M).1 = backL (earR (turnC c).D (turnC c).M).1 := hte.2.1
            have hte3 : ∀ i, i < (earR (turnC c).D (turnC c).M).1.length → 0 ≤ gt (earR (turnC c).D (turnC c).M).1 i ∧ gt (earR (turnC c).D (turnC c).M).1 i ≤ 400 := hte.2.2.1
            have hte4 : (earR (turnC c).D (turnC c).M).1.length ≤ 1000 := hte.2.2.2
            refine WC.region ?_
            refine WL.x (X.move rfl) (by decide) ?_
            refine WL.x (X.move rfl) (by decide) ?_
            refine WL.yes rfl rfl ?_
            refine WL.x (X.move rfl) (by decide) ?_
            refine WL.yes rfl rfl ?_
            refine WL.x (X.move rfl) (by decide) ?_
            refine WL.yes rfl rfl ?_
            refine WL.tm (T.call Try.call49 rfl (back49 _ _ _ hs61 (by first | omega | assumption) (by first | omega | assumption))) (by decide) fun m73 r74 hle75 hR76 => ?_
            obtain ⟨v77, hv_, hs78⟩ := hR76
            rw [← hv_] at hs78
            clear hv_ v77
            replace hs2 := hs2.mono hle75
            replace hs4 := hs4.mono hle75
            replace hs6 := hs6.mono hle75
            replace hs11 := hs11.mono hle75
            replace hs13 := hs13.mono hle75
            replace hs15 := hs15.mono hle75
            replace hs40 := hs40.mono hle75
            replace hs42 := hs42.mono hle75
            replace hs44 := hs44.mono hle75
            replace hs54 := hs54.mono hle75
            replace hs61 := hs61.mono hle75
            replace hs69 := hs69.mono hle75
            have hl79 := hs78.le
            refine WL.yes rfl rfl ?_
            refine WL.x (X.call Try.call50 rfl (sameInts50 _ _ _ hs54 _ _ hs78 )) (by decide) ?_
            refine WL.x (X.pickT rfl rfl rfl) (by decide) ?_
            refine WL.x (X.assign rfl) (by decide) ?_
            refine WL.nil ?_
            refine WK.nThen ?_
            refine WC.ret ?_
            refine WK.ret1 rfl rfl (fun w' hw' => Ret.exact hw' ?_)
            first | rfl | (exfalso; omega) | (exfalso; contradiction) | exact (bool_true hte2).symm | exact (bool_true (by first | omega | assumption)).symm
          refine DW.x rfl rfl (OpX.t (X.neqB Try.underlying4 rfl rfl) (by decide)) (by decide) ?_
          refine DW.x rfl rfl (X.move rfl) (by decide) ?_
          refine DW.no rfl rfl (by decide) ?_
          refine DW.no rfl rfl (by decide) ?_
          refine DW.no rfl rfl (by decide) ?_
          refine DW.x rfl rfl (X.pickT rfl rfl rfl) (by decide) ?_
          refine DW.nil ?_
          refine WK.nThen ?_
          refine WC.condT rfl ?_
          refine WC.seq ?_
          refine WC.region ?_
          refine WL.x (X.assign rfl) (by decide) ?_
          refine WL.nil ?_
          refine WK.nThen ?_
          refine WC.ret ?_
          refine WK.rThen ?_
          refine WK.ret1 rfl rfl (fun w' hw' => Ret.exact hw' ?_)
          first | rfl | (exfalso; omega) | (exfalso; contradiction) | exact (bool_true hte2).symm | exact (bool_true (by first | omega | assumption)).symm
        refine DW.x rfl rfl (X.loadBA (k := 0) Try.isAgg28 Try.sizeOf28 rfl rfl rfl) (by decide) ?_
        refine DW.x rfl rfl (X.field Try.runUnderlying36 rfl Try.sizeOf29 rfl) (by decide) ?_
        refine DW.x rfl rfl (X.loadB (k := 1) Try.isAgg29 rfl rfl rfl) (by decide) ?_
        refine DW.tm rfl rfl rfl (T.call Try.call49 rfl (back49 _ _ _ hs11 (by first | omega | assumption) (by first | omega | assumption))) (by decide) fun m80 r81 hle82 hR83 => ?_
        obtain ⟨v84, hv_, hs85⟩ := hR83
        rw [← hv_] at hs85
        clear hv_ v84
        replace hs2 := hs2.mono hle82
        replace hs4 := hs4.mono hle82
        replace hs6 := hs6.mono hle82
        replace hs11 := hs11.mono hle82
        replace hs13 := hs13.mono hle82
        replace hs15 := hs15.mono hle82
        replace hs40 := hs40.mono hle82
        replace hs42 := hs42.mono hle82
        replace hs44 := hs44.mono hle82
        replace hs54 := hs54.mono hle82
        replace hs61 := hs61.mono hle82
        have hl86 := hs85.le
        refine DW.cond rfl rfl (X.call Try.call48 rfl (is48 _ _ (turnC c) ⟨_, _, _, rfl, hs40, hs42, hs44⟩ _ _ hs85 )) (by decide) (fun h87 => ?_) (fun h87 => ?_)
        · refine DW.x rfl rfl (OpX.t (X.neqB Try.underlying4 rfl rfl) (by decide)) (by decide) ?_
          refine DW.x rfl rfl (X.move rfl) (by decide) ?_
          refine DW.no rfl rfl (by decide) ?_
          refine DW.no rfl rfl (by decide) ?_
          refine DW.no rfl rfl (by decide) ?_
          refine DW.x rfl rfl (X.pickT rfl rfl rfl) (by decide) ?_
          refine DW.nil ?_
          refine WK.nThen ?_
          refine WC.condT rfl ?_
          refine WC.seq ?_
          refine WC.region ?_
          refine WL.x (X.assign rfl) (by decide) ?_
          refine WL.nil ?_
          refine WK.nThen ?_
          refine WC.ret ?_
          refine WK.rThen ?_
          refine WK.ret1 rfl rfl (fun w' hw' => Ret.exact hw' ?_)
          first | rfl | (exfalso; omega) | (exfalso; contradiction) | exact (bool_true hte2).symm | exact (bool_true (by first | omega | assumption)).symm
        refine DW.x rfl rfl (OpX.f (X.neqB Try.underlying4 rfl rfl) (fun h => h rfl)) (by decide) ?_
        refine DW.x rfl rfl (X.move rfl) (by decide) ?_
        refine DW.x rfl rfl (X.move rfl) (by decide) ?_
        refine DW.x rfl rfl (X.move rfl) (by decide) ?_
        refine DW.condn rfl rfl (X.neq rfl rfl) (by decide) (fun h88 => ?_) (fun h88 => ?_)
        · refine DW.x rfl rfl (X.pickF rfl rfl rfl) (by decide) ?_
          refine DW.nil ?_
          refine WK.nThen ?_
          refine WC.condT rfl ?_
          refine WC.seq ?_
          refine WC.region ?_
          refine WL.x (X.assign rfl) (by decide) ?_
          refine WL.nil ?_
          refine WK.nThen ?_
          refine WC.ret ?_
          refine WK.rThen ?_
          refine WK.ret1 rfl rfl (fun w' hw' => Ret.exact hw' ?_)
          first | rfl | (exfalso; omega) | (exfalso; contradiction) | exact (bool_true hte2).symm | exact (bool_true (by first | omega | assumption)).symm
        refine DW.x rfl rfl (X.pickF rfl rfl rfl) (by decide) ?_
        refine DW.nil ?_
        refine WK.nThen ?_
        refine WC.condF rfl ?_
        refine WC.skip ?_
        refine WK.nThen ?_
        refine WC.seq ?_
        have hte2 : (latR c.D c.M).1 = backL (earR (turnC c).D (turnC c).M).1 := hte.2.1
        have hte3 : ∀ i, i < (earR (turnC c).D (turnC c).M).1.length → 0 ≤ gt (earR (turnC c).D (turnC c).M).1 i ∧ gt (earR (turnC c).D (turnC c).M).1 i ≤ 400 := hte.2.2.1
        have hte4 : (earR (turnC c).D (turnC c).M).1.length ≤ 1000 := hte.2.2.2
        refine WC.region ?_
        refine WL.x (X.move rfl) (by decide) ?_
        refine WL.x (X.move rfl) (by decide) ?_
        refine WL.yes rfl rfl ?_
        refine WL.x (X.move rfl) (by decide) ?_
        refine WL.yes rfl rfl ?_
        refine WL.x (X.move rfl) (by decide) ?_
        refine WL.yes rfl rfl ?_
        refine WL.tm (T.call Try.call49 rfl (back49 _ _ _ hs61 (by first | omega | assumption) (by first | omega | assumption))) (by decide) fun m89 r90 hle91 hR92 => ?_
        obtain ⟨v93, hv_, hs94⟩ := hR92
        rw [← hv_] at hs94
        clear hv_ v93
        replace hs2 := hs2.mono hle91
        replace hs4 := hs4.mono hle91
        replace hs6 := hs6.mono hle91
        replace hs11 := hs11.mono hle91
        replace hs13 := hs13.mono hle91
        replace hs15 := hs15.mono hle91
        replace hs40 := hs40.mono hle91
        replace hs42 := hs42.mono hle91
        replace hs44 := hs44.mono hle91
        replace hs54 := hs54.mono hle91
        replace hs61 := hs61.mono hle91
        replace hs85 := hs85.mono hle91
        have hl95 := hs94.le
        refine WL.yes rfl rfl ?_
        refine WL.x (X.call Try.call50 rfl (sameInts50 _ _ _ hs54 _ _ hs94 )) (by decide) ?_
        refine WL.x (X.pickT rfl rfl rfl) (by decide) ?_
        refine WL.x (X.assign rfl) (by decide) ?_
        refine WL.nil ?_
        refine WK.nThen ?_
        refine WC.ret ?_
        refine WK.ret1 rfl rfl (fun w' hw' => Ret.exact hw' ?_)
        first | rfl | (exfalso; omega) | (exfalso; contradiction) | exact (bool_true hte2).symm | exact (bool_true (by first | omega | assumption)).symm
    refine WL.yes rfl rfl ?_
    refine WL.x (X.not rfl) (by decide) ?_
    refine WL.x (X.pickF rfl rfl rfl) (by decide) ?_
    refine WL.x (X.move rfl) (by decide) ?_
    refine WL.no rfl rfl rfl (by decide) ?_
    refine WL.no rfl rfl rfl (by decide) ?_
    refine WL.no rfl rfl rfl (by decide) ?_
    refine WL.no rfl rfl rfl (by decide) ?_
    refine WL.x (X.pickT rfl rfl rfl) (by decide) ?_
    refine WL.nil ?_
    refine WK.nThen ?_
    refine WC.condT rfl ?_
    refine WC.seq ?_
    refine WC.region ?_
    refine WL.x (X.move rfl) (by decide) ?_
    refine WL.x (X.assign rfl) (by decide) ?_
    refine WL.nil ?_
    refine WK.nThen ?_
    refine WC.ret ?_
    refine WK.rThen ?_
    refine WK.ret1 rfl rfl (fun w' hw' => Ret.exact hw' ?_)
    first | rfl | (exfalso; omega) | (exfalso; contradiction) | exact (bool_true hte2).symm | exact (bool_true (by first | omega | assumption)).symm
  refine WL.x (X.not rfl) (by decide) ?_
  refine WL.x (X.move rfl) (by decide) ?_
  refine WL.no rfl rfl rfl (by decide) ?_
  refine WL.no rfl rfl rfl (by decide) ?_
  refine WL.no rfl rfl rfl (by decide) ?_
  refine WL.x (X.pickT rfl rfl rfl) (by decide) ?_
  refine WL.x (X.move rfl) (by decide) ?_
  refine WL.no rfl rfl rfl (by decide) ?_
  refine WL.no rfl rfl rfl (by decide) ?_
  refine WL.no rfl rfl rfl (by decide) ?_
  refine WL.no rfl rfl rfl (by decide) ?_
  refine WL.x (X.pickT rfl rfl rfl) (by decide) ?_
  refine WL.nil ?_
  refine WK.nThen ?_
  refine WC.condT rfl ?_
  refine WC.seq ?_
  refine WC.region ?_
  refine WL.x (X.move rfl) (by decide) ?_
  refine WL.x (X.assign rfl) (by decide) ?_
  refine WL.nil ?_
  refine WK.nThen ?_
  refine WC.ret ?_
  refine WK.rThen ?_
  refine WK.ret1 rfl rfl (fun w' hw' => Ret.exact hw' ?_)
  first | rfl | (exfalso; omega) | (exfalso; contradiction) | exact (bool_true hte2).symm | exact (bool_true (by first | omega | assumption)).symm
end Go.Proofs.C2
