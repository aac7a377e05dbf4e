/- The walk of the statement ClocksRuns: its function answers true. -/
import Derived.Test.YtmnipmbgdbdjeaaC2Br
import Derived.Test.YtmnipmbgdbdjeaaC2W10
import Derived.Test.YtmnipmbgdbdjeaaC2LI
namespace Go.Proofs.C2
open Go Go.Kx
set_option linter.unusedSimpArgs false
set_option linter.unusedVariables false
set_option maxRecDepth 20000 in
set_option maxHeartbeats 4000000 in
theorem law7 (m : Mem) (cc : List Value) (c : Clk) (hc : Enc.rd m cc c) (cx : List Value) (x : Ask) (hx : Enc.rd m cx x)  (ok0 : Rng.ok c) (ok1 : Rng.ok x) : Exact Try.prog 7 #[.agg cc.toArray, .agg cx.toArray] m (.bool true) := by
  obtain ⟨v1, v3, v5, rfl, hs2, hs4, hs6⟩ := hc
  have hl7 := hs2.le
  have hl8 := hs4.le
  have hl9 := hs6.le
  obtain ⟨v10, v12, v14, rfl, hs11, hs13, hs15⟩ := hx
  have hl16 := hs11.le
  have hl17 := hs13.le
  have hl18 := hs15.le
  refine Exact.start Try.func7 rfl Try.ntmps7 rfl fun wld => ?_
  refine WC.seq ?_
  refine WC.region ?_
  refine WL.tn (T.boxB rfl rfl) (by decide) fun b19 => ?_
  refine WL.tn (T.boxB rfl rfl) (by decide) fun b20 => ?_
  refine WL.x (X.assign rfl) (by decide) ?_
  refine WL.nil ?_
  refine WK.nThen ?_
  refine WC.seq ?_
  refine WC.region ?_
  refine WL.x (X.call Try.call19 rfl (awake19 _  )) (by decide) ?_
  refine WL.x (X.assign rfl) (by decide) ?_
  refine WL.nil ?_
  refine WK.nThen ?_
  refine WC.seq ?_
  refine WC.seq ?_
  refine WC.region ?_
  refine WL.x (X.loadBA (k := 1) Try.isAgg28 Try.sizeOf28 rfl rfl rfl) (by decide) ?_
  refine WL.cond (X.call Try.call20 rfl (few20 _ _ c ⟨_, _, _, rfl, hs2, hs4, hs6⟩ )) (by decide) (fun h21 => ?_) (fun h21 => ?_)
  · refine WL.x (X.not rfl) (by decide) ?_
    refine WL.x (X.move rfl) (by decide) ?_
    refine WL.yes rfl rfl ?_
    refine WL.x (X.field Try.runUnderlying28 rfl Try.sizeOf26 rfl) (by decide) ?_
    refine WL.yes rfl rfl ?_
    refine WL.x (X.loadB (k := 1) Try.isAgg26 rfl rfl rfl) (by decide) ?_
    refine WL.yes rfl rfl ?_
    refine WL.x (X.len Try.runUnderlying26 rfl hs6) (by decide) ?_
    refine WL.yes rfl rfl ?_
    refine WL.cond (X.gtr rfl rfl) (by decide) (fun h22 => ?_) (fun h22 => ?_)
    · refine WL.x (X.pickF rfl rfl rfl) (by decide) ?_
      refine WL.nil ?_
      refine WK.nThen ?_
      refine WC.condT rfl ?_
      refine WC.seq ?_
      refine WC.region ?_
      refine WL.x (X.move rfl) (by decide) ?_
      refine WL.x (X.assign rfl) (by decide) ?_
      refine WL.nil ?_
      refine WK.nThen ?_
      refine WC.ret ?_
      refine WK.rThen ?_
      refine WK.ret1 rfl rfl (fun w' hw' => Ret.exact hw' ?_)
      first | rfl | (exfalso; omega) | (exfalso; contradiction) | exact (bool_true (by obtain rfl : k = 401 := (by omega); exact hre)).symm | exact (bool_true (by first | omega | assumption)).symm
    · refine WL.x (X.pickF rfl rfl rfl) (by decide) ?_
      refine WL.nil ?_
      refine WK.nThen ?_
      refine WC.condF rfl ?_
      refine WC.skip ?_
      refine WK.nThen ?_
      refine WC.seq ?_
      refine WC.region ?_
      refine WL.x (X.field Try.runUnderlying28 rfl Try.sizeOf25 rfl) (by decide) ?_
      refine WL.x (X.loadBP (k := 1) (vs := [v1, v3]) Try.isAgg25 Try.sizeOf25 rfl rfl rfl rfl) (by decide) ?_
      refine WL.x (X.field Try.runUnderlying28 rfl Try.sizeOf26 rfl) (by decide) ?_
      refine WL.x (X.loadB (k := 1) Try.isAgg26 rfl rfl rfl) (by decide) ?_
      refine WL.x (X.field Try.runUnderlying36 rfl Try.sizeOf3 rfl) (by decide) ?_
      refine WL.x (X.loadB (k := 0) Try.isAgg3 rfl rfl rfl) (by decide) ?_
      refine WL.x (X.call Try.call37 rfl (span37 _ _ c.D ⟨_, _, rfl, hs2, hs4⟩ _ _ hs6 _ )) (by decide) ?_
      refine WL.x (X.move rfl) (by decide) ?_
      refine WL.x (X.extract rfl rfl) (by decide) ?_
      refine WL.x (X.extract rfl rfl) (by decide) ?_
      refine WL.tn (T.alloc Try.zeroValue31 rfl) (by decide) fun b23 => ?_
      refine WL.ts (T.storeBA (k := 0) Try.sizeOf31 rfl rfl rfl (one_cons rfl (one_cons rfl one_nil)) rfl rfl) ?_
      refine WL.x (X.assign rfl) (by decide) ?_
      refine WL.nil ?_
      refine WK.nThen ?_
      refine WC.seq ?_
      refine WC.region ?_
      refine WL.x (X.field Try.runUnderlying28 rfl Try.sizeOf25 rfl) (by decide) ?_
      refine WL.x (X.loadBP (k := 2) (vs := [v1, v3]) Try.isAgg25 Try.sizeOf25 rfl rfl rfl rfl) (by decide) ?_
      refine WL.x (X.field Try.runUnderlying28 rfl Try.sizeOf26 rfl) (by decide) ?_
      refine WL.x (X.loadB (k := 2) Try.isAgg26 rfl rfl rfl) (by decide) ?_
      refine WL.x (X.call Try.call37 rfl (span37 _ _ c.D ⟨_, _, rfl, hs2, hs4⟩ _ _ hs6 _ )) (by decide) ?_
      refine WL.x (X.move rfl) (by decide) ?_
      refine WL.x (X.extract rfl rfl) (by decide) ?_
      refine WL.x (X.extract rfl rfl) (by decide) ?_
      refine WL.tn (T.alloc Try.zeroValue31 rfl) (by decide) fun b24 => ?_
      refine WL.ts (T.storeBA (k := 0) Try.sizeOf31 rfl rfl rfl (one_cons rfl (one_cons rfl one_nil)) rfl rfl) ?_
      refine WL.x (X.assign rfl) (by decide) ?_
      refine WL.nil ?_
      refine WK.nThen ?_
      refine WC.seq ?_
      refine WC.seq ?_
      refine WC.region ?_
      refine WL.x (X.move rfl) (by decide) ?_
      refine WL.condn (X.neq rfl rfl) (by decide) (fun h25 => ?_) (fun h25 => ?_)
      · refine WL.x (X.move rfl) (by decide) ?_
        refine WL.no rfl rfl rfl (by decide) ?_
        refine WL.no rfl rfl rfl (by decide) ?_
        refine WL.x (X.pickT rfl rfl rfl) (by decide) ?_
        refine WL.nil ?_
        refine WK.nThen ?_
        refine WC.condT rfl ?_
        refine WC.seq ?_
        refine WC.region ?_
        refine WL.x (X.move rfl) (by decide) ?_
        refine WL.x (X.assign rfl) (by decide) ?_
        refine WL.nil ?_
        refine WK.nThen ?_
        refine WC.ret ?_
        refine WK.rThen ?_
        refine WK.ret1 rfl rfl (fun w' hw' => Ret.exact hw' ?_)
        first | rfl | (exfalso; omega) | (exfalso; contradiction) | exact (bool_true (by obtain rfl : k = 401 := (by omega); exact hre)).symm | exact (bool_true (by first | omega | assumption)).symm
      · refine WL.x (X.move rfl) (by decide) ?_
        refine WL.yes rfl rfl ?_
        refine WL.x (X.move rfl) (by decide) ?_
        refine WL.yes rfl rfl ?_
        refine WL.condn (X.neq rfl rfl) (by decide) (fun h26 => ?_) (fun h26 => ?_)
        · refine WL.x (X.pickF rfl rfl rfl) (by decide) ?_
          refine WL.nil ?_
          refine WK.nThen ?_
          refine WC.condT rfl ?_
          refine WC.seq ?_
          refine WC.region ?_
          refine WL.x (X.move rfl) (by decide) ?_
          refine WL.x (X.assign rfl) (by decide) ?_
          refine WL.nil ?_
          refine WK.nThen ?_
          refine WC.ret ?_
          refine WK.rThen ?_
          refine WK.ret1 rfl rfl (fun w' hw' => Ret.exact hw' ?_)
          first | rfl | (exfalso; omega) | (exfalso; contradiction) | exact (bool_true (by obtain rfl : k = 401 := (by omega); exact hre)).symm | exact (bool_true (by first | omega | assumption)).symm
        · refine WL.x (X.pickF rfl rfl rfl) (by decide) ?_
          refine WL.nil ?_
          refine WK.nThen ?_
          refine WC.condF rfl ?_
          refine WC.skip ?_
          refine WK.nThen ?_
          refine WC.seq ?_
          have hsa := span_iff.1 (show (spanR c.D c.M x.A).2 = 0 by omega)
          have hs0 : (spanR c.D c.M 0).2 = 0 := (by omega)
          have hdn := hsa.1.dr.1.1.2
          refine WC.region ?_
          refine WL.x (V := Value.agg [.int .i64 (401), .int .i64 (-1)].toArray) (X.build Try.zeroValue31 Try.runUnderlying31 (places31 _ Try.underlying31) rfl rfl) (by decide) ?_
          refine WL.tn (T.alloc Try.zeroValue31 rfl) (by decide) fun b27 => ?_
          refine WL.ts (T.storeBA (k := 0) Try.sizeOf31 rfl rfl rfl (one_cons rfl (one_cons rfl one_nil)) rfl rfl) ?_
          refine WL.nil ?_
          refine WK.nThen ?_
          refine WC.seq ?_
          refine WC.seq ?_
          refine WC.region ?_
          refine WL.x (X.assign rfl) (by decide) ?_
          refine WL.nil ?_
          refine WK.nThen ?_
          refine WC.block ?_
          refine WC.loop (G := Nat × Mem) (fun (k, mm) => 401 - k) (fun (k, mm) => mm) (fun (k, mm) => [blk b27 31 [.int .i64 ((runN c.D c.M x.A.toNat k).Lo), .int .i64 ((runN c.D c.M x.A.toNat k).Hi)], blk b24 31 [.int .i64 ((spanR c.D c.M 0).1.Lo), .int .i64 ((spanR c.D c.M 0).1.Hi)], blk b23 31 [.int .i64 ((spanR c.D c.M x.A).1.Lo), .int .i64 ((spanR c.D c.M x.A).1.Hi)], blk b20 36 [.int .i64 (x.A), .int .i64 (x.B), .int .i64 (x.Tick), v10, v12, v14, .int .i64 (x.First.Column), .int .i64 (x.First.Ticks.Lo), .int .i64 (x.First.Ticks.Hi), .int .i64 (x.Second.Column), .int .i64 (x.Second.Ticks.Lo), .int .i64 (x.Second.Ticks.Hi), .int .i64 (x.Stop.Column), .int .i64 (x.Stop.Ticks.Lo), .int .i64 (x.Stop.Ticks.Hi)], blk b19 28 [v1, v3, v5]]) (fun (k, mm) => [(2, .pointer (some ⟨b19, 0, none⟩)), (3, .pointer (some ⟨b20, 0, none⟩)), (5, .bool true), (6, .pointer (some ⟨b23, 0, none⟩)), (8, .pointer (some ⟨b24, 0, none⟩)), (10, .pointer (some ⟨b27, 0, none⟩)), (11, .int .i64 (↑k))]) (fun (k, mm) => m.le mm ∧ k ≤ 401) ((0, m)) rfl (.refl _) (.cons rfl (.cons rfl (.cons rfl (.cons rfl (.cons rfl (.cons rfl (.cons rfl .nil))))))) ?_ ?_
          · exact ⟨Mem.le_refl _, Nat.zero_le _⟩
          · rintro ⟨k, mm⟩ hF28
            show WK _ _ mm [blk b27 31 [.int .i64 ((runN c.D c.M x.A.toNat k).Lo), .int .i64 ((runN c.D c.M x.A.toNat k).Hi)], blk b24 31 [.int .i64 ((spanR c.D c.M 0).1.Lo), .int .i64 ((spanR c.D c.M 0).1.Hi)], blk b23 31 [.int .i64 ((spanR c.D c.M x.A).1.Lo), .int .i64 ((spanR c.D c.M x.A).1.Hi)], blk b20 36 [.int .i64 (x.A), .int .i64 (x.B), .int .i64 (x.Tick), v10, v12, v14, .int .i64 (x.First.Column), .int .i64 (x.First.Ticks.Lo), .int .i64 (x.First.Ticks.Hi), .int .i64 (x.Second.Column), .int .i64 (x.Second.Ticks.Lo), .int .i64 (x.Second.Ticks.Hi), .int .i64 (x.Stop.Column), .int .i64 (x.Stop.Ticks.Lo), .int .i64 (x.Stop.Ticks.Hi)], blk b19 28 [v1, v3, v5]] [(2, .pointer (some ⟨b19, 0, none⟩)), (3, .pointer (some ⟨b20, 0, none⟩)), (5, .bool true), (6, .pointer (some ⟨b23, 0, none⟩)), (8, .pointer (some ⟨b24, 0, none⟩)), (10, .pointer (some ⟨b27, 0, none⟩)), (11, .int .i64 (↑k))] _
            replace hF28 : m.le mm ∧ k ≤ 401 := hF28
            obtain ⟨hmm, hk⟩ := hF28
            replace hs2 := hs2.mono hmm
            replace hs4 := hs4.mono hmm
            replace hs6 := hs6.mono hmm
            replace hs11 := hs11.mono hmm
            replace hs13 := hs13.mono hmm
            replace hs15 := hs15.mono hmm
            refine WC.seq ?_
            refine WC.seq ?_
            refine WC.region ?_
            refine WL.x (X.move rfl) (by decide) ?_
            refine WL.cond (X.leq rfl rfl) (by decide) (fun h29 => ?_) (fun h29 => ?_)
            · refine WL.nil ?_
              refine WK.nThen ?_
              refine WC.condT rfl ?_
              refine WC.skip ?_
              refine WK.nThen ?_
              refine WC.seq ?_
              refine WC.block ?_
              refine WC.seq ?_
              have hro := run_ok hs0 (t := k) (by omega)
              have hro1 := hro.1.1
              have hro2 := hro.1.2
              have hrn1 : (runR c.D c.M ↑k).2 = 0 → ∀ a : Int, _ := fun h_ => (hro.2.1 h_).2
              have hrn2 : (runR c.D c.M ↑k).2 ≠ 0 → _ := hro.2.2
              have hrl : (runR c.D c.M ↑k).2 = 0 → ((runR c.D c.M ↑k).1.length = c.D.Rates.length + 1 ∧ gt (runR c.D c.M ↑k).1 0 = ⟨↑k, ↑k⟩) := fun h_ => (hro.2.1 h_).1
              refine WC.region ?_
              refine WL.x (X.field Try.runUnderlying28 rfl Try.sizeOf25 rfl) (by decide) ?_
              refine WL.x (X.loadBP (k := 4) (vs := [v1, v3]) Try.isAgg25 Try.sizeOf25 rfl rfl rfl rfl) (by decide) ?_
              refine WL.x (X.field Try.runUnderlying28 rfl Try.sizeOf26 rfl) (by decide) ?_
              refine WL.x (X.loadB (k := 4) Try.isAgg26 rfl rfl rfl) (by decide) ?_
              refine WL.x (X.move rfl) (by decide) ?_
              refine WL.tm (T.call Try.call25 rfl (run25 _ _ c.D ⟨_, _, rfl, hs2, hs4⟩ _ _ hs6 _ )) (by decide) fun m30 r31 hle32 hR33 => ?_
              obtain ⟨v34, rfl, hs35⟩ := hR33
              replace hs2 := hs2.mono hle32
              replace hs4 := hs4.mono hle32
              replace hs6 := hs6.mono hle32
              replace hs11 := hs11.mono hle32
              replace hs13 := hs13.mono hle32
              replace hs15 := hs15.mono hle32
              have hl36 := hs35.le
              refine WL.x (X.move rfl) (by decide) ?_
              refine WL.x (X.extract rfl rfl) (by decide) ?_
              refine WL.x (X.extract rfl rfl) (by decide) ?_
              refine WL.x (X.assign rfl) (by decide) ?_
              refine WL.x (X.assign rfl) (by decide) ?_
              refine WL.nil ?_
              refine WK.nThen ?_
              refine WC.seq ?_
              refine WC.seq ?_
              refine WC.region ?_
              refine WL.x (X.move rfl) (by decide) ?_
              refine WL.cond (X.eql rfl rfl) (by decide) (fun h37 => ?_) (fun h37 => ?_)
              · refine WL.x (X.field Try.runUnderlying31 rfl Try.sizeOf3 rfl) (by decide) ?_
                refine WL.x (X.loadB (k := 1) Try.isAgg3 rfl rfl rfl) (by decide) ?_
                refine WL.x (X.move rfl) (by decide) ?_
                refine WL.cond (X.leq rfl rfl) (by decide) (fun h38 => ?_) (fun h38 => ?_)
                · refine WL.x (X.move rfl) (by decide) ?_
                  refine WL.yes rfl rfl ?_
                  refine WL.x (X.move rfl) (by decide) ?_
                  refine WL.yes rfl rfl ?_
                  refine WL.x (X.field Try.runUnderlying31 rfl Try.sizeOf3 rfl) (by decide) ?_
                  refine WL.yes rfl rfl ?_
                  refine WL.x (X.loadB (k := 1) Try.isAgg3 rfl rfl rfl) (by decide) ?_
                  refine WL.yes rfl rfl ?_
                  refine WL.cond (X.leq rfl rfl) (by decide) (fun h39 => ?_) (fun h39 => ?_)
                  · refine WL.x (X.pickT rfl rfl rfl) (by decide) ?_
                    refine WL.x (OpX.f (X.neqB Try.underlying4 rfl rfl) (fun h => h rfl)) (by decide) ?_
                    refine WL.x (X.move rfl) (by decide) ?_
                    refine WL.yes rfl rfl ?_
                    refine WL.x (X.move rfl) (by decide) ?_
                    refine WL.yes rfl rfl ?_
                    refine WL.condn (X.neq rfl rfl) (by decide) (fun h40 => ?_) (fun h40 => ?_)
                    · refine WL.yes rfl rfl ?_
                      refine WL.x (X.move rfl) (by decide) ?_
                      refine WL.yes rfl rfl ?_
                      refine WL.x (X.move rfl) (by decide) ?_
                      refine WL.yes rfl rfl ?_
                      refine WL.condn (X.neq rfl rfl) (by decide) (fun h41 => ?_) (fun h41 => ?_)
                      · refine WL.yes rfl rfl ?_
                        refine WL.x (X.pickT rfl rfl rfl) (by decide) ?_
                        refine WL.x (X.pickF rfl rfl rfl) (by decide) ?_
                        refine WL.nil ?_
                        refine WK.nThen ?_
                        refine WC.condT rfl ?_
                        refine WC.seq ?_
                        refine WC.region ?_
                        refine WL.x (X.assign rfl) (by decide) ?_
                        refine WL.nil ?_
                        refine WK.nThen ?_
                        refine WC.ret ?_
                        refine WK.rThen ?_
                        refine WK.rBlock ?_
                        refine WK.rThen ?_
                        refine WK.rThen ?_
                        refine WK.rBlock ?_
                        refine WK.rThen ?_
                        refine WK.ret1 rfl rfl (fun w' hw' => Ret.exact hw' ?_)
                        first | rfl | (exfalso; omega) | (exfalso; contradiction) | exact (bool_true (by obtain rfl : k = 401 := (by omega); exact hre)).symm | exact (bool_true (by first | omega | assumption)).symm
                      · refine WL.yes rfl rfl ?_
                        refine WL.x (X.pickT rfl rfl rfl) (by decide) ?_
                        refine WL.x (X.pickF rfl rfl rfl) (by decide) ?_
                        refine WL.nil ?_
                        refine WK.nThen ?_
                        refine WC.condF rfl ?_
                        refine WC.skip ?_
                        refine WK.nThen ?_
                        refine WC.seq ?_
                        refine WC.seq ?_
                        refine WC.region ?_
                        refine WL.x (X.move rfl) (by decide) ?_
                        refine WL.condn (X.neq rfl rfl) (by decide) (fun h42 => ?_) (fun h42 => ?_)
                        · refine WL.nil ?_
                          refine WK.nThen ?_
                          refine WC.condT rfl ?_
                          refine WC.exit ?_
                          refine WK.eThen ?_
                          refine WK.eHit ?_
                          refine WK.nThen ?_
                          refine WC.region ?_
                          refine WL.x (X.move rfl) (by decide) ?_
                          refine WL.x (X.add rfl rfl (by omega) (by omega)) (by decide) ?_
                          refine WL.x (X.assign rfl) (by decide) ?_
                          refine WL.nil ?_
                          refine WK.nThen ?_
                          have he43 : (runN c.D c.M x.A.toNat k).Lo = (runN c.D c.M x.A.toNat (k + 1)).Lo := (by first | (rw [hrn1 (by omega) x.A]; done) | (rw [hrn2 (by omega) x.A]; done) | (rw [hrn1 (by omega) x.A]; rfl) | (rw [hrn2 (by omega) x.A]; rfl))
                          rw [he43]
                          have he44 : (runN c.D c.M x.A.toNat k).Hi = (runN c.D c.M x.A.toNat (k + 1)).Hi := (by first | (rw [hrn1 (by omega) x.A]; done) | (rw [hrn2 (by omega) x.A]; done) | (rw [hrn1 (by omega) x.A]; rfl) | (rw [hrn2 (by omega) x.A]; rfl))
                          rw [he44]
                          refine WK.next ((k + 1, m30)) rfl (.refl _) (.cons rfl (.cons rfl (.cons rfl (.cons rfl (.cons rfl (.cons rfl (.cons rfl .nil))))))) ?_ ?_
                          · exact ⟨Mem.le_trans hmm hle32, by omega⟩
                          · (dsimp only; omega)
                        · refine WL.nil ?_
                          refine WK.nThen ?_
                          refine WC.condF rfl ?_
                          refine WC.skip ?_
                          refine WK.nThen ?_
                          refine WC.seq ?_
                          refine WC.seq ?_
                          have hrl1 := (hrl (by omega)).1
                          have hrl2 := (hrl (by omega)).2
                          refine WC.region ?_
                          refine WL.x (X.move rfl) (by decide) ?_
                          refine WL.x (X.len Try.runUnderlying22 rfl hs35) (by decide) ?_
                          refine WL.x (X.field Try.runUnderlying28 rfl Try.sizeOf25 rfl) (by decide) ?_
                          refine WL.x (X.field Try.runUnderlying25 rfl Try.sizeOf22 rfl) (by decide) ?_
                          refine WL.x (X.loadB (k := 4) Try.isAgg22 rfl rfl rfl) (by decide) ?_
                          refine WL.x (X.len Try.runUnderlying22 rfl hs2) (by decide) ?_
                          refine WL.x (X.add rfl rfl (by omega) (by omega)) (by decide) ?_
                          refine WL.condn (X.neq rfl rfl) (by decide) (fun h45 => ?_) (fun h45 => ?_)
                          · refine WL.x (X.move rfl) (by decide) ?_
                            refine WL.no rfl rfl rfl (by decide) ?_
                            refine WL.no rfl rfl rfl (by decide) ?_
                            refine WL.no rfl rfl rfl (by decide) ?_
                            refine WL.no rfl rfl rfl (by decide) ?_
                            refine WL.no rfl rfl rfl (by decide) ?_
                            refine WL.no rfl rfl rfl (by decide) ?_
                            refine WL.no rfl rfl rfl (by decide) ?_
                            refine WL.x (X.pickT rfl rfl rfl) (by decide) ?_
                            refine WL.nil ?_
                            refine WK.nThen ?_
                            refine WC.condT rfl ?_
                            refine WC.seq ?_
                            refine WC.region ?_
                            refine WL.x (X.assign rfl) (by decide) ?_
                            refine WL.nil ?_
                            refine WK.nThen ?_
                            refine WC.ret ?_
                            refine WK.rThen ?_
                            refine WK.rBlock ?_
                            refine WK.rThen ?_
                            refine WK.rThen ?_
                            refine WK.rBlock ?_
                            refine WK.rThen ?_
                            refine WK.ret1 rfl rfl (fun w' hw' => Ret.exact hw' ?_)
                            first | rfl | (exfalso; omega) | (exfalso; contradiction) | exact (bool_true (by obtain rfl : k = 401 := (by omega); exact hre)).symm | exact (bool_true (by first | omega | assumption)).symm
                          · refine WL.x (X.move rfl) (by decide) ?_
                            refine WL.yes rfl rfl ?_
                            refine WL.x (X.move rfl) (by decide) ?_
                            refine WL.yes rfl rfl ?_
                            refine WL.xe (E.idxN 0 Try.runUnderlying22 Try.sizeOf31 rfl rfl hs35 (by omega)) (by decide) (fun p46 hp47 => ?_)
                            refine WL.yes rfl rfl ?_
                            refine WL.xe (E.loadAgg Try.isAgg31 Try.sizeOf31 rfl hp47) (by decide) (fun c48 hc49 => ?_)
                            obtain rfl := hc49
                            refine WL.yes rfl rfl ?_
                            refine WL.x (X.move rfl) (by decide) ?_
                            refine WL.yes rfl rfl ?_
                            refine WL.x (X.move rfl) (by decide) ?_
                            refine WL.yes rfl rfl ?_
                            refine WL.x (V := Value.agg [.int .i64 (↑k), .int .i64 (↑k)].toArray) (X.build Try.zeroValue31 Try.runUnderlying31 (places31 _ Try.underlying31) rfl rfl) (by decide) ?_
                            refine WL.yes rfl rfl ?_
                            refine WL.condn (X.neqS (a := gt ((runR c.D c.M ↑k).1) 0) (b := (Span.mk (↑k) (↑k))) gd31 (fun w => eqS31 9998 _ _ w) rfl rfl) (by decide) (fun h50 => ?_) (fun h50 => ?_)
                            · refine WL.x (X.pickF rfl rfl rfl) (by decide) ?_
                              refine WL.nil ?_
                              refine WK.nThen ?_
                              refine WC.condT rfl ?_
                              refine WC.seq ?_
                              refine WC.region ?_
                              refine WL.x (X.assign rfl) (by decide) ?_
                              refine WL.nil ?_
                              refine WK.nThen ?_
                              refine WC.ret ?_
                              refine WK.rThen ?_
                              refine WK.rBlock ?_
                              refine WK.rThen ?_
                              refine WK.rThen ?_
                              refine WK.rBlock ?_
                              refine WK.rThen ?_
                              refine WK.ret1 rfl rfl (fun w' hw' => Ret.exact hw' ?_)
                              first | rfl | (exfalso; omega) | (exfalso; contradiction) | exact (bool_true (by obtain rfl : k = 401 := (by omega); exact hre)).symm | exact (bool_true (by first | omega | assumption)).symm
                            · refine WL.x (X.pickF rfl rfl rfl) (by decide) ?_
                              refine WL.nil ?_
                              refine WK.nThen ?_
                              refine WC.condF rfl ?_
                              refine WC.skip ?_
                              refine WK.nThen ?_
                              refine WC.draw (π := (.cons 0 (.cons 1 (.cons 2 (.cons 3 (.cons 4 (.cons 5 (.cons 6 (.cons 7 (.cons 8 (.cons 9 (.cons 10 (.cons 11 (.cons 12 (.cons 13 (.cons 14 (.cons 15 (.cons 16 (.cons 17 (.cons 18 (.cons 19 .done))))))))))))))))))))) [19] [19] rfl (by kernel_rfl) ?_
                              refine DW.x rfl rfl (X.field Try.runUnderlying31 rfl Try.sizeOf3 rfl) (by decide) ?_
                              refine DW.x rfl rfl (X.loadB (k := 0) Try.isAgg3 rfl rfl rfl) (by decide) ?_
                              refine DW.x rfl rfl (X.move rfl) (by decide) ?_
                              refine DW.x rfl rfl (X.field Try.runUnderlying36 rfl Try.sizeOf3 rfl) (by decide) ?_
                              refine DW.x rfl rfl (X.loadB (k := 3) Try.isAgg3 rfl rfl rfl) (by decide) ?_
                              refine DW.xe rfl rfl (E.idx Try.runUnderlying22 Try.sizeOf31 rfl rfl hs35 (by omega) (by omega)) (by decide) (fun p51 hp52 => ?_)
                              have hp53 := At.Span_0 hp52
                              refine DW.x rfl rfl (X.field Try.runUnderlying31 rfl Try.sizeOf3 rfl) (by decide) ?_
                              refine DW.x rfl rfl (X.loadInt Try.isAgg3 rfl hp53) (by decide) ?_
                              refine DW.x rfl rfl (X.mn rfl rfl) (by decide) ?_
                              refine DW.x rfl rfl (X.field Try.runUnderlying31 rfl Try.sizeOf3 rfl) (by decide) ?_
                              refine DW.x rfl rfl (X.loadB (k := 0) Try.isAgg3 rfl rfl rfl) (by decide) ?_
                              refine DW.x rfl rfl (X.move rfl) (by decide) ?_
                              refine DW.x rfl rfl (X.field Try.runUnderlying36 rfl Try.sizeOf3 rfl) (by decide) ?_
                              refine DW.x rfl rfl (X.loadB (k := 3) Try.isAgg3 rfl rfl rfl) (by decide) ?_
                              refine DW.xe rfl rfl (E.idx Try.runUnderlying22 Try.sizeOf31 rfl rfl hs35 (by omega) (by omega)) (by decide) (fun p54 hp55 => ?_)
                              have hp56 := At.Span_1 hp55
                              refine DW.x rfl rfl (X.field Try.runUnderlying31 rfl Try.sizeOf3 rfl) (by decide) ?_
                              refine DW.x rfl rfl (X.loadInt Try.isAgg3 rfl hp56) (by decide) ?_
                              refine DW.x rfl rfl (X.mx rfl rfl) (by decide) ?_
                              refine DW.x (V := Value.agg [.int .i64 (min ((runN c.D c.M x.A.toNat k).Lo) ((gt ((runR c.D c.M ↑k).1) ((x.A : Int).toNat)).Lo)), .int .i64 (max ((runN c.D c.M x.A.toNat k).Hi) ((gt ((runR c.D c.M ↑k).1) ((x.A : Int).toNat)).Hi))].toArray) rfl rfl (X.build Try.zeroValue31 Try.runUnderlying31 (places31 _ Try.underlying31) rfl rfl) (by decide) ?_
                              refine DW.ts rfl rfl rfl rfl (T.storeBA (k := 0) Try.sizeOf31 rfl rfl rfl (one_cons rfl (one_cons rfl one_nil)) rfl rfl) ?_
                              refine DW.nil ?_
                              refine WK.nBlock ?_
                              refine WK.nThen ?_
                              refine WC.region ?_
                              refine WL.x (X.move rfl) (by decide) ?_
                              refine WL.x (X.add rfl rfl (by omega) (by omega)) (by decide) ?_
                              refine WL.x (X.assign rfl) (by decide) ?_
                              refine WL.nil ?_
                              refine WK.nThen ?_
                              have he57 : min ((runN c.D c.M x.A.toNat k).Lo) ((gt ((runR c.D c.M ↑k).1) ((x.A : Int).toNat)).Lo) = (runN c.D c.M x.A.toNat (k + 1)).Lo := (by first | (rw [hrn1 (by omega) x.A]; done) | (rw [hrn2 (by omega) x.A]; done) | (rw [hrn1 (by omega) x.A]; rfl) | (rw [hrn2 (by omega) x.A]; rfl))
                              rw [he57]
                              have he58 : max ((runN c.D c.M x.A.toNat k).Hi) ((gt ((runR c.D c.M ↑k).1) ((x.A : Int).toNat)).Hi) = (runN c.D c.M x.A.toNat (k + 1)).Hi := (by first | (rw [hrn1 (by omega) x.A]; done) | (rw [hrn2 (by omega) x.A]; done) | (rw [hrn1 (by omega) x.A]; rfl) | (rw [hrn2 (by omega) x.A]; rfl))
                              rw [he58]
                              refine WK.next ((k + 1, m30)) rfl (.refl _) (.cons rfl (.cons rfl (.cons rfl (.cons rfl (.cons rfl (.cons rfl (.cons rfl .nil))))))) ?_ ?_
                              · exact ⟨Mem.le_trans hmm hle32, by omega⟩
                              · (dsimp only; omega)
                    · refine WL.yes rfl rfl ?_
                      refine WL.x (X.move rfl) (by decide) ?_
                      refine WL.no rfl rfl rfl (by decide) ?_
                      refine WL.no rfl rfl rfl (by decide) ?_
                      refine WL.yes rfl rfl ?_
                      refine WL.x (X.pickF rfl rfl rfl) (by decide) ?_
                      refine WL.x (X.pickF rfl rfl rfl) (by decide) ?_
                      refine WL.nil ?_
                      refine WK.nThen ?_
                      refine WC.condF rfl ?_
                      refine WC.skip ?_
                      refine WK.nThen ?_
                      refine WC.seq ?_
                      refine WC.seq ?_
                      refine WC.region ?_
                      refine WL.x (X.move rfl) (by decide) ?_
                      refine WL.condn (X.neq rfl rfl) (by decide) (fun h59 => ?_) (fun h59 => ?_)
                      · refine WL.nil ?_
                        refine WK.nThen ?_
                        refine WC.condT rfl ?_
                        refine WC.exit ?_
                        refine WK.eThen ?_
                        refine WK.eHit ?_
                        refine WK.nThen ?_
                        refine WC.region ?_
                        refine WL.x (X.move rfl) (by decide) ?_
                        refine WL.x (X.add rfl rfl (by omega) (by omega)) (by decide) ?_
                        refine WL.x (X.assign rfl) (by decide) ?_
                        refine WL.nil ?_
                        refine WK.nThen ?_
                        have he60 : (runN c.D c.M x.A.toNat k).Lo = (runN c.D c.M x.A.toNat (k + 1)).Lo := (by first | (rw [hrn1 (by omega) x.A]; done) | (rw [hrn2 (by omega) x.A]; done) | (rw [hrn1 (by omega) x.A]; rfl) | (rw [hrn2 (by omega) x.A]; rfl))
                        rw [he60]
                        have he61 : (runN c.D c.M x.A.toNat k).Hi = (runN c.D c.M x.A.toNat (k + 1)).Hi := (by first | (rw [hrn1 (by omega) x.A]; done) | (rw [hrn2 (by omega) x.A]; done) | (rw [hrn1 (by omega) x.A]; rfl) | (rw [hrn2 (by omega) x.A]; rfl))
                        rw [he61]
                        refine WK.next ((k + 1, m30)) rfl (.refl _) (.cons rfl (.cons rfl (.cons rfl (.cons rfl (.cons rfl (.cons rfl (.cons rfl .nil))))))) ?_ ?_
                        · exact ⟨Mem.le_trans hmm hle32, by omega⟩
                        · (dsimp only; omega)
                      · refine WL.nil ?_
                        refine WK.nThen ?_
                        refine WC.condF rfl ?_
                        refine WC.skip ?_
                        refine WK.nThen ?_
                        refine WC.seq ?_
                        refine WC.seq ?_
                        have hrl1 := (hrl (by omega)).1
                        have hrl2 := (hrl (by omega)).2
                        refine WC.region ?_
                        refine WL.x (X.move rfl) (by decide) ?_
                        refine WL.x (X.len Try.runUnderlying22 rfl hs35) (by decide) ?_
                        refine WL.x (X.field Try.runUnderlying28 rfl Try.sizeOf25 rfl) (by decide) ?_
                        refine WL.x (X.field Try.runUnderlying25 rfl Try.sizeOf22 rfl) (by decide) ?_
                        refine WL.x (X.loadB (k := 4) Try.isAgg22 rfl rfl rfl) (by decide) ?_
                        refine WL.x (X.len Try.runUnderlying22 rfl hs2) (by decide) ?_
                        refine WL.x (X.add rfl rfl (by omega) (by omega)) (by decide) ?_
                        refine WL.condn (X.neq rfl rfl) (by decide) (fun h62 => ?_) (fun h62 => ?_)
                        · refine WL.x (X.move rfl) (by decide) ?_
                          refine WL.no rfl rfl rfl (by decide) ?_
                          refine WL.no rfl rfl rfl (by decide) ?_
                          refine WL.no rfl rfl rfl (by decide) ?_
                          refine WL.no rfl rfl rfl (by decide) ?_
                          refine WL.no rfl rfl rfl (by decide) ?_
                          refine WL.no rfl rfl rfl (by decide) ?_
                          refine WL.no rfl rfl rfl (by decide) ?_
                          refine WL.x (X.pickT rfl rfl rfl) (by decide) ?_
                          refine WL.nil ?_
                          refine WK.nThen ?_
                          refine WC.condT rfl ?_
                          refine WC.seq ?_
                          refine WC.region ?_
                          refine WL.x (X.assign rfl) (by decide) ?_
                          refine WL.nil ?_
                          refine WK.nThen ?_
                          refine WC.ret ?_
                          refine WK.rThen ?_
                          refine WK.rBlock ?_
                          refine WK.rThen ?_
                          refine WK.rThen ?_
                          refine WK.rBlock ?_
                          refine WK.rThen ?_
                          refine WK.ret1 rfl rfl (fun w' hw' => Ret.exact hw' ?_)
                          first | rfl | (exfalso; omega) | (exfalso; contradiction) | exact (bool_true (by obtain rfl : k = 401 := (by omega); exact hre)).symm | exact (bool_true (by first | omega | assumption)).symm
                        · refine WL.x (X.move rfl) (by decide) ?_
                          refine WL.yes rfl rfl ?_
                          refine WL.x (X.move rfl) (by decide) ?_
                          refine WL.yes rfl rfl ?_
                          refine WL.xe (E.idxN 0 Try.runUnderlying22 Try.sizeOf31 rfl rfl hs35 (by omega)) (by decide) (fun p63 hp64 => ?_)
                          refine WL.yes rfl rfl ?_
                          refine WL.xe (E.loadAgg Try.isAgg31 Try.sizeOf31 rfl hp64) (by decide) (fun c65 hc66 => ?_)
                          obtain rfl := hc66
                          refine WL.yes rfl rfl ?_
                          refine WL.x (X.move rfl) (by decide) ?_
                          refine WL.yes rfl rfl ?_
                          refine WL.x (X.move rfl) (by decide) ?_
                          refine WL.yes rfl rfl ?_
                          refine WL.x (V := Value.agg [.int .i64 (↑k), .int .i64 (↑k)].toArray) (X.build Try.zeroValue31 Try.runUnderlying31 (places31 _ Try.underlying31) rfl rfl) (by decide) ?_
                          refine WL.yes rfl rfl ?_
                          refine WL.condn (X.neqS (a := gt ((runR c.D c.M ↑k).1) 0) (b := (Span.mk (↑k) (↑k))) gd31 (fun w => eqS31 9998 _ _ w) rfl rfl) (by decide) (fun h67 => ?_) (fun h67 => ?_)
                          · refine WL.x (X.pickF rfl rfl rfl) (by decide) ?_
                            refine WL.nil ?_
                            refine WK.nThen ?_
                            refine WC.condT rfl ?_
                            refine WC.seq ?_
                            refine WC.region ?_
                            refine WL.x (X.assign rfl) (by decide) ?_
                            refine WL.nil ?_
                            refine WK.nThen ?_
                            refine WC.ret ?_
                            refine WK.rThen ?_
                            refine WK.rBlock ?_
                            refine WK.rThen ?_
                            refine WK.rThen ?_
                            refine WK.rBlock ?_
                            refine WK.rThen ?_
                            refine WK.ret1 rfl rfl (fun w' hw' => Ret.exact hw' ?_)
                            first | rfl | (exfalso; omega) | (exfalso; contradiction) | exact (bool_true (by obtain rfl : k = 401 := (by omega); exact hre)).symm | exact (bool_true (by first | omega | assumption)).symm
                          · refine WL.x (X.pickF rfl rfl rfl) (by decide) ?_
                            refine WL.nil ?_
                            refine WK.nThen ?_
                            refine WC.condF rfl ?_
                            refine WC.skip ?_
                            refine WK.nThen ?_
                            refine WC.draw (π := (.cons 0 (.cons 1 (.cons 2 (.cons 3 (.cons 4 (.cons 5 (.cons 6 (.cons 7 (.cons 8 (.cons 9 (.cons 10 (.cons 11 (.cons 12 (.cons 13 (.cons 14 (.cons 15 (.cons 16 (.cons 17 (.cons 18 (.cons 19 .done))))))))))))))))))))) [19] [19] rfl (by kernel_rfl) ?_
                            refine DW.x rfl rfl (X.field Try.runUnderlying31 rfl Try.sizeOf3 rfl) (by decide) ?_
                            refine DW.x rfl rfl (X.loadB (k := 0) Try.isAgg3 rfl rfl rfl) (by decide) ?_
                            refine DW.x rfl rfl (X.move rfl) (by decide) ?_
                            refine DW.x rfl rfl (X.field Try.runUnderlying36 rfl Try.sizeOf3 rfl) (by decide) ?_
                            refine DW.x rfl rfl (X.loadB (k := 3) Try.isAgg3 rfl rfl rfl) (by decide) ?_
                            refine DW.xe rfl rfl (E.idx Try.runUnderlying22 Try.sizeOf31 rfl rfl hs35 (by omega) (by omega)) (by decide) (fun p68 hp69 => ?_)
                            have hp70 := At.Span_0 hp69
                            refine DW.x rfl rfl (X.field Try.runUnderlying31 rfl Try.sizeOf3 rfl) (by decide) ?_
                            refine DW.x rfl rfl (X.loadInt Try.isAgg3 rfl hp70) (by decide) ?_
                            refine DW.x rfl rfl (X.mn rfl rfl) (by decide) ?_
                            refine DW.x rfl rfl (X.field Try.runUnderlying31 rfl Try.sizeOf3 rfl) (by decide) ?_
                            refine DW.x rfl rfl (X.loadB (k := 0) Try.isAgg3 rfl rfl rfl) (by decide) ?_
                            refine DW.x rfl rfl (X.move rfl) (by decide) ?_
                            refine DW.x rfl rfl (X.field Try.runUnderlying36 rfl Try.sizeOf3 rfl) (by decide) ?_
                            refine DW.x rfl rfl (X.loadB (k := 3) Try.isAgg3 rfl rfl rfl) (by decide) ?_
                            refine DW.xe rfl rfl (E.idx Try.runUnderlying22 Try.sizeOf31 rfl rfl hs35 (by omega) (by omega)) (by decide) (fun p71 hp72 => ?_)
                            have hp73 := At.Span_1 hp72
                            refine DW.x rfl rfl (X.field Try.runUnderlying31 rfl Try.sizeOf3 rfl) (by decide) ?_
                            refine DW.x rfl rfl (X.loadInt Try.isAgg3 rfl hp73) (by decide) ?_
                            refine DW.x rfl rfl (X.mx rfl rfl) (by decide) ?_
                            refine DW.x (V := Value.agg [.int .i64 (min ((runN c.D c.M x.A.toNat k).Lo) ((gt ((runR c.D c.M ↑k).1) ((x.A : Int).toNat)).Lo)), .int .i64 (max ((runN c.D c.M x.A.toNat k).Hi) ((gt ((runR c.D c.M ↑k).1) ((x.A : Int).toNat)).Hi))].toArray) rfl rfl (X.build Try.zeroValue31 Try.runUnderlying31 (places31 _ Try.underlying31) rfl rfl) (by decide) ?_
                            refine DW.ts rfl rfl rfl rfl (T.storeBA (k := 0) Try.sizeOf31 rfl rfl rfl (one_cons rfl (one_cons rfl one_nil)) rfl rfl) ?_
                            refine DW.nil ?_
                            refine WK.nBlock ?_
                            refine WK.nThen ?_
                            refine WC.region ?_
                            refine WL.x (X.move rfl) (by decide) ?_
                            refine WL.x (X.add rfl rfl (by omega) (by omega)) (by decide) ?_
                            refine WL.x (X.assign rfl) (by decide) ?_
                            refine WL.nil ?_
                            refine WK.nThen ?_
                            have he74 : min ((runN c.D c.M x.A.toNat k).Lo) ((gt ((runR c.D c.M ↑k).1) ((x.A : Int).toNat)).Lo) = (runN c.D c.M x.A.toNat (k + 1)).Lo := (by first | (rw [hrn1 (by omega) x.A]; done) | (rw [hrn2 (by omega) x.A]; done) | (rw [hrn1 (by omega) x.A]; rfl) | (rw [hrn2 (by omega) x.A]; rfl))
                            rw [he74]
                            have he75 : max ((runN c.D c.M x.A.toNat k).Hi) ((gt ((runR c.D c.M ↑k).1) ((x.A : Int).toNat)).Hi) = (runN c.D c.M x.A.toNat (k + 1)).Hi := (by first | (rw [hrn1 (by omega) x.A]; done) | (rw [hrn2 (by omega) x.A]; done) | (rw [hrn1 (by omega) x.A]; rfl) | (rw [hrn2 (by omega) x.A]; rfl))
                            rw [he75]
                            refine WK.next ((k + 1, m30)) rfl (.refl _) (.cons rfl (.cons rfl (.cons rfl (.cons rfl (.cons rfl (.cons rfl (.cons rfl .nil))))))) ?_ ?_
                            · exact ⟨Mem.le_trans hmm hle32, by omega⟩
                            · (dsimp only; omega)
                  · refine WL.x (X.pickT rfl rfl rfl) (by decide) ?_
                    refine WL.x (OpX.t (X.neqB Try.underlying4 rfl rfl) (by decide)) (by decide) ?_
                    refine WL.x (X.move rfl) (by decide) ?_
                    refine WL.no rfl rfl rfl (by decide) ?_
                    refine WL.no rfl rfl rfl (by decide) ?_
                    refine WL.no rfl rfl rfl (by decide) ?_
                    refine WL.noU rfl rfl (by decide) ?_
                    refine WL.noU rfl rfl (by decide) ?_
                    refine WL.no rfl rfl rfl (by decide) ?_
                    refine WL.x (X.pickT rfl rfl rfl) (by decide) ?_
                    refine WL.nil ?_
                    refine WK.nThen ?_
                    refine WC.condT rfl ?_
                    refine WC.seq ?_
                    refine WC.region ?_
                    refine WL.x (X.assign rfl) (by decide) ?_
                    refine WL.nil ?_
                    refine WK.nThen ?_
                    refine WC.ret ?_
                    refine WK.rThen ?_
                    refine WK.rBlock ?_
                    refine WK.rThen ?_
                    refine WK.rThen ?_
                    refine WK.rBlock ?_
                    refine WK.rThen ?_
                    refine WK.ret1 rfl rfl (fun w' hw' => Ret.exact hw' ?_)
                    first | rfl | (exfalso; omega) | (exfalso; contradiction) | exact (bool_true (by obtain rfl : k = 401 := (by omega); exact hre)).symm | exact (bool_true (by first | omega | assumption)).symm
                · refine WL.x (X.move rfl) (by decide) ?_
                  refine WL.no rfl rfl rfl (by decide) ?_
                  refine WL.no rfl rfl rfl (by decide) ?_
                  refine WL.no rfl rfl rfl (by decide) ?_
                  refine WL.no rfl rfl rfl (by decide) ?_
                  refine WL.x (X.pickF rfl rfl rfl) (by decide) ?_
                  refine WL.x (OpX.t (X.neqB Try.underlying4 rfl rfl) (by decide)) (by decide) ?_
                  refine WL.x (X.move rfl) (by decide) ?_
                  refine WL.no rfl rfl rfl (by decide) ?_
                  refine WL.no rfl rfl rfl (by decide) ?_
                  refine WL.no rfl rfl rfl (by decide) ?_
                  refine WL.noU rfl rfl (by decide) ?_
                  refine WL.noU rfl rfl (by decide) ?_
                  refine WL.no rfl rfl rfl (by decide) ?_
                  refine WL.x (X.pickT rfl rfl rfl) (by decide) ?_
                  refine WL.nil ?_
                  refine WK.nThen ?_
                  refine WC.condT rfl ?_
                  refine WC.seq ?_
                  refine WC.region ?_
                  refine WL.x (X.assign rfl) (by decide) ?_
                  refine WL.nil ?_
                  refine WK.nThen ?_
                  refine WC.ret ?_
                  refine WK.rThen ?_
                  refine WK.rBlock ?_
                  refine WK.rThen ?_
                  refine WK.rThen ?_
                  refine WK.rBlock ?_
                  refine WK.rThen ?_
                  refine WK.ret1 rfl rfl (fun w' hw' => Ret.exact hw' ?_)
                  first | rfl | (exfalso; omega) | (exfalso; contradiction) | exact (bool_true (by obtain rfl : k = 401 := (by omega); exact hre)).symm | exact (bool_true (by first | omega | assumption)).symm
              · refine WL.x (X.field Try.runUnderlying31 rfl Try.sizeOf3 rfl) (by decide) ?_
                refine WL.x (X.loadB (k := 1) Try.isAgg3 rfl rfl rfl) (by decide) ?_
                refine WL.x (X.move rfl) (by decide) ?_
                refine WL.cond (X.leq rfl rfl) (by decide) (fun h76 => ?_) (fun h76 => ?_)
                · refine WL.x (X.move rfl) (by decide) ?_
                  refine WL.yes rfl rfl ?_
                  refine WL.x (X.move rfl) (by decide) ?_
                  refine WL.yes rfl rfl ?_
                  refine WL.x (X.field Try.runUnderlying31 rfl Try.sizeOf3 rfl) (by decide) ?_
                  refine WL.yes rfl rfl ?_
                  refine WL.x (X.loadB (k := 1) Try.isAgg3 rfl rfl rfl) (by decide) ?_
                  refine WL.yes rfl rfl ?_
                  refine WL.cond (X.leq rfl rfl) (by decide) (fun h77 => ?_) (fun h77 => ?_)
                  · refine WL.x (X.pickT rfl rfl rfl) (by decide) ?_
                    refine WL.x (OpX.t (X.neqB Try.underlying4 rfl rfl) (by decide)) (by decide) ?_
                    refine WL.x (X.move rfl) (by decide) ?_
                    refine WL.no rfl rfl rfl (by decide) ?_
                    refine WL.no rfl rfl rfl (by decide) ?_
                    refine WL.no rfl rfl rfl (by decide) ?_
                    refine WL.noU rfl rfl (by decide) ?_
                    refine WL.noU rfl rfl (by decide) ?_
                    refine WL.no rfl rfl rfl (by decide) ?_
                    refine WL.x (X.pickT rfl rfl rfl) (by decide) ?_
                    refine WL.nil ?_
                    refine WK.nThen ?_
                    refine WC.condT rfl ?_
                    refine WC.seq ?_
                    refine WC.region ?_
                    refine WL.x (X.assign rfl) (by decide) ?_
                    refine WL.nil ?_
                    refine WK.nThen ?_
                    refine WC.ret ?_
                    refine WK.rThen ?_
                    refine WK.rBlock ?_
                    refine WK.rThen ?_
                    refine WK.rThen ?_
                    refine WK.rBlock ?_
                    refine WK.rThen ?_
                    refine WK.ret1 rfl rfl (fun w' hw' => Ret.exact hw' ?_)
                    first | rfl | (exfalso; omega) | (exfalso; contradiction) | exact (bool_true (by obtain rfl : k = 401 := (by omega); exact hre)).symm | exact (bool_true (by first | omega | assumption)).symm
                  · refine WL.x (X.pickT rfl rfl rfl) (by decide) ?_
                    refine WL.x (OpX.f (X.neqB Try.underlying4 rfl rfl) (fun h => h rfl)) (by decide) ?_
                    refine WL.x (X.move rfl) (by decide) ?_
                    refine WL.yes rfl rfl ?_
                    refine WL.x (X.move rfl) (by decide) ?_
                    refine WL.yes rfl rfl ?_
                    refine WL.condn (X.neq rfl rfl) (by decide) (fun h78 => ?_) (fun h78 => ?_)
                    · refine WL.yes rfl rfl ?_
                      refine WL.x (X.move rfl) (by decide) ?_
                      refine WL.yes rfl rfl ?_
                      refine WL.x (X.move rfl) (by decide) ?_
                      refine WL.yes rfl rfl ?_
                      refine WL.condn (X.neq rfl rfl) (by decide) (fun h79 => ?_) (fun h79 => ?_)
                      · refine WL.yes rfl rfl ?_
                        refine WL.x (X.pickT rfl rfl rfl) (by decide) ?_
                        refine WL.x (X.pickF rfl rfl rfl) (by decide) ?_
                        refine WL.nil ?_
                        refine WK.nThen ?_
                        refine WC.condT rfl ?_
                        refine WC.seq ?_
                        refine WC.region ?_
                        refine WL.x (X.assign rfl) (by decide) ?_
                        refine WL.nil ?_
                        refine WK.nThen ?_
                        refine WC.ret ?_
                        refine WK.rThen ?_
                        refine WK.rBlock ?_
                        refine WK.rThen ?_
                        refine WK.rThen ?_
                        refine WK.rBlock ?_
                        refine WK.rThen ?_
                        refine WK.ret1 rfl rfl (fun w' hw' => Ret.exact hw' ?_)
                        first | rfl | (exfalso; omega) | (exfalso; contradiction) | exact (bool_true (by obtain rfl : k = 401 := (by omega); exact hre)).symm | exact (bool_true (by first | omega | assumption)).symm
                      · refine WL.yes rfl rfl ?_
                        refine WL.x (X.pickT rfl rfl rfl) (by decide) ?_
                        refine WL.x (X.pickF rfl rfl rfl) (by decide) ?_
                        refine WL.nil ?_
                        refine WK.nThen ?_
                        refine WC.condF rfl ?_
                        refine WC.skip ?_
                        refine WK.nThen ?_
                        refine WC.seq ?_
                        refine WC.seq ?_
                        refine WC.region ?_
                        refine WL.x (X.move rfl) (by decide) ?_
                        refine WL.condn (X.neq rfl rfl) (by decide) (fun h80 => ?_) (fun h80 => ?_)
                        · refine WL.nil ?_
                          refine WK.nThen ?_
                          refine WC.condT rfl ?_
                          refine WC.exit ?_
                          refine WK.eThen ?_
                          refine WK.eHit ?_
                          refine WK.nThen ?_
                          refine WC.region ?_
                          refine WL.x (X.move rfl) (by decide) ?_
                          refine WL.x (X.add rfl rfl (by omega) (by omega)) (by decide) ?_
                          refine WL.x (X.assign rfl) (by decide) ?_
                          refine WL.nil ?_
                          refine WK.nThen ?_
                          have he81 : (runN c.D c.M x.A.toNat k).Lo = (runN c.D c.M x.A.toNat (k + 1)).Lo := (by first | (rw [hrn1 (by omega) x.A]; done) | (rw [hrn2 (by omega) x.A]; done) | (rw [hrn1 (by omega) x.A]; rfl) | (rw [hrn2 (by omega) x.A]; rfl))
                          rw [he81]
                          have he82 : (runN c.D c.M x.A.toNat k).Hi = (runN c.D c.M x.A.toNat (k + 1)).Hi := (by first | (rw [hrn1 (by omega) x.A]; done) | (rw [hrn2 (by omega) x.A]; done) | (rw [hrn1 (by omega) x.A]; rfl) | (rw [hrn2 (by omega) x.A]; rfl))
                          rw [he82]
                          refine WK.next ((k + 1, m30)) rfl (.refl _) (.cons rfl (.cons rfl (.cons rfl (.cons rfl (.cons rfl (.cons rfl (.cons rfl .nil))))))) ?_ ?_
                          · exact ⟨Mem.le_trans hmm hle32, by omega⟩
                          · (dsimp only; omega)
                        · refine WL.nil ?_
                          refine WK.nThen ?_
                          refine WC.condF rfl ?_
                          refine WC.skip ?_
                          refine WK.nThen ?_
                          refine WC.seq ?_
                          refine WC.seq ?_
                          have hrl1 := (hrl (by omega)).1
                          have hrl2 := (hrl (by omega)).2
                          refine WC.region ?_
                          refine WL.x (X.move rfl) (by decide) ?_
                          refine WL.x (X.len Try.runUnderlying22 rfl hs35) (by decide) ?_
                          refine WL.x (X.field Try.runUnderlying28 rfl Try.sizeOf25 rfl) (by decide) ?_
                          refine WL.x (X.field Try.runUnderlying25 rfl Try.sizeOf22 rfl) (by decide) ?_
                          refine WL.x (X.loadB (k := 4) Try.isAgg22 rfl rfl rfl) (by decide) ?_
                          refine WL.x (X.len Try.runUnderlying22 rfl hs2) (by decide) ?_
                          refine WL.x (X.add rfl rfl (by omega) (by omega)) (by decide) ?_
                          refine WL.condn (X.neq rfl rfl) (by decide) (fun h83 => ?_) (fun h83 => ?_)
                          · refine WL.x (X.move rfl) (by decide) ?_
                            refine WL.no rfl rfl rfl (by decide) ?_
                            refine WL.no rfl rfl rfl (by decide) ?_
                            refine WL.no rfl rfl rfl (by decide) ?_
                            refine WL.no rfl rfl rfl (by decide) ?_
                            refine WL.no rfl rfl rfl (by decide) ?_
                            refine WL.no rfl rfl rfl (by decide) ?_
                            refine WL.no rfl rfl rfl (by decide) ?_
                            refine WL.x (X.pickT rfl rfl rfl) (by decide) ?_
                            refine WL.nil ?_
                            refine WK.nThen ?_
                            refine WC.condT rfl ?_
                            refine WC.seq ?_
                            refine WC.region ?_
                            refine WL.x (X.assign rfl) (by decide) ?_
                            refine WL.nil ?_
                            refine WK.nThen ?_
                            refine WC.ret ?_
                            refine WK.rThen ?_
                            refine WK.rBlock ?_
                            refine WK.rThen ?_
                            refine WK.rThen ?_
                            refine WK.rBlock ?_
                            refine WK.rThen ?_
                            refine WK.ret1 rfl rfl (fun w' hw' => Ret.exact hw' ?_)
                            first | rfl | (exfalso; omega) | (exfalso; contradiction) | exact (bool_true (by obtain rfl : k = 401 := (by omega); exact hre)).symm | exact (bool_true (by first | omega | assumption)).symm
                          · refine WL.x (X.move rfl) (by decide) ?_
                            refine WL.yes rfl rfl ?_
                            refine WL.x (X.move rfl) (by decide) ?_
                            refine WL.yes rfl rfl ?_
                            refine WL.xe (E.idxN 0 Try.runUnderlying22 Try.sizeOf31 rfl rfl hs35 (by omega)) (by decide) (fun p84 hp85 => ?_)
                            refine WL.yes rfl rfl ?_
                            refine WL.xe (E.loadAgg Try.isAgg31 Try.sizeOf31 rfl hp85) (by decide) (fun c86 hc87 => ?_)
                            obtain rfl := hc87
                            refine WL.yes rfl rfl ?_
                            refine WL.x (X.move rfl) (by decide) ?_
                            refine WL.yes rfl rfl ?_
                            refine WL.x (X.move rfl) (by decide) ?_
                            refine WL.yes rfl rfl ?_
                            refine WL.x (V := Value.agg [.int .i64 (↑k), .int .i64 (↑k)].toArray) (X.build Try.zeroValue31 Try.runUnderlying31 (places31 _ Try.underlying31) rfl rfl) (by decide) ?_
                            refine WL.yes rfl rfl ?_
                            refine WL.condn (X.neqS (a := gt ((runR c.D c.M ↑k).1) 0) (b := (Span.mk (↑k) (↑k))) gd31 (fun w => eqS31 9998 _ _ w) rfl rfl) (by decide) (fun h88 => ?_) (fun h88 => ?_)
                            · refine WL.x (X.pickF rfl rfl rfl) (by decide) ?_
                              refine WL.nil ?_
                              refine WK.nThen ?_
                              refine WC.condT rfl ?_
                              refine WC.seq ?_
                              refine WC.region ?_
                              refine WL.x (X.assign rfl) (by decide) ?_
                              refine WL.nil ?_
                              refine WK.nThen ?_
                              refine WC.ret ?_
                              refine WK.rThen ?_
                              refine WK.rBlock ?_
                              refine WK.rThen ?_
                              refine WK.rThen ?_
                              refine WK.rBlock ?_
                              refine WK.rThen ?_
                              refine WK.ret1 rfl rfl (fun w' hw' => Ret.exact hw' ?_)
                              first | rfl | (exfalso; omega) | (exfalso; contradiction) | exact (bool_true (by obtain rfl : k = 401 := (by omega); exact hre)).symm | exact (bool_true (by first | omega | assumption)).symm
                            · refine WL.x (X.pickF rfl rfl rfl) (by decide) ?_
                              refine WL.nil ?_
                              refine WK.nThen ?_
                              refine WC.condF rfl ?_
                              refine WC.skip ?_
                              refine WK.nThen ?_
                              refine WC.draw (π := (.cons 0 (.cons 1 (.cons 2 (.cons 3 (.cons 4 (.cons 5 (.cons 6 (.cons 7 (.cons 8 (.cons 9 (.cons 10 (.cons 11 (.cons 12 (.cons 13 (.cons 14 (.cons 15 (.cons 16 (.cons 17 (.cons 18 (.cons 19 .done))))))))))))))))))))) [19] [19] rfl (by kernel_rfl) ?_
                              refine DW.x rfl rfl (X.field Try.runUnderlying31 rfl Try.sizeOf3 rfl) (by decide) ?_
                              refine DW.x rfl rfl (X.loadB (k := 0) Try.isAgg3 rfl rfl rfl) (by decide) ?_
                              refine DW.x rfl rfl (X.move rfl) (by decide) ?_
                              refine DW.x rfl rfl (X.field Try.runUnderlying36 rfl Try.sizeOf3 rfl) (by decide) ?_
                              refine DW.x rfl rfl (X.loadB (k := 3) Try.isAgg3 rfl rfl rfl) (by decide) ?_
                              refine DW.xe rfl rfl (E.idx Try.runUnderlying22 Try.sizeOf31 rfl rfl hs35 (by omega) (by omega)) (by decide) (fun p89 hp90 => ?_)
                              have hp91 := At.Span_0 hp90
                              refine DW.x rfl rfl (X.field Try.runUnderlying31 rfl Try.sizeOf3 rfl) (by decide) ?_
                              refine DW.x rfl rfl (X.loadInt Try.isAgg3 rfl hp91) (by decide) ?_
                              refine DW.x rfl rfl (X.mn rfl rfl) (by decide) ?_
                              refine DW.x rfl rfl (X.field Try.runUnderlying31 rfl Try.sizeOf3 rfl) (by decide) ?_
                              refine DW.x rfl rfl (X.loadB (k := 0) Try.isAgg3 rfl rfl rfl) (by decide) ?_
                              refine DW.x rfl rfl (X.move rfl) (by decide) ?_
                              refine DW.x rfl rfl (X.field Try.runUnderlying36 rfl Try.sizeOf3 rfl) (by decide) ?_
                              refine DW.x rfl rfl (X.loadB (k := 3) Try.isAgg3 rfl rfl rfl) (by decide) ?_
                              refine DW.xe rfl rfl (E.idx Try.runUnderlying22 Try.sizeOf31 rfl rfl hs35 (by omega) (by omega)) (by decide) (fun p92 hp93 => ?_)
                              have hp94 := At.Span_1 hp93
                              refine DW.x rfl rfl (X.field Try.runUnderlying31 rfl Try.sizeOf3 rfl) (by decide) ?_
                              refine DW.x rfl rfl (X.loadInt Try.isAgg3 rfl hp94) (by decide) ?_
                              refine DW.x rfl rfl (X.mx rfl rfl) (by decide) ?_
                              refine DW.x (V := Value.agg [.int .i64 (min ((runN c.D c.M x.A.toNat k).Lo) ((gt ((runR c.D c.M ↑k).1) ((x.A : Int).toNat)).Lo)), .int .i64 (max ((runN c.D c.M x.A.toNat k).Hi) ((gt ((runR c.D c.M ↑k).1) ((x.A : Int).toNat)).Hi))].toArray) rfl rfl (X.build Try.zeroValue31 Try.runUnderlying31 (places31 _ Try.underlying31) rfl rfl) (by decide) ?_
                              refine DW.ts rfl rfl rfl rfl (T.storeBA (k := 0) Try.sizeOf31 rfl rfl rfl (one_cons rfl (one_cons rfl one_nil)) rfl rfl) ?_
                              refine DW.nil ?_
                              refine WK.nBlock ?_
                              refine WK.nThen ?_
                              refine WC.region ?_
                              refine WL.x (X.move rfl) (by decide) ?_
                              refine WL.x (X.add rfl rfl (by omega) (by omega)) (by decide) ?_
                              refine WL.x (X.assign rfl) (by decide) ?_
                              refine WL.nil ?_
                              refine WK.nThen ?_
                              have he95 : min ((runN c.D c.M x.A.toNat k).Lo) ((gt ((runR c.D c.M ↑k).1) ((x.A : Int).toNat)).Lo) = (runN c.D c.M x.A.toNat (k + 1)).Lo := (by first | (rw [hrn1 (by omega) x.A]; done) | (rw [hrn2 (by omega) x.A]; done) | (rw [hrn1 (by omega) x.A]; rfl) | (rw [hrn2 (by omega) x.A]; rfl))
                              rw [he95]
                              have he96 : max ((runN c.D c.M x.A.toNat k).Hi) ((gt ((runR c.D c.M ↑k).1) ((x.A : Int).toNat)).Hi) = (runN c.D c.M x.A.toNat (k + 1)).Hi := (by first | (rw [hrn1 (by omega) x.A]; done) | (rw [hrn2 (by omega) x.A]; done) | (rw [hrn1 (by omega) x.A]; rfl) | (rw [hrn2 (by omega) x.A]; rfl))
                              rw [he96]
                              refine WK.next ((k + 1, m30)) rfl (.refl _) (.cons rfl (.cons rfl (.cons rfl (.cons rfl (.cons rfl (.cons rfl (.cons rfl .nil))))))) ?_ ?_
                              · exact ⟨Mem.le_trans hmm hle32, by omega⟩
                              · (dsimp only; omega)
                    · refine WL.yes rfl rfl ?_
                      refine WL.x (X.move rfl) (by decide) ?_
                      refine WL.no rfl rfl rfl (by decide) ?_
                      refine WL.no rfl rfl rfl (by decide) ?_
                      refine WL.yes rfl rfl ?_
                      refine WL.x (X.pickF rfl rfl rfl) (by decide) ?_
                      refine WL.x (X.pickF rfl rfl rfl) (by decide) ?_
                      refine WL.nil ?_
                      refine WK.nThen ?_
                      refine WC.condF rfl ?_
                      refine WC.skip ?_
                      refine WK.nThen ?_
                      refine WC.seq ?_
                      refine WC.seq ?_
                      refine WC.region ?_
                      refine WL.x (X.move rfl) (by decide) ?_
                      refine WL.condn (X.neq rfl rfl) (by decide) (fun h97 => ?_) (fun h97 => ?_)
                      · refine WL.nil ?_
                        refine WK.nThen ?_
                        refine WC.condT rfl ?_
                        refine WC.exit ?_
                        refine WK.eThen ?_
                        refine WK.eHit ?_
                        refine WK.nThen ?_
                        refine WC.region ?_
                        refine WL.x (X.move rfl) (by decide) ?_
                        refine WL.x (X.add rfl rfl (by omega) (by omega)) (by decide) ?_
                        refine WL.x (X.assign rfl) (by decide) ?_
                        refine WL.nil ?_
                        refine WK.nThen ?_
                        have he98 : (runN c.D c.M x.A.toNat k).Lo = (runN c.D c.M x.A.toNat (k + 1)).Lo := (by first | (rw [hrn1 (by omega) x.A]; done) | (rw [hrn2 (by omega) x.A]; done) | (rw [hrn1 (by omega) x.A]; rfl) | (rw [hrn2 (by omega) x.A]; rfl))
                        rw [he98]
                        have he99 : (runN c.D c.M x.A.toNat k).Hi = (runN c.D c.M x.A.toNat (k + 1)).Hi := (by first | (rw [hrn1 (by omega) x.A]; done) | (rw [hrn2 (by omega) x.A]; done) | (rw [hrn1 (by omega) x.A]; rfl) | (rw [hrn2 (by omega) x.A]; rfl))
                        rw [he99]
                        refine WK.next ((k + 1, m30)) rfl (.refl _) (.cons rfl (.cons rfl (.cons rfl (.cons rfl (.cons rfl (.cons rfl (.cons rfl .nil))))))) ?_ ?_
                        · exact ⟨Mem.le_trans hmm hle32, by omega⟩
                        · (dsimp only; omega)
                      · refine WL.nil ?_
                        refine WK.nThen ?_
                        refine WC.condF rfl ?_
                        refine WC.skip ?_
                        refine WK.nThen ?_
                        refine WC.seq ?_
                        refine WC.seq ?_
                        have hrl1 := (hrl (by omega)).1
                        have hrl2 := (hrl (by omega)).2
                        refine WC.region ?_
                        refine WL.x (X.move rfl) (by decide) ?_
                        refine WL.x (X.len Try.runUnderlying22 rfl hs35) (by decide) ?_
                        refine WL.x (X.field Try.runUnderlying28 rfl Try.sizeOf25 rfl) (by decide) ?_
                        refine WL.x (X.field Try.runUnderlying25 rfl Try.sizeOf22 rfl) (by decide) ?_
                        refine WL.x (X.loadB (k := 4) Try.isAgg22 rfl rfl rfl) (by decide) ?_
                        refine WL.x (X.len Try.runUnderlying22 rfl hs2) (by decide) ?_
                        refine WL.x (X.add rfl rfl (by omega) (by omega)) (by decide) ?_
                        refine WL.condn (X.neq rfl rfl) (by decide) (fun h100 => ?_) (fun h100 => ?_)
                        · refine WL.x (X.move rfl) (by decide) ?_
                          refine WL.no rfl rfl rfl (by decide) ?_
                          refine WL.no rfl rfl rfl (by decide) ?_
                          refine WL.no rfl rfl rfl (by decide) ?_
                          refine WL.no rfl rfl rfl (by decide) ?_
                          refine WL.no rfl rfl rfl (by decide) ?_
                          refine WL.no rfl rfl rfl (by decide) ?_
                          refine WL.no rfl rfl rfl (by decide) ?_
                          refine WL.x (X.pickT rfl rfl rfl) (by decide) ?_
                          refine WL.nil ?_
                          refine WK.nThen ?_
                          refine WC.condT rfl ?_
                          refine WC.seq ?_
                          refine WC.region ?_
                          refine WL.x (X.assign rfl) (by decide) ?_
                          refine WL.nil ?_
                          refine WK.nThen ?_
                          refine WC.ret ?_
                          refine WK.rThen ?_
                          refine WK.rBlock ?_
                          refine WK.rThen ?_
                          refine WK.rThen ?_
                          refine WK.rBlock ?_
                          refine WK.rThen ?_
                          refine WK.ret1 rfl rfl (fun w' hw' => Ret.exact hw' ?_)
                          first | rfl | (exfalso; omega) | (exfalso; contradiction) | exact (bool_true (by obtain rfl : k = 401 := (by omega); exact hre)).symm | exact (bool_true (by first | omega | assumption)).symm
                        · refine WL.x (X.move rfl) (by decide) ?_
                          refine WL.yes rfl rfl ?_
                          refine WL.x (X.move rfl) (by decide) ?_
                          refine WL.yes rfl rfl ?_
                          refine WL.xe (E.idxN 0 Try.runUnderlying22 Try.sizeOf31 rfl rfl hs35 (by omega)) (by decide) (fun p101 hp102 => ?_)
                          refine WL.yes rfl rfl ?_
                          refine WL.xe (E.loadAgg Try.isAgg31 Try.sizeOf31 rfl hp102) (by decide) (fun c103 hc104 => ?_)
                          obtain rfl := hc104
                          refine WL.yes rfl rfl ?_
                          refine WL.x (X.move rfl) (by decide) ?_
                          refine WL.yes rfl rfl ?_
                          refine WL.x (X.move rfl) (by decide) ?_
                          refine WL.yes rfl rfl ?_
                          refine WL.x (V := Value.agg [.int .i64 (↑k), .int .i64 (↑k)].toArray) (X.build Try.zeroValue31 Try.runUnderlying31 (places31 _ Try.underlying31) rfl rfl) (by decide) ?_
                          refine WL.yes rfl rfl ?_
                          refine WL.condn (X.neqS (a := gt ((runR c.D c.M ↑k).1) 0) (b := (Span.mk (↑k) (↑k))) gd31 (fun w => eqS31 9998 _ _ w) rfl rfl) (by decide) (fun h105 => ?_) (fun h105 => ?_)
                          · refine WL.x (X.pickF rfl rfl rfl) (by decide) ?_
                            refine WL.nil ?_
                            refine WK.nThen ?_
                            refine WC.condT rfl ?_
                            refine WC.seq ?_
                            refine WC.region ?_
                            refine WL.x (X.assign rfl) (by decide) ?_
                            refine WL.nil ?_
                            refine WK.nThen ?_
                            refine WC.ret ?_
                            refine WK.rThen ?_
                            refine WK.rBlock ?_
                            refine WK.rThen ?_
                            refine WK.rThen ?_
                            refine WK.rBlock ?_
                            refine WK.rThen ?_
                            refine WK.ret1 rfl rfl (fun w' hw' => Ret.exact hw' ?_)
                            first | rfl | (exfalso; omega) | (exfalso; contradiction) | exact (bool_true (by obtain rfl : k = 401 := (by omega); exact hre)).symm | exact (bool_true (by first | omega | assumption)).symm
                          · refine WL.x (X.pickF rfl rfl rfl) (by decide) ?_
                            refine WL.nil ?_
                            refine WK.nThen ?_
                            refine WC.condF rfl ?_
                            refine WC.skip ?_
                            refine WK.nThen ?_
                            refine WC.draw (π := (.cons 0 (.cons 1 (.cons 2 (.cons 3 (.cons 4 (.cons 5 (.cons 6 (.cons 7 (.cons 8 (.cons 9 (.cons 10 (.cons 11 (.cons 12 (.cons 13 (.cons 14 (.cons 15 (.cons 16 (.cons 17 (.cons 18 (.cons 19 .done))))))))))))))))))))) [19] [19] rfl (by kernel_rfl) ?_
                            refine DW.x rfl rfl (X.field Try.runUnderlying31 rfl Try.sizeOf3 rfl) (by decide) ?_
                            refine DW.x rfl rfl (X.loadB (k := 0) Try.isAgg3 rfl rfl rfl) (by decide) ?_
                            refine DW.x rfl rfl (X.move rfl) (by decide) ?_
                            refine DW.x rfl rfl (X.field Try.runUnderlying36 rfl Try.sizeOf3 rfl) (by decide) ?_
                            refine DW.x rfl rfl (X.loadB (k := 3) Try.isAgg3 rfl rfl rfl) (by decide) ?_
                            refine DW.xe rfl rfl (E.idx Try.runUnderlying22 Try.sizeOf31 rfl rfl hs35 (by omega) (by omega)) (by decide) (fun p106 hp107 => ?_)
                            have hp108 := At.Span_0 hp107
                            refine DW.x rfl rfl (X.field Try.runUnderlying31 rfl Try.sizeOf3 rfl) (by decide) ?_
                            refine DW.x rfl rfl (X.loadInt Try.isAgg3 rfl hp108) (by decide) ?_
                            refine DW.x rfl rfl (X.mn rfl rfl) (by decide) ?_
                            refine DW.x rfl rfl (X.field Try.runUnderlying31 rfl Try.sizeOf3 rfl) (by decide) ?_
                            refine DW.x rfl rfl (X.loadB (k := 0) Try.isAgg3 rfl rfl rfl) (by decide) ?_
                            refine DW.x rfl rfl (X.move rfl) (by decide) ?_
                            refine DW.x rfl rfl (X.field Try.runUnderlying36 rfl Try.sizeOf3 rfl) (by decide) ?_
                            refine DW.x rfl rfl (X.loadB (k := 3) Try.isAgg3 rfl rfl rfl) (by decide) ?_
                            refine DW.xe rfl rfl (E.idx Try.runUnderlying22 Try.sizeOf31 rfl rfl hs35 (by omega) (by omega)) (by decide) (fun p109 hp110 => ?_)
                            have hp111 := At.Span_1 hp110
                            refine DW.x rfl rfl (X.field Try.runUnderlying31 rfl Try.sizeOf3 rfl) (by decide) ?_
                            refine DW.x rfl rfl (X.loadInt Try.isAgg3 rfl hp111) (by decide) ?_
                            refine DW.x rfl rfl (X.mx rfl rfl) (by decide) ?_
                            refine DW.x (V := Value.agg [.int .i64 (min ((runN c.D c.M x.A.toNat k).Lo) ((gt ((runR c.D c.M ↑k).1) ((x.A : Int).toNat)).Lo)), .int .i64 (max ((runN c.D c.M x.A.toNat k).Hi) ((gt ((runR c.D c.M ↑k).1) ((x.A : Int).toNat)).Hi))].toArray) rfl rfl (X.build Try.zeroValue31 Try.runUnderlying31 (places31 _ Try.underlying31) rfl rfl) (by decide) ?_
                            refine DW.ts rfl rfl rfl rfl (T.storeBA (k := 0) Try.sizeOf31 rfl rfl rfl (one_cons rfl (one_cons rfl one_nil)) rfl rfl) ?_
                            refine DW.nil ?_
                            refine WK.nBlock ?_
                            refine WK.nThen ?_
                            refine WC.region ?_
                            refine WL.x (X.move rfl) (by decide) ?_
                            refine WL.x (X.add rfl rfl (by omega) (by omega)) (by decide) ?_
                            refine WL.x (X.assign rfl) (by decide) ?_
                            refine WL.nil ?_
                            refine WK.nThen ?_
                            have he112 : min ((runN c.D c.M x.A.toNat k).Lo) ((gt ((runR c.D c.M ↑k).1) ((x.A : Int).toNat)).Lo) = (runN c.D c.M x.A.toNat (k + 1)).Lo := (by first | (rw [hrn1 (by omega) x.A]; done) | (rw [hrn2 (by omega) x.A]; done) | (rw [hrn1 (by omega) x.A]; rfl) | (rw [hrn2 (by omega) x.A]; rfl))
                            rw [he112]
                            have he113 : max ((runN c.D c.M x.A.toNat k).Hi) ((gt ((runR c.D c.M ↑k).1) ((x.A : Int).toNat)).Hi) = (runN c.D c.M x.A.toNat (k + 1)).Hi := (by first | (rw [hrn1 (by omega) x.A]; done) | (rw [hrn2 (by omega) x.A]; done) | (rw [hrn1 (by omega) x.A]; rfl) | (rw [hrn2 (by omega) x.A]; rfl))
                            rw [he113]
                            refine WK.next ((k + 1, m30)) rfl (.refl _) (.cons rfl (.cons rfl (.cons rfl (.cons rfl (.cons rfl (.cons rfl (.cons rfl .nil))))))) ?_ ?_
                            · exact ⟨Mem.le_trans hmm hle32, by omega⟩
                            · (dsimp only; omega)
                · refine WL.x (X.move rfl) (by decide) ?_
                  refine WL.no rfl rfl rfl (by decide) ?_
                  refine WL.no rfl rfl rfl (by decide) ?_
                  refine WL.no rfl rfl rfl (by decide) ?_
                  refine WL.no rfl rfl rfl (by decide) ?_
                  refine WL.x (X.pickF rfl rfl rfl) (by decide) ?_
                  refine WL.x (OpX.f (X.neqB Try.underlying4 rfl rfl) (fun h => h rfl)) (by decide) ?_
                  refine WL.x (X.move rfl) (by decide) ?_
                  refine WL.yes rfl rfl ?_
                  refine WL.x (X.move rfl) (by decide) ?_
                  refine WL.yes rfl rfl ?_
                  refine WL.condn (X.neq rfl rfl) (by decide) (fun h114 => ?_) (fun h114 => ?_)
                  · refine WL.yes rfl rfl ?_
                    refine WL.x (X.move rfl) (by decide) ?_
                    refine WL.yes rfl rfl ?_
                    refine WL.x (X.move rfl) (by decide) ?_
                    refine WL.yes rfl rfl ?_
                    refine WL.condn (X.neq rfl rfl) (by decide) (fun h115 => ?_) (fun h115 => ?_)
                    · refine WL.yes rfl rfl ?_
                      refine WL.x (X.pickT rfl rfl rfl) (by decide) ?_
                      refine WL.x (X.pickF rfl rfl rfl) (by decide) ?_
                      refine WL.nil ?_
                      refine WK.nThen ?_
                      refine WC.condT rfl ?_
                      refine WC.seq ?_
                      refine WC.region ?_
                      refine WL.x (X.assign rfl) (by decide) ?_
                      refine WL.nil ?_
                      refine WK.nThen ?_
                      refine WC.ret ?_
                      refine WK.rThen ?_
                      refine WK.rBlock ?_
                      refine WK.rThen ?_
                      refine WK.rThen ?_
                      refine WK.rBlock ?_
                      refine WK.rThen ?_
                      refine WK.ret1 rfl rfl (fun w' hw' => Ret.exact hw' ?_)
                      first | rfl | (exfalso; omega) | (exfalso; contradiction) | exact (bool_true (by obtain rfl : k = 401 := (by omega); exact hre)).symm | exact (bool_true (by first | omega | assumption)).symm
                    · refine WL.yes rfl rfl ?_
                      refine WL.x (X.pickT rfl rfl rfl) (by decide) ?_
                      refine WL.x (X.pickF rfl rfl rfl) (by decide) ?_
                      refine WL.nil ?_
                      refine WK.nThen ?_
                      refine WC.condF rfl ?_
                      refine WC.skip ?_
                      refine WK.nThen ?_
                      refine WC.seq ?_
                      refine WC.seq ?_
                      refine WC.region ?_
                      refine WL.x (X.move rfl) (by decide) ?_
                      refine WL.condn (X.neq rfl rfl) (by decide) (fun h116 => ?_) (fun h116 => ?_)
                      · refine WL.nil ?_
                        refine WK.nThen ?_
                        refine WC.condT rfl ?_
                        refine WC.exit ?_
                        refine WK.eThen ?_
                        refine WK.eHit ?_
                        refine WK.nThen ?_
                        refine WC.region ?_
                        refine WL.x (X.move rfl) (by decide) ?_
                        refine WL.x (X.add rfl rfl (by omega) (by omega)) (by decide) ?_
                        refine WL.x (X.assign rfl) (by decide) ?_
                        refine WL.nil ?_
                        refine WK.nThen ?_
                        have he117 : (runN c.D c.M x.A.toNat k).Lo = (runN c.D c.M x.A.toNat (k + 1)).Lo := (by first | (rw [hrn1 (by omega) x.A]; done) | (rw [hrn2 (by omega) x.A]; done) | (rw [hrn1 (by omega) x.A]; rfl) | (rw [hrn2 (by omega) x.A]; rfl))
                        rw [he117]
                        have he118 : (runN c.D c.M x.A.toNat k).Hi = (runN c.D c.M x.A.toNat (k + 1)).Hi := (by first | (rw [hrn1 (by omega) x.A]; done) | (rw [hrn2 (by omega) x.A]; done) | (rw [hrn1 (by omega) x.A]; rfl) | (rw [hrn2 (by omega) x.A]; rfl))
                        rw [he118]
                        refine WK.next ((k + 1, m30)) rfl (.refl _) (.cons rfl (.cons rfl (.cons rfl (.cons rfl (.cons rfl (.cons rfl (.cons rfl .nil))))))) ?_ ?_
                        · exact ⟨Mem.le_trans hmm hle32, by omega⟩
                        · (dsimp only; omega)
                      · refine WL.nil ?_
                        refine WK.nThen ?_
                        refine WC.condF rfl ?_
                        refine WC.skip ?_
                        refine WK.nThen ?_
                        refine WC.seq ?_
                        refine WC.seq ?_
                        have hrl1 := (hrl (by omega)).1
                        have hrl2 := (hrl (by omega)).2
                        refine WC.region ?_
                        refine WL.x (X.move rfl) (by decide) ?_
                        refine WL.x (X.len Try.runUnderlying22 rfl hs35) (by decide) ?_
                        refine WL.x (X.field Try.runUnderlying28 rfl Try.sizeOf25 rfl) (by decide) ?_
                        refine WL.x (X.field Try.runUnderlying25 rfl Try.sizeOf22 rfl) (by decide) ?_
                        refine WL.x (X.loadB (k := 4) Try.isAgg22 rfl rfl rfl) (by decide) ?_
                        refine WL.x (X.len Try.runUnderlying22 rfl hs2) (by decide) ?_
                        refine WL.x (X.add rfl rfl (by omega) (by omega)) (by decide) ?_
                        refine WL.condn (X.neq rfl rfl) (by decide) (fun h119 => ?_) (fun h119 => ?_)
                        · refine WL.x (X.move rfl) (by decide) ?_
                          refine WL.no rfl rfl rfl (by decide) ?_
                          refine WL.no rfl rfl rfl (by decide) ?_
                          refine WL.no rfl rfl rfl (by decide) ?_
                          refine WL.no rfl rfl rfl (by decide) ?_
                          refine WL.no rfl rfl rfl (by decide) ?_
                          refine WL.no rfl rfl rfl (by decide) ?_
                          refine WL.no rfl rfl rfl (by decide) ?_
                          refine WL.x (X.pickT rfl rfl rfl) (by decide) ?_
                          refine WL.nil ?_
                          refine WK.nThen ?_
                          refine WC.condT rfl ?_
                          refine WC.seq ?_
                          refine WC.region ?_
                          refine WL.x (X.assign rfl) (by decide) ?_
                          refine WL.nil ?_
                          refine WK.nThen ?_
                          refine WC.ret ?_
                          refine WK.rThen ?_
                          refine WK.rBlock ?_
                          refine WK.rThen ?_
                          refine WK.rThen ?_
                          refine WK.rBlock ?_
                          refine WK.rThen ?_
                          refine WK.ret1 rfl rfl (fun w' hw' => Ret.exact hw' ?_)
                          first | rfl | (exfalso; omega) | (exfalso; contradiction) | exact (bool_true (by obtain rfl : k = 401 := (by omega); exact hre)).symm | exact (bool_true (by first | omega | assumption)).symm
                        · refine WL.x (X.move rfl) (by decide) ?_
                          refine WL.yes rfl rfl ?_
                          refine WL.x (X.move rfl) (by decide) ?_
                          refine WL.yes rfl rfl ?_
                          refine WL.xe (E.idxN 0 Try.runUnderlying22 Try.sizeOf31 rfl rfl hs35 (by omega)) (by decide) (fun p120 hp121 => ?_)
                          refine WL.yes rfl rfl ?_
                          refine WL.xe (E.loadAgg Try.isAgg31 Try.sizeOf31 rfl hp121) (by decide) (fun c122 hc123 => ?_)
                          obtain rfl := hc123
                          refine WL.yes rfl rfl ?_
                          refine WL.x (X.move rfl) (by decide) ?_
                          refine WL.yes rfl rfl ?_
                          refine WL.x (X.move rfl) (by decide) ?_
                          refine WL.yes rfl rfl ?_
                          refine WL.x (V := Value.agg [.int .i64 (↑k), .int .i64 (↑k)].toArray) (X.build Try.zeroValue31 Try.runUnderlying31 (places31 _ Try.underlying31) rfl rfl) (by decide) ?_
                          refine WL.yes rfl rfl ?_
                          refine WL.condn (X.neqS (a := gt ((runR c.D c.M ↑k).1) 0) (b := (Span.mk (↑k) (↑k))) gd31 (fun w => eqS31 9998 _ _ w) rfl rfl) (by decide) (fun h124 => ?_) (fun h124 => ?_)
                          · refine WL.x (X.pickF rfl rfl rfl) (by decide) ?_
                            refine WL.nil ?_
                            refine WK.nThen ?_
                            refine WC.condT rfl ?_
                            refine WC.seq ?_
                            refine WC.region ?_
                            refine WL.x (X.assign rfl) (by decide) ?_
                            refine WL.nil ?_
                            refine WK.nThen ?_
                            refine WC.ret ?_
                            refine WK.rThen ?_
                            refine WK.rBlock ?_
                            refine WK.rThen ?_
                            refine WK.rThen ?_
                            refine WK.rBlock ?_
                            refine WK.rThen ?_
                            refine WK.ret1 rfl rfl (fun w' hw' => Ret.exact hw' ?_)
                            first | rfl | (exfalso; omega) | (exfalso; contradiction) | exact (bool_true (by obtain rfl : k = 401 := (by omega); exact hre)).symm | exact (bool_true (by first | omega | assumption)).symm
                          · refine WL.x (X.pickF rfl rfl rfl) (by decide) ?_
                            refine WL.nil ?_
                            refine WK.nThen ?_
                            refine WC.condF rfl ?_
                            refine WC.skip ?_
                            refine WK.nThen ?_
                            refine WC.draw (π := (.cons 0 (.cons 1 (.cons 2 (.cons 3 (.cons 4 (.cons 5 (.cons 6 (.cons 7 (.cons 8 (.cons 9 (.cons 10 (.cons 11 (.cons 12 (.cons 13 (.cons 14 (.cons 15 (.cons 16 (.cons 17 (.cons 18 (.cons 19 .done))))))))))))))))))))) [19] [19] rfl (by kernel_rfl) ?_
                            refine DW.x rfl rfl (X.field Try.runUnderlying31 rfl Try.sizeOf3 rfl) (by decide) ?_
                            refine DW.x rfl rfl (X.loadB (k := 0) Try.isAgg3 rfl rfl rfl) (by decide) ?_
                            refine DW.x rfl rfl (X.move rfl) (by decide) ?_
                            refine DW.x rfl rfl (X.field Try.runUnderlying36 rfl Try.sizeOf3 rfl) (by decide) ?_
                            refine DW.x rfl rfl (X.loadB (k := 3) Try.isAgg3 rfl rfl rfl) (by decide) ?_
                            refine DW.xe rfl rfl (E.idx Try.runUnderlying22 Try.sizeOf31 rfl rfl hs35 (by omega) (by omega)) (by decide) (fun p125 hp126 => ?_)
                            have hp127 := At.Span_0 hp126
                            refine DW.x rfl rfl (X.field Try.runUnderlying31 rfl Try.sizeOf3 rfl) (by decide) ?_
                            refine DW.x rfl rfl (X.loadInt Try.isAgg3 rfl hp127) (by decide) ?_
                            refine DW.x rfl rfl (X.mn rfl rfl) (by decide) ?_
                            refine DW.x rfl rfl (X.field Try.runUnderlying31 rfl Try.sizeOf3 rfl) (by decide) ?_
                            refine DW.x rfl rfl (X.loadB (k := 0) Try.isAgg3 rfl rfl rfl) (by decide) ?_
                            refine DW.x rfl rfl (X.move rfl) (by decide) ?_
                            refine DW.x rfl rfl (X.field Try.runUnderlying36 rfl Try.sizeOf3 rfl) (by decide) ?_
                            refine DW.x rfl rfl (X.loadB (k := 3) Try.isAgg3 rfl rfl rfl) (by decide) ?_
                            refine DW.xe rfl rfl (E.idx Try.runUnderlying22 Try.sizeOf31 rfl rfl hs35 (by omega) (by omega)) (by decide) (fun p128 hp129 => ?_)
                            have hp130 := At.Span_1 hp129
                            refine DW.x rfl rfl (X.field Try.runUnderlying31 rfl Try.sizeOf3 rfl) (by decide) ?_
                            refine DW.x rfl rfl (X.loadInt Try.isAgg3 rfl hp130) (by decide) ?_
                            refine DW.x rfl rfl (X.mx rfl rfl) (by decide) ?_
                            refine DW.x (V := Value.agg [.int .i64 (min ((runN c.D c.M x.A.toNat k).Lo) ((gt ((runR c.D c.M ↑k).1) ((x.A : Int).toNat)).Lo)), .int .i64 (max ((runN c.D c.M x.A.toNat k).Hi) ((gt ((runR c.D c.M ↑k).1) ((x.A : Int).toNat)).Hi))].toArray) rfl rfl (X.build Try.zeroValue31 Try.runUnderlying31 (places31 _ Try.underlying31) rfl rfl) (by decide) ?_
                            refine DW.ts rfl rfl rfl rfl (T.storeBA (k := 0) Try.sizeOf31 rfl rfl rfl (one_cons rfl (one_cons rfl one_nil)) rfl rfl) ?_
                            refine DW.nil ?_
                            refine WK.nBlock ?_
                            refine WK.nThen ?_
                            refine WC.region ?_
                            refine WL.x (X.move rfl) (by decide) ?_
                            refine WL.x (X.add rfl rfl (by omega) (by omega)) (by decide) ?_
                            refine WL.x (X.assign rfl) (by decide) ?_
                            refine WL.nil ?_
                            refine WK.nThen ?_
                            have he131 : min ((runN c.D c.M x.A.toNat k).Lo) ((gt ((runR c.D c.M ↑k).1) ((x.A : Int).toNat)).Lo) = (runN c.D c.M x.A.toNat (k + 1)).Lo := (by first | (rw [hrn1 (by omega) x.A]; done) | (rw [hrn2 (by omega) x.A]; done) | (rw [hrn1 (by omega) x.A]; rfl) | (rw [hrn2 (by omega) x.A]; rfl))
                            rw [he131]
                            have he132 : max ((runN c.D c.M x.A.toNat k).Hi) ((gt ((runR c.D c.M ↑k).1) ((x.A : Int).toNat)).Hi) = (runN c.D c.M x.A.toNat (k + 1)).Hi := (by first | (rw [hrn1 (by omega) x.A]; done) | (rw [hrn2 (by omega) x.A]; done) | (rw [hrn1 (by omega) x.A]; rfl) | (rw [hrn2 (by omega) x.A]; rfl))
                            rw [he132]
                            refine WK.next ((k + 1, m30)) rfl (.refl _) (.cons rfl (.cons rfl (.cons rfl (.cons rfl (.cons rfl (.cons rfl (.cons rfl .nil))))))) ?_ ?_
                            · exact ⟨Mem.le_trans hmm hle32, by omega⟩
                            · (dsimp only; omega)
                  · refine WL.yes rfl rfl ?_
                    refine WL.x (X.move rfl) (by decide) ?_
                    refine WL.no rfl rfl rfl (by decide) ?_
                    refine WL.no rfl rfl rfl (by decide) ?_
                    refine WL.yes rfl rfl ?_
                    refine WL.x (X.pickF rfl rfl rfl) (by decide) ?_
                    refine WL.x (X.pickF rfl rfl rfl) (by decide) ?_
                    refine WL.nil ?_
                    refine WK.nThen ?_
                    refine WC.condF rfl ?_
                    refine WC.skip ?_
                    refine WK.nThen ?_
                    refine WC.seq ?_
                    refine WC.seq ?_
                    refine WC.region ?_
                    refine WL.x (X.move rfl) (by decide) ?_
                    refine WL.condn (X.neq rfl rfl) (by decide) (fun h133 => ?_) (fun h133 => ?_)
                    · refine WL.nil ?_
                      refine WK.nThen ?_
                      refine WC.condT rfl ?_
                      refine WC.exit ?_
                      refine WK.eThen ?_
                      refine WK.eHit ?_
                      refine WK.nThen ?_
                      refine WC.region ?_
                      refine WL.x (X.move rfl) (by decide) ?_
                      refine WL.x (X.add rfl rfl (by omega) (by omega)) (by decide) ?_
                      refine WL.x (X.assign rfl) (by decide) ?_
                      refine WL.nil ?_
                      refine WK.nThen ?_
                      have he134 : (runN c.D c.M x.A.toNat k).Lo = (runN c.D c.M x.A.toNat (k + 1)).Lo := (by first | (rw [hrn1 (by omega) x.A]; done) | (rw [hrn2 (by omega) x.A]; done) | (rw [hrn1 (by omega) x.A]; rfl) | (rw [hrn2 (by omega) x.A]; rfl))
                      rw [he134]
                      have he135 : (runN c.D c.M x.A.toNat k).Hi = (runN c.D c.M x.A.toNat (k + 1)).Hi := (by first | (rw [hrn1 (by omega) x.A]; done) | (rw [hrn2 (by omega) x.A]; done) | (rw [hrn1 (by omega) x.A]; rfl) | (rw [hrn2 (by omega) x.A]; rfl))
                      rw [he135]
                      refine WK.next ((k + 1, m30)) rfl (.refl _) (.cons rfl (.cons rfl (.cons rfl (.cons rfl (.cons rfl (.cons rfl (.cons rfl .nil))))))) ?_ ?_
                      · exact ⟨Mem.le_trans hmm hle32, by omega⟩
                      · (dsimp only; omega)
                    · refine WL.nil ?_
                      refine WK.nThen ?_
                      refine WC.condF rfl ?_
                      refine WC.skip ?_
                      refine WK.nThen ?_
                      refine WC.seq ?_
                      refine WC.seq ?_
                      have hrl1 := (hrl (by omega)).1
                      have hrl2 := (hrl (by omega)).2
                      refine WC.region ?_
                      refine WL.x (X.move rfl) (by decide) ?_
                      refine WL.x (X.len Try.runUnderlying22 rfl hs35) (by decide) ?_
                      refine WL.x (X.field Try.runUnderlying28 rfl Try.sizeOf25 rfl) (by decide) ?_
                      refine WL.x (X.field Try.runUnderlying25 rfl Try.sizeOf22 rfl) (by decide) ?_
                      refine WL.x (X.loadB (k := 4) Try.isAgg22 rfl rfl rfl) (by decide) ?_
                      refine WL.x (X.len Try.runUnderlying22 rfl hs2) (by decide) ?_
                      refine WL.x (X.add rfl rfl (by omega) (by omega)) (by decide) ?_
                      refine WL.condn (X.neq rfl rfl) (by decide) (fun h136 => ?_) (fun h136 => ?_)
                      · refine WL.x (X.move rfl) (by decide) ?_
                        refine WL.no rfl rfl rfl (by decide) ?_
                        refine WL.no rfl rfl rfl (by decide) ?_
                        refine WL.no rfl rfl rfl (by decide) ?_
                        refine WL.no rfl rfl rfl (by decide) ?_
                        refine WL.no rfl rfl rfl (by decide) ?_
                        refine WL.no rfl rfl rfl (by decide) ?_
                        refine WL.no rfl rfl rfl (by decide) ?_
                        refine WL.x (X.pickT rfl rfl rfl) (by decide) ?_
                        refine WL.nil ?_
                        refine WK.nThen ?_
                        refine WC.condT rfl ?_
                        refine WC.seq ?_
                        refine WC.region ?_
                        refine WL.x (X.assign rfl) (by decide) ?_
                        refine WL.nil ?_
                        refine WK.nThen ?_
                        refine WC.ret ?_
                        refine WK.rThen ?_
                        refine WK.rBlock ?_
                        refine WK.rThen ?_
                        refine WK.rThen ?_
                        refine WK.rBlock ?_
                        refine WK.rThen ?_
                        refine WK.ret1 rfl rfl (fun w' hw' => Ret.exact hw' ?_)
                        first | rfl | (exfalso; omega) | (exfalso; contradiction) | exact (bool_true (by obtain rfl : k = 401 := (by omega); exact hre)).symm | exact (bool_true (by first | omega | assumption)).symm
                      · refine WL.x (X.move rfl) (by decide) ?_
                        refine WL.yes rfl rfl ?_
                        refine WL.x (X.move rfl) (by decide) ?_
                        refine WL.yes rfl rfl ?_
                        refine WL.xe (E.idxN 0 Try.runUnderlying22 Try.sizeOf31 rfl rfl hs35 (by omega)) (by decide) (fun p137 hp138 => ?_)
                        refine WL.yes rfl rfl ?_
                        refine WL.xe (E.loadAgg Try.isAgg31 Try.sizeOf31 rfl hp138) (by decide) (fun c139 hc140 => ?_)
                        obtain rfl := hc140
                        refine WL.yes rfl rfl ?_
                        refine WL.x (X.move rfl) (by decide) ?_
                        refine WL.yes rfl rfl ?_
                        refine WL.x (X.move rfl) (by decide) ?_
                        refine WL.yes rfl rfl ?_
                        refine WL.x (V := Value.agg [.int .i64 (↑k), .int .i64 (↑k)].toArray) (X.build Try.zeroValue31 Try.runUnderlying31 (places31 _ Try.underlying31) rfl rfl) (by decide) ?_
                        refine WL.yes rfl rfl ?_
                        refine WL.condn (X.neqS (a := gt ((runR c.D c.M ↑k).1) 0) (b := (Span.mk (↑k) (↑k))) gd31 (fun w => eqS31 9998 _ _ w) rfl rfl) (by decide) (fun h141 => ?_) (fun h141 => ?_)
                        · refine WL.x (X.pickF rfl rfl rfl) (by decide) ?_
                          refine WL.nil ?_
                          refine WK.nThen ?_
                          refine WC.condT rfl ?_
                          refine WC.seq ?_
                          refine WC.region ?_
                          refine WL.x (X.assign rfl) (by decide) ?_
                          refine WL.nil ?_
                          refine WK.nThen ?_
                          refine WC.ret ?_
                          refine WK.rThen ?_
                          refine WK.rBlock ?_
                          refine WK.rThen ?_
                          refine WK.rThen ?_
                          refine WK.rBlock ?_
                          refine WK.rThen ?_
                          refine WK.ret1 rfl rfl (fun w' hw' => Ret.exact hw' ?_)
                          first | rfl | (exfalso; omega) | (exfalso; contradiction) | exact (bool_true (by obtain rfl : k = 401 := (by omega); exact hre)).symm | exact (bool_true (by first | omega | assumption)).symm
                        · refine WL.x (X.pickF rfl rfl rfl) (by decide) ?_
                          refine WL.nil ?_
                          refine WK.nThen ?_
                          refine WC.condF rfl ?_
                          refine WC.skip ?_
                          refine WK.nThen ?_
                          refine WC.draw (π := (.cons 0 (.cons 1 (.cons 2 (.cons 3 (.cons 4 (.cons 5 (.cons 6 (.cons 7 (.cons 8 (.cons 9 (.cons 10 (.cons 11 (.cons 12 (.cons 13 (.cons 14 (.cons 15 (.cons 16 (.cons 17 (.cons 18 (.cons 19 .done))))))))))))))))))))) [19] [19] rfl (by kernel_rfl) ?_
                          refine DW.x rfl rfl (X.field Try.runUnderlying31 rfl Try.sizeOf3 rfl) (by decide) ?_
                          refine DW.x rfl rfl (X.loadB (k := 0) Try.isAgg3 rfl rfl rfl) (by decide) ?_
                          refine DW.x rfl rfl (X.move rfl) (by decide) ?_
                          refine DW.x rfl rfl (X.field Try.runUnderlying36 rfl Try.sizeOf3 rfl) (by decide) ?_
                          refine DW.x rfl rfl (X.loadB (k := 3) Try.isAgg3 rfl rfl rfl) (by decide) ?_
                          refine DW.xe rfl rfl (E.idx Try.runUnderlying22 Try.sizeOf31 rfl rfl hs35 (by omega) (by omega)) (by decide) (fun p142 hp143 => ?_)
                          have hp144 := At.Span_0 hp143
                          refine DW.x rfl rfl (X.field Try.runUnderlying31 rfl Try.sizeOf3 rfl) (by decide) ?_
                          refine DW.x rfl rfl (X.loadInt Try.isAgg3 rfl hp144) (by decide) ?_
                          refine DW.x rfl rfl (X.mn rfl rfl) (by decide) ?_
                          refine DW.x rfl rfl (X.field Try.runUnderlying31 rfl Try.sizeOf3 rfl) (by decide) ?_
                          refine DW.x rfl rfl (X.loadB (k := 0) Try.isAgg3 rfl rfl rfl) (by decide) ?_
                          refine DW.x rfl rfl (X.move rfl) (by decide) ?_
                          refine DW.x rfl rfl (X.field Try.runUnderlying36 rfl Try.sizeOf3 rfl) (by decide) ?_
                          refine DW.x rfl rfl (X.loadB (k := 3) Try.isAgg3 rfl rfl rfl) (by decide) ?_
                          refine DW.xe rfl rfl (E.idx Try.runUnderlying22 Try.sizeOf31 rfl rfl hs35 (by omega) (by omega)) (by decide) (fun p145 hp146 => ?_)
                          have hp147 := At.Span_1 hp146
                          refine DW.x rfl rfl (X.field Try.runUnderlying31 rfl Try.sizeOf3 rfl) (by decide) ?_
                          refine DW.x rfl rfl (X.loadInt Try.isAgg3 rfl hp147) (by decide) ?_
                          refine DW.x rfl rfl (X.mx rfl rfl) (by decide) ?_
                          refine DW.x (V := Value.agg [.int .i64 (min ((runN c.D c.M x.A.toNat k).Lo) ((gt ((runR c.D c.M ↑k).1) ((x.A : Int).toNat)).Lo)), .int .i64 (max ((runN c.D c.M x.A.toNat k).Hi) ((gt ((runR c.D c.M ↑k).1) ((x.A : Int).toNat)).Hi))].toArray) rfl rfl (X.build Try.zeroValue31 Try.runUnderlying31 (places31 _ Try.underlying31) rfl rfl) (by decide) ?_
                          refine DW.ts rfl rfl rfl rfl (T.storeBA (k := 0) Try.sizeOf31 rfl rfl rfl (one_cons rfl (one_cons rfl one_nil)) rfl rfl) ?_
                          refine DW.nil ?_
                          refine WK.nBlock ?_
                          refine WK.nThen ?_
                          refine WC.region ?_
                          refine WL.x (X.move rfl) (by decide) ?_
                          refine WL.x (X.add rfl rfl (by omega) (by omega)) (by decide) ?_
                          refine WL.x (X.assign rfl) (by decide) ?_
                          refine WL.nil ?_
                          refine WK.nThen ?_
                          have he148 : min ((runN c.D c.M x.A.toNat k).Lo) ((gt ((runR c.D c.M ↑k).1) ((x.A : Int).toNat)).Lo) = (runN c.D c.M x.A.toNat (k + 1)).Lo := (by first | (rw [hrn1 (by omega) x.A]; done) | (rw [hrn2 (by omega) x.A]; done) | (rw [hrn1 (by omega) x.A]; rfl) | (rw [hrn2 (by omega) x.A]; rfl))
                          rw [he148]
                          have he149 : max ((runN c.D c.M x.A.toNat k).Hi) ((gt ((runR c.D c.M ↑k).1) ((x.A : Int).toNat)).Hi) = (runN c.D c.M x.A.toNat (k + 1)).Hi := (by first | (rw [hrn1 (by omega) x.A]; done) | (rw [hrn2 (by omega) x.A]; done) | (rw [hrn1 (by omega) x.A]; rfl) | (rw [hrn2 (by omega) x.A]; rfl))
                          rw [he149]
                          refine WK.next ((k + 1, m30)) rfl (.refl _) (.cons rfl (.cons rfl (.cons rfl (.cons rfl (.cons rfl (.cons rfl (.cons rfl .nil))))))) ?_ ?_
                          · exact ⟨Mem.le_trans hmm hle32, by omega⟩
                          · (dsimp only; omega)
            · refine WL.nil ?_
              refine WK.nThen ?_
              refine WC.condF rfl ?_
              refine WC.exit ?_
              refine WK.eThen ?_
              refine WK.eThen ?_
              refine WK.eHit ?_
              refine WK.nThen ?_
              refine WC.seq ?_
              have hre := run_end (show (spanR c.D c.M x.A).2 = 0 by omega)
              refine WC.region ?_
              refine WL.x (X.move rfl) (by decide) ?_
              refine WL.x (X.move rfl) (by decide) ?_
              refine WL.yes rfl rfl ?_
              refine WL.x (X.loadBA (k := 0) Try.isAgg31 Try.sizeOf31 rfl rfl rfl) (by decide) ?_
              refine WL.yes rfl rfl ?_
              refine WL.x (X.loadBA (k := 2) Try.isAgg31 Try.sizeOf31 rfl rfl rfl) (by decide) ?_
              refine WL.yes rfl rfl ?_
              refine WL.x (X.eqlS (a := runN c.D c.M x.A.toNat k) (b := (spanR c.D c.M x.A).1) gd31 (fun w => eqS31 9998 _ _ w) rfl rfl) (by decide) ?_
              refine WL.x (X.pickT rfl rfl rfl) (by decide) ?_
              refine WL.x (X.assign rfl) (by decide) ?_
              refine WL.nil ?_
              refine WK.nThen ?_
              refine WC.ret ?_
              refine WK.ret1 rfl rfl (fun w' hw' => Ret.exact hw' ?_)
              first | rfl | (exfalso; omega) | (exfalso; contradiction) | exact (bool_true (by obtain rfl : k = 401 := (by omega); exact hre)).symm | exact (bool_true (by first | omega | assumption)).symm
  · refine WL.x (X.not rfl) (by decide) ?_
    refine WL.x (X.move rfl) (by decide) ?_
    refine WL.no rfl rfl rfl (by decide) ?_
    refine WL.no rfl rfl rfl (by decide) ?_
    refine WL.no rfl rfl rfl (by decide) ?_
    refine WL.no rfl rfl rfl (by decide) ?_
    refine WL.x (X.pickT rfl rfl rfl) (by decide) ?_
    refine WL.nil ?_
    refine WK.nThen ?_
    refine WC.condT rfl ?_
    refine WC.seq ?_
    refine WC.region ?_
    refine WL.x (X.move rfl) (by decide) ?_
    refine WL.x (X.assign rfl) (by decide) ?_
    refine WL.nil ?_
    refine WK.nThen ?_
    refine WC.ret ?_
    refine WK.rThen ?_
    refine WK.ret1 rfl rfl (fun w' hw' => Ret.exact hw' ?_)
    first | rfl | (exfalso; omega) | (exfalso; contradiction) | exact (bool_true (by obtain rfl : k = 401 := (by omega); exact hre)).symm | exact (bool_true (by first | omega | assumption)).symm
end Go.Proofs.C2
