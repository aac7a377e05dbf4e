import Derived.Test.YtmnipmbgdbdjeaaC2Br
import Derived.Test.YtmnipmbgdbdjeaaC2W10
import Derived.Test.YtmnipmbgdbdjeaaC2LM
/- The walk of the statement ClocksMinimal: its function answers true. -/
namespace Go.Proofs.C2
open Go Go.Kx
set_option linter.unusedSimpArgs false
set_option linter.unusedVariables false
set_option maxRecDepth 20000 in
set_option maxHeartbeats 4000000 in
theorem law5 (m : Mem) (cc : List Value) (c : Clk) (hc : Enc.rd m cc c) (vset : Value) (set : List Int) (hset : Sl m vset set)  (ok0 : Rng.ok c) (ok1 : Rng.ok set) : Exact Try.prog 5 #[.agg cc.toArray, vset] m (.bool true) := by
  obtain ⟨v1, v3, v5, rfl, hs2, hs4, hs6⟩ := hc
  have hl7 := hs2.le
  have hl8 := hs4.le
  have hl9 := hs6.le
  have lset := hset.le
  refine Exact.start Try.func5 rfl Try.ntmps5 rfl fun wld => ?_
  refine WC.seq ?_
  refine WC.region ?_
  refine WL.tn (T.boxB rfl rfl) (by decide) fun b10 => ?_
  refine WL.x (X.assign rfl) (by decide) ?_
  refine WL.nil ?_
  refine WK.nThen ?_
  refine WC.seq ?_
  refine WC.region ?_
  refine WL.x (X.call Try.call19 rfl (awake19 _  )) (by decide) ?_
  refine WL.x (X.assign rfl) (by decide) ?_
  refine WL.nil ?_
  refine WK.nThen ?_
  refine WC.seq ?_
  refine WC.seq ?_
  refine WC.region ?_
  refine WL.x (X.loadBA (k := 0) Try.isAgg28 Try.sizeOf28 rfl rfl rfl) (by decide) ?_
  refine WL.cond (X.call Try.call20 rfl (few20 _ _ c ⟨_, _, _, rfl, hs2, hs4, hs6⟩ )) (by decide) (fun h11 => ?_) (fun h11 => ?_)
  · refine WL.x (X.not rfl) (by decide) ?_
    refine WL.x (X.move rfl) (by decide) ?_
    refine WL.yes rfl rfl ?_
    refine WL.x (X.move rfl) (by decide) ?_
    refine WL.yes rfl rfl ?_
    refine WL.x (X.len Try.runUnderlying29 rfl hset) (by decide) ?_
    refine WL.yes rfl rfl ?_
    refine WL.cond (X.gtr rfl rfl) (by decide) (fun h12 => ?_) (fun h12 => ?_)
    · refine WL.x (X.pickF rfl rfl rfl) (by decide) ?_
      refine WL.nil ?_
      refine WK.nThen ?_
      refine WC.condT rfl ?_
      refine WC.seq ?_
      refine WC.region ?_
      refine WL.x (X.move rfl) (by decide) ?_
      refine WL.x (X.assign rfl) (by decide) ?_
      refine WL.nil ?_
      refine WK.nThen ?_
      refine WC.ret ?_
      refine WK.rThen ?_
      refine WK.ret1 rfl rfl (fun w' hw' => Ret.exact hw' ?_)
      first | rfl | (exfalso; omega) | (exfalso; contradiction) | (exfalso; simp_all; done) | exact (bool_true (min_fin hme2 hwb)).symm | exact (bool_true (by first | omega | assumption)).symm
    refine WL.x (X.pickF rfl rfl rfl) (by decide) ?_
    refine WL.nil ?_
    refine WK.nThen ?_
    refine WC.condF rfl ?_
    refine WC.skip ?_
    refine WK.nThen ?_
    refine WC.seq ?_
    refine WC.region ?_
    refine WL.x (X.field Try.runUnderlying28 rfl Try.sizeOf25 rfl) (by decide) ?_
    refine WL.x (X.loadBP (k := 0) (vs := [v1, v3]) Try.isAgg25 Try.sizeOf25 rfl rfl rfl rfl) (by decide) ?_
    refine WL.x (X.field Try.runUnderlying28 rfl Try.sizeOf26 rfl) (by decide) ?_
    refine WL.x (X.loadB (k := 0) Try.isAgg26 rfl rfl rfl) (by decide) ?_
    refine WL.tm (T.call Try.call31 rfl (pairs31 _ _ c.D ⟨_, _, rfl, hs2, hs4⟩ _ _ hs6 )) (by decide) fun m13 r14 hle15 hR16 => ?_
    obtain ⟨v17, rfl, hs18⟩ := hR16
    replace hs2 := hs2.mono hle15
    replace hs4 := hs4.mono hle15
    replace hs6 := hs6.mono hle15
    replace hset := hset.mono hle15
    have hl19 := hs18.le
    refine WL.x (X.move rfl) (by decide) ?_
    refine WL.x (X.extract rfl rfl) (by decide) ?_
    refine WL.x (X.extract rfl rfl) (by decide) ?_
    refine WL.x (X.assign rfl) (by decide) ?_
    refine WL.x (X.assign rfl) (by decide) ?_
    refine WL.nil ?_
    refine WK.nThen ?_
    refine WC.seq ?_
    refine WC.seq ?_
    refine WC.region ?_
    refine WL.x (X.move rfl) (by decide) ?_
    refine WL.condn (X.neq rfl rfl) (by decide) (fun h20 => ?_) (fun h20 => ?_)
    · refine WL.x (X.move rfl) (by decide) ?_
      refine WL.yes rfl rfl ?_
      refine WL.x (X.move rfl) (by decide) ?_
      refine WL.yes rfl rfl ?_
      refine WL.condn (X.neq rfl rfl) (by decide) (fun h21 => ?_) (fun h21 => ?_)
      · refine WL.x (X.pickT rfl rfl rfl) (by decide) ?_
        refine WL.nil ?_
        refine WK.nThen ?_
        refine WC.condT rfl ?_
        refine WC.seq ?_
        have hq := prs_none0 (d := c.D) (m := c.M) (by omega)
        refine WC.region ?_
        refine WL.x (X.move rfl) (by decide) ?_
        refine WL.x (X.move rfl) (by decide) ?_
        refine WL.yes rfl rfl ?_
        refine WL.x (X.move rfl) (by decide) ?_
        refine WL.yes rfl rfl ?_
        refine WL.x (X.len Try.runUnderlying52 rfl hs18) (by decide) ?_
        refine WL.yes rfl rfl ?_
        refine WL.x (X.eql rfl rfl) (by decide) ?_
        refine WL.x (X.pickT rfl rfl rfl) (by decide) ?_
        refine WL.x (X.assign rfl) (by decide) ?_
        refine WL.nil ?_
        refine WK.nThen ?_
        refine WC.ret ?_
        refine WK.rThen ?_
        refine WK.ret1 rfl rfl (fun w' hw' => Ret.exact hw' ?_)
        first | rfl | (exfalso; omega) | (exfalso; contradiction) | (exfalso; simp_all; done) | exact (bool_true (min_fin hme2 hwb)).symm | exact (bool_true (by first | omega | assumption)).symm
      refine WL.x (X.pickT rfl rfl rfl) (by decide) ?_
      refine WL.nil ?_
      refine WK.nThen ?_
      refine WC.condF rfl ?_
      refine WC.skip ?_
      refine WK.nThen ?_
      refine WC.seq ?_
      refine WC.seq ?_
      have he0 : (prsR c.D c.M).2 = 0 ∨ (prsR c.D c.M).2 = 3 := (by omega)
      refine WC.region ?_
      refine WL.x (X.assign rfl) (by decide) ?_
      refine WL.nil ?_
      refine WK.nThen ?_
      refine WC.block ?_
      refine WC.loop (G := Nat) (fun k => set.length - k) (fun k => m13) (fun k => [blk b10 28 [v1, v3, v5]]) (fun k => [(1, vset), (2, .pointer (some ⟨b10, 0, none⟩)), (5, .bool true), (6, v17), (8, .int .i64 (↑k))]) (fun k => k ≤ set.length) 0 rfl (.refl _) (.cons rfl (.cons rfl (.cons rfl (.cons rfl (.cons rfl .nil))))) ?_ ?_
      · exact Nat.zero_le _
      · rintro k hF22
        show WK _ _ m13 [blk b10 28 [v1, v3, v5]] [(1, vset), (2, .pointer (some ⟨b10, 0, none⟩)), (5, .bool true), (6, v17), (8, .int .i64 (↑k))] _
        replace hF22 : k ≤ set.length := hF22
        have hk := hF22
        refine WC.seq ?_
        refine WC.seq ?_
        refine WC.region ?_
        refine WL.x (X.move rfl) (by decide) ?_
        refine WL.x (X.move rfl) (by decide) ?_
        refine WL.x (X.len Try.runUnderlying29 rfl hset) (by decide) ?_
        refine WL.cond (X.lss rfl rfl) (by decide) (fun h23 => ?_) (fun h23 => ?_)
        · refine WL.nil ?_
          refine WK.nThen ?_
          refine WC.condT rfl ?_
          refine WC.skip ?_
          refine WK.nThen ?_
          refine WC.seq ?_
          refine WC.block ?_
          refine WC.seq ?_
          refine WC.draw (π := (.cons 0 (.cons 1 (.cons 2 (.cons 3 (.cons 4 (.cons 5 (.cons 6 (.cons 7 (.cons 8 (.cons 9 (.cons 10 (.cons 11 (.cons 12 (.cons 13 (.cons 14 (.cons 15 (.cons 16 (.cons 17 (.cons 18 (.cons 19 (.cons 20 (.cons 21 (.cons 22 (.cons 23 (.cons 24 (.cons 25 (.cons 26 (.cons 27 (.cons 28 (.cons 29 (.cons 30 .done)))))))))))))))))))))))))))))))) [] [] rfl (by kernel_rfl) ?_
          refine DW.x rfl rfl (X.move rfl) (by decide) ?_
          refine DW.x rfl rfl (X.move rfl) (by decide) ?_
          refine DW.xe rfl rfl (E.idxN k Try.runUnderlying29 Try.sizeOf3 rfl rfl hset (by omega)) (by decide) (fun p24 hp25 => ?_)
          refine DW.x rfl rfl (X.loadInt Try.isAgg3 rfl hp25) (by decide) ?_
          refine DW.cond rfl rfl (X.lss rfl rfl) (by decide) (fun h26 => ?_) (fun h26 => ?_)
          · refine DW.x rfl rfl (X.move rfl) (by decide) ?_
            refine DW.no rfl rfl (by decide) ?_
            refine DW.no rfl rfl (by decide) ?_
            refine DW.no rfl rfl (by decide) ?_
            refine DW.no rfl rfl (by decide) ?_
            refine DW.no rfl rfl (by decide) ?_
            refine DW.no rfl rfl (by decide) ?_
            refine DW.no rfl rfl (by decide) ?_
            refine DW.no rfl rfl (by decide) ?_
            refine DW.x rfl rfl (X.pickT rfl rfl rfl) (by decide) ?_
            refine DW.x rfl rfl (X.move rfl) (by decide) ?_
            refine DW.no rfl rfl (by decide) ?_
            refine DW.no rfl rfl (by decide) ?_
            refine DW.no rfl rfl (by decide) ?_
            refine DW.no rfl rfl (by decide) ?_
            refine DW.no rfl rfl (by decide) ?_
            refine DW.no rfl rfl (by decide) ?_
            refine DW.no rfl rfl (by decide) ?_
            refine DW.no rfl rfl (by decide) ?_
            refine DW.no rfl rfl (by decide) ?_
            refine DW.no rfl rfl (by decide) ?_
            refine DW.no rfl rfl (by decide) ?_
            refine DW.no rfl rfl (by decide) ?_
            refine DW.no rfl rfl (by decide) ?_
            refine DW.no rfl rfl (by decide) ?_
            refine DW.x rfl rfl (X.pickT rfl rfl rfl) (by decide) ?_
            refine DW.nil ?_
            refine WK.nThen ?_
            refine WC.condT rfl ?_
            refine WC.seq ?_
            refine WC.region ?_
            refine WL.x (X.move rfl) (by decide) ?_
            refine WL.x (X.assign rfl) (by decide) ?_
            refine WL.nil ?_
            refine WK.nThen ?_
            refine WC.ret ?_
            refine WK.rBlock ?_
            refine WK.rThen ?_
            refine WK.rThen ?_
            refine WK.rBlock ?_
            refine WK.rThen ?_
            refine WK.ret1 rfl rfl (fun w' hw' => Ret.exact hw' ?_)
            first | rfl | (exfalso; omega) | (exfalso; contradiction) | (exfalso; simp_all; done) | exact (bool_true (min_fin hme2 hwb)).symm | exact (bool_true (by first | omega | assumption)).symm
          refine DW.x rfl rfl (X.move rfl) (by decide) ?_
          refine DW.x rfl rfl (X.move rfl) (by decide) ?_
          refine DW.x rfl rfl (X.move rfl) (by decide) ?_
          refine DW.xe rfl rfl (E.idxN k Try.runUnderlying29 Try.sizeOf3 rfl rfl hset (by omega)) (by decide) (fun p27 hp28 => ?_)
          refine DW.x rfl rfl (X.loadInt Try.isAgg3 rfl hp28) (by decide) ?_
          refine DW.x rfl rfl (X.field Try.runUnderlying28 rfl Try.sizeOf26 rfl) (by decide) ?_
          refine DW.x rfl rfl (X.loadB (k := 0) Try.isAgg26 rfl rfl rfl) (by decide) ?_
          refine DW.x rfl rfl (X.len Try.runUnderlying26 rfl hs6) (by decide) ?_
          refine DW.cond rfl rfl (X.geq rfl rfl) (by decide) (fun h29 => ?_) (fun h29 => ?_)
          · refine DW.x rfl rfl (X.pickF rfl rfl rfl) (by decide) ?_
            refine DW.x rfl rfl (X.move rfl) (by decide) ?_
            refine DW.no rfl rfl (by decide) ?_
            refine DW.no rfl rfl (by decide) ?_
            refine DW.no rfl rfl (by decide) ?_
            refine DW.no rfl rfl (by decide) ?_
            refine DW.no rfl rfl (by decide) ?_
            refine DW.no rfl rfl (by decide) ?_
            refine DW.no rfl rfl (by decide) ?_
            refine DW.no rfl rfl (by decide) ?_
            refine DW.no rfl rfl (by decide) ?_
            refine DW.no rfl rfl (by decide) ?_
            refine DW.no rfl rfl (by decide) ?_
            refine DW.no rfl rfl (by decide) ?_
            refine DW.no rfl rfl (by decide) ?_
            refine DW.no rfl rfl (by decide) ?_
            refine DW.x rfl rfl (X.pickT rfl rfl rfl) (by decide) ?_
            refine DW.nil ?_
            refine WK.nThen ?_
            refine WC.condT rfl ?_
            refine WC.seq ?_
            refine WC.region ?_
            refine WL.x (X.move rfl) (by decide) ?_
            refine WL.x (X.assign rfl) (by decide) ?_
            refine WL.nil ?_
            refine WK.nThen ?_
            refine WC.ret ?_
            refine WK.rBlock ?_
            refine WK.rThen ?_
            refine WK.rThen ?_
            refine WK.rBlock ?_
            refine WK.rThen ?_
            refine WK.ret1 rfl rfl (fun w' hw' => Ret.exact hw' ?_)
            first | rfl | (exfalso; omega) | (exfalso; contradiction) | (exfalso; simp_all; done) | exact (bool_true (min_fin hme2 hwb)).symm | exact (bool_true (by first | omega | assumption)).symm
          refine DW.x rfl rfl (X.pickF rfl rfl rfl) (by decide) ?_
          refine DW.x rfl rfl (X.move rfl) (by decide) ?_
          refine DW.x rfl rfl (X.move rfl) (by decide) ?_
          refine DW.cond rfl rfl (X.gtr rfl rfl) (by decide) (fun h30 => ?_) (fun h30 => ?_)
          · refine DW.x rfl rfl (X.move rfl) (by decide) ?_
            refine DW.x rfl rfl (X.move rfl) (by decide) ?_
            refine DW.x rfl rfl (X.move rfl) (by decide) ?_
            refine DW.xe rfl rfl (E.idxN k Try.runUnderlying29 Try.sizeOf3 rfl rfl hset (by omega)) (by decide) (fun p31 hp32 => ?_)
            refine DW.x rfl rfl (X.loadInt Try.isAgg3 rfl hp32) (by decide) ?_
            refine DW.x rfl rfl (X.move rfl) (by decide) ?_
            refine DW.x rfl rfl (X.move rfl) (by decide) ?_
            refine DW.x rfl rfl (X.sub rfl rfl (by omega) (by omega)) (by decide) ?_
            refine DW.xe rfl rfl (E.idxE (k - 1) Try.runUnderlying29 Try.sizeOf3 rfl rfl hset (by omega) (by omega)) (by decide) (fun p33 hp34 => ?_)
            refine DW.x rfl rfl (X.loadInt Try.isAgg3 rfl hp34) (by decide) ?_
            refine DW.cond rfl rfl (X.leq rfl rfl) (by decide) (fun h35 => ?_) (fun h35 => ?_)
            · refine DW.x rfl rfl (X.pickT rfl rfl rfl) (by decide) ?_
              refine DW.x rfl rfl (X.pickF rfl rfl rfl) (by decide) ?_
              refine DW.nil ?_
              refine WK.nThen ?_
              refine WC.condT rfl ?_
              refine WC.seq ?_
              refine WC.region ?_
              refine WL.x (X.move rfl) (by decide) ?_
              refine WL.x (X.assign rfl) (by decide) ?_
              refine WL.nil ?_
              refine WK.nThen ?_
              refine WC.ret ?_
              refine WK.rBlock ?_
              refine WK.rThen ?_
              refine WK.rThen ?_
              refine WK.rBlock ?_
              refine WK.rThen ?_
              refine WK.ret1 rfl rfl (fun w' hw' => Ret.exact hw' ?_)
              first | rfl | (exfalso; omega) | (exfalso; contradiction) | (exfalso; simp_all; done) | exact (bool_true (min_fin hme2 hwb)).symm | exact (bool_true (by first | omega | assumption)).symm
            refine DW.x rfl rfl (X.pickT rfl rfl rfl) (by decide) ?_
            refine DW.x rfl rfl (X.pickF rfl rfl rfl) (by decide) ?_
            refine DW.nil ?_
            refine WK.nThen ?_
            refine WC.condF rfl ?_
            refine WC.skip ?_
            refine WK.nBlock ?_
            refine WK.nThen ?_
            refine WC.region ?_
            refine WL.x (X.move rfl) (by decide) ?_
            refine WL.x (X.add rfl rfl (by omega) (by omega)) (by decide) ?_
            refine WL.x (X.assign rfl) (by decide) ?_
            refine WL.nil ?_
            refine WK.nThen ?_
            refine WK.next (k + 1) rfl (.refl _) (.cons rfl (.cons rfl (.cons rfl (.cons rfl (.cons rfl .nil))))) ?_ ?_
            · omega
            · omega
          refine DW.x rfl rfl (X.move rfl) (by decide) ?_
          refine DW.no rfl rfl (by decide) ?_
          refine DW.no rfl rfl (by decide) ?_
          refine DW.no rfl rfl (by decide) ?_
          refine DW.no rfl rfl (by decide) ?_
          refine DW.no rfl rfl (by decide) ?_
          refine DW.no rfl rfl (by decide) ?_
          refine DW.no rfl rfl (by decide) ?_
          refine DW.no rfl rfl (by decide) ?_
          refine DW.no rfl rfl (by decide) ?_
          refine DW.no rfl rfl (by decide) ?_
          refine DW.x rfl rfl (X.pickF rfl rfl rfl) (by decide) ?_
          refine DW.x rfl rfl (X.pickF rfl rfl rfl) (by decide) ?_
          refine DW.nil ?_
          refine WK.nThen ?_
          refine WC.condF rfl ?_
          refine WC.skip ?_
          refine WK.nBlock ?_
          refine WK.nThen ?_
          refine WC.region ?_
          refine WL.x (X.move rfl) (by decide) ?_
          refine WL.x (X.add rfl rfl (by omega) (by omega)) (by decide) ?_
          refine WL.x (X.assign rfl) (by decide) ?_
          refine WL.nil ?_
          refine WK.nThen ?_
          refine WK.next (k + 1) rfl (.refl _) (.cons rfl (.cons rfl (.cons rfl (.cons rfl (.cons rfl .nil))))) ?_ ?_
          · omega
          · omega
        refine WL.nil ?_
        refine WK.nThen ?_
        refine WC.condF rfl ?_
        refine WC.exit ?_
        refine WK.eThen ?_
        refine WK.eThen ?_
        refine WK.eHit ?_
        refine WK.nThen ?_
        refine WC.seq ?_
        refine WC.region ?_
        refine WL.x (X.assign rfl) (by decide) ?_
        refine WL.nil ?_
        refine WK.nThen ?_
        refine WC.seq ?_
        refine WC.seq ?_
        refine WC.region ?_
        refine WL.x (X.assign rfl) (by decide) ?_
        refine WL.nil ?_
        refine WK.nThen ?_
        refine WC.block ?_
        refine WC.loop (G := Nat × Bool × Mem) (fun (i, wb, mm) => (prsR c.D c.M).1.length - i) (fun (i, wb, mm) => mm) (fun (i, wb, mm) => [blk b10 28 [v1, v3, v5]]) (fun (i, wb, mm) => [(1, vset), (2, .pointer (some ⟨b10, 0, none⟩)), (5, .bool true), (6, v17), (9, .bool (wb)), (10, .int .i64 (↑i))]) (fun (i, wb, mm) => m13.le mm ∧ i ≤ (prsR c.D c.M).1.length ∧ (wb = true ↔ ∃ j, j < i ∧ ∀ n, n < (gt (prsR c.D c.M).1 j).length → gt (gt (prsR c.D c.M).1 j) n ∈ set)) ((0, false, m13)) rfl (.refl _) (.cons rfl (.cons rfl (.cons rfl (.cons rfl (.cons rfl (.cons rfl .nil)))))) ?_ ?_
        · exact ⟨Mem.le_refl _, Nat.zero_le _, ⟨fun h_ => Bool.noConfusion h_, fun ⟨j, hj, _⟩ => absurd hj (Nat.not_lt_zero _)⟩⟩
        · rintro ⟨i, wb, mm⟩ hF36
          show WK _ _ mm [blk b10 28 [v1, v3, v5]] [(1, vset), (2, .pointer (some ⟨b10, 0, none⟩)), (5, .bool true), (6, v17), (9, .bool (wb)), (10, .int .i64 (↑i))] _
          replace hF36 : m13.le mm ∧ i ≤ (prsR c.D c.M).1.length ∧ (wb = true ↔ ∃ j, j < i ∧ ∀ n, n < (gt (prsR c.D c.M).1 j).length → gt (gt (prsR c.D c.M).1 j) n ∈ set) := hF36
          obtain ⟨hmm, hi, hwb⟩ := hF36
          replace hs2 := hs2.mono hmm
          replace hs4 := hs4.mono hmm
          replace hs6 := hs6.mono hmm
          replace hset := hset.mono hmm
          replace hs18 := hs18.mono hmm
          refine WC.seq ?_
          refine WC.seq ?_
          refine WC.region ?_
          refine WL.x (X.move rfl) (by decide) ?_
          refine WL.x (X.move rfl) (by decide) ?_
          refine WL.x (X.len Try.runUnderlying52 rfl hs18) (by decide) ?_
          refine WL.cond (X.lss rfl rfl) (by decide) (fun h37 => ?_) (fun h37 => ?_)
          · refine WL.nil ?_
            refine WK.nThen ?_
            refine WC.condT rfl ?_
            refine WC.skip ?_
            refine WK.nThen ?_
            refine WC.seq ?_
            refine WC.block ?_
            refine WC.seq ?_
            have hpi := min_two he0 (i := i) (by omega)
            have hpi1 := hpi.1
            have hpi2 := hpi.2
            refine WC.region ?_
            refine WL.x (X.assign rfl) (by decide) ?_
            refine WL.nil ?_
            refine WK.nThen ?_
            refine WC.seq ?_
            refine WC.seq ?_
            refine WC.region ?_
            refine WL.x (X.assign rfl) (by decide) ?_
            refine WL.nil ?_
            refine WK.nThen ?_
            refine WC.block ?_
            refine WC.loop (G := Nat × Bool × Mem) (fun (k, ab, mn) => (gt (prsR c.D c.M).1 i).length - k) (fun (k, ab, mn) => mn) (fun (k, ab, mn) => [blk b10 28 [v1, v3, v5]]) (fun (k, ab, mn) => [(1, vset), (2, .pointer (some ⟨b10, 0, none⟩)), (5, .bool true), (6, v17), (9, .bool (wb)), (10, .int .i64 (↑i)), (11, .bool (ab)), (12, .int .i64 (↑k))]) (fun (k, ab, mn) => mm.le mn ∧ k ≤ (gt (prsR c.D c.M).1 i).length ∧ (ab = true ↔ ∀ n, n < k → gt (gt (prsR c.D c.M).1 i) n ∈ set)) ((0, true, mm)) rfl (.refl _) (.cons rfl (.cons rfl (.cons rfl (.cons rfl (.cons rfl (.cons rfl (.cons rfl (.cons rfl .nil)))))))) ?_ ?_
            · exact ⟨Mem.le_refl _, Nat.zero_le _, ⟨fun _ n hn => absurd hn (Nat.not_lt_zero _), fun _ => rfl⟩⟩
            · rintro ⟨k, ab, mn⟩ hF38
              show WK _ _ mn [blk b10 28 [v1, v3, v5]] [(1, vset), (2, .pointer (some ⟨b10, 0, none⟩)), (5, .bool true), (6, v17), (9, .bool (wb)), (10, .int .i64 (↑i)), (11, .bool (ab)), (12, .int .i64 (↑k))] _
              replace hF38 : mm.le mn ∧ k ≤ (gt (prsR c.D c.M).1 i).length ∧ (ab = true ↔ ∀ n, n < k → gt (gt (prsR c.D c.M).1 i) n ∈ set) := hF38
              obtain ⟨hmn, hk, hab⟩ := hF38
              replace hs2 := hs2.mono hmn
              replace hs4 := hs4.mono hmn
              replace hs6 := hs6.mono hmn
              replace hset := hset.mono hmn
              replace hs18 := hs18.mono hmn
              refine WC.seq ?_
              refine WC.seq ?_
              refine WC.region ?_
              refine WL.x (X.move rfl) (by decide) ?_
              refine WL.x (X.move rfl) (by decide) ?_
              refine WL.x (X.move rfl) (by decide) ?_
              refine WL.xe (E.idxN i Try.runUnderlying52 Try.sizeOf29 rfl rfl hs18 (by omega)) (by decide) (fun p39 hp40 => ?_)
              refine WL.xe (E.loadSl Try.isAgg29 rfl hp40) (by decide) (fun v41 hs42 => ?_)
              have hl43 := hs42.le
              refine WL.x (X.len Try.runUnderlying29 rfl hs42) (by decide) ?_
              refine WL.cond (X.lss rfl rfl) (by decide) (fun h44 => ?_) (fun h44 => ?_)
              · refine WL.nil ?_
                refine WK.nThen ?_
                refine WC.condT rfl ?_
                refine WC.skip ?_
                refine WK.nThen ?_
                refine WC.seq ?_
                refine WC.block ?_
                refine WC.seq ?_
                refine WC.region ?_
                refine WL.x (X.move rfl) (by decide) ?_
                refine WL.condb (X.move rfl) (by decide) (fun h45 => ?_) (fun h45 => ?_)
                · refine WL.yes rfl rfl ?_
                  refine WL.x (X.move rfl) (by decide) ?_
                  refine WL.yes rfl rfl ?_
                  refine WL.x (X.move rfl) (by decide) ?_
                  refine WL.yes rfl rfl ?_
                  refine WL.x (X.move rfl) (by decide) ?_
                  refine WL.yes rfl rfl ?_
                  refine WL.xe (E.idxN i Try.runUnderlying52 Try.sizeOf29 rfl rfl hs18 (by omega)) (by decide) (fun p46 hp47 => ?_)
                  refine WL.yes rfl rfl ?_
                  refine WL.xe (E.loadSl Try.isAgg29 rfl hp47) (by decide) (fun v48 hs49 => ?_)
                  have hl50 := hs49.le
                  refine WL.yes rfl rfl ?_
                  refine WL.x (X.move rfl) (by decide) ?_
                  refine WL.yes rfl rfl ?_
                  refine WL.xe (E.idxN k Try.runUnderlying29 Try.sizeOf3 rfl rfl hs49 (by omega)) (by decide) (fun p51 hp52 => ?_)
                  refine WL.yes rfl rfl ?_
                  refine WL.x (X.loadInt Try.isAgg3 rfl hp52) (by decide) ?_
                  refine WL.yes rfl rfl ?_
                  refine WL.cond (X.call Try.call32 rfl (has32 _ _ _ hset _ )) (by decide) (fun h53 => ?_) (fun h53 => ?_)
                  · refine WL.x (X.pickT rfl rfl rfl) (by decide) ?_
                    refine WL.x (X.assign rfl) (by decide) ?_
                    refine WL.nil ?_
                    refine WK.nThen ?_
                    refine WC.cut (G := Mem × Value) (fun (m54, v72) => m54) (fun (m54, v72) => [rowF (v72) 3 (([] ++ ((gt ((prsR c.D c.M).1) i).take k)) ++ ((gt ((prsR c.D c.M).1) i).drop (k + 1))), blk b10 28 [v1, v3, v5]]) (fun (m54, v72) => [(1, vset), (2, .pointer (some ⟨b10, 0, none⟩)), (5, .bool true), (6, v17), (9, .bool (wb)), (10, .int .i64 (↑i)), (11, .bool true), (12, .int .i64 (↑k)), (13, v72), (103, vset), (104, v17), (105, .int .i64 (↑i)), (106, .pointer (some (p46))), (107, v48), (108, .int .i64 (↑k)), (109, .pointer (some (p51))), (110, .int .i64 (gt (gt ((prsR c.D c.M).1) i) k)), (111, .bool true)]) (fun (m54, v72) => mn.le m54 ∧ Sl (α := Span) m54 v1 c.D.Rates ∧ Sl (α := Stop) m54 v3 c.D.Stops ∧ Sl (α := Mark) m54 v5 c.M) ?_ ?_
                    · refine WC.draw (π := (.cons 1 (.cons 2 (.cons 3 (.cons 4 (.cons 5 (.cons 6 (.cons 8 (.cons 9 (.cons 10 (.cons 11 (.cons 12 (.cons 13 (.fork (.cons 0 (.fork (.cons 7 (.cons 14 (.cons 15 (.cons 16 .done)))) (.cons 14 (.cons 7 (.cons 15 (.cons 16 .done)))))) (.cons 14 (.cons 0 (.cons 7 (.cons 15 (.cons 16 .done))))))))))))))))))) [0, 7, 14, 15] [7, 15, 100010, 100011, 100013] rfl (by kernel_rfl) ?_
                      refine DW.x rfl rfl (X.move rfl) (by decide) ?_
                      refine DW.x rfl rfl (X.move rfl) (by decide) ?_
                      refine DW.xe rfl rfl (E.idxN i Try.runUnderlying52 Try.sizeOf29 rfl rfl hs18 (by omega)) (by decide) (fun p55 hp56 => ?_)
                      refine DW.xe rfl rfl (E.loadSl Try.isAgg29 rfl hp56) (by decide) (fun v57 hs58 => ?_)
                      have hl59 := hs58.le
                      refine DW.x rfl rfl (X.move rfl) (by decide) ?_
                      refine DW.xe rfl rfl (E.slH k Try.underlying29 Try.sizeOf3 rfl rfl hs58 (by omega) (by omega)) (by decide) (fun v60 hs61 => ?_)
                      refine DW.x rfl rfl (X.move rfl) (by decide) ?_
                      refine DW.x rfl rfl (X.move rfl) (by decide) ?_
                      refine DW.xfe rfl rfl rfl (EF.idxN i Try.runUnderlying52 Try.sizeOf29 rfl rfl hs18 (by omega)) (by decide) (fun p62 hp63 => ?_)
                      refine DW.xfe rfl rfl rfl (EF.loadSl Try.isAgg29 rfl hp63) (by decide) (fun v64 hs65 => ?_)
                      have hl66 := hs65.le
                      refine DW.x rfl rfl (X.move rfl) (by decide) ?_
                      refine DW.xf rfl rfl rfl (fun _ _ hle_ => (X.add rfl rfl (by omega) (by omega))) (by decide) ?_
                      refine DW.fork (List.cons_ne_nil _ _) ?_ ?_
                      · refine DW.tO rfl rfl rfl (OpTo.taO (T.lit0 (α := Int) sl29 rfl)) (by decide) (fun m68 Es_ v67 hle69 hR_ => ?_)
                        subst hR_
                        replace hs2 := hs2.mono hle69
                        replace hs4 := hs4.mono hle69
                        replace hs6 := hs6.mono hle69
                        replace hset := hset.mono hle69
                        replace hs18 := hs18.mono hle69
                        replace hp40 := hp40.mono hle69
                        replace hs42 := hs42.mono hle69
                        replace hp47 := hp47.mono hle69
                        replace hs49 := hs49.mono hle69
                        replace hp52 := hp52.mono hle69
                        replace hp56 := hp56.mono hle69
                        replace hs58 := hs58.mono hle69
                        replace hs61 := hs61.mono hle69
                        replace hp63 := hp63.mono hle69
                        replace hs65 := hs65.mono hle69
                        refine DW.fork (List.cons_ne_nil _ _) ?_ ?_
                        · refine DW.ta rfl rfl rfl rfl (T.appendI (k := 0) sl29 rfl rfl hs61 rfl (by first | omega | (simp; omega)) (by first | omega | (simp; omega))) (by decide) (fun v70 => ?_)
                          refine DW.xep rfl rfl rfl (fun _ => (E.slL (k + 1) Try.underlying29 Try.sizeOf3 rfl rfl hs65 (by omega) (by omega))) (by decide) (fun v71 hs72 => ?_)
                          refine DW.ta rfl rfl rfl rfl (T.appendI (k := 0) sl29 rfl rfl hs72 rfl (by first | omega | (simp; omega)) (by first | omega | (simp; omega))) (by decide) (fun v73 => ?_)
                          refine DW.x rfl rfl (X.assign rfl) (by decide) ?_
                          refine DW.nil ?_
                          refine WK.nThen ?_
                          exact WK.meet (m68, v73) rfl (.refl _) (.cons rfl (.cons rfl (.cons rfl (.cons rfl (.cons rfl (.cons rfl (.cons rfl (.cons rfl (.cons rfl (.cons rfl (.cons rfl (.cons rfl (.cons rfl (.cons rfl (.cons rfl (.cons rfl (.cons rfl (.cons rfl .nil)))))))))))))))))) ⟨hle69, hs2, hs4, hs6⟩
                        refine DW.xep rfl rfl rfl (fun _ => (E.slL (k + 1) Try.underlying29 Try.sizeOf3 rfl rfl hs65 (by omega) (by omega))) (by decide) (fun v74 hs75 => ?_)
                        refine DW.ta rfl rfl rfl rfl (T.appendI (k := 0) sl29 rfl rfl hs61 rfl (by first | omega | (simp; omega)) (by first | omega | (simp; omega))) (by decide) (fun v76 => ?_)
                        refine DW.ta rfl rfl rfl rfl (T.appendI (k := 0) sl29 rfl rfl hs75 rfl (by first | omega | (simp; omega)) (by first | omega | (simp; omega))) (by decide) (fun v77 => ?_)
                        refine DW.x rfl rfl (X.assign rfl) (by decide) ?_
                        refine DW.nil ?_
                        refine WK.nThen ?_
                        exact WK.meet (m68, v77) rfl (.refl _) (.cons rfl (.cons rfl (.cons rfl (.cons rfl (.cons rfl (.cons rfl (.cons rfl (.cons rfl (.cons rfl (.cons rfl (.cons rfl (.cons rfl (.cons rfl (.cons rfl (.cons rfl (.cons rfl (.cons rfl (.cons rfl .nil)))))))))))))))))) ⟨hle69, hs2, hs4, hs6⟩
                      refine DW.xep rfl rfl rfl (fun _ => (E.slL (k + 1) Try.underlying29 Try.sizeOf3 rfl rfl hs65 (by omega) (by omega))) (by decide) (fun v78 hs79 => ?_)
                      refine DW.tO rfl rfl rfl (OpTo.taO (T.lit0 (α := Int) sl29 rfl)) (by decide) (fun m81 Es_ v80 hle82 hR_ => ?_)
                      subst hR_
                      replace hs2 := hs2.mono hle82
                      replace hs4 := hs4.mono hle82
                      replace hs6 := hs6.mono hle82
                      replace hset := hset.mono hle82
                      replace hs18 := hs18.mono hle82
                      replace hp40 := hp40.mono hle82
                      replace hs42 := hs42.mono hle82
                      replace hp47 := hp47.mono hle82
                      replace hs49 := hs49.mono hle82
                      replace hp52 := hp52.mono hle82
                      replace hp56 := hp56.mono hle82
                      replace hs58 := hs58.mono hle82
                      replace hs61 := hs61.mono hle82
                      replace hp63 := hp63.mono hle82
                      replace hs65 := hs65.mono hle82
                      replace hs79 := hs79.mono hle82
                      refine DW.ta rfl rfl rfl rfl (T.appendI (k := 0) sl29 rfl rfl hs61 rfl (by first | omega | (simp; omega)) (by first | omega | (simp; omega))) (by decide) (fun v83 => ?_)
                      refine DW.ta rfl rfl rfl rfl (T.appendI (k := 0) sl29 rfl rfl hs79 rfl (by first | omega | (simp; omega)) (by first | omega | (simp; omega))) (by decide) (fun v84 => ?_)
                      refine DW.x rfl rfl (X.assign rfl) (by decide) ?_
                      refine DW.nil ?_
                      refine WK.nThen ?_
                      exact WK.meet (m81, v84) rfl (.refl _) (.cons rfl (.cons rfl (.cons rfl (.cons rfl (.cons rfl (.cons rfl (.cons rfl (.cons rfl (.cons rfl (.cons rfl (.cons rfl (.cons rfl (.cons rfl (.cons rfl (.cons rfl (.cons rfl (.cons rfl (.cons rfl .nil)))))))))))))))))) ⟨hle82, hs2, hs4, hs6⟩
                    rintro ⟨m54, v72⟩ ⟨hle85, hs86, hs87, hs88⟩
                    show WK _ _ m54 [rowF (v72) 3 (([] ++ ((gt ((prsR c.D c.M).1) i).take k)) ++ ((gt ((prsR c.D c.M).1) i).drop (k + 1))), blk b10 28 [v1, v3, v5]] [(1, vset), (2, .pointer (some ⟨b10, 0, none⟩)), (5, .bool true), (6, v17), (9, .bool (wb)), (10, .int .i64 (↑i)), (11, .bool true), (12, .int .i64 (↑k)), (13, v72), (103, vset), (104, v17), (105, .int .i64 (↑i)), (106, .pointer (some (p46))), (107, v48), (108, .int .i64 (↑k)), (109, .pointer (some (p51))), (110, .int .i64 (gt (gt ((prsR c.D c.M).1) i) k)), (111, .bool true)] _
                    replace hs2 := hs2.mono hle85
                    replace hs4 := hs4.mono hle85
                    replace hs6 := hs6.mono hle85
                    replace hset := hset.mono hle85
                    replace hs18 := hs18.mono hle85
                    replace hp40 := hp40.mono hle85
                    replace hs42 := hs42.mono hle85
                    replace hp47 := hp47.mono hle85
                    replace hs49 := hs49.mono hle85
                    replace hp52 := hp52.mono hle85
                    have hl89 := hs86.le
                    have hl90 := hs87.le
                    have hl91 := hs88.le
                    refine WC.seq ?_
                    have he92 : (([] ++ ((gt ((prsR c.D c.M).1) i).take k)) ++ ((gt ((prsR c.D c.M).1) i).drop (k + 1))) = ((gt (prsR c.D c.M).1 i).take k ++ (gt (prsR c.D c.M).1 i).drop (k + 1)) := (by simp)
                    rw [he92]
                    have hrl_ : ((gt (prsR c.D c.M).1 i).take k ++ (gt (prsR c.D c.M).1 i).drop (k + 1)).length ≤ 2 := (by simp; omega)
                    refine WK.freezeF 0 rfl rfl (by unfold lenB; omega) (fun m93 hle94 hs95 => ?_)
                    replace hs2 := hs2.mono hle94
                    replace hs4 := hs4.mono hle94
                    replace hs6 := hs6.mono hle94
                    replace hset := hset.mono hle94
                    replace hs18 := hs18.mono hle94
                    replace hp40 := hp40.mono hle94
                    replace hs42 := hs42.mono hle94
                    replace hp47 := hp47.mono hle94
                    replace hs49 := hs49.mono hle94
                    replace hp52 := hp52.mono hle94
                    replace hs86 := hs86.mono hle94
                    replace hs87 := hs87.mono hle94
                    replace hs88 := hs88.mono hle94
                    have hmr := min_rest (prs_val he0).1 hpi1 (j := k) (by omega)
                    have hmr1 := hmr.1
                    have hmr2 := hmr.2
                    refine WC.draw (π := (.cons 0 (.cons 1 (.cons 2 (.cons 3 (.cons 4 (.cons 5 (.cons 6 (.cons 7 (.cons 8 (.cons 9 (.cons 10 (.cons 11 .done))))))))))))) [5] [] rfl (by kernel_rfl) ?_
                    refine DW.x rfl rfl (X.field Try.runUnderlying28 rfl Try.sizeOf25 rfl) (by decide) ?_
                    refine DW.x rfl rfl (X.loadBP (k := 0) (vs := [v1, v3]) Try.isAgg25 Try.sizeOf25 rfl rfl rfl rfl) (by decide) ?_
                    refine DW.x rfl rfl (X.field Try.runUnderlying28 rfl Try.sizeOf26 rfl) (by decide) ?_
                    refine DW.x rfl rfl (X.loadB (k := 0) Try.isAgg26 rfl rfl rfl) (by decide) ?_
                    refine DW.x rfl rfl (X.move rfl) (by decide) ?_
                    refine DW.tm rfl rfl rfl (T.call Try.call34 rfl (pick34 _ _ _ hs88 _ _ hs95 (by first | omega | simp))) (by decide) fun m96 r97 hle98 hR99 => ?_
                    obtain ⟨v100, hv_, hs101⟩ := hR99
                    rw [← hv_] at hs101
                    clear hv_ v100
                    replace hs2 := hs2.mono hle98
                    replace hs4 := hs4.mono hle98
                    replace hs6 := hs6.mono hle98
                    replace hset := hset.mono hle98
                    replace hs18 := hs18.mono hle98
                    replace hp40 := hp40.mono hle98
                    replace hs42 := hs42.mono hle98
                    replace hp47 := hp47.mono hle98
                    replace hs49 := hs49.mono hle98
                    replace hp52 := hp52.mono hle98
                    replace hs86 := hs86.mono hle98
                    replace hs87 := hs87.mono hle98
                    replace hs88 := hs88.mono hle98
                    replace hs95 := hs95.mono hle98
                    have hl102 := hs101.le
                    refine DW.x rfl rfl (X.call Try.call33 rfl (feasible33 _ _ c.D ⟨_, _, rfl, hs86, hs87⟩ _ _ hs101 )) (by decide) ?_
                    refine DW.x rfl rfl (X.move rfl) (by decide) ?_
                    refine DW.x rfl rfl (X.extract rfl rfl) (by decide) ?_
                    refine DW.x rfl rfl (X.extract rfl rfl) (by decide) ?_
                    refine DW.x rfl rfl (X.assign rfl) (by decide) ?_
                    refine DW.x rfl rfl (X.assign rfl) (by decide) ?_
                    refine DW.nil ?_
                    refine WK.nThen ?_
                    refine WC.seq ?_
                    refine WC.region ?_
                    refine WL.x (X.move rfl) (by decide) ?_
                    refine WL.condn (X.neq rfl rfl) (by decide) (fun h103 => ?_) (fun h103 => ?_)
                    · refine WL.x (X.move rfl) (by decide) ?_
                      refine WL.no rfl rfl rfl (by decide) ?_
                      refine WL.no rfl rfl rfl (by decide) ?_
                      refine WL.x (X.pickT rfl rfl rfl) (by decide) ?_
                      refine WL.nil ?_
                      refine WK.nThen ?_
                      refine WC.condT rfl ?_
                      refine WC.seq ?_
                      refine WC.region ?_
                      refine WL.x (X.assign rfl) (by decide) ?_
                      refine WL.nil ?_
                      refine WK.nThen ?_
                      refine WC.ret ?_
                      refine WK.rBlock ?_
                      refine WK.rThen ?_
                      refine WK.rThen ?_
                      refine WK.rBlock ?_
                      refine WK.rThen ?_
                      refine WK.rBlock ?_
                      refine WK.rThen ?_
                      refine WK.rThen ?_
                      refine WK.rBlock ?_
                      refine WK.rThen ?_
                      refine WK.ret1 rfl rfl (fun w' hw' => Ret.exact hw' ?_)
                      first | rfl | (exfalso; omega) | (exfalso; contradiction) | (exfalso; simp_all; done) | exact (bool_true (min_fin hme2 hwb)).symm | exact (bool_true (by first | omega | assumption)).symm
                    refine WL.x (X.move rfl) (by decide) ?_
                    refine WL.yes rfl rfl ?_
                    refine WL.x (X.move rfl) (by decide) ?_
                    refine WL.yes rfl rfl ?_
                    refine WL.condb (X.not rfl) (by decide) (fun h104 => ?_) (fun h104 => ?_)
                    · refine WL.x (X.pickF rfl rfl rfl) (by decide) ?_
                      refine WL.nil ?_
                      refine WK.nThen ?_
                      refine WC.condT rfl ?_
                      refine WC.seq ?_
                      refine WC.region ?_
                      refine WL.x (X.assign rfl) (by decide) ?_
                      refine WL.nil ?_
                      refine WK.nThen ?_
                      refine WC.ret ?_
                      refine WK.rBlock ?_
                      refine WK.rThen ?_
                      refine WK.rThen ?_
                      refine WK.rBlock ?_
                      refine WK.rThen ?_
                      refine WK.rBlock ?_
                      refine WK.rThen ?_
                      refine WK.rThen ?_
                      refine WK.rBlock ?_
                      refine WK.rThen ?_
                      refine WK.ret1 rfl rfl (fun w' hw' => Ret.exact hw' ?_)
                      first | rfl | (exfalso; omega) | (exfalso; contradiction) | (exfalso; simp_all; done) | exact (bool_true (min_fin hme2 hwb)).symm | exact (bool_true (by first | omega | assumption)).symm
                    refine WL.x (X.pickF rfl rfl rfl) (by decide) ?_
                    refine WL.nil ?_
                    refine WK.nThen ?_
                    refine WC.condF rfl ?_
                    refine WC.skip ?_
                    refine WK.nBlock ?_
                    refine WK.nThen ?_
                    refine WC.region ?_
                    refine WL.x (X.move rfl) (by decide) ?_
                    refine WL.x (X.add rfl rfl (by omega) (by omega)) (by decide) ?_
                    refine WL.x (X.assign rfl) (by decide) ?_
                    refine WL.nil ?_
                    refine WK.nThen ?_
                    refine WK.next ((k + 1, true, m96)) rfl (.refl _) (.cons rfl (.cons rfl (.cons rfl (.cons rfl (.cons rfl (.cons rfl (.cons rfl (.cons rfl .nil)))))))) ?_ ?_
                    · exact ⟨Mem.le_trans hmn (Mem.le_trans hle85 (Mem.le_trans hle94 hle98)), by omega, by first | exact and_step3 (by assumption) (by assumption) hab | exact and_step4 (by assumption) | exact and_step (by assumption) hab | exact and_step2 (by assumption) hab⟩
                    · (dsimp only; omega)
                  refine WL.x (X.pickT rfl rfl rfl) (by decide) ?_
                  refine WL.x (X.assign rfl) (by decide) ?_
                  refine WL.nil ?_
                  refine WK.nThen ?_
                  refine WC.cut (G := Mem × Value) (fun (m105, v123) => m105) (fun (m105, v123) => [rowF (v123) 3 (([] ++ ((gt ((prsR c.D c.M).1) i).take k)) ++ ((gt ((prsR c.D c.M).1) i).drop (k + 1))), blk b10 28 [v1, v3, v5]]) (fun (m105, v123) => [(1, vset), (2, .pointer (some ⟨b10, 0, none⟩)), (5, .bool true), (6, v17), (9, .bool (wb)), (10, .int .i64 (↑i)), (11, .bool false), (12, .int .i64 (↑k)), (13, v123), (103, vset), (104, v17), (105, .int .i64 (↑i)), (106, .pointer (some (p46))), (107, v48), (108, .int .i64 (↑k)), (109, .pointer (some (p51))), (110, .int .i64 (gt (gt ((prsR c.D c.M).1) i) k)), (111, .bool false)]) (fun (m105, v123) => mn.le m105 ∧ Sl (α := Span) m105 v1 c.D.Rates ∧ Sl (α := Stop) m105 v3 c.D.Stops ∧ Sl (α := Mark) m105 v5 c.M) ?_ ?_
                  · refine WC.draw (π := (.cons 1 (.cons 2 (.cons 3 (.cons 4 (.cons 5 (.cons 6 (.cons 8 (.cons 9 (.cons 10 (.cons 11 (.cons 12 (.cons 13 (.fork (.cons 0 (.fork (.cons 7 (.cons 14 (.cons 15 (.cons 16 .done)))) (.cons 14 (.cons 7 (.cons 15 (.cons 16 .done)))))) (.cons 14 (.cons 0 (.cons 7 (.cons 15 (.cons 16 .done))))))))))))))))))) [0, 7, 14, 15] [7, 15, 100010, 100011, 100013] rfl (by kernel_rfl) ?_
                    refine DW.x rfl rfl (X.move rfl) (by decide) ?_
                    refine DW.x rfl rfl (X.move rfl) (by decide) ?_
                    refine DW.xe rfl rfl (E.idxN i Try.runUnderlying52 Try.sizeOf29 rfl rfl hs18 (by omega)) (by decide) (fun p106 hp107 => ?_)
                    refine DW.xe rfl rfl (E.loadSl Try.isAgg29 rfl hp107) (by decide) (fun v108 hs109 => ?_)
                    have hl110 := hs109.le
                    refine DW.x rfl rfl (X.move rfl) (by decide) ?_
                    refine DW.xe rfl rfl (E.slH k Try.underlying29 Try.sizeOf3 rfl rfl hs109 (by omega) (by omega)) (by decide) (fun v111 hs112 => ?_)
                    refine DW.x rfl rfl (X.move rfl) (by decide) ?_
                    refine DW.x rfl rfl (X.move rfl) (by decide) ?_
                    refine DW.xfe rfl rfl rfl (EF.idxN i Try.runUnderlying52 Try.sizeOf29 rfl rfl hs18 (by omega)) (by decide) (fun p113 hp114 => ?_)
                    refine DW.xfe rfl rfl rfl (EF.loadSl Try.isAgg29 rfl hp114) (by decide) (fun v115 hs116 => ?_)
                    have hl117 := hs116.le
                    refine DW.x rfl rfl (X.move rfl) (by decide) ?_
                    refine DW.xf rfl rfl rfl (fun _ _ hle_ => (X.add rfl rfl (by omega) (by omega))) (by decide) ?_
                    refine DW.fork (List.cons_ne_nil _ _) ?_ ?_
                    · refine DW.tO rfl rfl rfl (OpTo.taO (T.lit0 (α := Int) sl29 rfl)) (by decide) (fun m119 Es_ v118 hle120 hR_ => ?_)
                      subst hR_
                      replace hs2 := hs2.mono hle120
                      replace hs4 := hs4.mono hle120
                      replace hs6 := hs6.mono hle120
                      replace hset := hset.mono hle120
                      replace hs18 := hs18.mono hle120
                      replace hp40 := hp40.mono hle120
                      replace hs42 := hs42.mono hle120
                      replace hp47 := hp47.mono hle120
                      replace hs49 := hs49.mono hle120
                      replace hp52 := hp52.mono hle120
                      replace hp107 := hp107.mono hle120
                      replace hs109 := hs109.mono hle120
                      replace hs112 := hs112.mono hle120
                      replace hp114 := hp114.mono hle120
                      replace hs116 := hs116.mono hle120
                      refine DW.fork (List.cons_ne_nil _ _) ?_ ?_
                      · refine DW.ta rfl rfl rfl rfl (T.appendI (k := 0) sl29 rfl rfl hs112 rfl (by first | omega | (simp; omega)) (by first | omega | (simp; omega))) (by decide) (fun v121 => ?_)
                        refine DW.xep rfl rfl rfl (fun _ => (E.slL (k + 1) Try.underlying29 Try.sizeOf3 rfl rfl hs116 (by omega) (by omega))) (by decide) (fun v122 hs123 => ?_)
                        refine DW.ta rfl rfl rfl rfl (T.appendI (k := 0) sl29 rfl rfl hs123 rfl (by first | omega | (simp; omega)) (by first | omega | (simp; omega))) (by decide) (fun v124 => ?_)
                        refine DW.x rfl rfl (X.assign rfl) (by decide) ?_
                        refine DW.nil ?_
                        refine WK.nThen ?_
                        exact WK.meet (m119, v124) rfl (.refl _) (.cons rfl (.cons rfl (.cons rfl (.cons rfl (.cons rfl (.cons rfl (.cons rfl (.cons rfl (.cons rfl (.cons rfl (.cons rfl (.cons rfl (.cons rfl (.cons rfl (.cons rfl (.cons rfl (.cons rfl (.cons rfl .nil)))))))))))))))))) ⟨hle120, hs2, hs4, hs6⟩
                      refine DW.xep rfl rfl rfl (fun _ => (E.slL (k + 1) Try.underlying29 Try.sizeOf3 rfl rfl hs116 (by omega) (by omega))) (by decide) (fun v125 hs126 => ?_)
                      refine DW.ta rfl rfl rfl rfl (T.appendI (k := 0) sl29 rfl rfl hs112 rfl (by first | omega | (simp; omega)) (by first | omega | (simp; omega))) (by decide) (fun v127 => ?_)
                      refine DW.ta rfl rfl rfl rfl (T.appendI (k := 0) sl29 rfl rfl hs126 rfl (by first | omega | (simp; omega)) (by first | omega | (simp; omega))) (by decide) (fun v128 => ?_)
                      refine DW.x rfl rfl (X.assign rfl) (by decide) ?_
                      refine DW.nil ?_
                      refine WK.nThen ?_
                      exact WK.meet (m119, v128) rfl (.refl _) (.cons rfl (.cons rfl (.cons rfl (.cons rfl (.cons rfl (.cons rfl (.cons rfl (.cons rfl (.cons rfl (.cons rfl (.cons rfl (.cons rfl (.cons rfl (.cons rfl (.cons rfl (.cons rfl (.cons rfl (.cons rfl .nil)))))))))))))))))) ⟨hle120, hs2, hs4, hs6⟩
                    refine DW.xep rfl rfl rfl (fun _ => (E.slL (k + 1) Try.underlying29 Try.sizeOf3 rfl rfl hs116 (by omega) (by omega))) (by decide) (fun v129 hs130 => ?_)
                    refine DW.tO rfl rfl rfl (OpTo.taO (T.lit0 (α := Int) sl29 rfl)) (by decide) (fun m132 Es_ v131 hle133 hR_ => ?_)
                    subst hR_
                    replace hs2 := hs2.mono hle133
                    replace hs4 := hs4.mono hle133
                    replace hs6 := hs6.mono hle133
                    replace hset := hset.mono hle133
                    replace hs18 := hs18.mono hle133
                    replace hp40 := hp40.mono hle133
                    replace hs42 := hs42.mono hle133
                    replace hp47 := hp47.mono hle133
                    replace hs49 := hs49.mono hle133
                    replace hp52 := hp52.mono hle133
                    replace hp107 := hp107.mono hle133
                    replace hs109 := hs109.mono hle133
                    replace hs112 := hs112.mono hle133
                    replace hp114 := hp114.mono hle133
                    replace hs116 := hs116.mono hle133
                    replace hs130 := hs130.mono hle133
                    refine DW.ta rfl rfl rfl rfl (T.appendI (k := 0) sl29 rfl rfl hs112 rfl (by first | omega | (simp; omega)) (by first | omega | (simp; omega))) (by decide) (fun v134 => ?_)
                    refine DW.ta rfl rfl rfl rfl (T.appendI (k := 0) sl29 rfl rfl hs130 rfl (by first | omega | (simp; omega)) (by first | omega | (simp; omega))) (by decide) (fun v135 => ?_)
                    refine DW.x rfl rfl (X.assign rfl) (by decide) ?_
                    refine DW.nil ?_
                    refine WK.nThen ?_
                    exact WK.meet (m132, v135) rfl (.refl _) (.cons rfl (.cons rfl (.cons rfl (.cons rfl (.cons rfl (.cons rfl (.cons rfl (.cons rfl (.cons rfl (.cons rfl (.cons rfl (.cons rfl (.cons rfl (.cons rfl (.cons rfl (.cons rfl (.cons rfl (.cons rfl .nil)))))))))))))))))) ⟨hle133, hs2, hs4, hs6⟩
                  rintro ⟨m105, v123⟩ ⟨hle136, hs137, hs138, hs139⟩
                  show WK _ _ m105 [rowF (v123) 3 (([] ++ ((gt ((prsR c.D c.M).1) i).take k)) ++ ((gt ((prsR c.D c.M).1) i).drop (k + 1))), blk b10 28 [v1, v3, v5]] [(1, vset), (2, .pointer (some ⟨b10, 0, none⟩)), (5, .bool true), (6, v17), (9, .bool (wb)), (10, .int .i64 (↑i)), (11, .bool false), (12, .int .i64 (↑k)), (13, v123), (103, vset), (104, v17), (105, .int .i64 (↑i)), (106, .pointer (some (p46))), (107, v48), (108, .int .i64 (↑k)), (109, .pointer (some (p51))), (110, .int .i64 (gt (gt ((prsR c.D c.M).1) i) k)), (111, .bool false)] _
                  replace hs2 := hs2.mono hle136
                  replace hs4 := hs4.mono hle136
                  replace hs6 := hs6.mono hle136
                  replace hset := hset.mono hle136
                  replace hs18 := hs18.mono hle136
                  replace hp40 := hp40.mono hle136
                  replace hs42 := hs42.mono hle136
                  replace hp47 := hp47.mono hle136
                  replace hs49 := hs49.mono hle136
                  replace hp52 := hp52.mono hle136
                  have hl140 := hs137.le
                  have hl141 := hs138.le
                  have hl142 := hs139.le
                  refine WC.seq ?_
                  have he143 : (([] ++ ((gt ((prsR c.D c.M).1) i).take k)) ++ ((gt ((prsR c.D c.M).1) i).drop (k + 1))) = ((gt (prsR c.D c.M).1 i).take k ++ (gt (prsR c.D c.M).1 i).drop (k + 1)) := (by simp)
                  rw [he143]
                  have hrl_ : ((gt (prsR c.D c.M).1 i).take k ++ (gt (prsR c.D c.M).1 i).drop (k + 1)).length ≤ 2 := (by simp; omega)
                  refine WK.freezeF 0 rfl rfl (by unfold lenB; omega) (fun m144 hle145 hs146 => ?_)
                  replace hs2 := hs2.mono hle145
                  replace hs4 := hs4.mono hle145
                  replace hs6 := hs6.mono hle145
                  replace hset := hset.mono hle145
                  replace hs18 := hs18.mono hle145
                  replace hp40 := hp40.mono hle145
                  replace hs42 := hs42.mono hle145
                  replace hp47 := hp47.mono hle145
                  replace hs49 := hs49.mono hle145
                  replace hp52 := hp52.mono hle145
                  replace hs137 := hs137.mono hle145
                  replace hs138 := hs138.mono hle145
                  replace hs139 := hs139.mono hle145
                  have hmr := min_rest (prs_val he0).1 hpi1 (j := k) (by omega)
                  have hmr1 := hmr.1
                  have hmr2 := hmr.2
                  refine WC.draw (π := (.cons 0 (.cons 1 (.cons 2 (.cons 3 (.cons 4 (.cons 5 (.cons 6 (.cons 7 (.cons 8 (.cons 9 (.cons 10 (.cons 11 .done))))))))))))) [5] [] rfl (by kernel_rfl) ?_
                  refine DW.x rfl rfl (X.field Try.runUnderlying28 rfl Try.sizeOf25 rfl) (by decide) ?_
                  refine DW.x rfl rfl (X.loadBP (k := 0) (vs := [v1, v3]) Try.isAgg25 Try.sizeOf25 rfl rfl rfl rfl) (by decide) ?_
                  refine DW.x rfl rfl (X.field Try.runUnderlying28 rfl Try.sizeOf26 rfl) (by decide) ?_
                  refine DW.x rfl rfl (X.loadB (k := 0) Try.isAgg26 rfl rfl rfl) (by decide) ?_
                  refine DW.x rfl rfl (X.move rfl) (by decide) ?_
                  refine DW.tm rfl rfl rfl (T.call Try.call34 rfl (pick34 _ _ _ hs139 _ _ hs146 (by first | omega | simp))) (by decide) fun m147 r148 hle149 hR150 => ?_
                  obtain ⟨v151, hv_, hs152⟩ := hR150
                  rw [← hv_] at hs152
                  clear hv_ v151
                  replace hs2 := hs2.mono hle149
                  replace hs4 := hs4.mono hle149
                  replace hs6 := hs6.mono hle149
                  replace hset := hset.mono hle149
                  replace hs18 := hs18.mono hle149
                  replace hp40 := hp40.mono hle149
                  replace hs42 := hs42.mono hle149
                  replace hp47 := hp47.mono hle149
                  replace hs49 := hs49.mono hle149
                  replace hp52 := hp52.mono hle149
                  replace hs137 := hs137.mono hle149
                  replace hs138 := hs138.mono hle149
                  replace hs139 := hs139.mono hle149
                  replace hs146 := hs146.mono hle149
                  have hl153 := hs152.le
                  refine DW.x rfl rfl (X.call Try.call33 rfl (feasible33 _ _ c.D ⟨_, _, rfl, hs137, hs138⟩ _ _ hs152 )) (by decide) ?_
                  refine DW.x rfl rfl (X.move rfl) (by decide) ?_
                  refine DW.x rfl rfl (X.extract rfl rfl) (by decide) ?_
                  refine DW.x rfl rfl (X.extract rfl rfl) (by decide) ?_
                  refine DW.x rfl rfl (X.assign rfl) (by decide) ?_
                  refine DW.x rfl rfl (X.assign rfl) (by decide) ?_
                  refine DW.nil ?_
                  refine WK.nThen ?_
                  refine WC.seq ?_
                  refine WC.region ?_
                  refine WL.x (X.move rfl) (by decide) ?_
                  refine WL.condn (X.neq rfl rfl) (by decide) (fun h154 => ?_) (fun h154 => ?_)
                  · refine WL.x (X.move rfl) (by decide) ?_
                    refine WL.no rfl rfl rfl (by decide) ?_
                    refine WL.no rfl rfl rfl (by decide) ?_
                    refine WL.x (X.pickT rfl rfl rfl) (by decide) ?_
                    refine WL.nil ?_
                    refine WK.nThen ?_
                    refine WC.condT rfl ?_
                    refine WC.seq ?_
                    refine WC.region ?_
                    refine WL.x (X.assign rfl) (by decide) ?_
                    refine WL.nil ?_
                    refine WK.nThen ?_
                    refine WC.ret ?_
                    refine WK.rBlock ?_
                    refine WK.rThen ?_
                    refine WK.rThen ?_
                    refine WK.rBlock ?_
                    refine WK.rThen ?_
                    refine WK.rBlock ?_
                    refine WK.rThen ?_
                    refine WK.rThen ?_
                    refine WK.rBlock ?_
                    refine WK.rThen ?_
                    refine WK.ret1 rfl rfl (fun w' hw' => Ret.exact hw' ?_)
                    first | rfl | (exfalso; omega) | (exfalso; contradiction) | (exfalso; simp_all; done) | exact (bool_true (min_fin hme2 hwb)).symm | exact (bool_true (by first | omega | assumption)).symm
                  refine WL.x (X.move rfl) (by decide) ?_
                  refine WL.yes rfl rfl ?_
                  refine WL.x (X.move rfl) (by decide) ?_
                  refine WL.yes rfl rfl ?_
                  refine WL.condb (X.not rfl) (by decide) (fun h155 => ?_) (fun h155 => ?_)
                  · refine WL.x (X.pickF rfl rfl rfl) (by decide) ?_
                    refine WL.nil ?_
                    refine WK.nThen ?_
                    refine WC.condT rfl ?_
                    refine WC.seq ?_
                    refine WC.region ?_
                    refine WL.x (X.assign rfl) (by decide) ?_
                    refine WL.nil ?_
                    refine WK.nThen ?_
                    refine WC.ret ?_
                    refine WK.rBlock ?_
                    refine WK.rThen ?_
                    refine WK.rThen ?_
                    refine WK.rBlock ?_
                    refine WK.rThen ?_
                    refine WK.rBlock ?_
                    refine WK.rThen ?_
                    refine WK.rThen ?_
                    refine WK.rBlock ?_
                    refine WK.rThen ?_
                    refine WK.ret1 rfl rfl (fun w' hw' => Ret.exact hw' ?_)
                    first | rfl | (exfalso; omega) | (exfalso; contradiction) | (exfalso; simp_all; done) | exact (bool_true (min_fin hme2 hwb)).symm | exact (bool_true (by first | omega | assumption)).symm
                  refine WL.x (X.pickF rfl rfl rfl) (by decide) ?_
                  refine WL.nil ?_
                  refine WK.nThen ?_
                  refine WC.condF rfl ?_
                  refine WC.skip ?_
                  refine WK.nBlock ?_
                  refine WK.nThen ?_
                  refine WC.region ?_
                  refine WL.x (X.move rfl) (by decide) ?_
                  refine WL.x (X.add rfl rfl (by omega) (by omega)) (by decide) ?_
                  refine WL.x (X.assign rfl) (by decide) ?_
                  refine WL.nil ?_
                  refine WK.nThen ?_
                  refine WK.next ((k + 1, false, m147)) rfl (.refl _) (.cons rfl (.cons rfl (.cons rfl (.cons rfl (.cons rfl (.cons rfl (.cons rfl (.cons rfl .nil)))))))) ?_ ?_
                  · exact ⟨Mem.le_trans hmn (Mem.le_trans hle136 (Mem.le_trans hle145 hle149)), by omega, by first | exact and_step3 (by assumption) (by assumption) hab | exact and_step4 (by assumption) | exact and_step (by assumption) hab | exact and_step2 (by assumption) hab⟩
                  · (dsimp only; omega)
                refine WL.no rfl rfl rfl (by decide) ?_
                refine WL.no rfl rfl rfl (by decide) ?_
                refine WL.no rfl rfl rfl (by decide) ?_
                refine WL.no rfl rfl rfl (by decide) ?_
                refine WL.no rfl rfl rfl (by decide) ?_
                refine WL.no rfl rfl rfl (by decide) ?_
                refine WL.no rfl rfl rfl (by decide) ?_
                refine WL.no rfl rfl rfl (by decide) ?_
                refine WL.no rfl rfl rfl (by decide) ?_
                refine WL.x (X.pickF rfl rfl rfl) (by decide) ?_
                refine WL.x (X.assign rfl) (by decide) ?_
                refine WL.nil ?_
                refine WK.nThen ?_
                refine WC.cut (G := Mem × Value) (fun (m156, v174) => m156) (fun (m156, v174) => [rowF (v174) 3 (([] ++ ((gt ((prsR c.D c.M).1) i).take k)) ++ ((gt ((prsR c.D c.M).1) i).drop (k + 1))), blk b10 28 [v1, v3, v5]]) (fun (m156, v174) => [(1, vset), (2, .pointer (some ⟨b10, 0, none⟩)), (5, .bool true), (6, v17), (9, .bool (wb)), (10, .int .i64 (↑i)), (11, .bool false), (12, .int .i64 (↑k)), (13, v174)]) (fun (m156, v174) => mn.le m156 ∧ Sl (α := Span) m156 v1 c.D.Rates ∧ Sl (α := Stop) m156 v3 c.D.Stops ∧ Sl (α := Mark) m156 v5 c.M) ?_ ?_
                · refine WC.draw (π := (.cons 1 (.cons 2 (.cons 3 (.cons 4 (.cons 5 (.cons 6 (.cons 8 (.cons 9 (.cons 10 (.cons 11 (.cons 12 (.cons 13 (.fork (.cons 0 (.fork (.cons 7 (.cons 14 (.cons 15 (.cons 16 .done)))) (.cons 14 (.cons 7 (.cons 15 (.cons 16 .done)))))) (.cons 14 (.cons 0 (.cons 7 (.cons 15 (.cons 16 .done))))))))))))))))))) [0, 7, 14, 15] [7, 15, 100010, 100011, 100013] rfl (by kernel_rfl) ?_
                  refine DW.x rfl rfl (X.move rfl) (by decide) ?_
                  refine DW.x rfl rfl (X.move rfl) (by decide) ?_
                  refine DW.xe rfl rfl (E.idxN i Try.runUnderlying52 Try.sizeOf29 rfl rfl hs18 (by omega)) (by decide) (fun p157 hp158 => ?_)
                  refine DW.xe rfl rfl (E.loadSl Try.isAgg29 rfl hp158) (by decide) (fun v159 hs160 => ?_)
                  have hl161 := hs160.le
                  refine DW.x rfl rfl (X.move rfl) (by decide) ?_
                  refine DW.xe rfl rfl (E.slH k Try.underlying29 Try.sizeOf3 rfl rfl hs160 (by omega) (by omega)) (by decide) (fun v162 hs163 => ?_)
                  refine DW.x rfl rfl (X.move rfl) (by decide) ?_
                  refine DW.x rfl rfl (X.move rfl) (by decide) ?_
                  refine DW.xfe rfl rfl rfl (EF.idxN i Try.runUnderlying52 Try.sizeOf29 rfl rfl hs18 (by omega)) (by decide) (fun p164 hp165 => ?_)
                  refine DW.xfe rfl rfl rfl (EF.loadSl Try.isAgg29 rfl hp165) (by decide) (fun v166 hs167 => ?_)
                  have hl168 := hs167.le
                  refine DW.x rfl rfl (X.move rfl) (by decide) ?_
                  refine DW.xf rfl rfl rfl (fun _ _ hle_ => (X.add rfl rfl (by omega) (by omega))) (by decide) ?_
                  refine DW.fork (List.cons_ne_nil _ _) ?_ ?_
                  · refine DW.tO rfl rfl rfl (OpTo.taO (T.lit0 (α := Int) sl29 rfl)) (by decide) (fun m170 Es_ v169 hle171 hR_ => ?_)
                    subst hR_
                    replace hs2 := hs2.mono hle171
                    replace hs4 := hs4.mono hle171
                    replace hs6 := hs6.mono hle171
                    replace hset := hset.mono hle171
                    replace hs18 := hs18.mono hle171
                    replace hp40 := hp40.mono hle171
                    replace hs42 := hs42.mono hle171
                    replace hp158 := hp158.mono hle171
                    replace hs160 := hs160.mono hle171
                    replace hs163 := hs163.mono hle171
                    replace hp165 := hp165.mono hle171
                    replace hs167 := hs167.mono hle171
                    refine DW.fork (List.cons_ne_nil _ _) ?_ ?_
                    · refine DW.ta rfl rfl rfl rfl (T.appendI (k := 0) sl29 rfl rfl hs163 rfl (by first | omega | (simp; omega)) (by first | omega | (simp; omega))) (by decide) (fun v172 => ?_)
                      refine DW.xep rfl rfl rfl (fun _ => (E.slL (k + 1) Try.underlying29 Try.sizeOf3 rfl rfl hs167 (by omega) (by omega))) (by decide) (fun v173 hs174 => ?_)
                      refine DW.ta rfl rfl rfl rfl (T.appendI (k := 0) sl29 rfl rfl hs174 rfl (by first | omega | (simp; omega)) (by first | omega | (simp; omega))) (by decide) (fun v175 => ?_)
                      refine DW.x rfl rfl (X.assign rfl) (by decide) ?_
                      refine DW.nil ?_
                      refine WK.nThen ?_
                      exact WK.meet (m170, v175) rfl (.refl _) (.cons rfl (.cons rfl (.cons rfl (.cons rfl (.cons rfl (.cons rfl (.cons rfl (.cons rfl (.cons rfl .nil))))))))) ⟨hle171, hs2, hs4, hs6⟩
                    refine DW.xep rfl rfl rfl (fun _ => (E.slL (k + 1) Try.underlying29 Try.sizeOf3 rfl rfl hs167 (by omega) (by omega))) (by decide) (fun v176 hs177 => ?_)
                    refine DW.ta rfl rfl rfl rfl (T.appendI (k := 0) sl29 rfl rfl hs163 rfl (by first | omega | (simp; omega)) (by first | omega | (simp; omega))) (by decide) (fun v178 => ?_)
                    refine DW.ta rfl rfl rfl rfl (T.appendI (k := 0) sl29 rfl rfl hs177 rfl (by first | omega | (simp; omega)) (by first | omega | (simp; omega))) (by decide) (fun v179 => ?_)
                    refine DW.x rfl rfl (X.assign rfl) (by decide) ?_
                    refine DW.nil ?_
                    refine WK.nThen ?_
                    exact WK.meet (m170, v179) rfl (.refl _) (.cons rfl (.cons rfl (.cons rfl (.cons rfl (.cons rfl (.cons rfl (.cons rfl (.cons rfl (.cons rfl .nil))))))))) ⟨hle171, hs2, hs4, hs6⟩
                  refine DW.xep rfl rfl rfl (fun _ => (E.slL (k + 1) Try.underlying29 Try.sizeOf3 rfl rfl hs167 (by omega) (by omega))) (by decide) (fun v180 hs181 => ?_)
                  refine DW.tO rfl rfl rfl (OpTo.taO (T.lit0 (α := Int) sl29 rfl)) (by decide) (fun m183 Es_ v182 hle184 hR_ => ?_)
                  subst hR_
                  replace hs2 := hs2.mono hle184
                  replace hs4 := hs4.mono hle184
                  replace hs6 := hs6.mono hle184
                  replace hset := hset.mono hle184
                  replace hs18 := hs18.mono hle184
                  replace hp40 := hp40.mono hle184
                  replace hs42 := hs42.mono hle184
                  replace hp158 := hp158.mono hle184
                  replace hs160 := hs160.mono hle184
                  replace hs163 := hs163.mono hle184
                  replace hp165 := hp165.mono hle184
                  replace hs167 := hs167.mono hle184
                  replace hs181 := hs181.mono hle184
                  refine DW.ta rfl rfl rfl rfl (T.appendI (k := 0) sl29 rfl rfl hs163 rfl (by first | omega | (simp; omega)) (by first | omega | (simp; omega))) (by decide) (fun v185 => ?_)
                  refine DW.ta rfl rfl rfl rfl (T.appendI (k := 0) sl29 rfl rfl hs181 rfl (by first | omega | (simp; omega)) (by first | omega | (simp; omega))) (by decide) (fun v186 => ?_)
                  refine DW.x rfl rfl (X.assign rfl) (by decide) ?_
                  refine DW.nil ?_
                  refine WK.nThen ?_
                  exact WK.meet (m183, v186) rfl (.refl _) (.cons rfl (.cons rfl (.cons rfl (.cons rfl (.cons rfl (.cons rfl (.cons rfl (.cons rfl (.cons rfl .nil))))))))) ⟨hle184, hs2, hs4, hs6⟩
                rintro ⟨m156, v174⟩ ⟨hle187, hs188, hs189, hs190⟩
                show WK _ _ m156 [rowF (v174) 3 (([] ++ ((gt ((prsR c.D c.M).1) i).take k)) ++ ((gt ((prsR c.D c.M).1) i).drop (k + 1))), blk b10 28 [v1, v3, v5]] [(1, vset), (2, .pointer (some ⟨b10, 0, none⟩)), (5, .bool true), (6, v17), (9, .bool (wb)), (10, .int .i64 (↑i)), (11, .bool false), (12, .int .i64 (↑k)), (13, v174)] _
                replace hs2 := hs2.mono hle187
                replace hs4 := hs4.mono hle187
                replace hs6 := hs6.mono hle187
                replace hset := hset.mono hle187
                replace hs18 := hs18.mono hle187
                replace hp40 := hp40.mono hle187
                replace hs42 := hs42.mono hle187
                have hl191 := hs188.le
                have hl192 := hs189.le
                have hl193 := hs190.le
                refine WC.seq ?_
                have he194 : (([] ++ ((gt ((prsR c.D c.M).1) i).take k)) ++ ((gt ((prsR c.D c.M).1) i).drop (k + 1))) = ((gt (prsR c.D c.M).1 i).take k ++ (gt (prsR c.D c.M).1 i).drop (k + 1)) := (by simp)
                rw [he194]
                have hrl_ : ((gt (prsR c.D c.M).1 i).take k ++ (gt (prsR c.D c.M).1 i).drop (k + 1)).length ≤ 2 := (by simp; omega)
                refine WK.freezeF 0 rfl rfl (by unfold lenB; omega) (fun m195 hle196 hs197 => ?_)
                replace hs2 := hs2.mono hle196
                replace hs4 := hs4.mono hle196
                replace hs6 := hs6.mono hle196
                replace hset := hset.mono hle196
                replace hs18 := hs18.mono hle196
                replace hp40 := hp40.mono hle196
                replace hs42 := hs42.mono hle196
                replace hs188 := hs188.mono hle196
                replace hs189 := hs189.mono hle196
                replace hs190 := hs190.mono hle196
                have hmr := min_rest (prs_val he0).1 hpi1 (j := k) (by omega)
                have hmr1 := hmr.1
                have hmr2 := hmr.2
                refine WC.draw (π := (.cons 0 (.cons 1 (.cons 2 (.cons 3 (.cons 4 (.cons 5 (.cons 6 (.cons 7 (.cons 8 (.cons 9 (.cons 10 (.cons 11 .done))))))))))))) [5] [] rfl (by kernel_rfl) ?_
                refine DW.x rfl rfl (X.field Try.runUnderlying28 rfl Try.sizeOf25 rfl) (by decide) ?_
                refine DW.x rfl rfl (X.loadBP (k := 0) (vs := [v1, v3]) Try.isAgg25 Try.sizeOf25 rfl rfl rfl rfl) (by decide) ?_
                refine DW.x rfl rfl (X.field Try.runUnderlying28 rfl Try.sizeOf26 rfl) (by decide) ?_
                refine DW.x rfl rfl (X.loadB (k := 0) Try.isAgg26 rfl rfl rfl) (by decide) ?_
                refine DW.x rfl rfl (X.move rfl) (by decide) ?_
                refine DW.tm rfl rfl rfl (T.call Try.call34 rfl (pick34 _ _ _ hs190 _ _ hs197 (by first | omega | simp))) (by decide) fun m198 r199 hle200 hR201 => ?_
                obtain ⟨v202, hv_, hs203⟩ := hR201
                rw [← hv_] at hs203
                clear hv_ v202
                replace hs2 := hs2.mono hle200
                replace hs4 := hs4.mono hle200
                replace hs6 := hs6.mono hle200
                replace hset := hset.mono hle200
                replace hs18 := hs18.mono hle200
                replace hp40 := hp40.mono hle200
                replace hs42 := hs42.mono hle200
                replace hs188 := hs188.mono hle200
                replace hs189 := hs189.mono hle200
                replace hs190 := hs190.mono hle200
                replace hs197 := hs197.mono hle200
                have hl204 := hs203.le
                refine DW.x rfl rfl (X.call Try.call33 rfl (feasible33 _ _ c.D ⟨_, _, rfl, hs188, hs189⟩ _ _ hs203 )) (by decide) ?_
                refine DW.x rfl rfl (X.move rfl) (by decide) ?_
                refine DW.x rfl rfl (X.extract rfl rfl) (by decide) ?_
                refine DW.x rfl rfl (X.extract rfl rfl) (by decide) ?_
                refine DW.x rfl rfl (X.assign rfl) (by decide) ?_
                refine DW.x rfl rfl (X.assign rfl) (by decide) ?_
                refine DW.nil ?_
                refine WK.nThen ?_
                refine WC.seq ?_
                refine WC.region ?_
                refine WL.x (X.move rfl) (by decide) ?_
                refine WL.condn (X.neq rfl rfl) (by decide) (fun h205 => ?_) (fun h205 => ?_)
                · refine WL.x (X.move rfl) (by decide) ?_
                  refine WL.no rfl rfl rfl (by decide) ?_
                  refine WL.no rfl rfl rfl (by decide) ?_
                  refine WL.x (X.pickT rfl rfl rfl) (by decide) ?_
                  refine WL.nil ?_
                  refine WK.nThen ?_
                  refine WC.condT rfl ?_
                  refine WC.seq ?_
                  refine WC.region ?_
                  refine WL.x (X.assign rfl) (by decide) ?_
                  refine WL.nil ?_
                  refine WK.nThen ?_
                  refine WC.ret ?_
                  refine WK.rBlock ?_
                  refine WK.rThen ?_
                  refine WK.rThen ?_
                  refine WK.rBlock ?_
                  refine WK.rThen ?_
                  refine WK.rBlock ?_
                  refine WK.rThen ?_
                  refine WK.rThen ?_
                  refine WK.rBlock ?_
                  refine WK.rThen ?_
                  refine WK.ret1 rfl rfl (fun w' hw' => Ret.exact hw' ?_)
                  first | rfl | (exfalso; omega) | (exfalso; contradiction) | (exfalso; simp_all; done) | exact (bool_true (min_fin hme2 hwb)).symm | exact (bool_true (by first | omega | assumption)).symm
                refine WL.x (X.move rfl) (by decide) ?_
                refine WL.yes rfl rfl ?_
                refine WL.x (X.move rfl) (by decide) ?_
                refine WL.yes rfl rfl ?_
                refine WL.condb (X.not rfl) (by decide) (fun h206 => ?_) (fun h206 => ?_)
                · refine WL.x (X.pickF rfl rfl rfl) (by decide) ?_
                  refine WL.nil ?_
                  refine WK.nThen ?_
                  refine WC.condT rfl ?_
                  refine WC.seq ?_
                  refine WC.region ?_
                  refine WL.x (X.assign rfl) (by decide) ?_
                  refine WL.nil ?_
                  refine WK.nThen ?_
                  refine WC.ret ?_
                  refine WK.rBlock ?_
                  refine WK.rThen ?_
                  refine WK.rThen ?_
                  refine WK.rBlock ?_
                  refine WK.rThen ?_
                  refine WK.rBlock ?_
                  refine WK.rThen ?_
                  refine WK.rThen ?_
                  refine WK.rBlock ?_
                  refine WK.rThen ?_
                  refine WK.ret1 rfl rfl (fun w' hw' => Ret.exact hw' ?_)
                  first | rfl | (exfalso; omega) | (exfalso; contradiction) | (exfalso; simp_all; done) | exact (bool_true (min_fin hme2 hwb)).symm | exact (bool_true (by first | omega | assumption)).symm
                refine WL.x (X.pickF rfl rfl rfl) (by decide) ?_
                refine WL.nil ?_
                refine WK.nThen ?_
                refine WC.condF rfl ?_
                refine WC.skip ?_
                refine WK.nBlock ?_
                refine WK.nThen ?_
                refine WC.region ?_
                refine WL.x (X.move rfl) (by decide) ?_
                refine WL.x (X.add rfl rfl (by omega) (by omega)) (by decide) ?_
                refine WL.x (X.assign rfl) (by decide) ?_
                refine WL.nil ?_
                refine WK.nThen ?_
                refine WK.next ((k + 1, false, m198)) rfl (.refl _) (.cons rfl (.cons rfl (.cons rfl (.cons rfl (.cons rfl (.cons rfl (.cons rfl (.cons rfl .nil)))))))) ?_ ?_
                · exact ⟨Mem.le_trans hmn (Mem.le_trans hle187 (Mem.le_trans hle196 hle200)), by omega, by first | exact and_step3 (by assumption) (by assumption) hab | exact and_step4 (by assumption) | exact and_step (by assumption) hab | exact and_step2 (by assumption) hab⟩
                · (dsimp only; omega)
              refine WL.nil ?_
              refine WK.nThen ?_
              refine WC.condF rfl ?_
              refine WC.exit ?_
              refine WK.eThen ?_
              refine WK.eThen ?_
              refine WK.eHit ?_
              refine WK.nThen ?_
              obtain rfl : k = (gt (prsR c.D c.M).1 i).length := (by omega)
              have hal := hab
              refine WC.region ?_
              refine WL.x (X.move rfl) (by decide) ?_
              refine WL.condb (X.move rfl) (by decide) (fun h207 => ?_) (fun h207 => ?_)
              · refine WL.no rfl rfl rfl (by decide) ?_
                refine WL.x (X.pickT rfl rfl rfl) (by decide) ?_
                refine WL.x (X.assign rfl) (by decide) ?_
                refine WL.nil ?_
                refine WK.nBlock ?_
                refine WK.nThen ?_
                refine WC.region ?_
                refine WL.x (X.move rfl) (by decide) ?_
                refine WL.x (X.add rfl rfl (by omega) (by omega)) (by decide) ?_
                refine WL.x (X.assign rfl) (by decide) ?_
                refine WL.nil ?_
                refine WK.nThen ?_
                refine WK.next ((i + 1, true, mn)) rfl (.refl _) (.cons rfl (.cons rfl (.cons rfl (.cons rfl (.cons rfl (.cons rfl .nil)))))) ?_ ?_
                · exact ⟨Mem.le_trans hmm hmn, by omega, by first | exact or_step (by assumption) hwb | exact or_step2 (by assumption) hwb hal⟩
                · (dsimp only; omega)
              refine WL.yes rfl rfl ?_
              refine WL.x (X.move rfl) (by decide) ?_
              refine WL.x (X.pickF rfl rfl rfl) (by decide) ?_
              refine WL.x (X.assign rfl) (by decide) ?_
              refine WL.nil ?_
              refine WK.nBlock ?_
              refine WK.nThen ?_
              refine WC.region ?_
              refine WL.x (X.move rfl) (by decide) ?_
              refine WL.x (X.add rfl rfl (by omega) (by omega)) (by decide) ?_
              refine WL.x (X.assign rfl) (by decide) ?_
              refine WL.nil ?_
              refine WK.nThen ?_
              refine WK.next ((i + 1, ab, mn)) rfl (.refl _) (.cons rfl (.cons rfl (.cons rfl (.cons rfl (.cons rfl (.cons rfl .nil)))))) ?_ ?_
              · exact ⟨Mem.le_trans hmm hmn, by omega, by first | exact or_step (by assumption) hwb | exact or_step2 (by assumption) hwb hal⟩
              · (dsimp only; omega)
          refine WL.nil ?_
          refine WK.nThen ?_
          refine WC.condF rfl ?_
          refine WC.exit ?_
          refine WK.eThen ?_
          refine WK.eThen ?_
          refine WK.eHit ?_
          refine WK.nThen ?_
          refine WC.seq ?_
          obtain rfl : i = (prsR c.D c.M).1.length := (by omega)
          have hme := min_end he0 (l := set) (by omega)
          have hme1 := hme.1
          have hme2 := hme.2
          refine WC.draw (π := (.cons 0 (.cons 1 (.cons 2 (.cons 3 (.cons 4 (.cons 5 (.cons 6 (.cons 7 (.cons 8 (.cons 9 (.cons 10 (.cons 11 .done))))))))))))) [5] [] rfl (by kernel_rfl) ?_
          refine DW.x rfl rfl (X.field Try.runUnderlying28 rfl Try.sizeOf25 rfl) (by decide) ?_
          refine DW.x rfl rfl (X.loadBP (k := 0) (vs := [v1, v3]) Try.isAgg25 Try.sizeOf25 rfl rfl rfl rfl) (by decide) ?_
          refine DW.x rfl rfl (X.field Try.runUnderlying28 rfl Try.sizeOf26 rfl) (by decide) ?_
          refine DW.x rfl rfl (X.loadB (k := 0) Try.isAgg26 rfl rfl rfl) (by decide) ?_
          refine DW.x rfl rfl (X.move rfl) (by decide) ?_
          refine DW.tm rfl rfl rfl (T.call Try.call34 rfl (pick34 _ _ _ hs6 _ _ hset (by first | omega | simp))) (by decide) fun m208 r209 hle210 hR211 => ?_
          obtain ⟨v212, hv_, hs213⟩ := hR211
          rw [← hv_] at hs213
          clear hv_ v212
          replace hs2 := hs2.mono hle210
          replace hs4 := hs4.mono hle210
          replace hs6 := hs6.mono hle210
          replace hset := hset.mono hle210
          replace hs18 := hs18.mono hle210
          have hl214 := hs213.le
          refine DW.x rfl rfl (X.call Try.call33 rfl (feasible33 _ _ c.D ⟨_, _, rfl, hs2, hs4⟩ _ _ hs213 )) (by decide) ?_
          refine DW.x rfl rfl (X.move rfl) (by decide) ?_
          refine DW.x rfl rfl (X.extract rfl rfl) (by decide) ?_
          refine DW.x rfl rfl (X.extract rfl rfl) (by decide) ?_
          refine DW.x rfl rfl (X.assign rfl) (by decide) ?_
          refine DW.x rfl rfl (X.assign rfl) (by decide) ?_
          refine DW.nil ?_
          refine WK.nThen ?_
          refine WC.seq ?_
          refine WC.region ?_
          refine WL.x (X.move rfl) (by decide) ?_
          refine WL.x (X.move rfl) (by decide) ?_
          refine WL.yes rfl rfl ?_
          refine WL.x (X.move rfl) (by decide) ?_
          refine WL.yes rfl rfl ?_
          refine WL.cond (X.eql rfl rfl) (by decide) (fun h215 => ?_) (fun h215 => ?_)
          · refine WL.x (X.pickT rfl rfl rfl) (by decide) ?_
            refine WL.x (X.move rfl) (by decide) ?_
            refine WL.yes rfl rfl ?_
            refine WL.x (X.move rfl) (by decide) ?_
            refine WL.yes rfl rfl ?_
            refine WL.x (X.move rfl) (by decide) ?_
            refine WL.yes rfl rfl ?_
            refine WL.x (X.not rfl) (by decide) ?_
            refine WL.yes rfl rfl ?_
            refine WL.x (X.eqlB Try.underlying4 rfl rfl) (by decide) ?_
            refine WL.x (X.pickT rfl rfl rfl) (by decide) ?_
            refine WL.x (X.assign rfl) (by decide) ?_
            refine WL.nil ?_
            refine WK.nThen ?_
            refine WC.ret ?_
            refine WK.ret1 rfl rfl (fun w' hw' => Ret.exact hw' ?_)
            first | rfl | (exfalso; omega) | (exfalso; contradiction) | (exfalso; simp_all; done) | exact (bool_true (min_fin hme2 hwb)).symm | exact (bool_true (by first | omega | assumption)).symm
          refine WL.x (X.pickT rfl rfl rfl) (by decide) ?_
          refine WL.x (X.move rfl) (by decide) ?_
          refine WL.no rfl rfl rfl (by decide) ?_
          refine WL.no rfl rfl rfl (by decide) ?_
          refine WL.no rfl rfl rfl (by decide) ?_
          refine WL.no rfl rfl rfl (by decide) ?_
          refine WL.x (X.pickF rfl rfl rfl) (by decide) ?_
          refine WL.x (X.assign rfl) (by decide) ?_
          refine WL.nil ?_
          refine WK.nThen ?_
          refine WC.ret ?_
          refine WK.ret1 rfl rfl (fun w' hw' => Ret.exact hw' ?_)
          first | rfl | (exfalso; omega) | (exfalso; contradiction) | (exfalso; simp_all; done) | exact (bool_true (min_fin hme2 hwb)).symm | exact (bool_true (by first | omega | assumption)).symm
    refine WL.x (X.move rfl) (by decide) ?_
    refine WL.no rfl rfl rfl (by decide) ?_
    refine WL.no rfl rfl rfl (by decide) ?_
    refine WL.x (X.pickF rfl rfl rfl) (by decide) ?_
    refine WL.nil ?_
    refine WK.nThen ?_
    refine WC.condF rfl ?_
    refine WC.skip ?_
    refine WK.nThen ?_
    refine WC.seq ?_
    refine WC.seq ?_
    have he0 : (prsR c.D c.M).2 = 0 ∨ (prsR c.D c.M).2 = 3 := (by omega)
    refine WC.region ?_
    refine WL.x (X.assign rfl) (by decide) ?_
    refine WL.nil ?_
    refine WK.nThen ?_
    refine WC.block ?_
    refine WC.loop (G := Nat) (fun k => set.length - k) (fun k => m13) (fun k => [blk b10 28 [v1, v3, v5]]) (fun k => [(1, vset), (2, .pointer (some ⟨b10, 0, none⟩)), (5, .bool true), (6, v17), (8, .int .i64 (↑k))]) (fun k => k ≤ set.length) 0 rfl (.refl _) (.cons rfl (.cons rfl (.cons rfl (.cons rfl (.cons rfl .nil))))) ?_ ?_
    · exact Nat.zero_le _
    · rintro k hF216
      show WK _ _ m13 [blk b10 28 [v1, v3, v5]] [(1, vset), (2, .pointer (some ⟨b10, 0, none⟩)), (5, .bool true), (6, v17), (8, .int .i64 (↑k))] _
      replace hF216 : k ≤ set.length := hF216
      have hk := hF216
      refine WC.seq ?_
      refine WC.seq ?_
      refine WC.region ?_
      refine WL.x (X.move rfl) (by decide) ?_
      refine WL.x (X.move rfl) (by decide) ?_
      refine WL.x (X.len Try.runUnderlying29 rfl hset) (by decide) ?_
      refine WL.cond (X.lss rfl rfl) (by decide) (fun h217 => ?_) (fun h217 => ?_)
      · refine WL.nil ?_
        refine WK.nThen ?_
        refine WC.condT rfl ?_
        refine WC.skip ?_
        refine WK.nThen ?_
        refine WC.seq ?_
        refine WC.block ?_
        refine WC.seq ?_
        refine WC.draw (π := (.cons 0 (.cons 1 (.cons 2 (.cons 3 (.cons 4 (.cons 5 (.cons 6 (.cons 7 (.cons 8 (.cons 9 (.cons 10 (.cons 11 (.cons 12 (.cons 13 (.cons 14 (.cons 15 (.cons 16 (.cons 17 (.cons 18 (.cons 19 (.cons 20 (.cons 21 (.cons 22 (.cons 23 (.cons 24 (.cons 25 (.cons 26 (.cons 27 (.cons 28 (.cons 29 (.cons 30 .done)))))))))))))))))))))))))))))))) [] [] rfl (by kernel_rfl) ?_
        refine DW.x rfl rfl (X.move rfl) (by decide) ?_
        refine DW.x rfl rfl (X.move rfl) (by decide) ?_
        refine DW.xe rfl rfl (E.idxN k Try.runUnderlying29 Try.sizeOf3 rfl rfl hset (by omega)) (by decide) (fun p218 hp219 => ?_)
        refine DW.x rfl rfl (X.loadInt Try.isAgg3 rfl hp219) (by decide) ?_
        refine DW.cond rfl rfl (X.lss rfl rfl) (by decide) (fun h220 => ?_) (fun h220 => ?_)
        · refine DW.x rfl rfl (X.move rfl) (by decide) ?_
          refine DW.no rfl rfl (by decide) ?_
          refine DW.no rfl rfl (by decide) ?_
          refine DW.no rfl rfl (by decide) ?_
          refine DW.no rfl rfl (by decide) ?_
          refine DW.no rfl rfl (by decide) ?_
          refine DW.no rfl rfl (by decide) ?_
          refine DW.no rfl rfl (by decide) ?_
          refine DW.no rfl rfl (by decide) ?_
          refine DW.x rfl rfl (X.pickT rfl rfl rfl) (by decide) ?_
          refine DW.x rfl rfl (X.move rfl) (by decide) ?_
          refine DW.no rfl rfl (by decide) ?_
          refine DW.no rfl rfl (by decide) ?_
          refine DW.no rfl rfl (by decide) ?_
          refine DW.no rfl rfl (by decide) ?_
          refine DW.no rfl rfl (by decide) ?_
          refine DW.no rfl rfl (by decide) ?_
          refine DW.no rfl rfl (by decide) ?_
          refine DW.no rfl rfl (by decide) ?_
          refine DW.no rfl rfl (by decide) ?_
          refine DW.no rfl rfl (by decide) ?_
          refine DW.no rfl rfl (by decide) ?_
          refine DW.no rfl rfl (by decide) ?_
          refine DW.no rfl rfl (by decide) ?_
          refine DW.no rfl rfl (by decide) ?_
          refine DW.x rfl rfl (X.pickT rfl rfl rfl) (by decide) ?_
          refine DW.nil ?_
          refine WK.nThen ?_
          refine WC.condT rfl ?_
          refine WC.seq ?_
          refine WC.region ?_
          refine WL.x (X.move rfl) (by decide) ?_
          refine WL.x (X.assign rfl) (by decide) ?_
          refine WL.nil ?_
          refine WK.nThen ?_
          refine WC.ret ?_
          refine WK.rBlock ?_
          refine WK.rThen ?_
          refine WK.rThen ?_
          refine WK.rBlock ?_
          refine WK.rThen ?_
          refine WK.ret1 rfl rfl (fun w' hw' => Ret.exact hw' ?_)
          first | rfl | (exfalso; omega) | (exfalso; contradiction) | (exfalso; simp_all; done) | exact (bool_true (min_fin hme2 hwb)).symm | exact (bool_true (by first | omega | assumption)).symm
        refine DW.x rfl rfl (X.move rfl) (by decide) ?_
        refine DW.x rfl rfl (X.move rfl) (by decide) ?_
        refine DW.x rfl rfl (X.move rfl) (by decide) ?_
        refine DW.xe rfl rfl (E.idxN k Try.runUnderlying29 Try.sizeOf3 rfl rfl hset (by omega)) (by decide) (fun p221 hp222 => ?_)
        refine DW.x rfl rfl (X.loadInt Try.isAgg3 rfl hp222) (by decide) ?_
        refine DW.x rfl rfl (X.field Try.runUnderlying28 rfl Try.sizeOf26 rfl) (by decide) ?_
        refine DW.x rfl rfl (X.loadB (k := 0) Try.isAgg26 rfl rfl rfl) (by decide) ?_
        refine DW.x rfl rfl (X.len Try.runUnderlying26 rfl hs6) (by decide) ?_
        refine DW.cond rfl rfl (X.geq rfl rfl) (by decide) (fun h223 => ?_) (fun h223 => ?_)
        · refine DW.x rfl rfl (X.pickF rfl rfl rfl) (by decide) ?_
          refine DW.x rfl rfl (X.move rfl) (by decide) ?_
          refine DW.no rfl rfl (by decide) ?_
          refine DW.no rfl rfl (by decide) ?_
          refine DW.no rfl rfl (by decide) ?_
          refine DW.no rfl rfl (by decide) ?_
          refine DW.no rfl rfl (by decide) ?_
          refine DW.no rfl rfl (by decide) ?_
          refine DW.no rfl rfl (by decide) ?_
          refine DW.no rfl rfl (by decide) ?_
          refine DW.no rfl rfl (by decide) ?_
          refine DW.no rfl rfl (by decide) ?_
          refine DW.no rfl rfl (by decide) ?_
          refine DW.no rfl rfl (by decide) ?_
          refine DW.no rfl rfl (by decide) ?_
          refine DW.no rfl rfl (by decide) ?_
          refine DW.x rfl rfl (X.pickT rfl rfl rfl) (by decide) ?_
          refine DW.nil ?_
          refine WK.nThen ?_
          refine WC.condT rfl ?_
          refine WC.seq ?_
          refine WC.region ?_
          refine WL.x (X.move rfl) (by decide) ?_
          refine WL.x (X.assign rfl) (by decide) ?_
          refine WL.nil ?_
          refine WK.nThen ?_
          refine WC.ret ?_
          refine WK.rBlock ?_
          refine WK.rThen ?_
          refine WK.rThen ?_
          refine WK.rBlock ?_
          refine WK.rThen ?_
          refine WK.ret1 rfl rfl (fun w' hw' => Ret.exact hw' ?_)
          first | rfl | (exfalso; omega) | (exfalso; contradiction) | (exfalso; simp_all; done) | exact (bool_true (min_fin hme2 hwb)).symm | exact (bool_true (by first | omega | assumption)).symm
        refine DW.x rfl rfl (X.pickF rfl rfl rfl) (by decide) ?_
        refine DW.x rfl rfl (X.move rfl) (by decide) ?_
        refine DW.x rfl rfl (X.move rfl) (by decide) ?_
        refine DW.cond rfl rfl (X.gtr rfl rfl) (by decide) (fun h224 => ?_) (fun h224 => ?_)
        · refine DW.x rfl rfl (X.move rfl) (by decide) ?_
          refine DW.x rfl rfl (X.move rfl) (by decide) ?_
          refine DW.x rfl rfl (X.move rfl) (by decide) ?_
          refine DW.xe rfl rfl (E.idxN k Try.runUnderlying29 Try.sizeOf3 rfl rfl hset (by omega)) (by decide) (fun p225 hp226 => ?_)
          refine DW.x rfl rfl (X.loadInt Try.isAgg3 rfl hp226) (by decide) ?_
          refine DW.x rfl rfl (X.move rfl) (by decide) ?_
          refine DW.x rfl rfl (X.move rfl) (by decide) ?_
          refine DW.x rfl rfl (X.sub rfl rfl (by omega) (by omega)) (by decide) ?_
          refine DW.xe rfl rfl (E.idxE (k - 1) Try.runUnderlying29 Try.sizeOf3 rfl rfl hset (by omega) (by omega)) (by decide) (fun p227 hp228 => ?_)
          refine DW.x rfl rfl (X.loadInt Try.isAgg3 rfl hp228) (by decide) ?_
          refine DW.cond rfl rfl (X.leq rfl rfl) (by decide) (fun h229 => ?_) (fun h229 => ?_)
          · refine DW.x rfl rfl (X.pickT rfl rfl rfl) (by decide) ?_
            refine DW.x rfl rfl (X.pickF rfl rfl rfl) (by decide) ?_
            refine DW.nil ?_
            refine WK.nThen ?_
            refine WC.condT rfl ?_
            refine WC.seq ?_
            refine WC.region ?_
            refine WL.x (X.move rfl) (by decide) ?_
            refine WL.x (X.assign rfl) (by decide) ?_
            refine WL.nil ?_
            refine WK.nThen ?_
            refine WC.ret ?_
            refine WK.rBlock ?_
            refine WK.rThen ?_
            refine WK.rThen ?_
            refine WK.rBlock ?_
            refine WK.rThen ?_
            refine WK.ret1 rfl rfl (fun w' hw' => Ret.exact hw' ?_)
            first | rfl | (exfalso; omega) | (exfalso; contradiction) | (exfalso; simp_all; done) | exact (bool_true (min_fin hme2 hwb)).symm | exact (bool_true (by first | omega | assumption)).symm
          refine DW.x rfl rfl (X.pickT rfl rfl rfl) (by decide) ?_
          refine DW.x rfl rfl (X.pickF rfl rfl rfl) (by decide) ?_
          refine DW.nil ?_
          refine WK.nThen ?_
          refine WC.condF rfl ?_
          refine WC.skip ?_
          refine WK.nBlock ?_
          refine WK.nThen ?_
          refine WC.region ?_
          refine WL.x (X.move rfl) (by decide) ?_
          refine WL.x (X.add rfl rfl (by omega) (by omega)) (by decide) ?_
          refine WL.x (X.assign rfl) (by decide) ?_
          refine WL.nil ?_
          refine WK.nThen ?_
          refine WK.next (k + 1) rfl (.refl _) (.cons rfl (.cons rfl (.cons rfl (.cons rfl (.cons rfl .nil))))) ?_ ?_
          · omega
          · omega
        refine DW.x rfl rfl (X.move rfl) (by decide) ?_
        refine DW.no rfl rfl (by decide) ?_
        refine DW.no rfl rfl (by decide) ?_
        refine DW.no rfl rfl (by decide) ?_
        refine DW.no rfl rfl (by decide) ?_
        refine DW.no rfl rfl (by decide) ?_
        refine DW.no rfl rfl (by decide) ?_
        refine DW.no rfl rfl (by decide) ?_
        refine DW.no rfl rfl (by decide) ?_
        refine DW.no rfl rfl (by decide) ?_
        refine DW.no rfl rfl (by decide) ?_
        refine DW.x rfl rfl (X.pickF rfl rfl rfl) (by decide) ?_
        refine DW.x rfl rfl (X.pickF rfl rfl rfl) (by decide) ?_
        refine DW.nil ?_
        refine WK.nThen ?_
        refine WC.condF rfl ?_
        refine WC.skip ?_
        refine WK.nBlock ?_
        refine WK.nThen ?_
        refine WC.region ?_
        refine WL.x (X.move rfl) (by decide) ?_
        refine WL.x (X.add rfl rfl (by omega) (by omega)) (by decide) ?_
        refine WL.x (X.assign rfl) (by decide) ?_
        refine WL.nil ?_
        refine WK.nThen ?_
        refine WK.next (k + 1) rfl (.refl _) (.cons rfl (.cons rfl (.cons rfl (.cons rfl (.cons rfl .nil))))) ?_ ?_
        · omega
        · omega
      refine WL.nil ?_
      refine WK.nThen ?_
      refine WC.condF rfl ?_
      refine WC.exit ?_
      refine WK.eThen ?_
      refine WK.eThen ?_
      refine WK.eHit ?_
      refine WK.nThen ?_
      refine WC.seq ?_
      refine WC.region ?_
      refine WL.x (X.assign rfl) (by decide) ?_
      refine WL.nil ?_
      refine WK.nThen ?_
      refine WC.seq ?_
      refine WC.seq ?_
      refine WC.region ?_
      refine WL.x (X.assign rfl) (by decide) ?_
      refine WL.nil ?_
      refine WK.nThen ?_
      refine WC.block ?_
      refine WC.loop (G := Nat × Bool × Mem) (fun (i, wb, mm) => (prsR c.D c.M).1.length - i) (fun (i, wb, mm) => mm) (fun (i, wb, mm) => [blk b10 28 [v1, v3, v5]]) (fun (i, wb, mm) => [(1, vset), (2, .pointer (some ⟨b10, 0, none⟩)), (5, .bool true), (6, v17), (9, .bool (wb)), (10, .int .i64 (↑i))]) (fun (i, wb, mm) => m13.le mm ∧ i ≤ (prsR c.D c.M).1.length ∧ (wb = true ↔ ∃ j, j < i ∧ ∀ n, n < (gt (prsR c.D c.M).1 j).length → gt (gt (prsR c.D c.M).1 j) n ∈ set)) ((0, false, m13)) rfl (.refl _) (.cons rfl (.cons rfl (.cons rfl (.cons rfl (.cons rfl (.cons rfl .nil)))))) ?_ ?_
      · exact ⟨Mem.le_refl _, Nat.zero_le _, ⟨fun h_ => Bool.noConfusion h_, fun ⟨j, hj, _⟩ => absurd hj (Nat.not_lt_zero _)⟩⟩
      · rintro ⟨i, wb, mm⟩ hF230
        show WK _ _ mm [blk b10 28 [v1, v3, v5]] [(1, vset), (2, .pointer (some ⟨b10, 0, none⟩)), (5, .bool true), (6, v17), (9, .bool (wb)), (10, .int .i64 (↑i))] _
        replace hF230 : m13.le mm ∧ i ≤ (prsR c.D c.M).1.length ∧ (wb = true ↔ ∃ j, j < i ∧ ∀ n, n < (gt (prsR c.D c.M).1 j).length → gt (gt (prsR c.D c.M).1 j) n ∈ set) := hF230
        obtain ⟨hmm, hi, hwb⟩ := hF230
        replace hs2 := hs2.mono hmm
        replace hs4 := hs4.mono hmm
        replace hs6 := hs6.mono hmm
        replace hset := hset.mono hmm
        replace hs18 := hs18.mono hmm
        refine WC.seq ?_
        refine WC.seq ?_
        refine WC.region ?_
        refine WL.x (X.move rfl) (by decide) ?_
        refine WL.x (X.move rfl) (by decide) ?_
        refine WL.x (X.len Try.runUnderlying52 rfl hs18) (by decide) ?_
        refine WL.cond (X.lss rfl rfl) (by decide) (fun h231 => ?_) (fun h231 => ?_)
        · refine WL.nil ?_
          refine WK.nThen ?_
          refine WC.condT rfl ?_
          refine WC.skip ?_
          refine WK.nThen ?_
          refine WC.seq ?_
          refine WC.block ?_
          refine WC.seq ?_
          have hpi := min_two he0 (i := i) (by omega)
          have hpi1 := hpi.1
          have hpi2 := hpi.2
          refine WC.region ?_
          refine WL.x (X.assign rfl) (by decide) ?_
          refine WL.nil ?_
          refine WK.nThen ?_
          refine WC.seq ?_
          refine WC.seq ?_
          refine WC.region ?_
          refine WL.x (X.assign rfl) (by decide) ?_
          refine WL.nil ?_
          refine WK.nThen ?_
          refine WC.block ?_
          refine WC.loop (G := Nat × Bool × Mem) (fun (k, ab, mn) => (gt (prsR c.D c.M).1 i).length - k) (fun (k, ab, mn) => mn) (fun (k, ab, mn) => [blk b10 28 [v1, v3, v5]]) (fun (k, ab, mn) => [(1, vset), (2, .pointer (some ⟨b10, 0, none⟩)), (5, .bool true), (6, v17), (9, .bool (wb)), (10, .int .i64 (↑i)), (11, .bool (ab)), (12, .int .i64 (↑k))]) (fun (k, ab, mn) => mm.le mn ∧ k ≤ (gt (prsR c.D c.M).1 i).length ∧ (ab = true ↔ ∀ n, n < k → gt (gt (prsR c.D c.M).1 i) n ∈ set)) ((0, true, mm)) rfl (.refl _) (.cons rfl (.cons rfl (.cons rfl (.cons rfl (.cons rfl (.cons rfl (.cons rfl (.cons rfl .nil)))))))) ?_ ?_
          · exact ⟨Mem.le_refl _, Nat.zero_le _, ⟨fun _ n hn => absurd hn (Nat.not_lt_zero _), fun _ => rfl⟩⟩
          · rintro ⟨k, ab, mn⟩ hF232
            show WK _ _ mn [blk b10 28 [v1, v3, v5]] [(1, vset), (2, .pointer (some ⟨b10, 0, none⟩)), (5, .bool true), (6, v17), (9, .bool (wb)), (10, .int .i64 (↑i)), (11, .bool (ab)), (12, .int .i64 (↑k))] _
            replace hF232 : mm.le mn ∧ k ≤ (gt (prsR c.D c.M).1 i).length ∧ (ab = true ↔ ∀ n, n < k → gt (gt (prsR c.D c.M).1 i) n ∈ set) := hF232
            obtain ⟨hmn, hk, hab⟩ := hF232
            replace hs2 := hs2.mono hmn
            replace hs4 := hs4.mono hmn
            replace hs6 := hs6.mono hmn
            replace hset := hset.mono hmn
            replace hs18 := hs18.mono hmn
            refine WC.seq ?_
            refine WC.seq ?_
            refine WC.region ?_
            refine WL.x (X.move rfl) (by decide) ?_
            refine WL.x (X.move rfl) (by decide) ?_
            refine WL.x (X.move rfl) (by decide) ?_
            refine WL.xe (E.idxN i Try.runUnderlying52 Try.sizeOf29 rfl rfl hs18 (by omega)) (by decide) (fun p233 hp234 => ?_)
            refine WL.xe (E.loadSl Try.isAgg29 rfl hp234) (by decide) (fun v235 hs236 => ?_)
            have hl237 := hs236.le
            refine WL.x (X.len Try.runUnderlying29 rfl hs236) (by decide) ?_
            refine WL.cond (X.lss rfl rfl) (by decide) (fun h238 => ?_) (fun h238 => ?_)
            · refine WL.nil ?_
              refine WK.nThen ?_
              refine WC.condT rfl ?_
              refine WC.skip ?_
              refine WK.nThen ?_
              refine WC.seq ?_
              refine WC.block ?_
              refine WC.seq ?_
              refine WC.region ?_
              refine WL.x (X.move rfl) (by decide) ?_
              refine WL.condb (X.move rfl) (by decide) (fun h239 => ?_) (fun h239 => ?_)
              · refine WL.yes rfl rfl ?_
                refine WL.x (X.move rfl) (by decide) ?_
                refine WL.yes rfl rfl ?_
                refine WL.x (X.move rfl) (by decide) ?_
                refine WL.yes rfl rfl ?_
                refine WL.x (X.move rfl) (by decide) ?_
                refine WL.yes rfl rfl ?_
                refine WL.xe (E.idxN i Try.runUnderlying52 Try.sizeOf29 rfl rfl hs18 (by omega)) (by decide) (fun p240 hp241 => ?_)
                refine WL.yes rfl rfl ?_
                refine WL.xe (E.loadSl Try.isAgg29 rfl hp241) (by decide) (fun v242 hs243 => ?_)
                have hl244 := hs243.le
                refine WL.yes rfl rfl ?_
                refine WL.x (X.move rfl) (by decide) ?_
                refine WL.yes rfl rfl ?_
                refine WL.xe (E.idxN k Try.runUnderlying29 Try.sizeOf3 rfl rfl hs243 (by omega)) (by decide) (fun p245 hp246 => ?_)
                refine WL.yes rfl rfl ?_
                refine WL.x (X.loadInt Try.isAgg3 rfl hp246) (by decide) ?_
                refine WL.yes rfl rfl ?_
                refine WL.cond (X.call Try.call32 rfl (has32 _ _ _ hset _ )) (by decide) (fun h247 => ?_) (fun h247 => ?_)
                · refine WL.x (X.pickT rfl rfl rfl) (by decide) ?_
                  refine WL.x (X.assign rfl) (by decide) ?_
                  refine WL.nil ?_
                  refine WK.nThen ?_
                  refine WC.cut (G := Mem × Value) (fun (m248, v266) => m248) (fun (m248, v266) => [rowF (v266) 3 (([] ++ ((gt ((prsR c.D c.M).1) i).take k)) ++ ((gt ((prsR c.D c.M).1) i).drop (k + 1))), blk b10 28 [v1, v3, v5]]) (fun (m248, v266) => [(1, vset), (2, .pointer (some ⟨b10, 0, none⟩)), (5, .bool true), (6, v17), (9, .bool (wb)), (10, .int .i64 (↑i)), (11, .bool true), (12, .int .i64 (↑k)), (13, v266), (103, vset), (104, v17), (105, .int .i64 (↑i)), (106, .pointer (some (p240))), (107, v242), (108, .int .i64 (↑k)), (109, .pointer (some (p245))), (110, .int .i64 (gt (gt ((prsR c.D c.M).1) i) k)), (111, .bool true)]) (fun (m248, v266) => mn.le m248 ∧ Sl (α := Span) m248 v1 c.D.Rates ∧ Sl (α := Stop) m248 v3 c.D.Stops ∧ Sl (α := Mark) m248 v5 c.M) ?_ ?_
                  · refine WC.draw (π := (.cons 1 (.cons 2 (.cons 3 (.cons 4 (.cons 5 (.cons 6 (.cons 8 (.cons 9 (.cons 10 (.cons 11 (.cons 12 (.cons 13 (.fork (.cons 0 (.fork (.cons 7 (.cons 14 (.cons 15 (.cons 16 .done)))) (.cons 14 (.cons 7 (.cons 15 (.cons 16 .done)))))) (.cons 14 (.cons 0 (.cons 7 (.cons 15 (.cons 16 .done))))))))))))))))))) [0, 7, 14, 15] [7, 15, 100010, 100011, 100013] rfl (by kernel_rfl) ?_
                    refine DW.x rfl rfl (X.move rfl) (by decide) ?_
                    refine DW.x rfl rfl (X.move rfl) (by decide) ?_
                    refine DW.xe rfl rfl (E.idxN i Try.runUnderlying52 Try.sizeOf29 rfl rfl hs18 (by omega)) (by decide) (fun p249 hp250 => ?_)
                    refine DW.xe rfl rfl (E.loadSl Try.isAgg29 rfl hp250) (by decide) (fun v251 hs252 => ?_)
                    have hl253 := hs252.le
                    refine DW.x rfl rfl (X.move rfl) (by decide) ?_
                    refine DW.xe rfl rfl (E.slH k Try.underlying29 Try.sizeOf3 rfl rfl hs252 (by omega) (by omega)) (by decide) (fun v254 hs255 => ?_)
                    refine DW.x rfl rfl (X.move rfl) (by decide) ?_
                    refine DW.x rfl rfl (X.move rfl) (by decide) ?_
                    refine DW.xfe rfl rfl rfl (EF.idxN i Try.runUnderlying52 Try.sizeOf29 rfl rfl hs18 (by omega)) (by decide) (fun p256 hp257 => ?_)
                    refine DW.xfe rfl rfl rfl (EF.loadSl Try.isAgg29 rfl hp257) (by decide) (fun v258 hs259 => ?_)
                    have hl260 := hs259.le
                    refine DW.x rfl rfl (X.move rfl) (by decide) ?_
                    refine DW.xf rfl rfl rfl (fun _ _ hle_ => (X.add rfl rfl (by omega) (by omega))) (by decide) ?_
                    refine DW.fork (List.cons_ne_nil _ _) ?_ ?_
                    · refine DW.tO rfl rfl rfl (OpTo.taO (T.lit0 (α := Int) sl29 rfl)) (by decide) (fun m262 Es_ v261 hle263 hR_ => ?_)
                      subst hR_
                      replace hs2 := hs2.mono hle263
                      replace hs4 := hs4.mono hle263
                      replace hs6 := hs6.mono hle263
                      replace hset := hset.mono hle263
                      replace hs18 := hs18.mono hle263
                      replace hp234 := hp234.mono hle263
                      replace hs236 := hs236.mono hle263
                      replace hp241 := hp241.mono hle263
                      replace hs243 := hs243.mono hle263
                      replace hp246 := hp246.mono hle263
                      replace hp250 := hp250.mono hle263
                      replace hs252 := hs252.mono hle263
                      replace hs255 := hs255.mono hle263
                      replace hp257 := hp257.mono hle263
                      replace hs259 := hs259.mono hle263
                      refine DW.fork (List.cons_ne_nil _ _) ?_ ?_
                      · refine DW.ta rfl rfl rfl rfl (T.appendI (k := 0) sl29 rfl rfl hs255 rfl (by first | omega | (simp; omega)) (by first | omega | (simp; omega))) (by decide) (fun v264 => ?_)
                        refine DW.xep rfl rfl rfl (fun _ => (E.slL (k + 1) Try.underlying29 Try.sizeOf3 rfl rfl hs259 (by omega) (by omega))) (by decide) (fun v265 hs266 => ?_)
                        refine DW.ta rfl rfl rfl rfl (T.appendI (k := 0) sl29 rfl rfl hs266 rfl (by first | omega | (simp; omega)) (by first | omega | (simp; omega))) (by decide) (fun v267 => ?_)
                        refine DW.x rfl rfl (X.assign rfl) (by decide) ?_
                        refine DW.nil ?_
                        refine WK.nThen ?_
                        exact WK.meet (m262, v267) rfl (.refl _) (.cons rfl (.cons rfl (.cons rfl (.cons rfl (.cons rfl (.cons rfl (.cons rfl (.cons rfl (.cons rfl (.cons rfl (.cons rfl (.cons rfl (.cons rfl (.cons rfl (.cons rfl (.cons rfl (.cons rfl (.cons rfl .nil)))))))))))))))))) ⟨hle263, hs2, hs4, hs6⟩
                      refine DW.xep rfl rfl rfl (fun _ => (E.slL (k + 1) Try.underlying29 Try.sizeOf3 rfl rfl hs259 (by omega) (by omega))) (by decide) (fun v268 hs269 => ?_)
                      refine DW.ta rfl rfl rfl rfl (T.appendI (k := 0) sl29 rfl rfl hs255 rfl (by first | omega | (simp; omega)) (by first | omega | (simp; omega))) (by decide) (fun v270 => ?_)
                      refine DW.ta rfl rfl rfl rfl (T.appendI (k := 0) sl29 rfl rfl hs269 rfl (by first | omega | (simp; omega)) (by first | omega | (simp; omega))) (by decide) (fun v271 => ?_)
                      refine DW.x rfl rfl (X.assign rfl) (by decide) ?_
                      refine DW.nil ?_
                      refine WK.nThen ?_
                      exact WK.meet (m262, v271) rfl (.refl _) (.cons rfl (.cons rfl (.cons rfl (.cons rfl (.cons rfl (.cons rfl (.cons rfl (.cons rfl (.cons rfl (.cons rfl (.cons rfl (.cons rfl (.cons rfl (.cons rfl (.cons rfl (.cons rfl (.cons rfl (.cons rfl .nil)))))))))))))))))) ⟨hle263, hs2, hs4, hs6⟩
                    refine DW.xep rfl rfl rfl (fun _ => (E.slL (k + 1) Try.underlying29 Try.sizeOf3 rfl rfl hs259 (by omega) (by omega))) (by decide) (fun v272 hs273 => ?_)
                    refine DW.tO rfl rfl rfl (OpTo.taO (T.lit0 (α := Int) sl29 rfl)) (by decide) (fun m275 Es_ v274 hle276 hR_ => ?_)
                    subst hR_
                    replace hs2 := hs2.mono hle276
                    replace hs4 := hs4.mono hle276
                    replace hs6 := hs6.mono hle276
                    replace hset := hset.mono hle276
                    replace hs18 := hs18.mono hle276
                    replace hp234 := hp234.mono hle276
                    replace hs236 := hs236.mono hle276
                    replace hp241 := hp241.mono hle276
                    replace hs243 := hs243.mono hle276
                    replace hp246 := hp246.mono hle276
                    replace hp250 := hp250.mono hle276
                    replace hs252 := hs252.mono hle276
                    replace hs255 := hs255.mono hle276
                    replace hp257 := hp257.mono hle276
                    replace hs259 := hs259.mono hle276
                    replace hs273 := hs273.mono hle276
                    refine DW.ta rfl rfl rfl rfl (T.appendI (k := 0) sl29 rfl rfl hs255 rfl (by first | omega | (simp; omega)) (by first | omega | (simp; omega))) (by decide) (fun v277 => ?_)
                    refine DW.ta rfl rfl rfl rfl (T.appendI (k := 0) sl29 rfl rfl hs273 rfl (by first | omega | (simp; omega)) (by first | omega | (simp; omega))) (by decide) (fun v278 => ?_)
                    refine DW.x rfl rfl (X.assign rfl) (by decide) ?_
                    refine DW.nil ?_
                    refine WK.nThen ?_
                    exact WK.meet (m275, v278) rfl (.refl _) (.cons rfl (.cons rfl (.cons rfl (.cons rfl (.cons rfl (.cons rfl (.cons rfl (.cons rfl (.cons rfl (.cons rfl (.cons rfl (.cons rfl (.cons rfl (.cons rfl (.cons rfl (.cons rfl (.cons rfl (.cons rfl .nil)))))))))))))))))) ⟨hle276, hs2, hs4, hs6⟩
                  rintro ⟨m248, v266⟩ ⟨hle279, hs280, hs281, hs282⟩
                  show WK _ _ m248 [rowF (v266) 3 (([] ++ ((gt ((prsR c.D c.M).1) i).take k)) ++ ((gt ((prsR c.D c.M).1) i).drop (k + 1))), blk b10 28 [v1, v3, v5]] [(1, vset), (2, .pointer (some ⟨b10, 0, none⟩)), (5, .bool true), (6, v17), (9, .bool (wb)), (10, .int .i64 (↑i)), (11, .bool true), (12, .int .i64 (↑k)), (13, v266), (103, vset), (104, v17), (105, .int .i64 (↑i)), (106, .pointer (some (p240))), (107, v242), (108, .int .i64 (↑k)), (109, .pointer (some (p245))), (110, .int .i64 (gt (gt ((prsR c.D c.M).1) i) k)), (111, .bool true)] _
                  replace hs2 := hs2.mono hle279
                  replace hs4 := hs4.mono hle279
                  replace hs6 := hs6.mono hle279
                  replace hset := hset.mono hle279
                  replace hs18 := hs18.mono hle279
                  replace hp234 := hp234.mono hle279
                  replace hs236 := hs236.mono hle279
                  replace hp241 := hp241.mono hle279
                  replace hs243 := hs243.mono hle279
                  replace hp246 := hp246.mono hle279
                  have hl283 := hs280.le
                  have hl284 := hs281.le
                  have hl285 := hs282.le
                  refine WC.seq ?_
                  have he286 : (([] ++ ((gt ((prsR c.D c.M).1) i).take k)) ++ ((gt ((prsR c.D c.M).1) i).drop (k + 1))) = ((gt (prsR c.D c.M).1 i).take k ++ (gt (prsR c.D c.M).1 i).drop (k + 1)) := (by simp)
                  rw [he286]
                  have hrl_ : ((gt (prsR c.D c.M).1 i).take k ++ (gt (prsR c.D c.M).1 i).drop (k + 1)).length ≤ 2 := (by simp; omega)
                  refine WK.freezeF 0 rfl rfl (by unfold lenB; omega) (fun m287 hle288 hs289 => ?_)
                  replace hs2 := hs2.mono hle288
                  replace hs4 := hs4.mono hle288
                  replace hs6 := hs6.mono hle288
                  replace hset := hset.mono hle288
                  replace hs18 := hs18.mono hle288
                  replace hp234 := hp234.mono hle288
                  replace hs236 := hs236.mono hle288
                  replace hp241 := hp241.mono hle288
                  replace hs243 := hs243.mono hle288
                  replace hp246 := hp246.mono hle288
                  replace hs280 := hs280.mono hle288
                  replace hs281 := hs281.mono hle288
                  replace hs282 := hs282.mono hle288
                  have hmr := min_rest (prs_val he0).1 hpi1 (j := k) (by omega)
                  have hmr1 := hmr.1
                  have hmr2 := hmr.2
                  refine WC.draw (π := (.cons 0 (.cons 1 (.cons 2 (.cons 3 (.cons 4 (.cons 5 (.cons 6 (.cons 7 (.cons 8 (.cons 9 (.cons 10 (.cons 11 .done))))))))))))) [5] [] rfl (by kernel_rfl) ?_
                  refine DW.x rfl rfl (X.field Try.runUnderlying28 rfl Try.sizeOf25 rfl) (by decide) ?_
                  refine DW.x rfl rfl (X.loadBP (k := 0) (vs := [v1, v3]) Try.isAgg25 Try.sizeOf25 rfl rfl rfl rfl) (by decide) ?_
                  refine DW.x rfl rfl (X.field Try.runUnderlying28 rfl Try.sizeOf26 rfl) (by decide) ?_
                  refine DW.x rfl rfl (X.loadB (k := 0) Try.isAgg26 rfl rfl rfl) (by decide) ?_
                  refine DW.x rfl rfl (X.move rfl) (by decide) ?_
                  refine DW.tm rfl rfl rfl (T.call Try.call34 rfl (pick34 _ _ _ hs282 _ _ hs289 (by first | omega | simp))) (by decide) fun m290 r291 hle292 hR293 => ?_
                  obtain ⟨v294, hv_, hs295⟩ := hR293
                  rw [← hv_] at hs295
                  clear hv_ v294
                  replace hs2 := hs2.mono hle292
                  replace hs4 := hs4.mono hle292
                  replace hs6 := hs6.mono hle292
                  replace hset := hset.mono hle292
                  replace hs18 := hs18.mono hle292
                  replace hp234 := hp234.mono hle292
                  replace hs236 := hs236.mono hle292
                  replace hp241 := hp241.mono hle292
                  replace hs243 := hs243.mono hle292
                  replace hp246 := hp246.mono hle292
                  replace hs280 := hs280.mono hle292
                  replace hs281 := hs281.mono hle292
                  replace hs282 := hs282.mono hle292
                  replace hs289 := hs289.mono hle292
                  have hl296 := hs295.le
                  refine DW.x rfl rfl (X.call Try.call33 rfl (feasible33 _ _ c.D ⟨_, _, rfl, hs280, hs281⟩ _ _ hs295 )) (by decide) ?_
                  refine DW.x rfl rfl (X.move rfl) (by decide) ?_
                  refine DW.x rfl rfl (X.extract rfl rfl) (by decide) ?_
                  refine DW.x rfl rfl (X.extract rfl rfl) (by decide) ?_
                  refine DW.x rfl rfl (X.assign rfl) (by decide) ?_
                  refine DW.x rfl rfl (X.assign rfl) (by decide) ?_
                  refine DW.nil ?_
                  refine WK.nThen ?_
                  refine WC.seq ?_
                  refine WC.region ?_
                  refine WL.x (X.move rfl) (by decide) ?_
                  refine WL.condn (X.neq rfl rfl) (by decide) (fun h297 => ?_) (fun h297 => ?_)
                  · refine WL.x (X.move rfl) (by decide) ?_
                    refine WL.no rfl rfl rfl (by decide) ?_
                    refine WL.no rfl rfl rfl (by decide) ?_
                    refine WL.x (X.pickT rfl rfl rfl) (by decide) ?_
                    refine WL.nil ?_
                    refine WK.nThen ?_
                    refine WC.condT rfl ?_
                    refine WC.seq ?_
                    refine WC.region ?_
                    refine WL.x (X.assign rfl) (by decide) ?_
                    refine WL.nil ?_
                    refine WK.nThen ?_
                    refine WC.ret ?_
                    refine WK.rBlock ?_
                    refine WK.rThen ?_
                    refine WK.rThen ?_
                    refine WK.rBlock ?_
                    refine WK.rThen ?_
                    refine WK.rBlock ?_
                    refine WK.rThen ?_
                    refine WK.rThen ?_
                    refine WK.rBlock ?_
                    refine WK.rThen ?_
                    refine WK.ret1 rfl rfl (fun w' hw' => Ret.exact hw' ?_)
                    first | rfl | (exfalso; omega) | (exfalso; contradiction) | (exfalso; simp_all; done) | exact (bool_true (min_fin hme2 hwb)).symm | exact (bool_true (by first | omega | assumption)).symm
                  refine WL.x (X.move rfl) (by decide) ?_
                  refine WL.yes rfl rfl ?_
                  refine WL.x (X.move rfl) (by decide) ?_
                  refine WL.yes rfl rfl ?_
                  refine WL.condb (X.not rfl) (by decide) (fun h298 => ?_) (fun h298 => ?_)
                  · refine WL.x (X.pickF rfl rfl rfl) (by decide) ?_
                    refine WL.nil ?_
                    refine WK.nThen ?_
                    refine WC.condT rfl ?_
                    refine WC.seq ?_
                    refine WC.region ?_
                    refine WL.x (X.assign rfl) (by decide) ?_
                    refine WL.nil ?_
                    refine WK.nThen ?_
                    refine WC.ret ?_
                    refine WK.rBlock ?_
                    refine WK.rThen ?_
                    refine WK.rThen ?_
                    refine WK.rBlock ?_
                    refine WK.rThen ?_
                    refine WK.rBlock ?_
                    refine WK.rThen ?_
                    refine WK.rThen ?_
                    refine WK.rBlock ?_
                    refine WK.rThen ?_
                    refine WK.ret1 rfl rfl (fun w' hw' => Ret.exact hw' ?_)
                    first | rfl | (exfalso; omega) | (exfalso; contradiction) | (exfalso; simp_all; done) | exact (bool_true (min_fin hme2 hwb)).symm | exact (bool_true (by first | omega | assumption)).symm
                  refine WL.x (X.pickF rfl rfl rfl) (by decide) ?_
                  refine WL.nil ?_
                  refine WK.nThen ?_
                  refine WC.condF rfl ?_
                  refine WC.skip ?_
                  refine WK.nBlock ?_
                  refine WK.nThen ?_
                  refine WC.region ?_
                  refine WL.x (X.move rfl) (by decide) ?_
                  refine WL.x (X.add rfl rfl (by omega) (by omega)) (by decide) ?_
                  refine WL.x (X.assign rfl) (by decide) ?_
                  refine WL.nil ?_
                  refine WK.nThen ?_
                  refine WK.next ((k + 1, true, m290)) rfl (.refl _) (.cons rfl (.cons rfl (.cons rfl (.cons rfl (.cons rfl (.cons rfl (.cons rfl (.cons rfl .nil)))))))) ?_ ?_
                  · exact ⟨Mem.le_trans hmn (Mem.le_trans hle279 (Mem.le_trans hle288 hle292)), by omega, by first | exact and_step3 (by assumption) (by assumption) hab | exact and_step4 (by assumption) | exact and_step (by assumption) hab | exact and_step2 (by assumption) hab⟩
                  · (dsimp only; omega)
                refine WL.x (X.pickT rfl rfl rfl) (by decide) ?_
                refine WL.x (X.assign rfl) (by decide) ?_
                refine WL.nil ?_
                refine WK.nThen ?_
                refine WC.cut (G := Mem × Value) (fun (m299, v317) => m299) (fun (m299, v317) => [rowF (v317) 3 (([] ++ ((gt ((prsR c.D c.M).1) i).take k)) ++ ((gt ((prsR c.D c.M).1) i).drop (k + 1))), blk b10 28 [v1, v3, v5]]) (fun (m299, v317) => [(1, vset), (2, .pointer (some ⟨b10, 0, none⟩)), (5, .bool true), (6, v17), (9, .bool (wb)), (10, .int .i64 (↑i)), (11, .bool false), (12, .int .i64 (↑k)), (13, v317), (103, vset), (104, v17), (105, .int .i64 (↑i)), (106, .pointer (some (p240))), (107, v242), (108, .int .i64 (↑k)), (109, .pointer (some (p245))), (110, .int .i64 (gt (gt ((prsR c.D c.M).1) i) k)), (111, .bool false)]) (fun (m299, v317) => mn.le m299 ∧ Sl (α := Span) m299 v1 c.D.Rates ∧ Sl (α := Stop) m299 v3 c.D.Stops ∧ Sl (α := Mark) m299 v5 c.M) ?_ ?_
                · refine WC.draw (π := (.cons 1 (.cons 2 (.cons 3 (.cons 4 (.cons 5 (.cons 6 (.cons 8 (.cons 9 (.cons 10 (.cons 11 (.cons 12 (.cons 13 (.fork (.cons 0 (.fork (.cons 7 (.cons 14 (.cons 15 (.cons 16 .done)))) (.cons 14 (.cons 7 (.cons 15 (.cons 16 .done)))))) (.cons 14 (.cons 0 (.cons 7 (.cons 15 (.cons 16 .done))))))))))))))))))) [0, 7, 14, 15] [7, 15, 100010, 100011, 100013] rfl (by kernel_rfl) ?_
                  refine DW.x rfl rfl (X.move rfl) (by decide) ?_
                  refine DW.x rfl rfl (X.move rfl) (by decide) ?_
                  refine DW.xe rfl rfl (E.idxN i Try.runUnderlying52 Try.sizeOf29 rfl rfl hs18 (by omega)) (by decide) (fun p300 hp301 => ?_)
                  refine DW.xe rfl rfl (E.loadSl Try.isAgg29 rfl hp301) (by decide) (fun v302 hs303 => ?_)
                  have hl304 := hs303.le
                  refine DW.x rfl rfl (X.move rfl) (by decide) ?_
                  refine DW.xe rfl rfl (E.slH k Try.underlying29 Try.sizeOf3 rfl rfl hs303 (by omega) (by omega)) (by decide) (fun v305 hs306 => ?_)
                  refine DW.x rfl rfl (X.move rfl) (by decide) ?_
                  refine DW.x rfl rfl (X.move rfl) (by decide) ?_
                  refine DW.xfe rfl rfl rfl (EF.idxN i Try.runUnderlying52 Try.sizeOf29 rfl rfl hs18 (by omega)) (by decide) (fun p307 hp308 => ?_)
                  refine DW.xfe rfl rfl rfl (EF.loadSl Try.isAgg29 rfl hp308) (by decide) (fun v309 hs310 => ?_)
                  have hl311 := hs310.le
                  refine DW.x rfl rfl (X.move rfl) (by decide) ?_
                  refine DW.xf rfl rfl rfl (fun _ _ hle_ => (X.add rfl rfl (by omega) (by omega))) (by decide) ?_
                  refine DW.fork (List.cons_ne_nil _ _) ?_ ?_
                  · refine DW.tO rfl rfl rfl (OpTo.taO (T.lit0 (α := Int) sl29 rfl)) (by decide) (fun m313 Es_ v312 hle314 hR_ => ?_)
                    subst hR_
                    replace hs2 := hs2.mono hle314
                    replace hs4 := hs4.mono hle314
                    replace hs6 := hs6.mono hle314
                    replace hset := hset.mono hle314
                    replace hs18 := hs18.mono hle314
                    replace hp234 := hp234.mono hle314
                    replace hs236 := hs236.mono hle314
                    replace hp241 := hp241.mono hle314
                    replace hs243 := hs243.mono hle314
                    replace hp246 := hp246.mono hle314
                    replace hp301 := hp301.mono hle314
                    replace hs303 := hs303.mono hle314
                    replace hs306 := hs306.mono hle314
                    replace hp308 := hp308.mono hle314
                    replace hs310 := hs310.mono hle314
                    refine DW.fork (List.cons_ne_nil _ _) ?_ ?_
                    · refine DW.ta rfl rfl rfl rfl (T.appendI (k := 0) sl29 rfl rfl hs306 rfl (by first | omega | (simp; omega)) (by first | omega | (simp; omega))) (by decide) (fun v315 => ?_)
                      refine DW.xep rfl rfl rfl (fun _ => (E.slL (k + 1) Try.underlying29 Try.sizeOf3 rfl rfl hs310 (by omega) (by omega))) (by decide) (fun v316 hs317 => ?_)
                      refine DW.ta rfl rfl rfl rfl (T.appendI (k := 0) sl29 rfl rfl hs317 rfl (by first | omega | (simp; omega)) (by first | omega | (simp; omega))) (by decide) (fun v318 => ?_)
                      refine DW.x rfl rfl (X.assign rfl) (by decide) ?_
                      refine DW.nil ?_
                      refine WK.nThen ?_
                      exact WK.meet (m313, v318) rfl (.refl _) (.cons rfl (.cons rfl (.cons rfl (.cons rfl (.cons rfl (.cons rfl (.cons rfl (.cons rfl (.cons rfl (.cons rfl (.cons rfl (.cons rfl (.cons rfl (.cons rfl (.cons rfl (.cons rfl (.cons rfl (.cons rfl .nil)))))))))))))))))) ⟨hle314, hs2, hs4, hs6⟩
                    refine DW.xep rfl rfl rfl (fun _ => (E.slL (k + 1) Try.underlying29 Try.sizeOf3 rfl rfl hs310 (by omega) (by omega))) (by decide) (fun v319 hs320 => ?_)
                    refine DW.ta rfl rfl rfl rfl (T.appendI (k := 0) sl29 rfl rfl hs306 rfl (by first | omega | (simp; omega)) (by first | omega | (simp; omega))) (by decide) (fun v321 => ?_)
                    refine DW.ta rfl rfl rfl rfl (T.appendI (k := 0) sl29 rfl rfl hs320 rfl (by first | omega | (simp; omega)) (by first | omega | (simp; omega))) (by decide) (fun v322 => ?_)
                    refine DW.x rfl rfl (X.assign rfl) (by decide) ?_
                    refine DW.nil ?_
                    refine WK.nThen ?_
                    exact WK.meet (m313, v322) rfl (.refl _) (.cons rfl (.cons rfl (.cons rfl (.cons rfl (.cons rfl (.cons rfl (.cons rfl (.cons rfl (.cons rfl (.cons rfl (.cons rfl (.cons rfl (.cons rfl (.cons rfl (.cons rfl (.cons rfl (.cons rfl (.cons rfl .nil)))))))))))))))))) ⟨hle314, hs2, hs4, hs6⟩
                  refine DW.xep rfl rfl rfl (fun _ => (E.slL (k + 1) Try.underlying29 Try.sizeOf3 rfl rfl hs310 (by omega) (by omega))) (by decide) (fun v323 hs324 => ?_)
                  refine DW.tO rfl rfl rfl (OpTo.taO (T.lit0 (α := Int) sl29 rfl)) (by decide) (fun m326 Es_ v325 hle327 hR_ => ?_)
                  subst hR_
                  replace hs2 := hs2.mono hle327
                  replace hs4 := hs4.mono hle327
                  replace hs6 := hs6.mono hle327
                  replace hset := hset.mono hle327
                  replace hs18 := hs18.mono hle327
                  replace hp234 := hp234.mono hle327
                  replace hs236 := hs236.mono hle327
                  replace hp241 := hp241.mono hle327
                  replace hs243 := hs243.mono hle327
                  replace hp246 := hp246.mono hle327
                  replace hp301 := hp301.mono hle327
                  replace hs303 := hs303.mono hle327
                  replace hs306 := hs306.mono hle327
                  replace hp308 := hp308.mono hle327
                  replace hs310 := hs310.mono hle327
                  replace hs324 := hs324.mono hle327
                  refine DW.ta rfl rfl rfl rfl (T.appendI (k := 0) sl29 rfl rfl hs306 rfl (by first | omega | (simp; omega)) (by first | omega | (simp; omega))) (by decide) (fun v328 => ?_)
                  refine DW.ta rfl rfl rfl rfl (T.appendI (k := 0) sl29 rfl rfl hs324 rfl (by first | omega | (simp; omega)) (by first | omega | (simp; omega))) (by decide) (fun v329 => ?_)
                  refine DW.x rfl rfl (X.assign rfl) (by decide) ?_
                  refine DW.nil ?_
                  refine WK.nThen ?_
                  exact WK.meet (m326, v329) rfl (.refl _) (.cons rfl (.cons rfl (.cons rfl (.cons rfl (.cons rfl (.cons rfl (.cons rfl (.cons rfl (.cons rfl (.cons rfl (.cons rfl (.cons rfl (.cons rfl (.cons rfl (.cons rfl (.cons rfl (.cons rfl (.cons rfl .nil)))))))))))))))))) ⟨hle327, hs2, hs4, hs6⟩
                rintro ⟨m299, v317⟩ ⟨hle330, hs331, hs332, hs333⟩
                show WK _ _ m299 [rowF (v317) 3 (([] ++ ((gt ((prsR c.D c.M).1) i).take k)) ++ ((gt ((prsR c.D c.M).1) i).drop (k + 1))), blk b10 28 [v1, v3, v5]] [(1, vset), (2, .pointer (some ⟨b10, 0, none⟩)), (5, .bool true), (6, v17), (9, .bool (wb)), (10, .int .i64 (↑i)), (11, .bool false), (12, .int .i64 (↑k)), (13, v317), (103, vset), (104, v17), (105, .int .i64 (↑i)), (106, .pointer (some (p240))), (107, v242), (108, .int .i64 (↑k)), (109, .pointer (some (p245))), (110, .int .i64 (gt (gt ((prsR c.D c.M).1) i) k)), (111, .bool false)] _
                replace hs2 := hs2.mono hle330
                replace hs4 := hs4.mono hle330
                replace hs6 := hs6.mono hle330
                replace hset := hset.mono hle330
                replace hs18 := hs18.mono hle330
                replace hp234 := hp234.mono hle330
                replace hs236 := hs236.mono hle330
                replace hp241 := hp241.mono hle330
                replace hs243 := hs243.mono hle330
                replace hp246 := hp246.mono hle330
                have hl334 := hs331.le
                have hl335 := hs332.le
                have hl336 := hs333.le
                refine WC.seq ?_
                have he337 : (([] ++ ((gt ((prsR c.D c.M).1) i).take k)) ++ ((gt ((prsR c.D c.M).1) i).drop (k + 1))) = ((gt (prsR c.D c.M).1 i).take k ++ (gt (prsR c.D c.M).1 i).drop (k + 1)) := (by simp)
                rw [he337]
                have hrl_ : ((gt (prsR c.D c.M).1 i).take k ++ (gt (prsR c.D c.M).1 i).drop (k + 1)).length ≤ 2 := (by simp; omega)
                refine WK.freezeF 0 rfl rfl (by unfold lenB; omega) (fun m338 hle339 hs340 => ?_)
                replace hs2 := hs2.mono hle339
                replace hs4 := hs4.mono hle339
                replace hs6 := hs6.mono hle339
                replace hset := hset.mono hle339
                replace hs18 := hs18.mono hle339
                replace hp234 := hp234.mono hle339
                replace hs236 := hs236.mono hle339
                replace hp241 := hp241.mono hle339
                replace hs243 := hs243.mono hle339
                replace hp246 := hp246.mono hle339
                replace hs331 := hs331.mono hle339
                replace hs332 := hs332.mono hle339
                replace hs333 := hs333.mono hle339
                have hmr := min_rest (prs_val he0).1 hpi1 (j := k) (by omega)
                have hmr1 := hmr.1
                have hmr2 := hmr.2
                refine WC.draw (π := (.cons 0 (.cons 1 (.cons 2 (.cons 3 (.cons 4 (.cons 5 (.cons 6 (.cons 7 (.cons 8 (.cons 9 (.cons 10 (.cons 11 .done))))))))))))) [5] [] rfl (by kernel_rfl) ?_
                refine DW.x rfl rfl (X.field Try.runUnderlying28 rfl Try.sizeOf25 rfl) (by decide) ?_
                refine DW.x rfl rfl (X.loadBP (k := 0) (vs := [v1, v3]) Try.isAgg25 Try.sizeOf25 rfl rfl rfl rfl) (by decide) ?_
                refine DW.x rfl rfl (X.field Try.runUnderlying28 rfl Try.sizeOf26 rfl) (by decide) ?_
                refine DW.x rfl rfl (X.loadB (k := 0) Try.isAgg26 rfl rfl rfl) (by decide) ?_
                refine DW.x rfl rfl (X.move rfl) (by decide) ?_
                refine DW.tm rfl rfl rfl (T.call Try.call34 rfl (pick34 _ _ _ hs333 _ _ hs340 (by first | omega | simp))) (by decide) fun m341 r342 hle343 hR344 => ?_
                obtain ⟨v345, hv_, hs346⟩ := hR344
                rw [← hv_] at hs346
                clear hv_ v345
                replace hs2 := hs2.mono hle343
                replace hs4 := hs4.mono hle343
                replace hs6 := hs6.mono hle343
                replace hset := hset.mono hle343
                replace hs18 := hs18.mono hle343
                replace hp234 := hp234.mono hle343
                replace hs236 := hs236.mono hle343
                replace hp241 := hp241.mono hle343
                replace hs243 := hs243.mono hle343
                replace hp246 := hp246.mono hle343
                replace hs331 := hs331.mono hle343
                replace hs332 := hs332.mono hle343
                replace hs333 := hs333.mono hle343
                replace hs340 := hs340.mono hle343
                have hl347 := hs346.le
                refine DW.x rfl rfl (X.call Try.call33 rfl (feasible33 _ _ c.D ⟨_, _, rfl, hs331, hs332⟩ _ _ hs346 )) (by decide) ?_
                refine DW.x rfl rfl (X.move rfl) (by decide) ?_
                refine DW.x rfl rfl (X.extract rfl rfl) (by decide) ?_
                refine DW.x rfl rfl (X.extract rfl rfl) (by decide) ?_
                refine DW.x rfl rfl (X.assign rfl) (by decide) ?_
                refine DW.x rfl rfl (X.assign rfl) (by decide) ?_
                refine DW.nil ?_
                refine WK.nThen ?_
                refine WC.seq ?_
                refine WC.region ?_
                refine WL.x (X.move rfl) (by decide) ?_
                refine WL.condn (X.neq rfl rfl) (by decide) (fun h348 => ?_) (fun h348 => ?_)
                · refine WL.x (X.move rfl) (by decide) ?_
                  refine WL.no rfl rfl rfl (by decide) ?_
                  refine WL.no rfl rfl rfl (by decide) ?_
                  refine WL.x (X.pickT rfl rfl rfl) (by decide) ?_
                  refine WL.nil ?_
                  refine WK.nThen ?_
                  refine WC.condT rfl ?_
                  refine WC.seq ?_
                  refine WC.region ?_
                  refine WL.x (X.assign rfl) (by decide) ?_
                  refine WL.nil ?_
                  refine WK.nThen ?_
                  refine WC.ret ?_
                  refine WK.rBlock ?_
                  refine WK.rThen ?_
                  refine WK.rThen ?_
                  refine WK.rBlock ?_
                  refine WK.rThen ?_
                  refine WK.rBlock ?_
                  refine WK.rThen ?_
                  refine WK.rThen ?_
                  refine WK.rBlock ?_
                  refine WK.rThen ?_
                  refine WK.ret1 rfl rfl (fun w' hw' => Ret.exact hw' ?_)
                  first | rfl | (exfalso; omega) | (exfalso; contradiction) | (exfalso; simp_all; done) | exact (bool_true (min_fin hme2 hwb)).symm | exact (bool_true (by first | omega | assumption)).symm
                refine WL.x (X.move rfl) (by decide) ?_
                refine WL.yes rfl rfl ?_
                refine WL.x (X.move rfl) (by decide) ?_
                refine WL.yes rfl rfl ?_
                refine WL.condb (X.not rfl) (by decide) (fun h349 => ?_) (fun h349 => ?_)
                · refine WL.x (X.pickF rfl rfl rfl) (by decide) ?_
                  refine WL.nil ?_
                  refine WK.nThen ?_
                  refine WC.condT rfl ?_
                  refine WC.seq ?_
                  refine WC.region ?_
                  refine WL.x (X.assign rfl) (by decide) ?_
                  refine WL.nil ?_
                  refine WK.nThen ?_
                  refine WC.ret ?_
                  refine WK.rBlock ?_
                  refine WK.rThen ?_
                  refine WK.rThen ?_
                  refine WK.rBlock ?_
                  refine WK.rThen ?_
                  refine WK.rBlock ?_
                  refine WK.rThen ?_
                  refine WK.rThen ?_
                  refine WK.rBlock ?_
                  refine WK.rThen ?_
                  refine WK.ret1 rfl rfl (fun w' hw' => Ret.exact hw' ?_)
                  first | rfl | (exfalso; omega) | (exfalso; contradiction) | (exfalso; simp_all; done) | exact (bool_true (min_fin hme2 hwb)).symm | exact (bool_true (by first | omega | assumption)).symm
                refine WL.x (X.pickF rfl rfl rfl) (by decide) ?_
                refine WL.nil ?_
                refine WK.nThen ?_
                refine WC.condF rfl ?_
                refine WC.skip ?_
                refine WK.nBlock ?_
                refine WK.nThen ?_
                refine WC.region ?_
                refine WL.x (X.move rfl) (by decide) ?_
                refine WL.x (X.add rfl rfl (by omega) (by omega)) (by decide) ?_
                refine WL.x (X.assign rfl) (by decide) ?_
                refine WL.nil ?_
                refine WK.nThen ?_
                refine WK.next ((k + 1, false, m341)) rfl (.refl _) (.cons rfl (.cons rfl (.cons rfl (.cons rfl (.cons rfl (.cons rfl (.cons rfl (.cons rfl .nil)))))))) ?_ ?_
                · exact ⟨Mem.le_trans hmn (Mem.le_trans hle330 (Mem.le_trans hle339 hle343)), by omega, by first | exact and_step3 (by assumption) (by assumption) hab | exact and_step4 (by assumption) | exact and_step (by assumption) hab | exact and_step2 (by assumption) hab⟩
                · (dsimp only; omega)
              refine WL.no rfl rfl rfl (by decide) ?_
              refine WL.no rfl rfl rfl (by decide) ?_
              refine WL.no rfl rfl rfl (by decide) ?_
              refine WL.no rfl rfl rfl (by decide) ?_
              refine WL.no rfl rfl rfl (by decide) ?_
              refine WL.no rfl rfl rfl (by decide) ?_
              refine WL.no rfl rfl rfl (by decide) ?_
              refine WL.no rfl rfl rfl (by decide) ?_
              refine WL.no rfl rfl rfl (by decide) ?_
              refine WL.x (X.pickF rfl rfl rfl) (by decide) ?_
              refine WL.x (X.assign rfl) (by decide) ?_
              refine WL.nil ?_
              refine WK.nThen ?_
              refine WC.cut (G := Mem × Value) (fun (m350, v368) => m350) (fun (m350, v368) => [rowF (v368) 3 (([] ++ ((gt ((prsR c.D c.M).1) i).take k)) ++ ((gt ((prsR c.D c.M).1) i).drop (k + 1))), blk b10 28 [v1, v3, v5]]) (fun (m350, v368) => [(1, vset), (2, .pointer (some ⟨b10, 0, none⟩)), (5, .bool true), (6, v17), (9, .bool (wb)), (10, .int .i64 (↑i)), (11, .bool false), (12, .int .i64 (↑k)), (13, v368)]) (fun (m350, v368) => mn.le m350 ∧ Sl (α := Span) m350 v1 c.D.Rates ∧ Sl (α := Stop) m350 v3 c.D.Stops ∧ Sl (α := Mark) m350 v5 c.M) ?_ ?_
              · refine WC.draw (π := (.cons 1 (.cons 2 (.cons 3 (.cons 4 (.cons 5 (.cons 6 (.cons 8 (.cons 9 (.cons 10 (.cons 11 (.cons 12 (.cons 13 (.fork (.cons 0 (.fork (.cons 7 (.cons 14 (.cons 15 (.cons 16 .done)))) (.cons 14 (.cons 7 (.cons 15 (.cons 16 .done)))))) (.cons 14 (.cons 0 (.cons 7 (.cons 15 (.cons 16 .done))))))))))))))))))) [0, 7, 14, 15] [7, 15, 100010, 100011, 100013] rfl (by kernel_rfl) ?_
                refine DW.x rfl rfl (X.move rfl) (by decide) ?_
                refine DW.x rfl rfl (X.move rfl) (by decide) ?_
                refine DW.xe rfl rfl (E.idxN i Try.runUnderlying52 Try.sizeOf29 rfl rfl hs18 (by omega)) (by decide) (fun p351 hp352 => ?_)
                refine DW.xe rfl rfl (E.loadSl Try.isAgg29 rfl hp352) (by decide) (fun v353 hs354 => ?_)
                have hl355 := hs354.le
                refine DW.x rfl rfl (X.move rfl) (by decide) ?_
                refine DW.xe rfl rfl (E.slH k Try.underlying29 Try.sizeOf3 rfl rfl hs354 (by omega) (by omega)) (by decide) (fun v356 hs357 => ?_)
                refine DW.x rfl rfl (X.move rfl) (by decide) ?_
                refine DW.x rfl rfl (X.move rfl) (by decide) ?_
                refine DW.xfe rfl rfl rfl (EF.idxN i Try.runUnderlying52 Try.sizeOf29 rfl rfl hs18 (by omega)) (by decide) (fun p358 hp359 => ?_)
                refine DW.xfe rfl rfl rfl (EF.loadSl Try.isAgg29 rfl hp359) (by decide) (fun v360 hs361 => ?_)
                have hl362 := hs361.le
                refine DW.x rfl rfl (X.move rfl) (by decide) ?_
                refine DW.xf rfl rfl rfl (fun _ _ hle_ => (X.add rfl rfl (by omega) (by omega))) (by decide) ?_
                refine DW.fork (List.cons_ne_nil _ _) ?_ ?_
                · refine DW.tO rfl rfl rfl (OpTo.taO (T.lit0 (α := Int) sl29 rfl)) (by decide) (fun m364 Es_ v363 hle365 hR_ => ?_)
                  subst hR_
                  replace hs2 := hs2.mono hle365
                  replace hs4 := hs4.mono hle365
                  replace hs6 := hs6.mono hle365
                  replace hset := hset.mono hle365
                  replace hs18 := hs18.mono hle365
                  replace hp234 := hp234.mono hle365
                  replace hs236 := hs236.mono hle365
                  replace hp352 := hp352.mono hle365
                  replace hs354 := hs354.mono hle365
                  replace hs357 := hs357.mono hle365
                  replace hp359 := hp359.mono hle365
                  replace hs361 := hs361.mono hle365
                  refine DW.fork (List.cons_ne_nil _ _) ?_ ?_
                  · refine DW.ta rfl rfl rfl rfl (T.appendI (k := 0) sl29 rfl rfl hs357 rfl (by first | omega | (simp; omega)) (by first | omega | (simp; omega))) (by decide) (fun v366 => ?_)
                    refine DW.xep rfl rfl rfl (fun _ => (E.slL (k + 1) Try.underlying29 Try.sizeOf3 rfl rfl hs361 (by omega) (by omega))) (by decide) (fun v367 hs368 => ?_)
                    refine DW.ta rfl rfl rfl rfl (T.appendI (k := 0) sl29 rfl rfl hs368 rfl (by first | omega | (simp; omega)) (by first | omega | (simp; omega))) (by decide) (fun v369 => ?_)
                    refine DW.x rfl rfl (X.assign rfl) (by decide) ?_
                    refine DW.nil ?_
                    refine WK.nThen ?_
                    exact WK.meet (m364, v369) rfl (.refl _) (.cons rfl (.cons rfl (.cons rfl (.cons rfl (.cons rfl (.cons rfl (.cons rfl (.cons rfl (.cons rfl .nil))))))))) ⟨hle365, hs2, hs4, hs6⟩
                  refine DW.xep rfl rfl rfl (fun _ => (E.slL (k + 1) Try.underlying29 Try.sizeOf3 rfl rfl hs361 (by omega) (by omega))) (by decide) (fun v370 hs371 => ?_)
                  refine DW.ta rfl rfl rfl rfl (T.appendI (k := 0) sl29 rfl rfl hs357 rfl (by first | omega | (simp; omega)) (by first | omega | (simp; omega))) (by decide) (fun v372 => ?_)
                  refine DW.ta rfl rfl rfl rfl (T.appendI (k := 0) sl29 rfl rfl hs371 rfl (by first | omega | (simp; omega)) (by first | omega | (simp; omega))) (by decide) (fun v373 => ?_)
                  refine DW.x rfl rfl (X.assign rfl) (by decide) ?_
                  refine DW.nil ?_
                  refine WK.nThen ?_
                  exact WK.meet (m364, v373) rfl (.refl _) (.cons rfl (.cons rfl (.cons rfl (.cons rfl (.cons rfl (.cons rfl (.cons rfl (.cons rfl (.cons rfl .nil))))))))) ⟨hle365, hs2, hs4, hs6⟩
                refine DW.xep rfl rfl rfl (fun _ => (E.slL (k + 1) Try.underlying29 Try.sizeOf3 rfl rfl hs361 (by omega) (by omega))) (by decide) (fun v374 hs375 => ?_)
                refine DW.tO rfl rfl rfl (OpTo.taO (T.lit0 (α := Int) sl29 rfl)) (by decide) (fun m377 Es_ v376 hle378 hR_ => ?_)
                subst hR_
                replace hs2 := hs2.mono hle378
                replace hs4 := hs4.mono hle378
                replace hs6 := hs6.mono hle378
                replace hset := hset.mono hle378
                replace hs18 := hs18.mono hle378
                replace hp234 := hp234.mono hle378
                replace hs236 := hs236.mono hle378
                replace hp352 := hp352.mono hle378
                replace hs354 := hs354.mono hle378
                replace hs357 := hs357.mono hle378
                replace hp359 := hp359.mono hle378
                replace hs361 := hs361.mono hle378
                replace hs375 := hs375.mono hle378
                refine DW.ta rfl rfl rfl rfl (T.appendI (k := 0) sl29 rfl rfl hs357 rfl (by first | omega | (simp; omega)) (by first | omega | (simp; omega))) (by decide) (fun v379 => ?_)
                refine DW.ta rfl rfl rfl rfl (T.appendI (k := 0) sl29 rfl rfl hs375 rfl (by first | omega | (simp; omega)) (by first | omega | (simp; omega))) (by decide) (fun v380 => ?_)
                refine DW.x rfl rfl (X.assign rfl) (by decide) ?_
                refine DW.nil ?_
                refine WK.nThen ?_
                exact WK.meet (m377, v380) rfl (.refl _) (.cons rfl (.cons rfl (.cons rfl (.cons rfl (.cons rfl (.cons rfl (.cons rfl (.cons rfl (.cons rfl .nil))))))))) ⟨hle378, hs2, hs4, hs6⟩
              rintro ⟨m350, v368⟩ ⟨hle381, hs382, hs383, hs384⟩
              show WK _ _ m350 [rowF (v368) 3 (([] ++ ((gt ((prsR c.D c.M).1) i).take k)) ++ ((gt ((prsR c.D c.M).1) i).drop (k + 1))), blk b10 28 [v1, v3, v5]] [(1, vset), (2, .pointer (some ⟨b10, 0, none⟩)), (5, .bool true), (6, v17), (9, .bool (wb)), (10, .int .i64 (↑i)), (11, .bool false), (12, .int .i64 (↑k)), (13, v368)] _
              replace hs2 := hs2.mono hle381
              replace hs4 := hs4.mono hle381
              replace hs6 := hs6.mono hle381
              replace hset := hset.mono hle381
              replace hs18 := hs18.mono hle381
              replace hp234 := hp234.mono hle381
              replace hs236 := hs236.mono hle381
              have hl385 := hs382.le
              have hl386 := hs383.le
              have hl387 := hs384.le
              refine WC.seq ?_
              have he388 : (([] ++ ((gt ((prsR c.D c.M).1) i).take k)) ++ ((gt ((prsR c.D c.M).1) i).drop (k + 1))) = ((gt (prsR c.D c.M).1 i).take k ++ (gt (prsR c.D c.M).1 i).drop (k + 1)) := (by simp)
              rw [he388]
              have hrl_ : ((gt (prsR c.D c.M).1 i).take k ++ (gt (prsR c.D c.M).1 i).drop (k + 1)).length ≤ 2 := (by simp; omega)
              refine WK.freezeF 0 rfl rfl (by unfold lenB; omega) (fun m389 hle390 hs391 => ?_)
              replace hs2 := hs2.mono hle390
              replace hs4 := hs4.mono hle390
              replace hs6 := hs6.mono hle390
              replace hset := hset.mono hle390
              replace hs18 := hs18.mono hle390
              replace hp234 := hp234.mono hle390
              replace hs236 := hs236.mono hle390
              replace hs382 := hs382.mono hle390
              replace hs383 := hs383.mono hle390
              replace hs384 := hs384.mono hle390
              have hmr := min_rest (prs_val he0).1 hpi1 (j := k) (by omega)
              have hmr1 := hmr.1
              have hmr2 := hmr.2
              refine WC.draw (π := (.cons 0 (.cons 1 (.cons 2 (.cons 3 (.cons 4 (.cons 5 (.cons 6 (.cons 7 (.cons 8 (.cons 9 (.cons 10 (.cons 11 .done))))))))))))) [5] [] rfl (by kernel_rfl) ?_
              refine DW.x rfl rfl (X.field Try.runUnderlying28 rfl Try.sizeOf25 rfl) (by decide) ?_
              refine DW.x rfl rfl (X.loadBP (k := 0) (vs := [v1, v3]) Try.isAgg25 Try.sizeOf25 rfl rfl rfl rfl) (by decide) ?_
              refine DW.x rfl rfl (X.field Try.runUnderlying28 rfl Try.sizeOf26 rfl) (by decide) ?_
              refine DW.x rfl rfl (X.loadB (k := 0) Try.isAgg26 rfl rfl rfl) (by decide) ?_
              refine DW.x rfl rfl (X.move rfl) (by decide) ?_
              refine DW.tm rfl rfl rfl (T.call Try.call34 rfl (pick34 _ _ _ hs384 _ _ hs391 (by first | omega | simp))) (by decide) fun m392 r393 hle394 hR395 => ?_
              obtain ⟨v396, hv_, hs397⟩ := hR395
              rw [← hv_] at hs397
              clear hv_ v396
              replace hs2 := hs2.mono hle394
              replace hs4 := hs4.mono hle394
              replace hs6 := hs6.mono hle394
              replace hset := hset.mono hle394
              replace hs18 := hs18.mono hle394
              replace hp234 := hp234.mono hle394
              replace hs236 := hs236.mono hle394
              replace hs382 := hs382.mono hle394
              replace hs383 := hs383.mono hle394
              replace hs384 := hs384.mono hle394
              replace hs391 := hs391.mono hle394
              have hl398 := hs397.le
              refine DW.x rfl rfl (X.call Try.call33 rfl (feasible33 _ _ c.D ⟨_, _, rfl, hs382, hs383⟩ _ _ hs397 )) (by decide) ?_
              refine DW.x rfl rfl (X.move rfl) (by decide) ?_
              refine DW.x rfl rfl (X.extract rfl rfl) (by decide) ?_
              refine DW.x rfl rfl (X.extract rfl rfl) (by decide) ?_
              refine DW.x rfl rfl (X.assign rfl) (by decide) ?_
              refine DW.x rfl rfl (X.assign rfl) (by decide) ?_
              refine DW.nil ?_
              refine WK.nThen ?_
              refine WC.seq ?_
              refine WC.region ?_
              refine WL.x (X.move rfl) (by decide) ?_
              refine WL.condn (X.neq rfl rfl) (by decide) (fun h399 => ?_) (fun h399 => ?_)
              · refine WL.x (X.move rfl) (by decide) ?_
                refine WL.no rfl rfl rfl (by decide) ?_
                refine WL.no rfl rfl rfl (by decide) ?_
                refine WL.x (X.pickT rfl rfl rfl) (by decide) ?_
                refine WL.nil ?_
                refine WK.nThen ?_
                refine WC.condT rfl ?_
                refine WC.seq ?_
                refine WC.region ?_
                refine WL.x (X.assign rfl) (by decide) ?_
                refine WL.nil ?_
                refine WK.nThen ?_
                refine WC.ret ?_
                refine WK.rBlock ?_
                refine WK.rThen ?_
                refine WK.rThen ?_
                refine WK.rBlock ?_
                refine WK.rThen ?_
                refine WK.rBlock ?_
                refine WK.rThen ?_
                refine WK.rThen ?_
                refine WK.rBlock ?_
                refine WK.rThen ?_
                refine WK.ret1 rfl rfl (fun w' hw' => Ret.exact hw' ?_)
                first | rfl | (exfalso; omega) | (exfalso; contradiction) | (exfalso; simp_all; done) | exact (bool_true (min_fin hme2 hwb)).symm | exact (bool_true (by first | omega | assumption)).symm
              refine WL.x (X.move rfl) (by decide) ?_
              refine WL.yes rfl rfl ?_
              refine WL.x (X.move rfl) (by decide) ?_
              refine WL.yes rfl rfl ?_
              refine WL.condb (X.not rfl) (by decide) (fun h400 => ?_) (fun h400 => ?_)
              · refine WL.x (X.pickF rfl rfl rfl) (by decide) ?_
                refine WL.nil ?_
                refine WK.nThen ?_
                refine WC.condT rfl ?_
                refine WC.seq ?_
                refine WC.region ?_
                refine WL.x (X.assign rfl) (by decide) ?_
                refine WL.nil ?_
                refine WK.nThen ?_
                refine WC.ret ?_
                refine WK.rBlock ?_
                refine WK.rThen ?_
                refine WK.rThen ?_
                refine WK.rBlock ?_
                refine WK.rThen ?_
                refine WK.rBlock ?_
                refine WK.rThen ?_
                refine WK.rThen ?_
                refine WK.rBlock ?_
                refine WK.rThen ?_
                refine WK.ret1 rfl rfl (fun w' hw' => Ret.exact hw' ?_)
                first | rfl | (exfalso; omega) | (exfalso; contradiction) | (exfalso; simp_all; done) | exact (bool_true (min_fin hme2 hwb)).symm | exact (bool_true (by first | omega | assumption)).symm
              refine WL.x (X.pickF rfl rfl rfl) (by decide) ?_
              refine WL.nil ?_
              refine WK.nThen ?_
              refine WC.condF rfl ?_
              refine WC.skip ?_
              refine WK.nBlock ?_
              refine WK.nThen ?_
              refine WC.region ?_
              refine WL.x (X.move rfl) (by decide) ?_
              refine WL.x (X.add rfl rfl (by omega) (by omega)) (by decide) ?_
              refine WL.x (X.assign rfl) (by decide) ?_
              refine WL.nil ?_
              refine WK.nThen ?_
              refine WK.next ((k + 1, false, m392)) rfl (.refl _) (.cons rfl (.cons rfl (.cons rfl (.cons rfl (.cons rfl (.cons rfl (.cons rfl (.cons rfl .nil)))))))) ?_ ?_
              · exact ⟨Mem.le_trans hmn (Mem.le_trans hle381 (Mem.le_trans hle390 hle394)), by omega, by first | exact and_step3 (by assumption) (by assumption) hab | exact and_step4 (by assumption) | exact and_step (by assumption) hab | exact and_step2 (by assumption) hab⟩
              · (dsimp only; omega)
            refine WL.nil ?_
            refine WK.nThen ?_
            refine WC.condF rfl ?_
            refine WC.exit ?_
            refine WK.eThen ?_
            refine WK.eThen ?_
            refine WK.eHit ?_
            refine WK.nThen ?_
            obtain rfl : k = (gt (prsR c.D c.M).1 i).length := (by omega)
            have hal := hab
            refine WC.region ?_
            refine WL.x (X.move rfl) (by decide) ?_
            refine WL.condb (X.move rfl) (by decide) (fun h401 => ?_) (fun h401 => ?_)
            · refine WL.no rfl rfl rfl (by decide) ?_
              refine WL.x (X.pickT rfl rfl rfl) (by decide) ?_
              refine WL.x (X.assign rfl) (by decide) ?_
              refine WL.nil ?_
              refine WK.nBlock ?_
              refine WK.nThen ?_
              refine WC.region ?_
              refine WL.x (X.move rfl) (by decide) ?_
              refine WL.x (X.add rfl rfl (by omega) (by omega)) (by decide) ?_
              refine WL.x (X.assign rfl) (by decide) ?_
              refine WL.nil ?_
              refine WK.nThen ?_
              refine WK.next ((i + 1, true, mn)) rfl (.refl _) (.cons rfl (.cons rfl (.cons rfl (.cons rfl (.cons rfl (.cons rfl .nil)))))) ?_ ?_
              · exact ⟨Mem.le_trans hmm hmn, by omega, by first | exact or_step (by assumption) hwb | exact or_step2 (by assumption) hwb hal⟩
              · (dsimp only; omega)
            refine WL.yes rfl rfl ?_
            refine WL.x (X.move rfl) (by decide) ?_
            refine WL.x (X.pickF rfl rfl rfl) (by decide) ?_
            refine WL.x (X.assign rfl) (by decide) ?_
            refine WL.nil ?_
            refine WK.nBlock ?_
            refine WK.nThen ?_
            refine WC.region ?_
            refine WL.x (X.move rfl) (by decide) ?_
            refine WL.x (X.add rfl rfl (by omega) (by omega)) (by decide) ?_
            refine WL.x (X.assign rfl) (by decide) ?_
            refine WL.nil ?_
            refine WK.nThen ?_
            refine WK.next ((i + 1, ab, mn)) rfl (.refl _) (.cons rfl (.cons rfl (.cons rfl (.cons rfl (.cons rfl (.cons rfl .nil)))))) ?_ ?_
            · exact ⟨Mem.le_trans hmm hmn, by omega, by first | exact or_step (by assumption) hwb | exact or_step2 (by assumption) hwb hal⟩
            · (dsimp only; omega)
        refine WL.nil ?_
        refine WK.nThen ?_
        refine WC.condF rfl ?_
        refine WC.exit ?_
        refine WK.eThen ?_
        refine WK.eThen ?_
        refine WK.eHit ?_
        refine WK.nThen ?_
        refine WC.seq ?_
        obtain rfl : i = (prsR c.D c.M).1.length := (by omega)
        have hme := min_end he0 (l := set) (by omega)
        have hme1 := hme.1
        have hme2 := hme.2
        refine WC.draw (π := (.cons 0 (.cons 1 (.cons 2 (.cons 3 (.cons 4 (.cons 5 (.cons 6 (.cons 7 (.cons 8 (.cons 9 (.cons 10 (.cons 11 .done))))))))))))) [5] [] rfl (by kernel_rfl) ?_
        refine DW.x rfl rfl (X.field Try.runUnderlying28 rfl Try.sizeOf25 rfl) (by decide) ?_
        refine DW.x rfl rfl (X.loadBP (k := 0) (vs := [v1, v3]) Try.isAgg25 Try.sizeOf25 rfl rfl rfl rfl) (by decide) ?_
        refine DW.x rfl rfl (X.field Try.runUnderlying28 rfl Try.sizeOf26 rfl) (by decide) ?_
        refine DW.x rfl rfl (X.loadB (k := 0) Try.isAgg26 rfl rfl rfl) (by decide) ?_
        refine DW.x rfl rfl (X.move rfl) (by decide) ?_
        refine DW.tm rfl rfl rfl (T.call Try.call34 rfl (pick34 _ _ _ hs6 _ _ hset (by first | omega | simp))) (by decide) fun m402 r403 hle404 hR405 => ?_
        obtain ⟨v406, hv_, hs407⟩ := hR405
        rw [← hv_] at hs407
        clear hv_ v406
        replace hs2 := hs2.mono hle404
        replace hs4 := hs4.mono hle404
        replace hs6 := hs6.mono hle404
        replace hset := hset.mono hle404
        replace hs18 := hs18.mono hle404
        have hl408 := hs407.le
        refine DW.x rfl rfl (X.call Try.call33 rfl (feasible33 _ _ c.D ⟨_, _, rfl, hs2, hs4⟩ _ _ hs407 )) (by decide) ?_
        refine DW.x rfl rfl (X.move rfl) (by decide) ?_
        refine DW.x rfl rfl (X.extract rfl rfl) (by decide) ?_
        refine DW.x rfl rfl (X.extract rfl rfl) (by decide) ?_
        refine DW.x rfl rfl (X.assign rfl) (by decide) ?_
        refine DW.x rfl rfl (X.assign rfl) (by decide) ?_
        refine DW.nil ?_
        refine WK.nThen ?_
        refine WC.seq ?_
        refine WC.region ?_
        refine WL.x (X.move rfl) (by decide) ?_
        refine WL.x (X.move rfl) (by decide) ?_
        refine WL.yes rfl rfl ?_
        refine WL.x (X.move rfl) (by decide) ?_
        refine WL.yes rfl rfl ?_
        refine WL.cond (X.eql rfl rfl) (by decide) (fun h409 => ?_) (fun h409 => ?_)
        · refine WL.x (X.pickT rfl rfl rfl) (by decide) ?_
          refine WL.x (X.move rfl) (by decide) ?_
          refine WL.yes rfl rfl ?_
          refine WL.x (X.move rfl) (by decide) ?_
          refine WL.yes rfl rfl ?_
          refine WL.x (X.move rfl) (by decide) ?_
          refine WL.yes rfl rfl ?_
          refine WL.x (X.not rfl) (by decide) ?_
          refine WL.yes rfl rfl ?_
          refine WL.x (X.eqlB Try.underlying4 rfl rfl) (by decide) ?_
          refine WL.x (X.pickT rfl rfl rfl) (by decide) ?_
          refine WL.x (X.assign rfl) (by decide) ?_
          refine WL.nil ?_
          refine WK.nThen ?_
          refine WC.ret ?_
          refine WK.ret1 rfl rfl (fun w' hw' => Ret.exact hw' ?_)
          first | rfl | (exfalso; omega) | (exfalso; contradiction) | (exfalso; simp_all; done) | exact (bool_true (min_fin hme2 hwb)).symm | exact (bool_true (by first | omega | assumption)).symm
        refine WL.x (X.pickT rfl rfl rfl) (by decide) ?_
        refine WL.x (X.move rfl) (by decide) ?_
        refine WL.no rfl rfl rfl (by decide) ?_
        refine WL.no rfl rfl rfl (by decide) ?_
        refine WL.no rfl rfl rfl (by decide) ?_
        refine WL.no rfl rfl rfl (by decide) ?_
        refine WL.x (X.pickF rfl rfl rfl) (by decide) ?_
        refine WL.x (X.assign rfl) (by decide) ?_
        refine WL.nil ?_
        refine WK.nThen ?_
        refine WC.ret ?_
        refine WK.ret1 rfl rfl (fun w' hw' => Ret.exact hw' ?_)
        first | rfl | (exfalso; omega) | (exfalso; contradiction) | (exfalso; simp_all; done) | exact (bool_true (min_fin hme2 hwb)).symm | exact (bool_true (by first | omega | assumption)).symm
  refine WL.x (X.not rfl) (by decide) ?_
  refine WL.x (X.move rfl) (by decide) ?_
  refine WL.no rfl rfl rfl (by decide) ?_
  refine WL.no rfl rfl rfl (by decide) ?_
  refine WL.no rfl rfl rfl (by decide) ?_
  refine WL.x (X.pickT rfl rfl rfl) (by decide) ?_
  refine WL.nil ?_
  refine WK.nThen ?_
  refine WC.condT rfl ?_
  refine WC.seq ?_
  refine WC.region ?_
  refine WL.x (X.move rfl) (by decide) ?_
  refine WL.x (X.assign rfl) (by decide) ?_
  refine WL.nil ?_
  refine WK.nThen ?_
  refine WC.ret ?_
  refine WK.rThen ?_
  refine WK.ret1 rfl rfl (fun w' hw' => Ret.exact hw' ?_)
  first | rfl | (exfalso; omega) | (exfalso; contradiction) | (exfalso; simp_all; done) | exact (bool_true (min_fin hme2 hwb)).symm | exact (bool_true (by first | omega | assumption)).symm
end Go.Proofs.C2
