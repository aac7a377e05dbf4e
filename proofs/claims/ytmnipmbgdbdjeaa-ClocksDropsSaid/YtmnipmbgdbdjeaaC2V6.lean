import Derived.Test.YtmnipmbgdbdjeaaC2Br
import Derived.Test.YtmnipmbgdbdjeaaC2W10
import Derived.Test.YtmnipmbgdbdjeaaC2LM
/- The walk of the statement ClocksDrops: its function answers true. -/
namespace Go.Proofs.C2
open Go Go.Kx
set_option linter.unusedSimpArgs false
set_option linter.unusedVariables false
set_option maxRecDepth 20000 in
set_option maxHeartbeats 4000000 in
theorem law6 (m : Mem) (cc : List Value) (c : Clk) (hc : Enc.rd m cc c) (vset : Value) (set : List Int) (hset : Sl m vset set)  (ok0 : Rng.ok c) (ok1 : Rng.ok set) : Exact Try.prog 6 #[.agg cc.toArray, vset] m (.bool true) := by
  obtain ⟨v1, v3, v5, rfl, hs2, hs4, hs6⟩ := hc
  have hl7 := hs2.le
  have hl8 := hs4.le
  have hl9 := hs6.le
  have lset := hset.le
  refine Exact.start Try.func6 rfl Try.ntmps6 rfl fun wld => ?_
  refine WC.seq ?_
  refine WC.region ?_
  refine WL.tn (T.boxB rfl rfl) (by decide) fun b10 => ?_
  refine WL.x (X.assign rfl) (by decide) ?_
  refine WL.nil ?_
  refine WK.nThen ?_
  refine WC.seq ?_
  refine WC.region ?_
  refine WL.x (X.call Try.call19 rfl (awake19 _  )) (by decide) ?_
  refine WL.x (X.assign rfl) (by decide) ?_
  refine WL.nil ?_
  refine WK.nThen ?_
  refine WC.seq ?_
  refine WC.seq ?_
  refine WC.region ?_
  refine WL.x (X.loadBA (k := 0) Try.isAgg28 Try.sizeOf28 rfl rfl rfl) (by decide) ?_
  refine WL.cond (X.call Try.call20 rfl (few20 _ _ c ⟨_, _, _, rfl, hs2, hs4, hs6⟩ )) (by decide) (fun h11 => ?_) (fun h11 => ?_)
  · refine WL.x (X.not rfl) (by decide) ?_
    refine WL.x (X.move rfl) (by decide) ?_
    refine WL.yes rfl rfl ?_
    refine WL.x (X.move rfl) (by decide) ?_
    refine WL.yes rfl rfl ?_
    refine WL.x (X.len Try.runUnderlying29 rfl hset) (by decide) ?_
    refine WL.yes rfl rfl ?_
    refine WL.cond (X.gtr rfl rfl) (by decide) (fun h12 => ?_) (fun h12 => ?_)
    · refine WL.x (X.pickF rfl rfl rfl) (by decide) ?_
      refine WL.nil ?_
      refine WK.nThen ?_
      refine WC.condT rfl ?_
      refine WC.seq ?_
      refine WC.region ?_
      refine WL.x (X.move rfl) (by decide) ?_
      refine WL.x (X.assign rfl) (by decide) ?_
      refine WL.nil ?_
      refine WK.nThen ?_
      refine WC.ret ?_
      refine WK.rThen ?_
      refine WK.ret1 rfl rfl (fun w' hw' => Ret.exact hw' ?_)
      first | rfl | (exfalso; omega) | (exfalso; contradiction) | (exfalso; have hbf_ : hb = false := (by simpa using (‹(!hb) = true› : (!hb) = true)); exact hdi4 k (by omega) (fun j hj => hhit hbf_ j (by omega))) | (exfalso; simp_all; done) | (have hf_ : (feasR c.D (woN c.M set c.M.length)).1 = true := (by simpa using (‹(!(feasR c.D (woN c.M set c.M.length)).1) = false› : (!(feasR c.D (woN c.M set c.M.length)).1) = false)); have hf2_ := hde2 hf_; exact (bool_true (by omega)).symm) | exact (bool_true (by first | omega | assumption)).symm
    refine WL.x (X.pickF rfl rfl rfl) (by decide) ?_
    refine WL.nil ?_
    refine WK.nThen ?_
    refine WC.condF rfl ?_
    refine WC.skip ?_
    refine WK.nThen ?_
    refine WC.seq ?_
    refine WC.region ?_
    refine WL.x (X.field Try.runUnderlying28 rfl Try.sizeOf25 rfl) (by decide) ?_
    refine WL.x (X.loadBP (k := 0) (vs := [v1, v3]) Try.isAgg25 Try.sizeOf25 rfl rfl rfl rfl) (by decide) ?_
    refine WL.x (X.field Try.runUnderlying28 rfl Try.sizeOf26 rfl) (by decide) ?_
    refine WL.x (X.loadB (k := 0) Try.isAgg26 rfl rfl rfl) (by decide) ?_
    refine WL.tm (T.call Try.call35 rfl (drops35 _ _ c.D ⟨_, _, rfl, hs2, hs4⟩ _ _ hs6 )) (by decide) fun m13 r14 hle15 hR16 => ?_
    obtain ⟨v17, rfl, hs18⟩ := hR16
    replace hs2 := hs2.mono hle15
    replace hs4 := hs4.mono hle15
    replace hs6 := hs6.mono hle15
    replace hset := hset.mono hle15
    have hl19 := hs18.le
    refine WL.x (X.move rfl) (by decide) ?_
    refine WL.x (X.extract rfl rfl) (by decide) ?_
    refine WL.x (X.extract rfl rfl) (by decide) ?_
    refine WL.x (X.assign rfl) (by decide) ?_
    refine WL.x (X.assign rfl) (by decide) ?_
    refine WL.nil ?_
    refine WK.nThen ?_
    refine WC.seq ?_
    refine WC.seq ?_
    refine WC.region ?_
    refine WL.x (X.move rfl) (by decide) ?_
    refine WL.condn (X.neq rfl rfl) (by decide) (fun h20 => ?_) (fun h20 => ?_)
    · refine WL.nil ?_
      refine WK.nThen ?_
      refine WC.condT rfl ?_
      refine WC.seq ?_
      have hq := drp_no (d := c.D) (m := c.M) (by omega)
      refine WC.region ?_
      refine WL.x (X.move rfl) (by decide) ?_
      refine WL.x (X.move rfl) (by decide) ?_
      refine WL.yes rfl rfl ?_
      refine WL.x (X.move rfl) (by decide) ?_
      refine WL.yes rfl rfl ?_
      refine WL.x (X.len Try.runUnderlying52 rfl hs18) (by decide) ?_
      refine WL.yes rfl rfl ?_
      refine WL.x (X.eql rfl rfl) (by decide) ?_
      refine WL.x (X.pickT rfl rfl rfl) (by decide) ?_
      refine WL.x (X.assign rfl) (by decide) ?_
      refine WL.nil ?_
      refine WK.nThen ?_
      refine WC.ret ?_
      refine WK.rThen ?_
      refine WK.ret1 rfl rfl (fun w' hw' => Ret.exact hw' ?_)
      first | rfl | (exfalso; omega) | (exfalso; contradiction) | (exfalso; have hbf_ : hb = false := (by simpa using (‹(!hb) = true› : (!hb) = true)); exact hdi4 k (by omega) (fun j hj => hhit hbf_ j (by omega))) | (exfalso; simp_all; done) | (have hf_ : (feasR c.D (woN c.M set c.M.length)).1 = true := (by simpa using (‹(!(feasR c.D (woN c.M set c.M.length)).1) = false› : (!(feasR c.D (woN c.M set c.M.length)).1) = false)); have hf2_ := hde2 hf_; exact (bool_true (by omega)).symm) | exact (bool_true (by first | omega | assumption)).symm
    refine WL.nil ?_
    refine WK.nThen ?_
    refine WC.condF rfl ?_
    refine WC.skip ?_
    refine WK.nThen ?_
    refine WC.seq ?_
    have hz := drp_zero (d := c.D) (m := c.M) (by omega)
    have hml := hz.2.1
    have hda := drp_all (d := c.D) (m := c.M) (by omega)
    have hd1 := hda.1.1
    have hd2 := hda.1.2
    refine WC.region ?_
    refine WL.x (X.field Try.runUnderlying28 rfl Try.sizeOf25 rfl) (by decide) ?_
    refine WL.x (X.loadBP (k := 0) (vs := [v1, v3]) Try.isAgg25 Try.sizeOf25 rfl rfl rfl rfl) (by decide) ?_
    refine WL.x (X.field Try.runUnderlying28 rfl Try.sizeOf26 rfl) (by decide) ?_
    refine WL.x (X.loadB (k := 0) Try.isAgg26 rfl rfl rfl) (by decide) ?_
    refine WL.tm (T.call Try.call31 rfl (pairs31 _ _ c.D ⟨_, _, rfl, hs2, hs4⟩ _ _ hs6 )) (by decide) fun m21 r22 hle23 hR24 => ?_
    obtain ⟨v25, rfl, hs26⟩ := hR24
    replace hs2 := hs2.mono hle23
    replace hs4 := hs4.mono hle23
    replace hs6 := hs6.mono hle23
    replace hset := hset.mono hle23
    replace hs18 := hs18.mono hle23
    have hl27 := hs26.le
    refine WL.x (X.move rfl) (by decide) ?_
    refine WL.x (X.extract rfl rfl) (by decide) ?_
    refine WL.x (X.extract rfl rfl) (by decide) ?_
    refine WL.x (X.assign rfl) (by decide) ?_
    refine WL.x (X.assign rfl) (by decide) ?_
    refine WL.nil ?_
    refine WK.nThen ?_
    refine WC.seq ?_
    refine WC.seq ?_
    refine WC.region ?_
    refine WL.x (X.move rfl) (by decide) ?_
    refine WL.x (X.len Try.runUnderlying52 rfl hs18) (by decide) ?_
    refine WL.cond (X.eql rfl rfl) (by decide) (fun h28 => ?_) (fun h28 => ?_)
    · refine WL.x (X.move rfl) (by decide) ?_
      refine WL.no rfl rfl rfl (by decide) ?_
      refine WL.no rfl rfl rfl (by decide) ?_
      refine WL.no rfl rfl rfl (by decide) ?_
      refine WL.noU rfl rfl (by decide) ?_
      refine WL.noU rfl rfl (by decide) ?_
      refine WL.no rfl rfl rfl (by decide) ?_
      refine WL.x (X.pickT rfl rfl rfl) (by decide) ?_
      refine WL.nil ?_
      refine WK.nThen ?_
      refine WC.condT rfl ?_
      refine WC.seq ?_
      refine WC.region ?_
      refine WL.x (X.assign rfl) (by decide) ?_
      refine WL.nil ?_
      refine WK.nThen ?_
      refine WC.ret ?_
      refine WK.rThen ?_
      refine WK.ret1 rfl rfl (fun w' hw' => Ret.exact hw' ?_)
      first | rfl | (exfalso; omega) | (exfalso; contradiction) | (exfalso; have hbf_ : hb = false := (by simpa using (‹(!hb) = true› : (!hb) = true)); exact hdi4 k (by omega) (fun j hj => hhit hbf_ j (by omega))) | (exfalso; simp_all; done) | (have hf_ : (feasR c.D (woN c.M set c.M.length)).1 = true := (by simpa using (‹(!(feasR c.D (woN c.M set c.M.length)).1) = false› : (!(feasR c.D (woN c.M set c.M.length)).1) = false)); have hf2_ := hde2 hf_; exact (bool_true (by omega)).symm) | exact (bool_true (by first | omega | assumption)).symm
    refine WL.x (X.move rfl) (by decide) ?_
    refine WL.yes rfl rfl ?_
    refine WL.x (X.move rfl) (by decide) ?_
    refine WL.yes rfl rfl ?_
    refine WL.condn (X.neq rfl rfl) (by decide) (fun h29 => ?_) (fun h29 => ?_)
    · refine WL.yes rfl rfl ?_
      refine WL.x (X.move rfl) (by decide) ?_
      refine WL.yes rfl rfl ?_
      refine WL.x (X.move rfl) (by decide) ?_
      refine WL.yes rfl rfl ?_
      refine WL.condn (X.neq rfl rfl) (by decide) (fun h30 => ?_) (fun h30 => ?_)
      · refine WL.yes rfl rfl ?_
        refine WL.x (X.pickT rfl rfl rfl) (by decide) ?_
        refine WL.x (X.pickF rfl rfl rfl) (by decide) ?_
        refine WL.nil ?_
        refine WK.nThen ?_
        refine WC.condT rfl ?_
        refine WC.seq ?_
        refine WC.region ?_
        refine WL.x (X.assign rfl) (by decide) ?_
        refine WL.nil ?_
        refine WK.nThen ?_
        refine WC.ret ?_
        refine WK.rThen ?_
        refine WK.ret1 rfl rfl (fun w' hw' => Ret.exact hw' ?_)
        first | rfl | (exfalso; omega) | (exfalso; contradiction) | (exfalso; have hbf_ : hb = false := (by simpa using (‹(!hb) = true› : (!hb) = true)); exact hdi4 k (by omega) (fun j hj => hhit hbf_ j (by omega))) | (exfalso; simp_all; done) | (have hf_ : (feasR c.D (woN c.M set c.M.length)).1 = true := (by simpa using (‹(!(feasR c.D (woN c.M set c.M.length)).1) = false› : (!(feasR c.D (woN c.M set c.M.length)).1) = false)); have hf2_ := hde2 hf_; exact (bool_true (by omega)).symm) | exact (bool_true (by first | omega | assumption)).symm
      refine WL.yes rfl rfl ?_
      refine WL.x (X.pickT rfl rfl rfl) (by decide) ?_
      refine WL.x (X.pickF rfl rfl rfl) (by decide) ?_
      refine WL.nil ?_
      refine WK.nThen ?_
      refine WC.condF rfl ?_
      refine WC.skip ?_
      refine WK.nThen ?_
      refine WC.seq ?_
      refine WC.seq ?_
      refine WC.region ?_
      refine WL.x (X.assign rfl) (by decide) ?_
      refine WL.nil ?_
      refine WK.nThen ?_
      refine WC.block ?_
      refine WC.loop (G := Nat × Mem) (fun (i, mm) => (drpR c.D c.M).1.length - i) (fun (i, mm) => mm) (fun (i, mm) => [blk b10 28 [v1, v3, v5]]) (fun (i, mm) => [(1, vset), (2, .pointer (some ⟨b10, 0, none⟩)), (5, .bool true), (6, v17), (8, v25), (10, .int .i64 (↑i))]) (fun (i, mm) => m21.le mm ∧ i ≤ (drpR c.D c.M).1.length) ((0, m21)) rfl (.refl _) (.cons rfl (.cons rfl (.cons rfl (.cons rfl (.cons rfl (.cons rfl .nil)))))) ?_ ?_
      · exact ⟨Mem.le_refl _, Nat.zero_le _⟩
      · rintro ⟨i, mm⟩ hF31
        show WK _ _ mm [blk b10 28 [v1, v3, v5]] [(1, vset), (2, .pointer (some ⟨b10, 0, none⟩)), (5, .bool true), (6, v17), (8, v25), (10, .int .i64 (↑i))] _
        replace hF31 : m21.le mm ∧ i ≤ (drpR c.D c.M).1.length := hF31
        obtain ⟨hmm, hi⟩ := hF31
        replace hs2 := hs2.mono hmm
        replace hs4 := hs4.mono hmm
        replace hs6 := hs6.mono hmm
        replace hset := hset.mono hmm
        replace hs18 := hs18.mono hmm
        replace hs26 := hs26.mono hmm
        refine WC.seq ?_
        refine WC.seq ?_
        refine WC.region ?_
        refine WL.x (X.move rfl) (by decide) ?_
        refine WL.x (X.move rfl) (by decide) ?_
        refine WL.x (X.len Try.runUnderlying52 rfl hs18) (by decide) ?_
        refine WL.cond (X.lss rfl rfl) (by decide) (fun h32 => ?_) (fun h32 => ?_)
        · refine WL.nil ?_
          refine WK.nThen ?_
          refine WC.condT rfl ?_
          refine WC.skip ?_
          refine WK.nThen ?_
          refine WC.seq ?_
          refine WC.block ?_
          refine WC.seq ?_
          refine WC.seq ?_
          have hdi := hda.2.1 i (by omega)
          have hdi1 := hdi.1
          have hdi2 := hdi.2.1
          have hdi3 := hdi.2.2.1
          have hdi4 := hdi.2.2.2
          have hdx := drp_idx (d := c.D) (m := c.M) (by omega) (i := i) (by omega)
          have hdx0 := drp_idx (d := c.D) (m := c.M) (by omega) (i := 0) (by omega)
          refine WC.draw (π := (.cons 0 (.cons 1 (.cons 2 (.cons 3 (.cons 4 (.cons 5 (.cons 6 (.cons 7 (.cons 8 (.cons 9 (.cons 10 (.cons 11 (.cons 12 (.cons 13 (.cons 14 .done)))))))))))))))) [8] [] rfl (by kernel_rfl) ?_
          refine DW.x rfl rfl (X.field Try.runUnderlying28 rfl Try.sizeOf25 rfl) (by decide) ?_
          refine DW.x rfl rfl (X.loadBP (k := 0) (vs := [v1, v3]) Try.isAgg25 Try.sizeOf25 rfl rfl rfl rfl) (by decide) ?_
          refine DW.x rfl rfl (X.field Try.runUnderlying28 rfl Try.sizeOf26 rfl) (by decide) ?_
          refine DW.x rfl rfl (X.loadB (k := 0) Try.isAgg26 rfl rfl rfl) (by decide) ?_
          refine DW.x rfl rfl (X.move rfl) (by decide) ?_
          refine DW.x rfl rfl (X.move rfl) (by decide) ?_
          refine DW.xe rfl rfl (E.idxN i Try.runUnderlying52 Try.sizeOf29 rfl rfl hs18 (by omega)) (by decide) (fun p33 hp34 => ?_)
          refine DW.xe rfl rfl (E.loadSl Try.isAgg29 rfl hp34) (by decide) (fun v35 hs36 => ?_)
          have hl37 := hs36.le
          refine DW.tm rfl rfl rfl (T.call Try.call36 rfl (without36 _ _ _ hs6 _ _ hs36 (by first | omega | simp))) (by decide) fun m38 r39 hle40 hR41 => ?_
          obtain ⟨v42, hv_, hs43⟩ := hR41
          rw [← hv_] at hs43
          clear hv_ v42
          replace hs2 := hs2.mono hle40
          replace hs4 := hs4.mono hle40
          replace hs6 := hs6.mono hle40
          replace hset := hset.mono hle40
          replace hs18 := hs18.mono hle40
          replace hs26 := hs26.mono hle40
          replace hp34 := hp34.mono hle40
          replace hs36 := hs36.mono hle40
          have hl44 := hs43.le
          refine DW.x rfl rfl (X.call Try.call33 rfl (feasible33 _ _ c.D ⟨_, _, rfl, hs2, hs4⟩ _ _ hs43 )) (by decide) ?_
          refine DW.x rfl rfl (X.move rfl) (by decide) ?_
          refine DW.x rfl rfl (X.extract rfl rfl) (by decide) ?_
          refine DW.x rfl rfl (X.extract rfl rfl) (by decide) ?_
          refine DW.x rfl rfl (X.assign rfl) (by decide) ?_
          refine DW.x rfl rfl (X.assign rfl) (by decide) ?_
          refine DW.nil ?_
          refine WK.nThen ?_
          refine WC.seq ?_
          refine WC.draw (π := (.cons 0 (.cons 1 (.cons 2 (.cons 3 (.cons 4 (.cons 5 (.cons 6 (.cons 7 (.cons 8 (.cons 9 (.cons 10 (.cons 11 (.cons 12 (.cons 13 (.cons 14 (.cons 15 (.cons 16 (.cons 17 .done))))))))))))))))))) [] [] rfl (by kernel_rfl) ?_
          refine DW.x rfl rfl (X.move rfl) (by decide) ?_
          refine DW.condn rfl rfl (X.neq rfl rfl) (by decide) (fun h45 => ?_) (fun h45 => ?_)
          · refine DW.x rfl rfl (X.move rfl) (by decide) ?_
            refine DW.no rfl rfl (by decide) ?_
            refine DW.no rfl rfl (by decide) ?_
            refine DW.x rfl rfl (X.pickT rfl rfl rfl) (by decide) ?_
            refine DW.x rfl rfl (X.move rfl) (by decide) ?_
            refine DW.no rfl rfl (by decide) ?_
            refine DW.no rfl rfl (by decide) ?_
            refine DW.no rfl rfl (by decide) ?_
            refine DW.no rfl rfl (by decide) ?_
            refine DW.no rfl rfl (by decide) ?_
            refine DW.no rfl rfl (by decide) ?_
            refine DW.no rfl rfl (by decide) ?_
            refine DW.no rfl rfl (by decide) ?_
            refine DW.no rfl rfl (by decide) ?_
            refine DW.no rfl rfl (by decide) ?_
            refine DW.x rfl rfl (X.pickT rfl rfl rfl) (by decide) ?_
            refine DW.nil ?_
            refine WK.nThen ?_
            refine WC.condT rfl ?_
            refine WC.seq ?_
            refine WC.region ?_
            refine WL.x (X.assign rfl) (by decide) ?_
            refine WL.nil ?_
            refine WK.nThen ?_
            refine WC.ret ?_
            refine WK.rThen ?_
            refine WK.rBlock ?_
            refine WK.rThen ?_
            refine WK.rThen ?_
            refine WK.rBlock ?_
            refine WK.rThen ?_
            refine WK.ret1 rfl rfl (fun w' hw' => Ret.exact hw' ?_)
            first | rfl | (exfalso; omega) | (exfalso; contradiction) | (exfalso; have hbf_ : hb = false := (by simpa using (‹(!hb) = true› : (!hb) = true)); exact hdi4 k (by omega) (fun j hj => hhit hbf_ j (by omega))) | (exfalso; simp_all; done) | (have hf_ : (feasR c.D (woN c.M set c.M.length)).1 = true := (by simpa using (‹(!(feasR c.D (woN c.M set c.M.length)).1) = false› : (!(feasR c.D (woN c.M set c.M.length)).1) = false)); have hf2_ := hde2 hf_; exact (bool_true (by omega)).symm) | exact (bool_true (by first | omega | assumption)).symm
          refine DW.x rfl rfl (X.move rfl) (by decide) ?_
          refine DW.x rfl rfl (X.move rfl) (by decide) ?_
          refine DW.condb rfl rfl (X.not rfl) (by decide) (fun h46 => ?_) (fun h46 => ?_)
          · refine DW.x rfl rfl (X.pickF rfl rfl rfl) (by decide) ?_
            refine DW.x rfl rfl (X.move rfl) (by decide) ?_
            refine DW.no rfl rfl (by decide) ?_
            refine DW.no rfl rfl (by decide) ?_
            refine DW.no rfl rfl (by decide) ?_
            refine DW.no rfl rfl (by decide) ?_
            refine DW.no rfl rfl (by decide) ?_
            refine DW.no rfl rfl (by decide) ?_
            refine DW.no rfl rfl (by decide) ?_
            refine DW.no rfl rfl (by decide) ?_
            refine DW.no rfl rfl (by decide) ?_
            refine DW.no rfl rfl (by decide) ?_
            refine DW.x rfl rfl (X.pickT rfl rfl rfl) (by decide) ?_
            refine DW.nil ?_
            refine WK.nThen ?_
            refine WC.condT rfl ?_
            refine WC.seq ?_
            refine WC.region ?_
            refine WL.x (X.assign rfl) (by decide) ?_
            refine WL.nil ?_
            refine WK.nThen ?_
            refine WC.ret ?_
            refine WK.rThen ?_
            refine WK.rBlock ?_
            refine WK.rThen ?_
            refine WK.rThen ?_
            refine WK.rBlock ?_
            refine WK.rThen ?_
            refine WK.ret1 rfl rfl (fun w' hw' => Ret.exact hw' ?_)
            first | rfl | (exfalso; omega) | (exfalso; contradiction) | (exfalso; have hbf_ : hb = false := (by simpa using (‹(!hb) = true› : (!hb) = true)); exact hdi4 k (by omega) (fun j hj => hhit hbf_ j (by omega))) | (exfalso; simp_all; done) | (have hf_ : (feasR c.D (woN c.M set c.M.length)).1 = true := (by simpa using (‹(!(feasR c.D (woN c.M set c.M.length)).1) = false› : (!(feasR c.D (woN c.M set c.M.length)).1) = false)); have hf2_ := hde2 hf_; exact (bool_true (by omega)).symm) | exact (bool_true (by first | omega | assumption)).symm
          refine DW.x rfl rfl (X.pickF rfl rfl rfl) (by decide) ?_
          refine DW.x rfl rfl (X.move rfl) (by decide) ?_
          refine DW.x rfl rfl (X.move rfl) (by decide) ?_
          refine DW.x rfl rfl (X.move rfl) (by decide) ?_
          refine DW.xe rfl rfl (E.idxN i Try.runUnderlying52 Try.sizeOf29 rfl rfl hs18 (by omega)) (by decide) (fun p47 hp48 => ?_)
          refine DW.xe rfl rfl (E.loadSl Try.isAgg29 rfl hp48) (by decide) (fun v49 hs50 => ?_)
          have hl51 := hs50.le
          refine DW.x rfl rfl (X.len Try.runUnderlying29 rfl hs50) (by decide) ?_
          refine DW.x rfl rfl (X.move rfl) (by decide) ?_
          refine DW.xe rfl rfl (E.idxN 0 Try.runUnderlying52 Try.sizeOf29 rfl rfl hs18 (by omega)) (by decide) (fun p52 hp53 => ?_)
          refine DW.xe rfl rfl (E.loadSl Try.isAgg29 rfl hp53) (by decide) (fun v54 hs55 => ?_)
          have hl56 := hs55.le
          refine DW.x rfl rfl (X.len Try.runUnderlying29 rfl hs55) (by decide) ?_
          refine DW.condn rfl rfl (X.neq rfl rfl) (by decide) (fun h57 => ?_) (fun h57 => ?_)
          · refine DW.x rfl rfl (X.pickF rfl rfl rfl) (by decide) ?_
            refine DW.nil ?_
            refine WK.nThen ?_
            refine WC.condT rfl ?_
            refine WC.seq ?_
            refine WC.region ?_
            refine WL.x (X.assign rfl) (by decide) ?_
            refine WL.nil ?_
            refine WK.nThen ?_
            refine WC.ret ?_
            refine WK.rThen ?_
            refine WK.rBlock ?_
            refine WK.rThen ?_
            refine WK.rThen ?_
            refine WK.rBlock ?_
            refine WK.rThen ?_
            refine WK.ret1 rfl rfl (fun w' hw' => Ret.exact hw' ?_)
            first | rfl | (exfalso; omega) | (exfalso; contradiction) | (exfalso; have hbf_ : hb = false := (by simpa using (‹(!hb) = true› : (!hb) = true)); exact hdi4 k (by omega) (fun j hj => hhit hbf_ j (by omega))) | (exfalso; simp_all; done) | (have hf_ : (feasR c.D (woN c.M set c.M.length)).1 = true := (by simpa using (‹(!(feasR c.D (woN c.M set c.M.length)).1) = false› : (!(feasR c.D (woN c.M set c.M.length)).1) = false)); have hf2_ := hde2 hf_; exact (bool_true (by omega)).symm) | exact (bool_true (by first | omega | assumption)).symm
          refine DW.x rfl rfl (X.pickF rfl rfl rfl) (by decide) ?_
          refine DW.nil ?_
          refine WK.nThen ?_
          refine WC.condF rfl ?_
          refine WC.skip ?_
          refine WK.nThen ?_
          refine WC.seq ?_
          refine WC.region ?_
          refine WL.x (X.assign rfl) (by decide) ?_
          refine WL.nil ?_
          refine WK.nThen ?_
          refine WC.block ?_
          refine WC.loop (G := Nat) (fun k => (prsR c.D c.M).1.length - k) (fun k => m38) (fun k => [blk b10 28 [v1, v3, v5]]) (fun k => [(1, vset), (2, .pointer (some ⟨b10, 0, none⟩)), (5, .bool true), (6, v17), (8, v25), (10, .int .i64 (↑i)), (13, .int .i64 (↑k)), (87, .bool ((feasR c.D ((woN c.M ((gt ((drpR c.D c.M).1) i)) c.M.length))).1)), (88, .bool false), (91, v17), (92, .int .i64 (↑i)), (93, .pointer (some (p47))), (94, v49), (95, .int .i64 (↑(gt ((drpR c.D c.M).1) i).length)), (96, v17), (97, .pointer (some (p52))), (98, v54), (99, .int .i64 (↑(gt ((drpR c.D c.M).1) 0).length)), (100, .bool false)]) (fun k => k ≤ (prsR c.D c.M).1.length) 0 rfl (.refl _) (.cons rfl (.cons rfl (.cons rfl (.cons rfl (.cons rfl (.cons rfl (.cons rfl (.cons rfl (.cons rfl (.cons rfl (.cons rfl (.cons rfl (.cons rfl (.cons rfl (.cons rfl (.cons rfl (.cons rfl (.cons rfl (.cons rfl .nil))))))))))))))))))) ?_ ?_
          · exact Nat.zero_le _
          · rintro k hF58
            show WK _ _ m38 [blk b10 28 [v1, v3, v5]] [(1, vset), (2, .pointer (some ⟨b10, 0, none⟩)), (5, .bool true), (6, v17), (8, v25), (10, .int .i64 (↑i)), (13, .int .i64 (↑k)), (87, .bool ((feasR c.D ((woN c.M ((gt ((drpR c.D c.M).1) i)) c.M.length))).1)), (88, .bool false), (91, v17), (92, .int .i64 (↑i)), (93, .pointer (some (p47))), (94, v49), (95, .int .i64 (↑(gt ((drpR c.D c.M).1) i).length)), (96, v17), (97, .pointer (some (p52))), (98, v54), (99, .int .i64 (↑(gt ((drpR c.D c.M).1) 0).length)), (100, .bool false)] _
            replace hF58 : k ≤ (prsR c.D c.M).1.length := hF58
            have hk := hF58
            refine WC.seq ?_
            refine WC.seq ?_
            refine WC.region ?_
            refine WL.x (X.move rfl) (by decide) ?_
            refine WL.x (X.move rfl) (by decide) ?_
            refine WL.x (X.len Try.runUnderlying52 rfl hs26) (by decide) ?_
            refine WL.cond (X.lss rfl rfl) (by decide) (fun h59 => ?_) (fun h59 => ?_)
            · refine WL.nil ?_
              refine WK.nThen ?_
              refine WC.condT rfl ?_
              refine WC.skip ?_
              refine WK.nThen ?_
              refine WC.seq ?_
              refine WC.block ?_
              refine WC.seq ?_
              refine WC.region ?_
              refine WL.x (X.assign rfl) (by decide) ?_
              refine WL.nil ?_
              refine WK.nThen ?_
              refine WC.seq ?_
              refine WC.seq ?_
              refine WC.region ?_
              refine WL.x (X.assign rfl) (by decide) ?_
              refine WL.nil ?_
              refine WK.nThen ?_
              refine WC.block ?_
              refine WC.loop (G := Nat × Bool) (fun (q, hb) => (gt (prsR c.D c.M).1 k).length - q) (fun (q, hb) => m38) (fun (q, hb) => [blk b10 28 [v1, v3, v5]]) (fun (q, hb) => [(1, vset), (2, .pointer (some ⟨b10, 0, none⟩)), (5, .bool true), (6, v17), (8, v25), (10, .int .i64 (↑i)), (13, .int .i64 (↑k)), (14, .bool (hb)), (15, .int .i64 (↑q)), (87, .bool ((feasR c.D ((woN c.M ((gt ((drpR c.D c.M).1) i)) c.M.length))).1)), (88, .bool false), (91, v17), (92, .int .i64 (↑i)), (93, .pointer (some (p47))), (94, v49), (95, .int .i64 (↑(gt ((drpR c.D c.M).1) i).length)), (96, v17), (97, .pointer (some (p52))), (98, v54), (99, .int .i64 (↑(gt ((drpR c.D c.M).1) 0).length)), (100, .bool false)]) (fun (q, hb) => q ≤ (gt (prsR c.D c.M).1 k).length ∧ (hb = false → ∀ j, j < q → ¬ gt (gt (prsR c.D c.M).1 k) j ∈ gt (drpR c.D c.M).1 i)) ((0, false)) rfl (.refl _) (.cons rfl (.cons rfl (.cons rfl (.cons rfl (.cons rfl (.cons rfl (.cons rfl (.cons rfl (.cons rfl (.cons rfl (.cons rfl (.cons rfl (.cons rfl (.cons rfl (.cons rfl (.cons rfl (.cons rfl (.cons rfl (.cons rfl (.cons rfl (.cons rfl .nil))))))))))))))))))))) ?_ ?_
              · exact ⟨Nat.zero_le _, fun _ j hj => absurd hj (Nat.not_lt_zero _)⟩
              · rintro ⟨q, hb⟩ hF60
                show WK _ _ m38 [blk b10 28 [v1, v3, v5]] [(1, vset), (2, .pointer (some ⟨b10, 0, none⟩)), (5, .bool true), (6, v17), (8, v25), (10, .int .i64 (↑i)), (13, .int .i64 (↑k)), (14, .bool (hb)), (15, .int .i64 (↑q)), (87, .bool ((feasR c.D ((woN c.M ((gt ((drpR c.D c.M).1) i)) c.M.length))).1)), (88, .bool false), (91, v17), (92, .int .i64 (↑i)), (93, .pointer (some (p47))), (94, v49), (95, .int .i64 (↑(gt ((drpR c.D c.M).1) i).length)), (96, v17), (97, .pointer (some (p52))), (98, v54), (99, .int .i64 (↑(gt ((drpR c.D c.M).1) 0).length)), (100, .bool false)] _
                replace hF60 : q ≤ (gt (prsR c.D c.M).1 k).length ∧ (hb = false → ∀ j, j < q → ¬ gt (gt (prsR c.D c.M).1 k) j ∈ gt (drpR c.D c.M).1 i) := hF60
                obtain ⟨hq, hhit⟩ := hF60
                refine WC.seq ?_
                refine WC.seq ?_
                refine WC.region ?_
                refine WL.x (X.move rfl) (by decide) ?_
                refine WL.x (X.move rfl) (by decide) ?_
                refine WL.x (X.move rfl) (by decide) ?_
                refine WL.xe (E.idxN k Try.runUnderlying52 Try.sizeOf29 rfl rfl hs26 (by omega)) (by decide) (fun p61 hp62 => ?_)
                refine WL.xe (E.loadSl Try.isAgg29 rfl hp62) (by decide) (fun v63 hs64 => ?_)
                have hl65 := hs64.le
                refine WL.x (X.len Try.runUnderlying29 rfl hs64) (by decide) ?_
                refine WL.cond (X.lss rfl rfl) (by decide) (fun h66 => ?_) (fun h66 => ?_)
                · refine WL.nil ?_
                  refine WK.nThen ?_
                  refine WC.condT rfl ?_
                  refine WC.skip ?_
                  refine WK.nThen ?_
                  refine WC.seq ?_
                  refine WC.block ?_
                  refine WC.draw (π := (.cons 0 (.cons 1 (.cons 2 (.cons 3 (.cons 4 (.cons 5 (.cons 6 (.cons 7 (.cons 8 (.cons 9 (.cons 10 (.cons 11 (.cons 12 (.cons 13 (.cons 14 (.cons 15 .done))))))))))))))))) [] [] rfl (by kernel_rfl) ?_
                  refine DW.x rfl rfl (X.move rfl) (by decide) ?_
                  refine DW.condb rfl rfl (X.move rfl) (by decide) (fun h67 => ?_) (fun h67 => ?_)
                  · refine DW.no rfl rfl (by decide) ?_
                    refine DW.no rfl rfl (by decide) ?_
                    refine DW.no rfl rfl (by decide) ?_
                    refine DW.no rfl rfl (by decide) ?_
                    refine DW.no rfl rfl (by decide) ?_
                    refine DW.no rfl rfl (by decide) ?_
                    refine DW.no rfl rfl (by decide) ?_
                    refine DW.no rfl rfl (by decide) ?_
                    refine DW.no rfl rfl (by decide) ?_
                    refine DW.no rfl rfl (by decide) ?_
                    refine DW.no rfl rfl (by decide) ?_
                    refine DW.no rfl rfl (by decide) ?_
                    refine DW.x rfl rfl (X.pickT rfl rfl rfl) (by decide) ?_
                    refine DW.x rfl rfl (X.assign rfl) (by decide) ?_
                    refine DW.nil ?_
                    refine WK.nBlock ?_
                    refine WK.nThen ?_
                    refine WC.region ?_
                    refine WL.x (X.move rfl) (by decide) ?_
                    refine WL.x (X.add rfl rfl (by omega) (by omega)) (by decide) ?_
                    refine WL.x (X.assign rfl) (by decide) ?_
                    refine WL.nil ?_
                    refine WK.nThen ?_
                    refine WK.next ((q + 1, true)) rfl (.refl _) (.cons rfl (.cons rfl (.cons rfl (.cons rfl (.cons rfl (.cons rfl (.cons rfl (.cons rfl (.cons rfl (.cons rfl (.cons rfl (.cons rfl (.cons rfl (.cons rfl (.cons rfl (.cons rfl (.cons rfl (.cons rfl (.cons rfl (.cons rfl (.cons rfl .nil))))))))))))))))))))) ?_ ?_
                    · exact ⟨by omega, fun h_ j hj => by first | (exfalso; exact Bool.noConfusion h_) | (rcases Nat.lt_succ_iff_lt_or_eq.1 hj with h | h; exact hhit (by assumption) j h; subst h; first | assumption | exact of_decide_eq_false h_)⟩
                    · (dsimp only; omega)
                  refine DW.x rfl rfl (X.move rfl) (by decide) ?_
                  refine DW.x rfl rfl (X.move rfl) (by decide) ?_
                  refine DW.xe rfl rfl (E.idxN i Try.runUnderlying52 Try.sizeOf29 rfl rfl hs18 (by omega)) (by decide) (fun p68 hp69 => ?_)
                  refine DW.xe rfl rfl (E.loadSl Try.isAgg29 rfl hp69) (by decide) (fun v70 hs71 => ?_)
                  have hl72 := hs71.le
                  refine DW.x rfl rfl (X.move rfl) (by decide) ?_
                  refine DW.x rfl rfl (X.move rfl) (by decide) ?_
                  refine DW.xe rfl rfl (E.idxN k Try.runUnderlying52 Try.sizeOf29 rfl rfl hs26 (by omega)) (by decide) (fun p73 hp74 => ?_)
                  refine DW.xe rfl rfl (E.loadSl Try.isAgg29 rfl hp74) (by decide) (fun v75 hs76 => ?_)
                  have hl77 := hs76.le
                  refine DW.x rfl rfl (X.move rfl) (by decide) ?_
                  refine DW.xe rfl rfl (E.idxN q Try.runUnderlying29 Try.sizeOf3 rfl rfl hs76 (by omega)) (by decide) (fun p78 hp79 => ?_)
                  refine DW.x rfl rfl (X.loadInt Try.isAgg3 rfl hp79) (by decide) ?_
                  refine DW.cond rfl rfl (X.call Try.call32 rfl (has32 _ _ _ hs71 _ )) (by decide) (fun h80 => ?_) (fun h80 => ?_)
                  · refine DW.x rfl rfl (X.pickF rfl rfl rfl) (by decide) ?_
                    refine DW.x rfl rfl (X.assign rfl) (by decide) ?_
                    refine DW.nil ?_
                    refine WK.nBlock ?_
                    refine WK.nThen ?_
                    refine WC.region ?_
                    refine WL.x (X.move rfl) (by decide) ?_
                    refine WL.x (X.add rfl rfl (by omega) (by omega)) (by decide) ?_
                    refine WL.x (X.assign rfl) (by decide) ?_
                    refine WL.nil ?_
                    refine WK.nThen ?_
                    refine WK.next ((q + 1, true)) rfl (.refl _) (.cons rfl (.cons rfl (.cons rfl (.cons rfl (.cons rfl (.cons rfl (.cons rfl (.cons rfl (.cons rfl (.cons rfl (.cons rfl (.cons rfl (.cons rfl (.cons rfl (.cons rfl (.cons rfl (.cons rfl (.cons rfl (.cons rfl (.cons rfl (.cons rfl .nil))))))))))))))))))))) ?_ ?_
                    · exact ⟨by omega, fun h_ j hj => by first | (exfalso; exact Bool.noConfusion h_) | (rcases Nat.lt_succ_iff_lt_or_eq.1 hj with h | h; exact hhit (by assumption) j h; subst h; first | assumption | exact of_decide_eq_false h_)⟩
                    · (dsimp only; omega)
                  refine DW.x rfl rfl (X.pickF rfl rfl rfl) (by decide) ?_
                  refine DW.x rfl rfl (X.assign rfl) (by decide) ?_
                  refine DW.nil ?_
                  refine WK.nBlock ?_
                  refine WK.nThen ?_
                  refine WC.region ?_
                  refine WL.x (X.move rfl) (by decide) ?_
                  refine WL.x (X.add rfl rfl (by omega) (by omega)) (by decide) ?_
                  refine WL.x (X.assign rfl) (by decide) ?_
                  refine WL.nil ?_
                  refine WK.nThen ?_
                  refine WK.next ((q + 1, false)) rfl (.refl _) (.cons rfl (.cons rfl (.cons rfl (.cons rfl (.cons rfl (.cons rfl (.cons rfl (.cons rfl (.cons rfl (.cons rfl (.cons rfl (.cons rfl (.cons rfl (.cons rfl (.cons rfl (.cons rfl (.cons rfl (.cons rfl (.cons rfl (.cons rfl (.cons rfl .nil))))))))))))))))))))) ?_ ?_
                  · exact ⟨by omega, fun h_ j hj => by first | (exfalso; exact Bool.noConfusion h_) | (rcases Nat.lt_succ_iff_lt_or_eq.1 hj with h | h; exact hhit (by assumption) j h; subst h; first | assumption | exact of_decide_eq_false h_)⟩
                  · (dsimp only; omega)
                refine WL.nil ?_
                refine WK.nThen ?_
                refine WC.condF rfl ?_
                refine WC.exit ?_
                refine WK.eThen ?_
                refine WK.eThen ?_
                refine WK.eHit ?_
                refine WK.nThen ?_
                refine WC.seq ?_
                refine WC.region ?_
                refine WL.x (X.move rfl) (by decide) ?_
                refine WL.condb (X.not rfl) (by decide) (fun h81 => ?_) (fun h81 => ?_)
                · refine WL.nil ?_
                  refine WK.nThen ?_
                  refine WC.condT rfl ?_
                  refine WC.seq ?_
                  refine WC.region ?_
                  refine WL.x (X.assign rfl) (by decide) ?_
                  refine WL.nil ?_
                  refine WK.nThen ?_
                  refine WC.ret ?_
                  refine WK.rBlock ?_
                  refine WK.rThen ?_
                  refine WK.rThen ?_
                  refine WK.rBlock ?_
                  refine WK.rBlock ?_
                  refine WK.rThen ?_
                  refine WK.rThen ?_
                  refine WK.rBlock ?_
                  refine WK.rThen ?_
                  refine WK.ret1 rfl rfl (fun w' hw' => Ret.exact hw' ?_)
                  first | rfl | (exfalso; omega) | (exfalso; contradiction) | (exfalso; have hbf_ : hb = false := (by simpa using (‹(!hb) = true› : (!hb) = true)); exact hdi4 k (by omega) (fun j hj => hhit hbf_ j (by omega))) | (exfalso; simp_all; done) | (have hf_ : (feasR c.D (woN c.M set c.M.length)).1 = true := (by simpa using (‹(!(feasR c.D (woN c.M set c.M.length)).1) = false› : (!(feasR c.D (woN c.M set c.M.length)).1) = false)); have hf2_ := hde2 hf_; exact (bool_true (by omega)).symm) | exact (bool_true (by first | omega | assumption)).symm
                refine WL.nil ?_
                refine WK.nThen ?_
                refine WC.condF rfl ?_
                refine WC.skip ?_
                refine WK.nBlock ?_
                refine WK.nThen ?_
                refine WC.region ?_
                refine WL.x (X.move rfl) (by decide) ?_
                refine WL.x (X.add rfl rfl (by omega) (by omega)) (by decide) ?_
                refine WL.x (X.assign rfl) (by decide) ?_
                refine WL.nil ?_
                refine WK.nThen ?_
                refine WK.next (k + 1) rfl (.refl _) (.cons rfl (.cons rfl (.cons rfl (.cons rfl (.cons rfl (.cons rfl (.cons rfl (.cons rfl (.cons rfl (.cons rfl (.cons rfl (.cons rfl (.cons rfl (.cons rfl (.cons rfl (.cons rfl (.cons rfl (.cons rfl (.cons rfl .nil))))))))))))))))))) ?_ ?_
                · omega
                · omega
            refine WL.nil ?_
            refine WK.nThen ?_
            refine WC.condF rfl ?_
            refine WC.exit ?_
            refine WK.eThen ?_
            refine WK.eThen ?_
            refine WK.eHit ?_
            refine WK.nBlock ?_
            refine WK.nThen ?_
            refine WC.region ?_
            refine WL.x (X.move rfl) (by decide) ?_
            refine WL.x (X.add rfl rfl (by omega) (by omega)) (by decide) ?_
            refine WL.x (X.assign rfl) (by decide) ?_
            refine WL.nil ?_
            refine WK.nThen ?_
            refine WK.next ((i + 1, m38)) rfl (.refl _) (.cons rfl (.cons rfl (.cons rfl (.cons rfl (.cons rfl (.cons rfl .nil)))))) ?_ ?_
            · exact ⟨Mem.le_trans hmm hle40, by omega⟩
            · (dsimp only; omega)
        refine WL.nil ?_
        refine WK.nThen ?_
        refine WC.condF rfl ?_
        refine WC.exit ?_
        refine WK.eThen ?_
        refine WK.eThen ?_
        refine WK.eHit ?_
        refine WK.nThen ?_
        refine WC.seq ?_
        refine WC.region ?_
        refine WL.x (X.assign rfl) (by decide) ?_
        refine WL.nil ?_
        refine WK.nThen ?_
        refine WC.seq ?_
        refine WC.seq ?_
        refine WC.region ?_
        refine WL.x (X.assign rfl) (by decide) ?_
        refine WL.nil ?_
        refine WK.nThen ?_
        refine WC.block ?_
        refine WC.loop (G := Nat) (fun z => c.M.length - z) (fun z => mm) (fun z => [blk b10 28 [v1, v3, v5]]) (fun z => [(1, vset), (2, .pointer (some ⟨b10, 0, none⟩)), (5, .bool true), (6, v17), (16, .int .i64 (cntI set z)), (17, .int .i64 (↑z))]) (fun z => z ≤ c.M.length) 0 rfl (.refl _) (.cons rfl (.cons rfl (.cons rfl (.cons rfl (.cons rfl (.cons rfl .nil)))))) ?_ ?_
        · exact Nat.zero_le _
        · rintro z hF82
          show WK _ _ mm [blk b10 28 [v1, v3, v5]] [(1, vset), (2, .pointer (some ⟨b10, 0, none⟩)), (5, .bool true), (6, v17), (16, .int .i64 (cntI set z)), (17, .int .i64 (↑z))] _
          replace hF82 : z ≤ c.M.length := hF82
          have hz := hF82
          refine WC.seq ?_
          refine WC.seq ?_
          refine WC.region ?_
          refine WL.x (X.move rfl) (by decide) ?_
          refine WL.x (X.field Try.runUnderlying28 rfl Try.sizeOf26 rfl) (by decide) ?_
          refine WL.x (X.loadB (k := 0) Try.isAgg26 rfl rfl rfl) (by decide) ?_
          refine WL.x (X.len Try.runUnderlying26 rfl hs6) (by decide) ?_
          refine WL.cond (X.lss rfl rfl) (by decide) (fun h83 => ?_) (fun h83 => ?_)
          · refine WL.nil ?_
            refine WK.nThen ?_
            refine WC.condT rfl ?_
            refine WC.skip ?_
            refine WK.nThen ?_
            refine WC.seq ?_
            refine WC.block ?_
            refine WC.seq ?_
            have hci := cntI_bd set z
            refine WC.region ?_
            refine WL.x (X.move rfl) (by decide) ?_
            refine WL.x (X.move rfl) (by decide) ?_
            refine WL.cond (X.call Try.call32 rfl (has32 _ _ _ hset _ )) (by decide) (fun h84 => ?_) (fun h84 => ?_)
            · refine WL.nil ?_
              refine WK.nThen ?_
              refine WC.condT rfl ?_
              refine WC.region ?_
              refine WL.x (X.move rfl) (by decide) ?_
              refine WL.x (X.add rfl rfl (by omega) (by omega)) (by decide) ?_
              refine WL.x (X.assign rfl) (by decide) ?_
              refine WL.nil ?_
              refine WK.nBlock ?_
              refine WK.nThen ?_
              refine WC.region ?_
              refine WL.x (X.move rfl) (by decide) ?_
              refine WL.x (X.add rfl rfl (by omega) (by omega)) (by decide) ?_
              refine WL.x (X.assign rfl) (by decide) ?_
              refine WL.nil ?_
              refine WK.nThen ?_
              have he85 : (cntI set z) + 1 = cntI set (z + 1) := (by rw [cntI]; first | rw [if_pos (by assumption)] | rw [if_neg (by assumption)])
              rw [he85]
              refine WK.next (z + 1) rfl (.refl _) (.cons rfl (.cons rfl (.cons rfl (.cons rfl (.cons rfl (.cons rfl .nil)))))) ?_ ?_
              · omega
              · omega
            refine WL.nil ?_
            refine WK.nThen ?_
            refine WC.condF rfl ?_
            refine WC.skip ?_
            refine WK.nBlock ?_
            refine WK.nThen ?_
            refine WC.region ?_
            refine WL.x (X.move rfl) (by decide) ?_
            refine WL.x (X.add rfl rfl (by omega) (by omega)) (by decide) ?_
            refine WL.x (X.assign rfl) (by decide) ?_
            refine WL.nil ?_
            refine WK.nThen ?_
            have he86 : cntI set z = cntI set (z + 1) := (by rw [cntI]; first | rw [if_pos (by assumption)] | rw [if_neg (by assumption)])
            rw [he86]
            refine WK.next (z + 1) rfl (.refl _) (.cons rfl (.cons rfl (.cons rfl (.cons rfl (.cons rfl (.cons rfl .nil)))))) ?_ ?_
            · omega
            · omega
          refine WL.nil ?_
          refine WK.nThen ?_
          refine WC.condF rfl ?_
          refine WC.exit ?_
          refine WK.eThen ?_
          refine WK.eThen ?_
          refine WK.eHit ?_
          refine WK.nThen ?_
          refine WC.seq ?_
          refine WC.draw (π := (.cons 0 (.cons 1 (.cons 2 (.cons 3 (.cons 4 (.cons 5 (.cons 6 (.cons 7 (.cons 8 (.cons 9 (.cons 10 (.cons 11 .done))))))))))))) [5] [] rfl (by kernel_rfl) ?_
          refine DW.x rfl rfl (X.field Try.runUnderlying28 rfl Try.sizeOf25 rfl) (by decide) ?_
          refine DW.x rfl rfl (X.loadBP (k := 0) (vs := [v1, v3]) Try.isAgg25 Try.sizeOf25 rfl rfl rfl rfl) (by decide) ?_
          refine DW.x rfl rfl (X.field Try.runUnderlying28 rfl Try.sizeOf26 rfl) (by decide) ?_
          refine DW.x rfl rfl (X.loadB (k := 0) Try.isAgg26 rfl rfl rfl) (by decide) ?_
          refine DW.x rfl rfl (X.move rfl) (by decide) ?_
          refine DW.tm rfl rfl rfl (T.call Try.call36 rfl (without36 _ _ _ hs6 _ _ hset (by first | omega | simp))) (by decide) fun m87 r88 hle89 hR90 => ?_
          obtain ⟨v91, hv_, hs92⟩ := hR90
          rw [← hv_] at hs92
          clear hv_ v91
          replace hs2 := hs2.mono hle89
          replace hs4 := hs4.mono hle89
          replace hs6 := hs6.mono hle89
          replace hset := hset.mono hle89
          replace hs18 := hs18.mono hle89
          replace hs26 := hs26.mono hle89
          have hl93 := hs92.le
          refine DW.x rfl rfl (X.call Try.call33 rfl (feasible33 _ _ c.D ⟨_, _, rfl, hs2, hs4⟩ _ _ hs92 )) (by decide) ?_
          refine DW.x rfl rfl (X.move rfl) (by decide) ?_
          refine DW.x rfl rfl (X.extract rfl rfl) (by decide) ?_
          refine DW.x rfl rfl (X.extract rfl rfl) (by decide) ?_
          refine DW.x rfl rfl (X.assign rfl) (by decide) ?_
          refine DW.x rfl rfl (X.assign rfl) (by decide) ?_
          refine DW.nil ?_
          refine WK.nThen ?_
          refine WC.seq ?_
          have hde := hda.2.2 set
          have hde1 := hde.1
          have hde2 := hde.2
          obtain rfl : z = c.M.length := (by omega)
          refine WC.region ?_
          refine WL.x (X.move rfl) (by decide) ?_
          refine WL.x (X.move rfl) (by decide) ?_
          refine WL.yes rfl rfl ?_
          refine WL.x (X.move rfl) (by decide) ?_
          refine WL.yes rfl rfl ?_
          refine WL.cond (X.eql rfl rfl) (by decide) (fun h94 => ?_) (fun h94 => ?_)
          · refine WL.x (X.pickT rfl rfl rfl) (by decide) ?_
            refine WL.x (X.move rfl) (by decide) ?_
            refine WL.yes rfl rfl ?_
            refine WL.x (X.move rfl) (by decide) ?_
            refine WL.yes rfl rfl ?_
            refine WL.condb (X.not rfl) (by decide) (fun h95 => ?_) (fun h95 => ?_)
            · refine WL.yes rfl rfl ?_
              refine WL.x (X.move rfl) (by decide) ?_
              refine WL.no rfl rfl rfl (by decide) ?_
              refine WL.no rfl rfl rfl (by decide) ?_
              refine WL.no rfl rfl rfl (by decide) ?_
              refine WL.no rfl rfl rfl (by decide) ?_
              refine WL.no rfl rfl rfl (by decide) ?_
              refine WL.no rfl rfl rfl (by decide) ?_
              refine WL.yes rfl rfl ?_
              refine WL.x (X.pickT rfl rfl rfl) (by decide) ?_
              refine WL.x (X.pickT rfl rfl rfl) (by decide) ?_
              refine WL.x (X.assign rfl) (by decide) ?_
              refine WL.nil ?_
              refine WK.nThen ?_
              refine WC.ret ?_
              refine WK.ret1 rfl rfl (fun w' hw' => Ret.exact hw' ?_)
              first | rfl | (exfalso; omega) | (exfalso; contradiction) | (exfalso; have hbf_ : hb = false := (by simpa using (‹(!hb) = true› : (!hb) = true)); exact hdi4 k (by omega) (fun j hj => hhit hbf_ j (by omega))) | (exfalso; simp_all; done) | (have hf_ : (feasR c.D (woN c.M set c.M.length)).1 = true := (by simpa using (‹(!(feasR c.D (woN c.M set c.M.length)).1) = false› : (!(feasR c.D (woN c.M set c.M.length)).1) = false)); have hf2_ := hde2 hf_; exact (bool_true (by omega)).symm) | exact (bool_true (by first | omega | assumption)).symm
            refine WL.yes rfl rfl ?_
            refine WL.x (X.move rfl) (by decide) ?_
            refine WL.yes rfl rfl ?_
            refine WL.x (X.move rfl) (by decide) ?_
            refine WL.yes rfl rfl ?_
            refine WL.x (X.move rfl) (by decide) ?_
            refine WL.yes rfl rfl ?_
            refine WL.xe (E.idxN 0 Try.runUnderlying52 Try.sizeOf29 rfl rfl hs18 (by omega)) (by decide) (fun p96 hp97 => ?_)
            refine WL.yes rfl rfl ?_
            refine WL.xe (E.loadSl Try.isAgg29 rfl hp97) (by decide) (fun v98 hs99 => ?_)
            have hl100 := hs99.le
            refine WL.yes rfl rfl ?_
            refine WL.x (X.len Try.runUnderlying29 rfl hs99) (by decide) ?_
            refine WL.yes rfl rfl ?_
            refine WL.x (X.geq rfl rfl) (by decide) ?_
            refine WL.yes rfl rfl ?_
            refine WL.x (X.pickF rfl rfl rfl) (by decide) ?_
            refine WL.x (X.pickT rfl rfl rfl) (by decide) ?_
            refine WL.x (X.assign rfl) (by decide) ?_
            refine WL.nil ?_
            refine WK.nThen ?_
            refine WC.ret ?_
            refine WK.ret1 rfl rfl (fun w' hw' => Ret.exact hw' ?_)
            first | rfl | (exfalso; omega) | (exfalso; contradiction) | (exfalso; have hbf_ : hb = false := (by simpa using (‹(!hb) = true› : (!hb) = true)); exact hdi4 k (by omega) (fun j hj => hhit hbf_ j (by omega))) | (exfalso; simp_all; done) | (have hf_ : (feasR c.D (woN c.M set c.M.length)).1 = true := (by simpa using (‹(!(feasR c.D (woN c.M set c.M.length)).1) = false› : (!(feasR c.D (woN c.M set c.M.length)).1) = false)); have hf2_ := hde2 hf_; exact (bool_true (by omega)).symm) | exact (bool_true (by first | omega | assumption)).symm
          refine WL.x (X.pickT rfl rfl rfl) (by decide) ?_
          refine WL.x (X.move rfl) (by decide) ?_
          refine WL.no rfl rfl rfl (by decide) ?_
          refine WL.no rfl rfl rfl (by decide) ?_
          refine WL.no rfl rfl rfl (by decide) ?_
          refine WL.noU rfl rfl (by decide) ?_
          refine WL.noU rfl rfl (by decide) ?_
          refine WL.noU rfl rfl (by decide) ?_
          refine WL.noU rfl rfl (by decide) ?_
          refine WL.noU rfl rfl (by decide) ?_
          refine WL.noU rfl rfl (by decide) ?_
          refine WL.no rfl rfl rfl (by decide) ?_
          refine WL.x (X.pickF rfl rfl rfl) (by decide) ?_
          refine WL.x (X.assign rfl) (by decide) ?_
          refine WL.nil ?_
          refine WK.nThen ?_
          refine WC.ret ?_
          refine WK.ret1 rfl rfl (fun w' hw' => Ret.exact hw' ?_)
          first | rfl | (exfalso; omega) | (exfalso; contradiction) | (exfalso; have hbf_ : hb = false := (by simpa using (‹(!hb) = true› : (!hb) = true)); exact hdi4 k (by omega) (fun j hj => hhit hbf_ j (by omega))) | (exfalso; simp_all; done) | (have hf_ : (feasR c.D (woN c.M set c.M.length)).1 = true := (by simpa using (‹(!(feasR c.D (woN c.M set c.M.length)).1) = false› : (!(feasR c.D (woN c.M set c.M.length)).1) = false)); have hf2_ := hde2 hf_; exact (bool_true (by omega)).symm) | exact (bool_true (by first | omega | assumption)).symm
    refine WL.yes rfl rfl ?_
    refine WL.x (X.move rfl) (by decide) ?_
    refine WL.no rfl rfl rfl (by decide) ?_
    refine WL.no rfl rfl rfl (by decide) ?_
    refine WL.yes rfl rfl ?_
    refine WL.x (X.pickF rfl rfl rfl) (by decide) ?_
    refine WL.x (X.pickF rfl rfl rfl) (by decide) ?_
    refine WL.nil ?_
    refine WK.nThen ?_
    refine WC.condF rfl ?_
    refine WC.skip ?_
    refine WK.nThen ?_
    refine WC.seq ?_
    refine WC.seq ?_
    refine WC.region ?_
    refine WL.x (X.assign rfl) (by decide) ?_
    refine WL.nil ?_
    refine WK.nThen ?_
    refine WC.block ?_
    refine WC.loop (G := Nat × Mem) (fun (i, mm) => (drpR c.D c.M).1.length - i) (fun (i, mm) => mm) (fun (i, mm) => [blk b10 28 [v1, v3, v5]]) (fun (i, mm) => [(1, vset), (2, .pointer (some ⟨b10, 0, none⟩)), (5, .bool true), (6, v17), (8, v25), (10, .int .i64 (↑i))]) (fun (i, mm) => m21.le mm ∧ i ≤ (drpR c.D c.M).1.length) ((0, m21)) rfl (.refl _) (.cons rfl (.cons rfl (.cons rfl (.cons rfl (.cons rfl (.cons rfl .nil)))))) ?_ ?_
    · exact ⟨Mem.le_refl _, Nat.zero_le _⟩
    · rintro ⟨i, mm⟩ hF101
      show WK _ _ mm [blk b10 28 [v1, v3, v5]] [(1, vset), (2, .pointer (some ⟨b10, 0, none⟩)), (5, .bool true), (6, v17), (8, v25), (10, .int .i64 (↑i))] _
      replace hF101 : m21.le mm ∧ i ≤ (drpR c.D c.M).1.length := hF101
      obtain ⟨hmm, hi⟩ := hF101
      replace hs2 := hs2.mono hmm
      replace hs4 := hs4.mono hmm
      replace hs6 := hs6.mono hmm
      replace hset := hset.mono hmm
      replace hs18 := hs18.mono hmm
      replace hs26 := hs26.mono hmm
      refine WC.seq ?_
      refine WC.seq ?_
      refine WC.region ?_
      refine WL.x (X.move rfl) (by decide) ?_
      refine WL.x (X.move rfl) (by decide) ?_
      refine WL.x (X.len Try.runUnderlying52 rfl hs18) (by decide) ?_
      refine WL.cond (X.lss rfl rfl) (by decide) (fun h102 => ?_) (fun h102 => ?_)
      · refine WL.nil ?_
        refine WK.nThen ?_
        refine WC.condT rfl ?_
        refine WC.skip ?_
        refine WK.nThen ?_
        refine WC.seq ?_
        refine WC.block ?_
        refine WC.seq ?_
        refine WC.seq ?_
        have hdi := hda.2.1 i (by omega)
        have hdi1 := hdi.1
        have hdi2 := hdi.2.1
        have hdi3 := hdi.2.2.1
        have hdi4 := hdi.2.2.2
        have hdx := drp_idx (d := c.D) (m := c.M) (by omega) (i := i) (by omega)
        have hdx0 := drp_idx (d := c.D) (m := c.M) (by omega) (i := 0) (by omega)
        refine WC.draw (π := (.cons 0 (.cons 1 (.cons 2 (.cons 3 (.cons 4 (.cons 5 (.cons 6 (.cons 7 (.cons 8 (.cons 9 (.cons 10 (.cons 11 (.cons 12 (.cons 13 (.cons 14 .done)))))))))))))))) [8] [] rfl (by kernel_rfl) ?_
        refine DW.x rfl rfl (X.field Try.runUnderlying28 rfl Try.sizeOf25 rfl) (by decide) ?_
        refine DW.x rfl rfl (X.loadBP (k := 0) (vs := [v1, v3]) Try.isAgg25 Try.sizeOf25 rfl rfl rfl rfl) (by decide) ?_
        refine DW.x rfl rfl (X.field Try.runUnderlying28 rfl Try.sizeOf26 rfl) (by decide) ?_
        refine DW.x rfl rfl (X.loadB (k := 0) Try.isAgg26 rfl rfl rfl) (by decide) ?_
        refine DW.x rfl rfl (X.move rfl) (by decide) ?_
        refine DW.x rfl rfl (X.move rfl) (by decide) ?_
        refine DW.xe rfl rfl (E.idxN i Try.runUnderlying52 Try.sizeOf29 rfl rfl hs18 (by omega)) (by decide) (fun p103 hp104 => ?_)
        refine DW.xe rfl rfl (E.loadSl Try.isAgg29 rfl hp104) (by decide) (fun v105 hs106 => ?_)
        have hl107 := hs106.le
        refine DW.tm rfl rfl rfl (T.call Try.call36 rfl (without36 _ _ _ hs6 _ _ hs106 (by first | omega | simp))) (by decide) fun m108 r109 hle110 hR111 => ?_
        obtain ⟨v112, hv_, hs113⟩ := hR111
        rw [← hv_] at hs113
        clear hv_ v112
        replace hs2 := hs2.mono hle110
        replace hs4 := hs4.mono hle110
        replace hs6 := hs6.mono hle110
        replace hset := hset.mono hle110
        replace hs18 := hs18.mono hle110
        replace hs26 := hs26.mono hle110
        replace hp104 := hp104.mono hle110
        replace hs106 := hs106.mono hle110
        have hl114 := hs113.le
        refine DW.x rfl rfl (X.call Try.call33 rfl (feasible33 _ _ c.D ⟨_, _, rfl, hs2, hs4⟩ _ _ hs113 )) (by decide) ?_
        refine DW.x rfl rfl (X.move rfl) (by decide) ?_
        refine DW.x rfl rfl (X.extract rfl rfl) (by decide) ?_
        refine DW.x rfl rfl (X.extract rfl rfl) (by decide) ?_
        refine DW.x rfl rfl (X.assign rfl) (by decide) ?_
        refine DW.x rfl rfl (X.assign rfl) (by decide) ?_
        refine DW.nil ?_
        refine WK.nThen ?_
        refine WC.seq ?_
        refine WC.draw (π := (.cons 0 (.cons 1 (.cons 2 (.cons 3 (.cons 4 (.cons 5 (.cons 6 (.cons 7 (.cons 8 (.cons 9 (.cons 10 (.cons 11 (.cons 12 (.cons 13 (.cons 14 (.cons 15 (.cons 16 (.cons 17 .done))))))))))))))))))) [] [] rfl (by kernel_rfl) ?_
        refine DW.x rfl rfl (X.move rfl) (by decide) ?_
        refine DW.condn rfl rfl (X.neq rfl rfl) (by decide) (fun h115 => ?_) (fun h115 => ?_)
        · refine DW.x rfl rfl (X.move rfl) (by decide) ?_
          refine DW.no rfl rfl (by decide) ?_
          refine DW.no rfl rfl (by decide) ?_
          refine DW.x rfl rfl (X.pickT rfl rfl rfl) (by decide) ?_
          refine DW.x rfl rfl (X.move rfl) (by decide) ?_
          refine DW.no rfl rfl (by decide) ?_
          refine DW.no rfl rfl (by decide) ?_
          refine DW.no rfl rfl (by decide) ?_
          refine DW.no rfl rfl (by decide) ?_
          refine DW.no rfl rfl (by decide) ?_
          refine DW.no rfl rfl (by decide) ?_
          refine DW.no rfl rfl (by decide) ?_
          refine DW.no rfl rfl (by decide) ?_
          refine DW.no rfl rfl (by decide) ?_
          refine DW.no rfl rfl (by decide) ?_
          refine DW.x rfl rfl (X.pickT rfl rfl rfl) (by decide) ?_
          refine DW.nil ?_
          refine WK.nThen ?_
          refine WC.condT rfl ?_
          refine WC.seq ?_
          refine WC.region ?_
          refine WL.x (X.assign rfl) (by decide) ?_
          refine WL.nil ?_
          refine WK.nThen ?_
          refine WC.ret ?_
          refine WK.rThen ?_
          refine WK.rBlock ?_
          refine WK.rThen ?_
          refine WK.rThen ?_
          refine WK.rBlock ?_
          refine WK.rThen ?_
          refine WK.ret1 rfl rfl (fun w' hw' => Ret.exact hw' ?_)
          first | rfl | (exfalso; omega) | (exfalso; contradiction) | (exfalso; have hbf_ : hb = false := (by simpa using (‹(!hb) = true› : (!hb) = true)); exact hdi4 k (by omega) (fun j hj => hhit hbf_ j (by omega))) | (exfalso; simp_all; done) | (have hf_ : (feasR c.D (woN c.M set c.M.length)).1 = true := (by simpa using (‹(!(feasR c.D (woN c.M set c.M.length)).1) = false› : (!(feasR c.D (woN c.M set c.M.length)).1) = false)); have hf2_ := hde2 hf_; exact (bool_true (by omega)).symm) | exact (bool_true (by first | omega | assumption)).symm
        refine DW.x rfl rfl (X.move rfl) (by decide) ?_
        refine DW.x rfl rfl (X.move rfl) (by decide) ?_
        refine DW.condb rfl rfl (X.not rfl) (by decide) (fun h116 => ?_) (fun h116 => ?_)
        · refine DW.x rfl rfl (X.pickF rfl rfl rfl) (by decide) ?_
          refine DW.x rfl rfl (X.move rfl) (by decide) ?_
          refine DW.no rfl rfl (by decide) ?_
          refine DW.no rfl rfl (by decide) ?_
          refine DW.no rfl rfl (by decide) ?_
          refine DW.no rfl rfl (by decide) ?_
          refine DW.no rfl rfl (by decide) ?_
          refine DW.no rfl rfl (by decide) ?_
          refine DW.no rfl rfl (by decide) ?_
          refine DW.no rfl rfl (by decide) ?_
          refine DW.no rfl rfl (by decide) ?_
          refine DW.no rfl rfl (by decide) ?_
          refine DW.x rfl rfl (X.pickT rfl rfl rfl) (by decide) ?_
          refine DW.nil ?_
          refine WK.nThen ?_
          refine WC.condT rfl ?_
          refine WC.seq ?_
          refine WC.region ?_
          refine WL.x (X.assign rfl) (by decide) ?_
          refine WL.nil ?_
          refine WK.nThen ?_
          refine WC.ret ?_
          refine WK.rThen ?_
          refine WK.rBlock ?_
          refine WK.rThen ?_
          refine WK.rThen ?_
          refine WK.rBlock ?_
          refine WK.rThen ?_
          refine WK.ret1 rfl rfl (fun w' hw' => Ret.exact hw' ?_)
          first | rfl | (exfalso; omega) | (exfalso; contradiction) | (exfalso; have hbf_ : hb = false := (by simpa using (‹(!hb) = true› : (!hb) = true)); exact hdi4 k (by omega) (fun j hj => hhit hbf_ j (by omega))) | (exfalso; simp_all; done) | (have hf_ : (feasR c.D (woN c.M set c.M.length)).1 = true := (by simpa using (‹(!(feasR c.D (woN c.M set c.M.length)).1) = false› : (!(feasR c.D (woN c.M set c.M.length)).1) = false)); have hf2_ := hde2 hf_; exact (bool_true (by omega)).symm) | exact (bool_true (by first | omega | assumption)).symm
        refine DW.x rfl rfl (X.pickF rfl rfl rfl) (by decide) ?_
        refine DW.x rfl rfl (X.move rfl) (by decide) ?_
        refine DW.x rfl rfl (X.move rfl) (by decide) ?_
        refine DW.x rfl rfl (X.move rfl) (by decide) ?_
        refine DW.xe rfl rfl (E.idxN i Try.runUnderlying52 Try.sizeOf29 rfl rfl hs18 (by omega)) (by decide) (fun p117 hp118 => ?_)
        refine DW.xe rfl rfl (E.loadSl Try.isAgg29 rfl hp118) (by decide) (fun v119 hs120 => ?_)
        have hl121 := hs120.le
        refine DW.x rfl rfl (X.len Try.runUnderlying29 rfl hs120) (by decide) ?_
        refine DW.x rfl rfl (X.move rfl) (by decide) ?_
        refine DW.xe rfl rfl (E.idxN 0 Try.runUnderlying52 Try.sizeOf29 rfl rfl hs18 (by omega)) (by decide) (fun p122 hp123 => ?_)
        refine DW.xe rfl rfl (E.loadSl Try.isAgg29 rfl hp123) (by decide) (fun v124 hs125 => ?_)
        have hl126 := hs125.le
        refine DW.x rfl rfl (X.len Try.runUnderlying29 rfl hs125) (by decide) ?_
        refine DW.condn rfl rfl (X.neq rfl rfl) (by decide) (fun h127 => ?_) (fun h127 => ?_)
        · refine DW.x rfl rfl (X.pickF rfl rfl rfl) (by decide) ?_
          refine DW.nil ?_
          refine WK.nThen ?_
          refine WC.condT rfl ?_
          refine WC.seq ?_
          refine WC.region ?_
          refine WL.x (X.assign rfl) (by decide) ?_
          refine WL.nil ?_
          refine WK.nThen ?_
          refine WC.ret ?_
          refine WK.rThen ?_
          refine WK.rBlock ?_
          refine WK.rThen ?_
          refine WK.rThen ?_
          refine WK.rBlock ?_
          refine WK.rThen ?_
          refine WK.ret1 rfl rfl (fun w' hw' => Ret.exact hw' ?_)
          first | rfl | (exfalso; omega) | (exfalso; contradiction) | (exfalso; have hbf_ : hb = false := (by simpa using (‹(!hb) = true› : (!hb) = true)); exact hdi4 k (by omega) (fun j hj => hhit hbf_ j (by omega))) | (exfalso; simp_all; done) | (have hf_ : (feasR c.D (woN c.M set c.M.length)).1 = true := (by simpa using (‹(!(feasR c.D (woN c.M set c.M.length)).1) = false› : (!(feasR c.D (woN c.M set c.M.length)).1) = false)); have hf2_ := hde2 hf_; exact (bool_true (by omega)).symm) | exact (bool_true (by first | omega | assumption)).symm
        refine DW.x rfl rfl (X.pickF rfl rfl rfl) (by decide) ?_
        refine DW.nil ?_
        refine WK.nThen ?_
        refine WC.condF rfl ?_
        refine WC.skip ?_
        refine WK.nThen ?_
        refine WC.seq ?_
        refine WC.region ?_
        refine WL.x (X.assign rfl) (by decide) ?_
        refine WL.nil ?_
        refine WK.nThen ?_
        refine WC.block ?_
        refine WC.loop (G := Nat) (fun k => (prsR c.D c.M).1.length - k) (fun k => m108) (fun k => [blk b10 28 [v1, v3, v5]]) (fun k => [(1, vset), (2, .pointer (some ⟨b10, 0, none⟩)), (5, .bool true), (6, v17), (8, v25), (10, .int .i64 (↑i)), (13, .int .i64 (↑k)), (87, .bool ((feasR c.D ((woN c.M ((gt ((drpR c.D c.M).1) i)) c.M.length))).1)), (88, .bool false), (91, v17), (92, .int .i64 (↑i)), (93, .pointer (some (p117))), (94, v119), (95, .int .i64 (↑(gt ((drpR c.D c.M).1) i).length)), (96, v17), (97, .pointer (some (p122))), (98, v124), (99, .int .i64 (↑(gt ((drpR c.D c.M).1) 0).length)), (100, .bool false)]) (fun k => k ≤ (prsR c.D c.M).1.length) 0 rfl (.refl _) (.cons rfl (.cons rfl (.cons rfl (.cons rfl (.cons rfl (.cons rfl (.cons rfl (.cons rfl (.cons rfl (.cons rfl (.cons rfl (.cons rfl (.cons rfl (.cons rfl (.cons rfl (.cons rfl (.cons rfl (.cons rfl (.cons rfl .nil))))))))))))))))))) ?_ ?_
        · exact Nat.zero_le _
        · rintro k hF128
          show WK _ _ m108 [blk b10 28 [v1, v3, v5]] [(1, vset), (2, .pointer (some ⟨b10, 0, none⟩)), (5, .bool true), (6, v17), (8, v25), (10, .int .i64 (↑i)), (13, .int .i64 (↑k)), (87, .bool ((feasR c.D ((woN c.M ((gt ((drpR c.D c.M).1) i)) c.M.length))).1)), (88, .bool false), (91, v17), (92, .int .i64 (↑i)), (93, .pointer (some (p117))), (94, v119), (95, .int .i64 (↑(gt ((drpR c.D c.M).1) i).length)), (96, v17), (97, .pointer (some (p122))), (98, v124), (99, .int .i64 (↑(gt ((drpR c.D c.M).1) 0).length)), (100, .bool false)] _
          replace hF128 : k ≤ (prsR c.D c.M).1.length := hF128
          have hk := hF128
          refine WC.seq ?_
          refine WC.seq ?_
          refine WC.region ?_
          refine WL.x (X.move rfl) (by decide) ?_
          refine WL.x (X.move rfl) (by decide) ?_
          refine WL.x (X.len Try.runUnderlying52 rfl hs26) (by decide) ?_
          refine WL.cond (X.lss rfl rfl) (by decide) (fun h129 => ?_) (fun h129 => ?_)
          · refine WL.nil ?_
            refine WK.nThen ?_
            refine WC.condT rfl ?_
            refine WC.skip ?_
            refine WK.nThen ?_
            refine WC.seq ?_
            refine WC.block ?_
            refine WC.seq ?_
            refine WC.region ?_
            refine WL.x (X.assign rfl) (by decide) ?_
            refine WL.nil ?_
            refine WK.nThen ?_
            refine WC.seq ?_
            refine WC.seq ?_
            refine WC.region ?_
            refine WL.x (X.assign rfl) (by decide) ?_
            refine WL.nil ?_
            refine WK.nThen ?_
            refine WC.block ?_
            refine WC.loop (G := Nat × Bool) (fun (q, hb) => (gt (prsR c.D c.M).1 k).length - q) (fun (q, hb) => m108) (fun (q, hb) => [blk b10 28 [v1, v3, v5]]) (fun (q, hb) => [(1, vset), (2, .pointer (some ⟨b10, 0, none⟩)), (5, .bool true), (6, v17), (8, v25), (10, .int .i64 (↑i)), (13, .int .i64 (↑k)), (14, .bool (hb)), (15, .int .i64 (↑q)), (87, .bool ((feasR c.D ((woN c.M ((gt ((drpR c.D c.M).1) i)) c.M.length))).1)), (88, .bool false), (91, v17), (92, .int .i64 (↑i)), (93, .pointer (some (p117))), (94, v119), (95, .int .i64 (↑(gt ((drpR c.D c.M).1) i).length)), (96, v17), (97, .pointer (some (p122))), (98, v124), (99, .int .i64 (↑(gt ((drpR c.D c.M).1) 0).length)), (100, .bool false)]) (fun (q, hb) => q ≤ (gt (prsR c.D c.M).1 k).length ∧ (hb = false → ∀ j, j < q → ¬ gt (gt (prsR c.D c.M).1 k) j ∈ gt (drpR c.D c.M).1 i)) ((0, false)) rfl (.refl _) (.cons rfl (.cons rfl (.cons rfl (.cons rfl (.cons rfl (.cons rfl (.cons rfl (.cons rfl (.cons rfl (.cons rfl (.cons rfl (.cons rfl (.cons rfl (.cons rfl (.cons rfl (.cons rfl (.cons rfl (.cons rfl (.cons rfl (.cons rfl (.cons rfl .nil))))))))))))))))))))) ?_ ?_
            · exact ⟨Nat.zero_le _, fun _ j hj => absurd hj (Nat.not_lt_zero _)⟩
            · rintro ⟨q, hb⟩ hF130
              show WK _ _ m108 [blk b10 28 [v1, v3, v5]] [(1, vset), (2, .pointer (some ⟨b10, 0, none⟩)), (5, .bool true), (6, v17), (8, v25), (10, .int .i64 (↑i)), (13, .int .i64 (↑k)), (14, .bool (hb)), (15, .int .i64 (↑q)), (87, .bool ((feasR c.D ((woN c.M ((gt ((drpR c.D c.M).1) i)) c.M.length))).1)), (88, .bool false), (91, v17), (92, .int .i64 (↑i)), (93, .pointer (some (p117))), (94, v119), (95, .int .i64 (↑(gt ((drpR c.D c.M).1) i).length)), (96, v17), (97, .pointer (some (p122))), (98, v124), (99, .int .i64 (↑(gt ((drpR c.D c.M).1) 0).length)), (100, .bool false)] _
              replace hF130 : q ≤ (gt (prsR c.D c.M).1 k).length ∧ (hb = false → ∀ j, j < q → ¬ gt (gt (prsR c.D c.M).1 k) j ∈ gt (drpR c.D c.M).1 i) := hF130
              obtain ⟨hq, hhit⟩ := hF130
              refine WC.seq ?_
              refine WC.seq ?_
              refine WC.region ?_
              refine WL.x (X.move rfl) (by decide) ?_
              refine WL.x (X.move rfl) (by decide) ?_
              refine WL.x (X.move rfl) (by decide) ?_
              refine WL.xe (E.idxN k Try.runUnderlying52 Try.sizeOf29 rfl rfl hs26 (by omega)) (by decide) (fun p131 hp132 => ?_)
              refine WL.xe (E.loadSl Try.isAgg29 rfl hp132) (by decide) (fun v133 hs134 => ?_)
              have hl135 := hs134.le
              refine WL.x (X.len Try.runUnderlying29 rfl hs134) (by decide) ?_
              refine WL.cond (X.lss rfl rfl) (by decide) (fun h136 => ?_) (fun h136 => ?_)
              · refine WL.nil ?_
                refine WK.nThen ?_
                refine WC.condT rfl ?_
                refine WC.skip ?_
                refine WK.nThen ?_
                refine WC.seq ?_
                refine WC.block ?_
                refine WC.draw (π := (.cons 0 (.cons 1 (.cons 2 (.cons 3 (.cons 4 (.cons 5 (.cons 6 (.cons 7 (.cons 8 (.cons 9 (.cons 10 (.cons 11 (.cons 12 (.cons 13 (.cons 14 (.cons 15 .done))))))))))))))))) [] [] rfl (by kernel_rfl) ?_
                refine DW.x rfl rfl (X.move rfl) (by decide) ?_
                refine DW.condb rfl rfl (X.move rfl) (by decide) (fun h137 => ?_) (fun h137 => ?_)
                · refine DW.no rfl rfl (by decide) ?_
                  refine DW.no rfl rfl (by decide) ?_
                  refine DW.no rfl rfl (by decide) ?_
                  refine DW.no rfl rfl (by decide) ?_
                  refine DW.no rfl rfl (by decide) ?_
                  refine DW.no rfl rfl (by decide) ?_
                  refine DW.no rfl rfl (by decide) ?_
                  refine DW.no rfl rfl (by decide) ?_
                  refine DW.no rfl rfl (by decide) ?_
                  refine DW.no rfl rfl (by decide) ?_
                  refine DW.no rfl rfl (by decide) ?_
                  refine DW.no rfl rfl (by decide) ?_
                  refine DW.x rfl rfl (X.pickT rfl rfl rfl) (by decide) ?_
                  refine DW.x rfl rfl (X.assign rfl) (by decide) ?_
                  refine DW.nil ?_
                  refine WK.nBlock ?_
                  refine WK.nThen ?_
                  refine WC.region ?_
                  refine WL.x (X.move rfl) (by decide) ?_
                  refine WL.x (X.add rfl rfl (by omega) (by omega)) (by decide) ?_
                  refine WL.x (X.assign rfl) (by decide) ?_
                  refine WL.nil ?_
                  refine WK.nThen ?_
                  refine WK.next ((q + 1, true)) rfl (.refl _) (.cons rfl (.cons rfl (.cons rfl (.cons rfl (.cons rfl (.cons rfl (.cons rfl (.cons rfl (.cons rfl (.cons rfl (.cons rfl (.cons rfl (.cons rfl (.cons rfl (.cons rfl (.cons rfl (.cons rfl (.cons rfl (.cons rfl (.cons rfl (.cons rfl .nil))))))))))))))))))))) ?_ ?_
                  · exact ⟨by omega, fun h_ j hj => by first | (exfalso; exact Bool.noConfusion h_) | (rcases Nat.lt_succ_iff_lt_or_eq.1 hj with h | h; exact hhit (by assumption) j h; subst h; first | assumption | exact of_decide_eq_false h_)⟩
                  · (dsimp only; omega)
                refine DW.x rfl rfl (X.move rfl) (by decide) ?_
                refine DW.x rfl rfl (X.move rfl) (by decide) ?_
                refine DW.xe rfl rfl (E.idxN i Try.runUnderlying52 Try.sizeOf29 rfl rfl hs18 (by omega)) (by decide) (fun p138 hp139 => ?_)
                refine DW.xe rfl rfl (E.loadSl Try.isAgg29 rfl hp139) (by decide) (fun v140 hs141 => ?_)
                have hl142 := hs141.le
                refine DW.x rfl rfl (X.move rfl) (by decide) ?_
                refine DW.x rfl rfl (X.move rfl) (by decide) ?_
                refine DW.xe rfl rfl (E.idxN k Try.runUnderlying52 Try.sizeOf29 rfl rfl hs26 (by omega)) (by decide) (fun p143 hp144 => ?_)
                refine DW.xe rfl rfl (E.loadSl Try.isAgg29 rfl hp144) (by decide) (fun v145 hs146 => ?_)
                have hl147 := hs146.le
                refine DW.x rfl rfl (X.move rfl) (by decide) ?_
                refine DW.xe rfl rfl (E.idxN q Try.runUnderlying29 Try.sizeOf3 rfl rfl hs146 (by omega)) (by decide) (fun p148 hp149 => ?_)
                refine DW.x rfl rfl (X.loadInt Try.isAgg3 rfl hp149) (by decide) ?_
                refine DW.cond rfl rfl (X.call Try.call32 rfl (has32 _ _ _ hs141 _ )) (by decide) (fun h150 => ?_) (fun h150 => ?_)
                · refine DW.x rfl rfl (X.pickF rfl rfl rfl) (by decide) ?_
                  refine DW.x rfl rfl (X.assign rfl) (by decide) ?_
                  refine DW.nil ?_
                  refine WK.nBlock ?_
                  refine WK.nThen ?_
                  refine WC.region ?_
                  refine WL.x (X.move rfl) (by decide) ?_
                  refine WL.x (X.add rfl rfl (by omega) (by omega)) (by decide) ?_
                  refine WL.x (X.assign rfl) (by decide) ?_
                  refine WL.nil ?_
                  refine WK.nThen ?_
                  refine WK.next ((q + 1, true)) rfl (.refl _) (.cons rfl (.cons rfl (.cons rfl (.cons rfl (.cons rfl (.cons rfl (.cons rfl (.cons rfl (.cons rfl (.cons rfl (.cons rfl (.cons rfl (.cons rfl (.cons rfl (.cons rfl (.cons rfl (.cons rfl (.cons rfl (.cons rfl (.cons rfl (.cons rfl .nil))))))))))))))))))))) ?_ ?_
                  · exact ⟨by omega, fun h_ j hj => by first | (exfalso; exact Bool.noConfusion h_) | (rcases Nat.lt_succ_iff_lt_or_eq.1 hj with h | h; exact hhit (by assumption) j h; subst h; first | assumption | exact of_decide_eq_false h_)⟩
                  · (dsimp only; omega)
                refine DW.x rfl rfl (X.pickF rfl rfl rfl) (by decide) ?_
                refine DW.x rfl rfl (X.assign rfl) (by decide) ?_
                refine DW.nil ?_
                refine WK.nBlock ?_
                refine WK.nThen ?_
                refine WC.region ?_
                refine WL.x (X.move rfl) (by decide) ?_
                refine WL.x (X.add rfl rfl (by omega) (by omega)) (by decide) ?_
                refine WL.x (X.assign rfl) (by decide) ?_
                refine WL.nil ?_
                refine WK.nThen ?_
                refine WK.next ((q + 1, false)) rfl (.refl _) (.cons rfl (.cons rfl (.cons rfl (.cons rfl (.cons rfl (.cons rfl (.cons rfl (.cons rfl (.cons rfl (.cons rfl (.cons rfl (.cons rfl (.cons rfl (.cons rfl (.cons rfl (.cons rfl (.cons rfl (.cons rfl (.cons rfl (.cons rfl (.cons rfl .nil))))))))))))))))))))) ?_ ?_
                · exact ⟨by omega, fun h_ j hj => by first | (exfalso; exact Bool.noConfusion h_) | (rcases Nat.lt_succ_iff_lt_or_eq.1 hj with h | h; exact hhit (by assumption) j h; subst h; first | assumption | exact of_decide_eq_false h_)⟩
                · (dsimp only; omega)
              refine WL.nil ?_
              refine WK.nThen ?_
              refine WC.condF rfl ?_
              refine WC.exit ?_
              refine WK.eThen ?_
              refine WK.eThen ?_
              refine WK.eHit ?_
              refine WK.nThen ?_
              refine WC.seq ?_
              refine WC.region ?_
              refine WL.x (X.move rfl) (by decide) ?_
              refine WL.condb (X.not rfl) (by decide) (fun h151 => ?_) (fun h151 => ?_)
              · refine WL.nil ?_
                refine WK.nThen ?_
                refine WC.condT rfl ?_
                refine WC.seq ?_
                refine WC.region ?_
                refine WL.x (X.assign rfl) (by decide) ?_
                refine WL.nil ?_
                refine WK.nThen ?_
                refine WC.ret ?_
                refine WK.rBlock ?_
                refine WK.rThen ?_
                refine WK.rThen ?_
                refine WK.rBlock ?_
                refine WK.rBlock ?_
                refine WK.rThen ?_
                refine WK.rThen ?_
                refine WK.rBlock ?_
                refine WK.rThen ?_
                refine WK.ret1 rfl rfl (fun w' hw' => Ret.exact hw' ?_)
                first | rfl | (exfalso; omega) | (exfalso; contradiction) | (exfalso; have hbf_ : hb = false := (by simpa using (‹(!hb) = true› : (!hb) = true)); exact hdi4 k (by omega) (fun j hj => hhit hbf_ j (by omega))) | (exfalso; simp_all; done) | (have hf_ : (feasR c.D (woN c.M set c.M.length)).1 = true := (by simpa using (‹(!(feasR c.D (woN c.M set c.M.length)).1) = false› : (!(feasR c.D (woN c.M set c.M.length)).1) = false)); have hf2_ := hde2 hf_; exact (bool_true (by omega)).symm) | exact (bool_true (by first | omega | assumption)).symm
              refine WL.nil ?_
              refine WK.nThen ?_
              refine WC.condF rfl ?_
              refine WC.skip ?_
              refine WK.nBlock ?_
              refine WK.nThen ?_
              refine WC.region ?_
              refine WL.x (X.move rfl) (by decide) ?_
              refine WL.x (X.add rfl rfl (by omega) (by omega)) (by decide) ?_
              refine WL.x (X.assign rfl) (by decide) ?_
              refine WL.nil ?_
              refine WK.nThen ?_
              refine WK.next (k + 1) rfl (.refl _) (.cons rfl (.cons rfl (.cons rfl (.cons rfl (.cons rfl (.cons rfl (.cons rfl (.cons rfl (.cons rfl (.cons rfl (.cons rfl (.cons rfl (.cons rfl (.cons rfl (.cons rfl (.cons rfl (.cons rfl (.cons rfl (.cons rfl .nil))))))))))))))))))) ?_ ?_
              · omega
              · omega
          refine WL.nil ?_
          refine WK.nThen ?_
          refine WC.condF rfl ?_
          refine WC.exit ?_
          refine WK.eThen ?_
          refine WK.eThen ?_
          refine WK.eHit ?_
          refine WK.nBlock ?_
          refine WK.nThen ?_
          refine WC.region ?_
          refine WL.x (X.move rfl) (by decide) ?_
          refine WL.x (X.add rfl rfl (by omega) (by omega)) (by decide) ?_
          refine WL.x (X.assign rfl) (by decide) ?_
          refine WL.nil ?_
          refine WK.nThen ?_
          refine WK.next ((i + 1, m108)) rfl (.refl _) (.cons rfl (.cons rfl (.cons rfl (.cons rfl (.cons rfl (.cons rfl .nil)))))) ?_ ?_
          · exact ⟨Mem.le_trans hmm hle110, by omega⟩
          · (dsimp only; omega)
      refine WL.nil ?_
      refine WK.nThen ?_
      refine WC.condF rfl ?_
      refine WC.exit ?_
      refine WK.eThen ?_
      refine WK.eThen ?_
      refine WK.eHit ?_
      refine WK.nThen ?_
      refine WC.seq ?_
      refine WC.region ?_
      refine WL.x (X.assign rfl) (by decide) ?_
      refine WL.nil ?_
      refine WK.nThen ?_
      refine WC.seq ?_
      refine WC.seq ?_
      refine WC.region ?_
      refine WL.x (X.assign rfl) (by decide) ?_
      refine WL.nil ?_
      refine WK.nThen ?_
      refine WC.block ?_
      refine WC.loop (G := Nat) (fun z => c.M.length - z) (fun z => mm) (fun z => [blk b10 28 [v1, v3, v5]]) (fun z => [(1, vset), (2, .pointer (some ⟨b10, 0, none⟩)), (5, .bool true), (6, v17), (16, .int .i64 (cntI set z)), (17, .int .i64 (↑z))]) (fun z => z ≤ c.M.length) 0 rfl (.refl _) (.cons rfl (.cons rfl (.cons rfl (.cons rfl (.cons rfl (.cons rfl .nil)))))) ?_ ?_
      · exact Nat.zero_le _
      · rintro z hF152
        show WK _ _ mm [blk b10 28 [v1, v3, v5]] [(1, vset), (2, .pointer (some ⟨b10, 0, none⟩)), (5, .bool true), (6, v17), (16, .int .i64 (cntI set z)), (17, .int .i64 (↑z))] _
        replace hF152 : z ≤ c.M.length := hF152
        have hz := hF152
        refine WC.seq ?_
        refine WC.seq ?_
        refine WC.region ?_
        refine WL.x (X.move rfl) (by decide) ?_
        refine WL.x (X.field Try.runUnderlying28 rfl Try.sizeOf26 rfl) (by decide) ?_
        refine WL.x (X.loadB (k := 0) Try.isAgg26 rfl rfl rfl) (by decide) ?_
        refine WL.x (X.len Try.runUnderlying26 rfl hs6) (by decide) ?_
        refine WL.cond (X.lss rfl rfl) (by decide) (fun h153 => ?_) (fun h153 => ?_)
        · refine WL.nil ?_
          refine WK.nThen ?_
          refine WC.condT rfl ?_
          refine WC.skip ?_
          refine WK.nThen ?_
          refine WC.seq ?_
          refine WC.block ?_
          refine WC.seq ?_
          have hci := cntI_bd set z
          refine WC.region ?_
          refine WL.x (X.move rfl) (by decide) ?_
          refine WL.x (X.move rfl) (by decide) ?_
          refine WL.cond (X.call Try.call32 rfl (has32 _ _ _ hset _ )) (by decide) (fun h154 => ?_) (fun h154 => ?_)
          · refine WL.nil ?_
            refine WK.nThen ?_
            refine WC.condT rfl ?_
            refine WC.region ?_
            refine WL.x (X.move rfl) (by decide) ?_
            refine WL.x (X.add rfl rfl (by omega) (by omega)) (by decide) ?_
            refine WL.x (X.assign rfl) (by decide) ?_
            refine WL.nil ?_
            refine WK.nBlock ?_
            refine WK.nThen ?_
            refine WC.region ?_
            refine WL.x (X.move rfl) (by decide) ?_
            refine WL.x (X.add rfl rfl (by omega) (by omega)) (by decide) ?_
            refine WL.x (X.assign rfl) (by decide) ?_
            refine WL.nil ?_
            refine WK.nThen ?_
            have he155 : (cntI set z) + 1 = cntI set (z + 1) := (by rw [cntI]; first | rw [if_pos (by assumption)] | rw [if_neg (by assumption)])
            rw [he155]
            refine WK.next (z + 1) rfl (.refl _) (.cons rfl (.cons rfl (.cons rfl (.cons rfl (.cons rfl (.cons rfl .nil)))))) ?_ ?_
            · omega
            · omega
          refine WL.nil ?_
          refine WK.nThen ?_
          refine WC.condF rfl ?_
          refine WC.skip ?_
          refine WK.nBlock ?_
          refine WK.nThen ?_
          refine WC.region ?_
          refine WL.x (X.move rfl) (by decide) ?_
          refine WL.x (X.add rfl rfl (by omega) (by omega)) (by decide) ?_
          refine WL.x (X.assign rfl) (by decide) ?_
          refine WL.nil ?_
          refine WK.nThen ?_
          have he156 : cntI set z = cntI set (z + 1) := (by rw [cntI]; first | rw [if_pos (by assumption)] | rw [if_neg (by assumption)])
          rw [he156]
          refine WK.next (z + 1) rfl (.refl _) (.cons rfl (.cons rfl (.cons rfl (.cons rfl (.cons rfl (.cons rfl .nil)))))) ?_ ?_
          · omega
          · omega
        refine WL.nil ?_
        refine WK.nThen ?_
        refine WC.condF rfl ?_
        refine WC.exit ?_
        refine WK.eThen ?_
        refine WK.eThen ?_
        refine WK.eHit ?_
        refine WK.nThen ?_
        refine WC.seq ?_
        refine WC.draw (π := (.cons 0 (.cons 1 (.cons 2 (.cons 3 (.cons 4 (.cons 5 (.cons 6 (.cons 7 (.cons 8 (.cons 9 (.cons 10 (.cons 11 .done))))))))))))) [5] [] rfl (by kernel_rfl) ?_
        refine DW.x rfl rfl (X.field Try.runUnderlying28 rfl Try.sizeOf25 rfl) (by decide) ?_
        refine DW.x rfl rfl (X.loadBP (k := 0) (vs := [v1, v3]) Try.isAgg25 Try.sizeOf25 rfl rfl rfl rfl) (by decide) ?_
        refine DW.x rfl rfl (X.field Try.runUnderlying28 rfl Try.sizeOf26 rfl) (by decide) ?_
        refine DW.x rfl rfl (X.loadB (k := 0) Try.isAgg26 rfl rfl rfl) (by decide) ?_
        refine DW.x rfl rfl (X.move rfl) (by decide) ?_
        refine DW.tm rfl rfl rfl (T.call Try.call36 rfl (without36 _ _ _ hs6 _ _ hset (by first | omega | simp))) (by decide) fun m157 r158 hle159 hR160 => ?_
        obtain ⟨v161, hv_, hs162⟩ := hR160
        rw [← hv_] at hs162
        clear hv_ v161
        replace hs2 := hs2.mono hle159
        replace hs4 := hs4.mono hle159
        replace hs6 := hs6.mono hle159
        replace hset := hset.mono hle159
        replace hs18 := hs18.mono hle159
        replace hs26 := hs26.mono hle159
        have hl163 := hs162.le
        refine DW.x rfl rfl (X.call Try.call33 rfl (feasible33 _ _ c.D ⟨_, _, rfl, hs2, hs4⟩ _ _ hs162 )) (by decide) ?_
        refine DW.x rfl rfl (X.move rfl) (by decide) ?_
        refine DW.x rfl rfl (X.extract rfl rfl) (by decide) ?_
        refine DW.x rfl rfl (X.extract rfl rfl) (by decide) ?_
        refine DW.x rfl rfl (X.assign rfl) (by decide) ?_
        refine DW.x rfl rfl (X.assign rfl) (by decide) ?_
        refine DW.nil ?_
        refine WK.nThen ?_
        refine WC.seq ?_
        have hde := hda.2.2 set
        have hde1 := hde.1
        have hde2 := hde.2
        obtain rfl : z = c.M.length := (by omega)
        refine WC.region ?_
        refine WL.x (X.move rfl) (by decide) ?_
        refine WL.x (X.move rfl) (by decide) ?_
        refine WL.yes rfl rfl ?_
        refine WL.x (X.move rfl) (by decide) ?_
        refine WL.yes rfl rfl ?_
        refine WL.cond (X.eql rfl rfl) (by decide) (fun h164 => ?_) (fun h164 => ?_)
        · refine WL.x (X.pickT rfl rfl rfl) (by decide) ?_
          refine WL.x (X.move rfl) (by decide) ?_
          refine WL.yes rfl rfl ?_
          refine WL.x (X.move rfl) (by decide) ?_
          refine WL.yes rfl rfl ?_
          refine WL.condb (X.not rfl) (by decide) (fun h165 => ?_) (fun h165 => ?_)
          · refine WL.yes rfl rfl ?_
            refine WL.x (X.move rfl) (by decide) ?_
            refine WL.no rfl rfl rfl (by decide) ?_
            refine WL.no rfl rfl rfl (by decide) ?_
            refine WL.no rfl rfl rfl (by decide) ?_
            refine WL.no rfl rfl rfl (by decide) ?_
            refine WL.no rfl rfl rfl (by decide) ?_
            refine WL.no rfl rfl rfl (by decide) ?_
            refine WL.yes rfl rfl ?_
            refine WL.x (X.pickT rfl rfl rfl) (by decide) ?_
            refine WL.x (X.pickT rfl rfl rfl) (by decide) ?_
            refine WL.x (X.assign rfl) (by decide) ?_
            refine WL.nil ?_
            refine WK.nThen ?_
            refine WC.ret ?_
            refine WK.ret1 rfl rfl (fun w' hw' => Ret.exact hw' ?_)
            first | rfl | (exfalso; omega) | (exfalso; contradiction) | (exfalso; have hbf_ : hb = false := (by simpa using (‹(!hb) = true› : (!hb) = true)); exact hdi4 k (by omega) (fun j hj => hhit hbf_ j (by omega))) | (exfalso; simp_all; done) | (have hf_ : (feasR c.D (woN c.M set c.M.length)).1 = true := (by simpa using (‹(!(feasR c.D (woN c.M set c.M.length)).1) = false› : (!(feasR c.D (woN c.M set c.M.length)).1) = false)); have hf2_ := hde2 hf_; exact (bool_true (by omega)).symm) | exact (bool_true (by first | omega | assumption)).symm
          refine WL.yes rfl rfl ?_
          refine WL.x (X.move rfl) (by decide) ?_
          refine WL.yes rfl rfl ?_
          refine WL.x (X.move rfl) (by decide) ?_
          refine WL.yes rfl rfl ?_
          refine WL.x (X.move rfl) (by decide) ?_
          refine WL.yes rfl rfl ?_
          refine WL.xe (E.idxN 0 Try.runUnderlying52 Try.sizeOf29 rfl rfl hs18 (by omega)) (by decide) (fun p166 hp167 => ?_)
          refine WL.yes rfl rfl ?_
          refine WL.xe (E.loadSl Try.isAgg29 rfl hp167) (by decide) (fun v168 hs169 => ?_)
          have hl170 := hs169.le
          refine WL.yes rfl rfl ?_
          refine WL.x (X.len Try.runUnderlying29 rfl hs169) (by decide) ?_
          refine WL.yes rfl rfl ?_
          refine WL.x (X.geq rfl rfl) (by decide) ?_
          refine WL.yes rfl rfl ?_
          refine WL.x (X.pickF rfl rfl rfl) (by decide) ?_
          refine WL.x (X.pickT rfl rfl rfl) (by decide) ?_
          refine WL.x (X.assign rfl) (by decide) ?_
          refine WL.nil ?_
          refine WK.nThen ?_
          refine WC.ret ?_
          refine WK.ret1 rfl rfl (fun w' hw' => Ret.exact hw' ?_)
          first | rfl | (exfalso; omega) | (exfalso; contradiction) | (exfalso; have hbf_ : hb = false := (by simpa using (‹(!hb) = true› : (!hb) = true)); exact hdi4 k (by omega) (fun j hj => hhit hbf_ j (by omega))) | (exfalso; simp_all; done) | (have hf_ : (feasR c.D (woN c.M set c.M.length)).1 = true := (by simpa using (‹(!(feasR c.D (woN c.M set c.M.length)).1) = false› : (!(feasR c.D (woN c.M set c.M.length)).1) = false)); have hf2_ := hde2 hf_; exact (bool_true (by omega)).symm) | exact (bool_true (by first | omega | assumption)).symm
        refine WL.x (X.pickT rfl rfl rfl) (by decide) ?_
        refine WL.x (X.move rfl) (by decide) ?_
        refine WL.no rfl rfl rfl (by decide) ?_
        refine WL.no rfl rfl rfl (by decide) ?_
        refine WL.no rfl rfl rfl (by decide) ?_
        refine WL.noU rfl rfl (by decide) ?_
        refine WL.noU rfl rfl (by decide) ?_
        refine WL.noU rfl rfl (by decide) ?_
        refine WL.noU rfl rfl (by decide) ?_
        refine WL.noU rfl rfl (by decide) ?_
        refine WL.noU rfl rfl (by decide) ?_
        refine WL.no rfl rfl rfl (by decide) ?_
        refine WL.x (X.pickF rfl rfl rfl) (by decide) ?_
        refine WL.x (X.assign rfl) (by decide) ?_
        refine WL.nil ?_
        refine WK.nThen ?_
        refine WC.ret ?_
        refine WK.ret1 rfl rfl (fun w' hw' => Ret.exact hw' ?_)
        first | rfl | (exfalso; omega) | (exfalso; contradiction) | (exfalso; have hbf_ : hb = false := (by simpa using (‹(!hb) = true› : (!hb) = true)); exact hdi4 k (by omega) (fun j hj => hhit hbf_ j (by omega))) | (exfalso; simp_all; done) | (have hf_ : (feasR c.D (woN c.M set c.M.length)).1 = true := (by simpa using (‹(!(feasR c.D (woN c.M set c.M.length)).1) = false› : (!(feasR c.D (woN c.M set c.M.length)).1) = false)); have hf2_ := hde2 hf_; exact (bool_true (by omega)).symm) | exact (bool_true (by first | omega | assumption)).symm
  refine WL.x (X.not rfl) (by decide) ?_
  refine WL.x (X.move rfl) (by decide) ?_
  refine WL.no rfl rfl rfl (by decide) ?_
  refine WL.no rfl rfl rfl (by decide) ?_
  refine WL.no rfl rfl rfl (by decide) ?_
  refine WL.x (X.pickT rfl rfl rfl) (by decide) ?_
  refine WL.nil ?_
  refine WK.nThen ?_
  refine WC.condT rfl ?_
  refine WC.seq ?_
  refine WC.region ?_
  refine WL.x (X.move rfl) (by decide) ?_
  refine WL.x (X.assign rfl) (by decide) ?_
  refine WL.nil ?_
  refine WK.nThen ?_
  refine WC.ret ?_
  refine WK.rThen ?_
  refine WK.ret1 rfl rfl (fun w' hw' => Ret.exact hw' ?_)
  first | rfl | (exfalso; omega) | (exfalso; contradiction) | (exfalso; have hbf_ : hb = false := (by simpa using (‹(!hb) = true› : (!hb) = true)); exact hdi4 k (by omega) (fun j hj => hhit hbf_ j (by omega))) | (exfalso; simp_all; done) | (have hf_ : (feasR c.D (woN c.M set c.M.length)).1 = true := (by simpa using (‹(!(feasR c.D (woN c.M set c.M.length)).1) = false› : (!(feasR c.D (woN c.M set c.M.length)).1) = false)); have hf2_ := hde2 hf_; exact (bool_true (by omega)).symm) | exact (bool_true (by first | omega | assumption)).symm
end Go.Proofs.C2
