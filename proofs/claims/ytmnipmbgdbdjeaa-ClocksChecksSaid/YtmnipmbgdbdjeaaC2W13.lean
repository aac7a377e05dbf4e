import Derived.Test.YtmnipmbgdbdjeaaC2W12
/- Clocks: walks of the reference, by program. -/
namespace Go.Proofs.C2
open Go Go.Kx
set_option linter.unusedVariables false

theorem gap53 (m : Mem) (cd : List Value) (d : Drum) (hd : Enc.rd m cd d) (column : Int)   : Exact Try.prog 53 #[.agg cd.toArray, .int .i64 (column)] m (.tuple #[.agg [.int .i64 ((gapR d column).1.Lo), .int .i64 ((gapR d column).1.Hi)].toArray, .int .i64 ((gapR d column).2)]) := by
  obtain ⟨v1, v3, rfl, hs2, hs4⟩ := hd
  have hl5 := hs2.le
  have hl6 := hs4.le
  refine Exact.start Try.func53 rfl Try.ntmps53 rfl fun wld => ?_
  refine WC.seq ?_
  refine WC.region ?_
  refine WL.tn (T.boxB rfl rfl) (by decide) fun b7 => ?_
  refine WL.tn (T.alloc Try.zeroValue31 rfl) (by decide) fun b8 => ?_
  refine WL.x (X.assign rfl) (by decide) ?_
  refine WL.nil ?_
  refine WK.nThen ?_
  refine WC.seq ?_
  refine WC.seq ?_
  refine WC.region ?_
  refine WL.x (X.loadBA (k := 1) Try.isAgg25 Try.sizeOf25 rfl rfl rfl) (by decide) ?_
  refine WL.x (X.call Try.call54 rfl (check54 _ _ d ⟨_, _, rfl, hs2, hs4⟩ )) (by decide) ?_
  refine WL.condn (X.neq rfl rfl) (by decide) (fun h9 => ?_) (fun h9 => ?_)
  · refine WL.nil ?_
    refine WK.nThen ?_
    refine WC.condT rfl ?_
    refine WC.seq ?_
    refine WC.region ?_
    refine WL.x (V := Value.agg [.int .i64 (0), .int .i64 (0)].toArray) (X.build Try.zeroValue31 Try.runUnderlying31 (places31 _ Try.underlying31) rfl rfl) (by decide) ?_
    refine WL.ts (T.storeBA (k := 0) Try.sizeOf31 rfl rfl rfl (one_cons rfl (one_cons rfl one_nil)) rfl rfl) ?_
    refine WL.x (X.assign rfl) (by decide) ?_
    refine WL.nil ?_
    refine WK.nThen ?_
    refine WC.ret ?_
    refine WK.rThen ?_
    refine WK.retC2 0 rfl rfl rfl rfl Try.isAgg31 Try.sizeOf31 (fun w' hw' => Ret.exact hw' ?_)
    first | exact tup2 (agg2i (by rw [gapR_bad (by omega)]) (by rw [gapR_bad (by omega)])) (int_eq (by rw [gapR_bad (by omega)]; have := drumE_cases d; omega)) | exact tup2 (agg2i (by rw [gapR_arg (by omega) (by omega)]) (by rw [gapR_arg (by omega) (by omega)])) (int_eq (by rw [gapR_arg (by omega) (by omega)])) | exact tup2 (agg2i (by rw [gapR_ok (by omega) (by omega), gapL_at (by omega)]) (by rw [gapR_ok (by omega) (by omega), gapL_at (by omega)])) (int_eq (by rw [gapR_ok (by omega) (by omega)]))
  · refine WL.nil ?_
    refine WK.nThen ?_
    refine WC.condF rfl ?_
    refine WC.skip ?_
    refine WK.nThen ?_
    refine WC.seq ?_
    refine WC.seq ?_
    refine WC.region ?_
    refine WL.x (X.move rfl) (by decide) ?_
    refine WL.x (X.field Try.runUnderlying25 rfl Try.sizeOf22 rfl) (by decide) ?_
    refine WL.x (X.loadB (k := 1) Try.isAgg22 rfl rfl rfl) (by decide) ?_
    refine WL.x (X.len Try.runUnderlying22 rfl hs2) (by decide) ?_
    refine WL.x (X.sub rfl rfl (by omega) (by omega)) (by decide) ?_
    refine WL.cond (X.call Try.call84 rfl (within84 _ _ _ _ )) (by decide) (fun h10 => ?_) (fun h10 => ?_)
    · refine WL.x (X.not rfl) (by decide) ?_
      refine WL.nil ?_
      refine WK.nThen ?_
      refine WC.condF rfl ?_
      refine WC.skip ?_
      refine WK.nThen ?_
      refine WC.seq ?_
      refine WC.region ?_
      refine WL.x (X.loadBA (k := 1) Try.isAgg25 Try.sizeOf25 rfl rfl rfl) (by decide) ?_
      refine WL.x (X.move rfl) (by decide) ?_
      refine WL.x (X.call Try.call115 rfl (gap115 _ _ d ⟨_, _, rfl, hs2, hs4⟩ _ (by first | exact drumP_of (by omega) | omega) (by first | exact drumP_of (by omega) | omega))) (by decide) ?_
      refine WL.ts (T.storeBA (k := 0) Try.sizeOf31 rfl rfl rfl (one_cons rfl (one_cons rfl one_nil)) rfl rfl) ?_
      refine WL.x (X.assign rfl) (by decide) ?_
      refine WL.nil ?_
      refine WK.nThen ?_
      refine WC.ret ?_
      refine WK.retC2 0 rfl rfl rfl rfl Try.isAgg31 Try.sizeOf31 (fun w' hw' => Ret.exact hw' ?_)
      first | exact tup2 (agg2i (by rw [gapR_bad (by omega)]) (by rw [gapR_bad (by omega)])) (int_eq (by rw [gapR_bad (by omega)]; have := drumE_cases d; omega)) | exact tup2 (agg2i (by rw [gapR_arg (by omega) (by omega)]) (by rw [gapR_arg (by omega) (by omega)])) (int_eq (by rw [gapR_arg (by omega) (by omega)])) | exact tup2 (agg2i (by rw [gapR_ok (by omega) (by omega), gapL_at (by omega)]) (by rw [gapR_ok (by omega) (by omega), gapL_at (by omega)])) (int_eq (by rw [gapR_ok (by omega) (by omega)]))
    · refine WL.x (X.not rfl) (by decide) ?_
      refine WL.nil ?_
      refine WK.nThen ?_
      refine WC.condT rfl ?_
      refine WC.seq ?_
      refine WC.region ?_
      refine WL.x (V := Value.agg [.int .i64 (0), .int .i64 (0)].toArray) (X.build Try.zeroValue31 Try.runUnderlying31 (places31 _ Try.underlying31) rfl rfl) (by decide) ?_
      refine WL.ts (T.storeBA (k := 0) Try.sizeOf31 rfl rfl rfl (one_cons rfl (one_cons rfl one_nil)) rfl rfl) ?_
      refine WL.x (X.assign rfl) (by decide) ?_
      refine WL.nil ?_
      refine WK.nThen ?_
      refine WC.ret ?_
      refine WK.rThen ?_
      refine WK.retC2 0 rfl rfl rfl rfl Try.isAgg31 Try.sizeOf31 (fun w' hw' => Ret.exact hw' ?_)
      first | exact tup2 (agg2i (by rw [gapR_bad (by omega)]) (by rw [gapR_bad (by omega)])) (int_eq (by rw [gapR_bad (by omega)]; have := drumE_cases d; omega)) | exact tup2 (agg2i (by rw [gapR_arg (by omega) (by omega)]) (by rw [gapR_arg (by omega) (by omega)])) (int_eq (by rw [gapR_arg (by omega) (by omega)])) | exact tup2 (agg2i (by rw [gapR_ok (by omega) (by omega), gapL_at (by omega)]) (by rw [gapR_ok (by omega) (by omega), gapL_at (by omega)])) (int_eq (by rw [gapR_ok (by omega) (by omega)]))

theorem agree56 (m : Mem) (cd : List Value) (d : Drum) (hd : Enc.rd m cd d) (ca : List Value) (a : Mark) (ha : Enc.rd m ca a) (cb : List Value) (b : Mark) (hb : Enc.rd m cb b)   : Exact Try.prog 56 #[.agg cd.toArray, .agg ca.toArray, .agg cb.toArray] m (.tuple #[.bool ((agrR d a b).1), .int .i64 ((agrR d a b).2)]) := by
  obtain ⟨v1, v3, rfl, hs2, hs4⟩ := hd
  have hl5 := hs2.le
  have hl6 := hs4.le
  obtain rfl := ha
  obtain rfl := hb
  refine Exact.start Try.func56 rfl Try.ntmps56 rfl fun wld => ?_
  refine WC.seq ?_
  refine WC.region ?_
  refine WL.tn (T.boxB rfl rfl) (by decide) fun b7 => ?_
  refine WL.tn (T.boxB rfl rfl) (by decide) fun b8 => ?_
  refine WL.tn (T.boxB rfl rfl) (by decide) fun b9 => ?_
  refine WL.x (X.assign rfl) (by decide) ?_
  refine WL.x (X.assign rfl) (by decide) ?_
  refine WL.nil ?_
  refine WK.nThen ?_
  refine WC.seq ?_
  refine WC.region ?_
  refine WL.x (X.loadBA (k := 2) Try.isAgg25 Try.sizeOf25 rfl rfl rfl) (by decide) ?_
  refine WL.x (X.loadBA (k := 1) Try.isAgg33 Try.sizeOf33 rfl rfl rfl) (by decide) ?_
  refine WL.x (X.loadBA (k := 0) Try.isAgg33 Try.sizeOf33 rfl rfl rfl) (by decide) ?_
  refine WL.tm (T.litM (α := Mark) (vals := [.agg [.int .i64 (a.Column), .int .i64 (a.Ticks.Lo), .int .i64 (a.Ticks.Hi)].toArray, .agg [.int .i64 (b.Column), .int .i64 (b.Ticks.Lo), .int .i64 (b.Ticks.Hi)].toArray]) (L := [a, b]) sl26 rfl (.cons rfl rfl (.cons rfl rfl .nil)) rfl rfl) (by decide) (fun m10 v11 hle12 hs13 => ?_)
  replace hs2 := hs2.mono hle12
  replace hs4 := hs4.mono hle12
  refine WL.x (X.call Try.call66 rfl (feasible66 _ _ d ⟨_, _, rfl, hs2, hs4⟩ _ _ hs13 )) (by decide) ?_
  refine WL.x (X.extract rfl rfl) (by decide) ?_
  refine WL.x (X.extract rfl rfl) (by decide) ?_
  refine WL.x (X.assign rfl) (by decide) ?_
  refine WL.x (X.assign rfl) (by decide) ?_
  refine WL.nil ?_
  refine WK.nThen ?_
  refine WC.ret ?_
  refine WK.ret2 rfl rfl rfl (fun w' hw' => Ret.exact hw' ?_)
  rfl

set_option maxHeartbeats 8000000 in
theorem wind58 (m : Mem) (cd : List Value) (d : Drum) (hd : Enc.rd m cd d) (cs : List Value) (s : Stop) (hs : Enc.rd m cs s)   : Pure Try.prog 58 #[.agg cd.toArray, .agg cs.toArray] m (fun m' v => ∃ r0, v = .tuple #[.agg r0.toArray, .int .i64 ((winR d s).2)] ∧ Enc.rd m' r0 ((winR d s).1)) := by
  obtain ⟨v1, v3, rfl, hs2, hs4⟩ := hd
  have hl5 := hs2.le
  have hl6 := hs4.le
  obtain rfl := hs
  have hdc := drumE_cases d
  refine Pure.start Try.func58 rfl Try.ntmps58 rfl fun wld => ?_
  refine WC.seq ?_
  refine WC.region ?_
  refine WL.tn (T.boxB rfl rfl) (by decide) fun b7 => ?_
  refine WL.tn (T.boxB rfl rfl) (by decide) fun b8 => ?_
  refine WL.tn (T.alloc Try.zeroValue25 rfl) (by decide) fun b9 => ?_
  refine WL.x (X.assign rfl) (by decide) ?_
  refine WL.nil ?_
  refine WK.nThen ?_
  refine WC.seq ?_
  refine WC.seq ?_
  refine WC.region ?_
  refine WL.x (X.loadBA (k := 2) Try.isAgg25 Try.sizeOf25 rfl rfl rfl) (by decide) ?_
  refine WL.x (X.call Try.call54 rfl (check54 _ _ d ⟨_, _, rfl, hs2, hs4⟩ )) (by decide) ?_
  refine WL.condn (X.neq rfl rfl) (by decide) (fun h10 => ?_) (fun h10 => ?_)
  · refine WL.nil ?_
    refine WK.nThen ?_
    refine WC.condT rfl ?_
    refine WC.seq ?_
    refine WC.region ?_
    refine WL.x (V := Value.agg [.slice none 0 0, .slice none 0 0].toArray) (X.build Try.zeroValue25 Try.runUnderlying25 (places25 _ Try.underlying25) rfl rfl) (by decide) ?_
    refine WL.ts (T.storeBA (k := 0) Try.sizeOf25 rfl rfl rfl (one_cons rfl (one_cons rfl one_nil)) rfl rfl) ?_
    refine WL.x (X.assign rfl) (by decide) ?_
    refine WL.nil ?_
    refine WK.nThen ?_
    refine WC.ret ?_
    refine WK.rThen ?_
    refine WK.retC2 0 rfl rfl rfl rfl Try.isAgg25 Try.sizeOf25 (fun w' hw' => Ret.mem hw' ?_)
    first | (exfalso; omega) | exact ⟨_, tup2 rfl (int_eq (by rw [winR_bad (by omega)]; omega)), by rw [winR_bad (by omega)]; exact ⟨_, _, rfl, .nil, .nil⟩⟩ | exact ⟨_, tup2 rfl (int_eq (by rw [winR_big (by omega) (by omega)])), by rw [winR_big (by omega) (by omega)]; exact ⟨_, _, rfl, .nil, .nil⟩⟩ | exact ⟨_, tup2 rfl (int_eq (by rw [winR_arg (by omega) (by omega) (by assumption)])), by rw [winR_arg (by omega) (by omega) (by assumption)]; exact ⟨_, _, rfl, .nil, .nil⟩⟩ | exact ⟨_, tup2 rfl (int_eq (by rw [winR_ok (by omega) (by omega) (by assumption)])), by rw [winR_ok (by omega) (by omega) (by assumption)]; exact ⟨_, _, rfl, .nil, .nil⟩⟩
  refine WL.nil ?_
  refine WK.nThen ?_
  refine WC.condF rfl ?_
  refine WC.skip ?_
  refine WK.nThen ?_
  refine WC.seq ?_
  refine WC.seq ?_
  refine WC.region ?_
  refine WL.x (X.field Try.runUnderlying25 rfl Try.sizeOf23 rfl) (by decide) ?_
  refine WL.x (X.loadB (k := 2) Try.isAgg23 rfl rfl rfl) (by decide) ?_
  refine WL.x (X.len Try.runUnderlying23 rfl hs4) (by decide) ?_
  refine WL.cond (X.eql rfl rfl) (by decide) (fun h11 => ?_) (fun h11 => ?_)
  · refine WL.nil ?_
    refine WK.nThen ?_
    refine WC.condT rfl ?_
    refine WC.seq ?_
    refine WC.region ?_
    refine WL.x (V := Value.agg [.slice none 0 0, .slice none 0 0].toArray) (X.build Try.zeroValue25 Try.runUnderlying25 (places25 _ Try.underlying25) rfl rfl) (by decide) ?_
    refine WL.ts (T.storeBA (k := 0) Try.sizeOf25 rfl rfl rfl (one_cons rfl (one_cons rfl one_nil)) rfl rfl) ?_
    refine WL.x (X.assign rfl) (by decide) ?_
    refine WL.nil ?_
    refine WK.nThen ?_
    refine WC.ret ?_
    refine WK.rThen ?_
    refine WK.retC2 0 rfl rfl rfl rfl Try.isAgg25 Try.sizeOf25 (fun w' hw' => Ret.mem hw' ?_)
    first | (exfalso; omega) | exact ⟨_, tup2 rfl (int_eq (by rw [winR_bad (by omega)]; omega)), by rw [winR_bad (by omega)]; exact ⟨_, _, rfl, .nil, .nil⟩⟩ | exact ⟨_, tup2 rfl (int_eq (by rw [winR_big (by omega) (by omega)])), by rw [winR_big (by omega) (by omega)]; exact ⟨_, _, rfl, .nil, .nil⟩⟩ | exact ⟨_, tup2 rfl (int_eq (by rw [winR_arg (by omega) (by omega) (by assumption)])), by rw [winR_arg (by omega) (by omega) (by assumption)]; exact ⟨_, _, rfl, .nil, .nil⟩⟩ | exact ⟨_, tup2 rfl (int_eq (by rw [winR_ok (by omega) (by omega) (by assumption)])), by rw [winR_ok (by omega) (by omega) (by assumption)]; exact ⟨_, _, rfl, .nil, .nil⟩⟩
  refine WL.nil ?_
  refine WK.nThen ?_
  refine WC.condF rfl ?_
  refine WC.skip ?_
  refine WK.nThen ?_
  have hwl : (winD d s).Stops.length = d.Stops.length + 1 := (by simp [winD])
  have hdp := drumP_of (d := d) (by omega)
  have hd1 := hdp.1
  refine WK.freezeS (α := Drum) (x := d) 2 rfl rfl (show Enc.rd (α := Drum) m [v1, v3] d from ⟨_, _, rfl, hs2, hs4⟩) (fun m12 hle13 hp14 => ?_)
  replace hs2 := hs2.mono hle13
  replace hs4 := hs4.mono hle13
  refine WK.freezeS (α := Stop) (x := s) 1 rfl rfl (show Enc.rd (α := Stop) m12 [.int .i64 (s.Column), .int .i64 (s.Ticks.Lo), .int .i64 (s.Ticks.Hi)] s from rfl) (fun m15 hle16 hp17 => ?_)
  replace hs2 := hs2.mono hle16
  replace hs4 := hs4.mono hle16
  replace hp14 := hp14.mono hle16
  refine WC.cut (G := Mem × Nat × Value × Value) (fun (m18, b40, v31, v37) => m18) (fun (m18, b40, v31, v37) => [blk b40 25 [v31, v37], rowF (v37) 34 (([] ++ d.Stops) ++ [s]), rowF (v31) 31 ([] ++ d.Rates), blk b9 25 [.slice none 0 0, .slice none 0 0]]) (fun (m18, b40, v31, v37) => [(4, .pointer (some ⟨b9, 0, none⟩)), (6, .pointer (some ⟨b40, 0, none⟩))]) (fun (m18, b40, v31, v37) => m15.le m18) ?_ ?_
  · refine WC.draw (π := (.cons 1 (.cons 2 (.cons 5 (.cons 6 (.cons 8 (.fork (.cons 0 (.fork (.cons 3 (.fork (.cons 4 (.fork (.cons 7 (.fork (.cons 9 (.fork (.cons 10 (.cons 11 (.cons 12 (.cons 13 .done)))) (.cons 12 (.cons 10 (.cons 11 (.cons 13 .done)))))) (.cons 12 (.cons 9 (.cons 10 (.cons 11 (.cons 13 .done))))))) (.fork (.cons 9 (.fork (.cons 7 (.fork (.cons 10 (.cons 11 (.cons 12 (.cons 13 .done)))) (.cons 12 (.cons 10 (.cons 11 (.cons 13 .done)))))) (.cons 12 (.cons 7 (.cons 10 (.cons 11 (.cons 13 .done))))))) (.cons 12 (.fork (.cons 7 (.cons 9 (.cons 10 (.cons 11 (.cons 13 .done))))) (.cons 9 (.cons 7 (.cons 10 (.cons 11 (.cons 13 .done)))))))))) (.fork (.cons 9 (.fork (.cons 4 (.fork (.cons 7 (.fork (.cons 10 (.cons 11 (.cons 12 (.cons 13 .done)))) (.cons 12 (.cons 10 (.cons 11 (.cons 13 .done)))))) (.cons 12 (.cons 7 (.cons 10 (.cons 11 (.cons 13 .done))))))) (.cons 12 (.cons 4 (.cons 7 (.cons 10 (.cons 11 (.cons 13 .done)))))))) (.cons 12 (.fork (.cons 4 (.fork (.cons 7 (.cons 9 (.cons 10 (.cons 11 (.cons 13 .done))))) (.cons 9 (.cons 7 (.cons 10 (.cons 11 (.cons 13 .done))))))) (.cons 9 (.cons 4 (.cons 7 (.cons 10 (.cons 11 (.cons 13 .done))))))))))) (.fork (.cons 4 (.fork (.cons 3 (.fork (.cons 7 (.fork (.cons 9 (.fork (.cons 10 (.cons 11 (.cons 12 (.cons 13 .done)))) (.cons 12 (.cons 10 (.cons 11 (.cons 13 .done)))))) (.cons 12 (.cons 9 (.cons 10 (.cons 11 (.cons 13 .done))))))) (.fork (.cons 9 (.fork (.cons 7 (.fork (.cons 10 (.cons 11 (.cons 12 (.cons 13 .done)))) (.cons 12 (.cons 10 (.cons 11 (.cons 13 .done)))))) (.cons 12 (.cons 7 (.cons 10 (.cons 11 (.cons 13 .done))))))) (.cons 12 (.fork (.cons 7 (.cons 9 (.cons 10 (.cons 11 (.cons 13 .done))))) (.cons 9 (.cons 7 (.cons 10 (.cons 11 (.cons 13 .done)))))))))) (.fork (.cons 9 (.fork (.cons 3 (.fork (.cons 7 (.fork (.cons 10 (.cons 11 (.cons 12 (.cons 13 .done)))) (.cons 12 (.cons 10 (.cons 11 (.cons 13 .done)))))) (.cons 12 (.cons 7 (.cons 10 (.cons 11 (.cons 13 .done))))))) (.cons 12 (.cons 3 (.cons 7 (.cons 10 (.cons 11 (.cons 13 .done)))))))) (.cons 12 (.fork (.cons 3 (.fork (.cons 7 (.cons 9 (.cons 10 (.cons 11 (.cons 13 .done))))) (.cons 9 (.cons 7 (.cons 10 (.cons 11 (.cons 13 .done))))))) (.cons 9 (.cons 3 (.cons 7 (.cons 10 (.cons 11 (.cons 13 .done))))))))))) (.fork (.cons 9 (.fork (.cons 3 (.fork (.cons 4 (.fork (.cons 7 (.fork (.cons 10 (.cons 11 (.cons 12 (.cons 13 .done)))) (.cons 12 (.cons 10 (.cons 11 (.cons 13 .done)))))) (.cons 12 (.cons 7 (.cons 10 (.cons 11 (.cons 13 .done))))))) (.cons 12 (.cons 4 (.cons 7 (.cons 10 (.cons 11 (.cons 13 .done)))))))) (.fork (.cons 4 (.fork (.cons 3 (.fork (.cons 7 (.fork (.cons 10 (.cons 11 (.cons 12 (.cons 13 .done)))) (.cons 12 (.cons 10 (.cons 11 (.cons 13 .done)))))) (.cons 12 (.cons 7 (.cons 10 (.cons 11 (.cons 13 .done))))))) (.cons 12 (.cons 3 (.cons 7 (.cons 10 (.cons 11 (.cons 13 .done)))))))) (.cons 12 (.fork (.cons 3 (.cons 4 (.cons 7 (.cons 10 (.cons 11 (.cons 13 .done)))))) (.cons 4 (.cons 3 (.cons 7 (.cons 10 (.cons 11 (.cons 13 .done))))))))))) (.cons 12 (.fork (.cons 3 (.fork (.cons 4 (.fork (.cons 7 (.cons 9 (.cons 10 (.cons 11 (.cons 13 .done))))) (.cons 9 (.cons 7 (.cons 10 (.cons 11 (.cons 13 .done))))))) (.cons 9 (.cons 4 (.cons 7 (.cons 10 (.cons 11 (.cons 13 .done)))))))) (.fork (.cons 4 (.fork (.cons 3 (.fork (.cons 7 (.cons 9 (.cons 10 (.cons 11 (.cons 13 .done))))) (.cons 9 (.cons 7 (.cons 10 (.cons 11 (.cons 13 .done))))))) (.cons 9 (.cons 3 (.cons 7 (.cons 10 (.cons 11 (.cons 13 .done)))))))) (.cons 9 (.fork (.cons 3 (.cons 4 (.cons 7 (.cons 10 (.cons 11 (.cons 13 .done)))))) (.cons 4 (.cons 3 (.cons 7 (.cons 10 (.cons 11 (.cons 13 .done))))))))))))))) (.fork (.cons 4 (.fork (.cons 0 (.fork (.cons 3 (.fork (.cons 7 (.fork (.cons 9 (.fork (.cons 10 (.cons 11 (.cons 12 (.cons 13 .done)))) (.cons 12 (.cons 10 (.cons 11 (.cons 13 .done)))))) (.cons 12 (.cons 9 (.cons 10 (.cons 11 (.cons 13 .done))))))) (.fork (.cons 9 (.fork (.cons 7 (.fork (.cons 10 (.cons 11 (.cons 12 (.cons 13 .done)))) (.cons 12 (.cons 10 (.cons 11 (.cons 13 .done)))))) (.cons 12 (.cons 7 (.cons 10 (.cons 11 (.cons 13 .done))))))) (.cons 12 (.fork (.cons 7 (.cons 9 (.cons 10 (.cons 11 (.cons 13 .done))))) (.cons 9 (.cons 7 (.cons 10 (.cons 11 (.cons 13 .done)))))))))) (.fork (.cons 9 (.fork (.cons 3 (.fork (.cons 7 (.fork (.cons 10 (.cons 11 (.cons 12 (.cons 13 .done)))) (.cons 12 (.cons 10 (.cons 11 (.cons 13 .done)))))) (.cons 12 (.cons 7 (.cons 10 (.cons 11 (.cons 13 .done))))))) (.cons 12 (.cons 3 (.cons 7 (.cons 10 (.cons 11 (.cons 13 .done)))))))) (.cons 12 (.fork (.cons 3 (.fork (.cons 7 (.cons 9 (.cons 10 (.cons 11 (.cons 13 .done))))) (.cons 9 (.cons 7 (.cons 10 (.cons 11 (.cons 13 .done))))))) (.cons 9 (.cons 3 (.cons 7 (.cons 10 (.cons 11 (.cons 13 .done))))))))))) (.fork (.cons 9 (.fork (.cons 0 (.fork (.cons 3 (.fork (.cons 7 (.fork (.cons 10 (.cons 11 (.cons 12 (.cons 13 .done)))) (.cons 12 (.cons 10 (.cons 11 (.cons 13 .done)))))) (.cons 12 (.cons 7 (.cons 10 (.cons 11 (.cons 13 .done))))))) (.cons 12 (.cons 3 (.cons 7 (.cons 10 (.cons 11 (.cons 13 .done)))))))) (.cons 12 (.cons 0 (.cons 3 (.cons 7 (.cons 10 (.cons 11 (.cons 13 .done))))))))) (.cons 12 (.fork (.cons 0 (.fork (.cons 3 (.fork (.cons 7 (.cons 9 (.cons 10 (.cons 11 (.cons 13 .done))))) (.cons 9 (.cons 7 (.cons 10 (.cons 11 (.cons 13 .done))))))) (.cons 9 (.cons 3 (.cons 7 (.cons 10 (.cons 11 (.cons 13 .done)))))))) (.cons 9 (.cons 0 (.cons 3 (.cons 7 (.cons 10 (.cons 11 (.cons 13 .done)))))))))))) (.fork (.cons 9 (.fork (.cons 0 (.fork (.cons 3 (.fork (.cons 4 (.fork (.cons 7 (.fork (.cons 10 (.cons 11 (.cons 12 (.cons 13 .done)))) (.cons 12 (.cons 10 (.cons 11 (.cons 13 .done)))))) (.cons 12 (.cons 7 (.cons 10 (.cons 11 (.cons 13 .done))))))) (.cons 12 (.cons 4 (.cons 7 (.cons 10 (.cons 11 (.cons 13 .done)))))))) (.fork (.cons 4 (.fork (.cons 3 (.fork (.cons 7 (.fork (.cons 10 (.cons 11 (.cons 12 (.cons 13 .done)))) (.cons 12 (.cons 10 (.cons 11 (.cons 13 .done)))))) (.cons 12 (.cons 7 (.cons 10 (.cons 11 (.cons 13 .done))))))) (.cons 12 (.cons 3 (.cons 7 (.cons 10 (.cons 11 (.cons 13 .done)))))))) (.cons 12 (.fork (.cons 3 (.cons 4 (.cons 7 (.cons 10 (.cons 11 (.cons 13 .done)))))) (.cons 4 (.cons 3 (.cons 7 (.cons 10 (.cons 11 (.cons 13 .done))))))))))) (.fork (.cons 4 (.fork (.cons 0 (.fork (.cons 3 (.fork (.cons 7 (.fork (.cons 10 (.cons 11 (.cons 12 (.cons 13 .done)))) (.cons 12 (.cons 10 (.cons 11 (.cons 13 .done)))))) (.cons 12 (.cons 7 (.cons 10 (.cons 11 (.cons 13 .done))))))) (.cons 12 (.cons 3 (.cons 7 (.cons 10 (.cons 11 (.cons 13 .done)))))))) (.cons 12 (.cons 0 (.cons 3 (.cons 7 (.cons 10 (.cons 11 (.cons 13 .done))))))))) (.cons 12 (.fork (.cons 0 (.fork (.cons 3 (.cons 4 (.cons 7 (.cons 10 (.cons 11 (.cons 13 .done)))))) (.cons 4 (.cons 3 (.cons 7 (.cons 10 (.cons 11 (.cons 13 .done)))))))) (.cons 4 (.cons 0 (.cons 3 (.cons 7 (.cons 10 (.cons 11 (.cons 13 .done)))))))))))) (.cons 12 (.fork (.cons 0 (.fork (.cons 3 (.fork (.cons 4 (.fork (.cons 7 (.cons 9 (.cons 10 (.cons 11 (.cons 13 .done))))) (.cons 9 (.cons 7 (.cons 10 (.cons 11 (.cons 13 .done))))))) (.cons 9 (.cons 4 (.cons 7 (.cons 10 (.cons 11 (.cons 13 .done)))))))) (.fork (.cons 4 (.fork (.cons 3 (.fork (.cons 7 (.cons 9 (.cons 10 (.cons 11 (.cons 13 .done))))) (.cons 9 (.cons 7 (.cons 10 (.cons 11 (.cons 13 .done))))))) (.cons 9 (.cons 3 (.cons 7 (.cons 10 (.cons 11 (.cons 13 .done)))))))) (.cons 9 (.fork (.cons 3 (.cons 4 (.cons 7 (.cons 10 (.cons 11 (.cons 13 .done)))))) (.cons 4 (.cons 3 (.cons 7 (.cons 10 (.cons 11 (.cons 13 .done))))))))))) (.fork (.cons 4 (.fork (.cons 0 (.fork (.cons 3 (.fork (.cons 7 (.cons 9 (.cons 10 (.cons 11 (.cons 13 .done))))) (.cons 9 (.cons 7 (.cons 10 (.cons 11 (.cons 13 .done))))))) (.cons 9 (.cons 3 (.cons 7 (.cons 10 (.cons 11 (.cons 13 .done)))))))) (.cons 9 (.cons 0 (.cons 3 (.cons 7 (.cons 10 (.cons 11 (.cons 13 .done))))))))) (.cons 9 (.fork (.cons 0 (.fork (.cons 3 (.cons 4 (.cons 7 (.cons 10 (.cons 11 (.cons 13 .done)))))) (.cons 4 (.cons 3 (.cons 7 (.cons 10 (.cons 11 (.cons 13 .done)))))))) (.cons 4 (.cons 0 (.cons 3 (.cons 7 (.cons 10 (.cons 11 (.cons 13 .done))))))))))))))))))))) [0, 3, 4, 7, 9, 10, 12, 13] [3, 7, 10, 13, 100005, 100006, 100008] rfl (by kernel_rfl) ?_
    have hp19 := At.Drum_0 hp14
    refine DW.x rfl rfl (X.field Try.runUnderlying25 rfl Try.sizeOf22 rfl) (by decide) ?_
    refine DW.xe rfl rfl (E.loadSl Try.isAgg22 rfl hp19) (by decide) (fun v20 hs21 => ?_)
    have hl22 := hs21.le
    have hp23 := At.Drum_1 hp14
    refine DW.xf rfl rfl rfl (fun _ _ hle_ => (X.field Try.runUnderlying25 rfl Try.sizeOf23 rfl)) (by decide) ?_
    refine DW.xfe rfl rfl rfl (EF.loadSl Try.isAgg23 rfl hp23) (by decide) (fun v24 hs25 => ?_)
    have hl26 := hs25.le
    refine DW.xfe rfl rfl rfl (EF.loadAgg Try.isAgg34 Try.sizeOf34 rfl hp17) (by decide) (fun c27 hc28 => ?_)
    obtain rfl := hc28
    refine DW.fork (List.cons_ne_nil _ _) ?_ ?_
    · refine DW.tO rfl rfl rfl (OpTo.taO (T.lit0 (α := Span) sl22 rfl)) (by decide) (fun m30 Es_ v29 hle31 hR_ => ?_)
      subst hR_
      replace hs2 := hs2.mono hle31
      replace hs4 := hs4.mono hle31
      replace hp14 := hp14.mono hle31
      replace hp17 := hp17.mono hle31
      replace hp19 := hp19.mono hle31
      replace hs21 := hs21.mono hle31
      replace hp23 := hp23.mono hle31
      replace hs25 := hs25.mono hle31
      refine DW.fork (List.cons_ne_nil _ _) ?_ ?_
      · refine DW.ta rfl rfl rfl rfl (T.appendFl (α := Span) (fun _ _ _ h => h) (k := 0) sl22 rfl rfl hs21 rfl (by first | omega | (simp; omega)) (by first | omega | (simp; omega))) (by decide) (fun v32 => ?_)
        refine DW.fork (List.cons_ne_nil _ _) ?_ ?_
        · refine DW.tO rfl rfl rfl (OpTo.taO (T.lit0 (α := Stop) sl23 rfl)) (by decide) (fun m34 Es_ v33 hle35 hR_ => ?_)
          subst hR_
          replace hs2 := hs2.mono hle35
          replace hs4 := hs4.mono hle35
          replace hp14 := hp14.mono hle35
          replace hp17 := hp17.mono hle35
          replace hp19 := hp19.mono hle35
          replace hs21 := hs21.mono hle35
          replace hp23 := hp23.mono hle35
          replace hs25 := hs25.mono hle35
          refine DW.fork (List.cons_ne_nil _ _) ?_ ?_
          · refine DW.ta rfl rfl rfl rfl (T.appendFl (α := Stop) (fun _ _ _ h => h) (k := 0) sl23 rfl rfl hs25 rfl (by first | omega | (simp; omega)) (by first | omega | (simp; omega))) (by decide) (fun v36 => ?_)
            refine DW.fork (List.cons_ne_nil _ _) ?_ ?_
            · refine DW.tl rfl rfl rfl (T.lit1 sl23 rfl rfl rfl (by decide)) (by decide) fun b37 => ?_
              refine DW.fork (List.cons_ne_nil _ _) ?_ ?_
              · refine DW.ta rfl rfl rfl rfl (T.appendF (k := 0) (a := s) sl23 rfl rfl rfl rfl (by first | omega | (simp; done) | (simp; omega)) (by decide)) (by decide) (fun v38 => ?_)
                refine DW.x (V := Value.agg [v32, v38].toArray) rfl rfl (OpX.own1 (k := 1) rfl trivial (defdB rfl) fun ho39 => (OpX.own1 (k := 0) rfl trivial (defdB rfl) fun ho40 => (X.build Try.zeroValue25 Try.runUnderlying25 (places25 _ Try.underlying25) rfl (by simp only [Instr.fill, one_cells ho39, one_cells ho40]; rfl)))) (by decide) ?_
                refine DW.tn rfl rfl rfl (T.alloc Try.zeroValue25 rfl) (by decide) fun b41 => ?_
                refine DW.ts rfl rfl rfl rfl (OpTo.own1 (k := 2) rfl trivial (defd2 rfl rfl rfl) fun ho42 => (OpTo.own1 (k := 1) rfl trivial (defd2 rfl rfl rfl) fun ho43 => (T.storeBA (k := 0) Try.sizeOf25 rfl rfl rfl (one_cons ho42 (one_cons ho43 one_nil)) rfl rfl))) ?_
                refine DW.nil ?_
                refine WK.nThen ?_
                exact WK.meet (m34, b41, v32, v38) rfl (.refl _) (.cons rfl (.cons rfl .nil)) (Mem.le_trans hle31 hle35)
              refine DW.tn rfl rfl rfl (T.alloc Try.zeroValue25 rfl) (by decide) fun b44 => ?_
              refine DW.ta rfl rfl rfl rfl (OpTo.perm (H' := [blk b37 34 [.int .i64 (s.Column), .int .i64 (s.Ticks.Lo), .int .i64 (s.Ticks.Hi)], blk b44 25 [.slice none 0 0, .slice none 0 0], rowF (v36) 34 ([] ++ d.Stops), rowF (v32) 31 ([] ++ d.Rates), blk b9 25 [.slice none 0 0, .slice none 0 0]]) (List.perm_middle (l₁ := [blk b44 25 [.slice none 0 0, .slice none 0 0]]) (l₂ := [rowF (v36) 34 ([] ++ d.Stops), rowF (v32) 31 ([] ++ d.Rates), blk b9 25 [.slice none 0 0, .slice none 0 0]]) (a := blk b37 34 [.int .i64 (s.Column), .int .i64 (s.Ticks.Lo), .int .i64 (s.Ticks.Hi)])).symm (T.appendF (k := 1) (a := s) sl23 rfl rfl rfl rfl (by first | omega | (simp; done) | (simp; omega)) (by decide))) (by decide) (fun v45 => ?_)
              refine DW.x (V := Value.agg [v32, v45].toArray) rfl rfl (OpX.own1 (k := 2) rfl trivial (defdB rfl) fun ho46 => (OpX.own1 (k := 1) rfl trivial (defdB rfl) fun ho47 => (X.build Try.zeroValue25 Try.runUnderlying25 (places25 _ Try.underlying25) rfl (by simp only [Instr.fill, one_cells ho46, one_cells ho47]; rfl)))) (by decide) ?_
              refine DW.ts rfl rfl rfl rfl (OpTo.own1 (k := 2) rfl trivial (defd2 rfl rfl rfl) fun ho48 => (OpTo.own1 (k := 1) rfl trivial (defd2 rfl rfl rfl) fun ho49 => (T.storeBA (k := 0) Try.sizeOf25 rfl rfl rfl (one_cons ho48 (one_cons ho49 one_nil)) rfl rfl))) ?_
              refine DW.nil ?_
              refine WK.nThen ?_
              exact WK.meet (m34, b44, v32, v45) rfl (.refl _) (.cons rfl (.cons rfl .nil)) (Mem.le_trans hle31 hle35)
            refine DW.tn rfl rfl rfl (T.alloc Try.zeroValue25 rfl) (by decide) fun b50 => ?_
            refine DW.tl rfl rfl rfl (T.lit1 sl23 rfl rfl rfl (by decide)) (by decide) fun b51 => ?_
            refine DW.ta rfl rfl rfl rfl (T.appendF (k := 1) (a := s) sl23 rfl rfl rfl rfl (by first | omega | (simp; done) | (simp; omega)) (by decide)) (by decide) (fun v52 => ?_)
            refine DW.x (V := Value.agg [v32, v52].toArray) rfl rfl (OpX.own1 (k := 2) rfl trivial (defdB rfl) fun ho53 => (OpX.own1 (k := 1) rfl trivial (defdB rfl) fun ho54 => (X.build Try.zeroValue25 Try.runUnderlying25 (places25 _ Try.underlying25) rfl (by simp only [Instr.fill, one_cells ho53, one_cells ho54]; rfl)))) (by decide) ?_
            refine DW.ts rfl rfl rfl rfl (OpTo.own1 (k := 2) rfl trivial (defd2 rfl rfl rfl) fun ho55 => (OpTo.own1 (k := 1) rfl trivial (defd2 rfl rfl rfl) fun ho56 => (T.storeBA (k := 0) Try.sizeOf25 rfl rfl rfl (one_cons ho55 (one_cons ho56 one_nil)) rfl rfl))) ?_
            refine DW.nil ?_
            refine WK.nThen ?_
            exact WK.meet (m34, b50, v32, v52) rfl (.refl _) (.cons rfl (.cons rfl .nil)) (Mem.le_trans hle31 hle35)
          refine DW.fork (List.cons_ne_nil _ _) ?_ ?_
          · refine DW.tl rfl rfl rfl (T.lit1 sl23 rfl rfl rfl (by decide)) (by decide) fun b57 => ?_
            refine DW.fork (List.cons_ne_nil _ _) ?_ ?_
            · refine DW.ta rfl rfl rfl rfl (T.appendFl (α := Stop) (fun _ _ _ h => h) (k := 1) sl23 rfl rfl hs25 rfl (by first | omega | (simp; omega)) (by first | omega | (simp; omega))) (by decide) (fun v58 => ?_)
              refine DW.fork (List.cons_ne_nil _ _) ?_ ?_
              · refine DW.ta rfl rfl rfl rfl (T.appendF (k := 0) (a := s) sl23 rfl rfl rfl rfl (by first | omega | (simp; done) | (simp; omega)) (by decide)) (by decide) (fun v59 => ?_)
                refine DW.x (V := Value.agg [v32, v59].toArray) rfl rfl (OpX.own1 (k := 1) rfl trivial (defdB rfl) fun ho60 => (OpX.own1 (k := 0) rfl trivial (defdB rfl) fun ho61 => (X.build Try.zeroValue25 Try.runUnderlying25 (places25 _ Try.underlying25) rfl (by simp only [Instr.fill, one_cells ho60, one_cells ho61]; rfl)))) (by decide) ?_
                refine DW.tn rfl rfl rfl (T.alloc Try.zeroValue25 rfl) (by decide) fun b62 => ?_
                refine DW.ts rfl rfl rfl rfl (OpTo.own1 (k := 2) rfl trivial (defd2 rfl rfl rfl) fun ho63 => (OpTo.own1 (k := 1) rfl trivial (defd2 rfl rfl rfl) fun ho64 => (T.storeBA (k := 0) Try.sizeOf25 rfl rfl rfl (one_cons ho63 (one_cons ho64 one_nil)) rfl rfl))) ?_
                refine DW.nil ?_
                refine WK.nThen ?_
                exact WK.meet (m34, b62, v32, v59) rfl (.refl _) (.cons rfl (.cons rfl .nil)) (Mem.le_trans hle31 hle35)
              refine DW.tn rfl rfl rfl (T.alloc Try.zeroValue25 rfl) (by decide) fun b65 => ?_
              refine DW.ta rfl rfl rfl rfl (OpTo.perm (H' := [blk b57 34 [.int .i64 (s.Column), .int .i64 (s.Ticks.Lo), .int .i64 (s.Ticks.Hi)], blk b65 25 [.slice none 0 0, .slice none 0 0], rowF (v58) 34 ([] ++ d.Stops), rowF (v32) 31 ([] ++ d.Rates), blk b9 25 [.slice none 0 0, .slice none 0 0]]) (List.perm_middle (l₁ := [blk b65 25 [.slice none 0 0, .slice none 0 0]]) (l₂ := [rowF (v58) 34 ([] ++ d.Stops), rowF (v32) 31 ([] ++ d.Rates), blk b9 25 [.slice none 0 0, .slice none 0 0]]) (a := blk b57 34 [.int .i64 (s.Column), .int .i64 (s.Ticks.Lo), .int .i64 (s.Ticks.Hi)])).symm (T.appendF (k := 1) (a := s) sl23 rfl rfl rfl rfl (by first | omega | (simp; done) | (simp; omega)) (by decide))) (by decide) (fun v66 => ?_)
              refine DW.x (V := Value.agg [v32, v66].toArray) rfl rfl (OpX.own1 (k := 2) rfl trivial (defdB rfl) fun ho67 => (OpX.own1 (k := 1) rfl trivial (defdB rfl) fun ho68 => (X.build Try.zeroValue25 Try.runUnderlying25 (places25 _ Try.underlying25) rfl (by simp only [Instr.fill, one_cells ho67, one_cells ho68]; rfl)))) (by decide) ?_
              refine DW.ts rfl rfl rfl rfl (OpTo.own1 (k := 2) rfl trivial (defd2 rfl rfl rfl) fun ho69 => (OpTo.own1 (k := 1) rfl trivial (defd2 rfl rfl rfl) fun ho70 => (T.storeBA (k := 0) Try.sizeOf25 rfl rfl rfl (one_cons ho69 (one_cons ho70 one_nil)) rfl rfl))) ?_
              refine DW.nil ?_
              refine WK.nThen ?_
              exact WK.meet (m34, b65, v32, v66) rfl (.refl _) (.cons rfl (.cons rfl .nil)) (Mem.le_trans hle31 hle35)
            refine DW.tn rfl rfl rfl (T.alloc Try.zeroValue25 rfl) (by decide) fun b71 => ?_
            refine DW.ta rfl rfl rfl rfl (T.appendFl (α := Stop) (fun _ _ _ h => h) (k := 2) sl23 rfl rfl hs25 rfl (by first | omega | (simp; omega)) (by first | omega | (simp; omega))) (by decide) (fun v72 => ?_)
            refine DW.ta rfl rfl rfl rfl (OpTo.perm (H' := [blk b57 34 [.int .i64 (s.Column), .int .i64 (s.Ticks.Lo), .int .i64 (s.Ticks.Hi)], blk b71 25 [.slice none 0 0, .slice none 0 0], rowF (v72) 34 ([] ++ d.Stops), rowF (v32) 31 ([] ++ d.Rates), blk b9 25 [.slice none 0 0, .slice none 0 0]]) (List.perm_middle (l₁ := [blk b71 25 [.slice none 0 0, .slice none 0 0]]) (l₂ := [rowF (v72) 34 ([] ++ d.Stops), rowF (v32) 31 ([] ++ d.Rates), blk b9 25 [.slice none 0 0, .slice none 0 0]]) (a := blk b57 34 [.int .i64 (s.Column), .int .i64 (s.Ticks.Lo), .int .i64 (s.Ticks.Hi)])).symm (T.appendF (k := 1) (a := s) sl23 rfl rfl rfl rfl (by first | omega | (simp; done) | (simp; omega)) (by decide))) (by decide) (fun v73 => ?_)
            refine DW.x (V := Value.agg [v32, v73].toArray) rfl rfl (OpX.own1 (k := 2) rfl trivial (defdB rfl) fun ho74 => (OpX.own1 (k := 1) rfl trivial (defdB rfl) fun ho75 => (X.build Try.zeroValue25 Try.runUnderlying25 (places25 _ Try.underlying25) rfl (by simp only [Instr.fill, one_cells ho74, one_cells ho75]; rfl)))) (by decide) ?_
            refine DW.ts rfl rfl rfl rfl (OpTo.own1 (k := 2) rfl trivial (defd2 rfl rfl rfl) fun ho76 => (OpTo.own1 (k := 1) rfl trivial (defd2 rfl rfl rfl) fun ho77 => (T.storeBA (k := 0) Try.sizeOf25 rfl rfl rfl (one_cons ho76 (one_cons ho77 one_nil)) rfl rfl))) ?_
            refine DW.nil ?_
            refine WK.nThen ?_
            exact WK.meet (m34, b71, v32, v73) rfl (.refl _) (.cons rfl (.cons rfl .nil)) (Mem.le_trans hle31 hle35)
          refine DW.tn rfl rfl rfl (T.alloc Try.zeroValue25 rfl) (by decide) fun b78 => ?_
          refine DW.fork (List.cons_ne_nil _ _) ?_ ?_
          · refine DW.ta rfl rfl rfl rfl (T.appendFl (α := Stop) (fun _ _ _ h => h) (k := 1) sl23 rfl rfl hs25 rfl (by first | omega | (simp; omega)) (by first | omega | (simp; omega))) (by decide) (fun v79 => ?_)
            refine DW.tl rfl rfl rfl (T.lit1 sl23 rfl rfl rfl (by decide)) (by decide) fun b80 => ?_
            refine DW.ta rfl rfl rfl rfl (T.appendF (k := 1) (a := s) sl23 rfl rfl rfl rfl (by first | omega | (simp; done) | (simp; omega)) (by decide)) (by decide) (fun v81 => ?_)
            refine DW.x (V := Value.agg [v32, v81].toArray) rfl rfl (OpX.own1 (k := 2) rfl trivial (defdB rfl) fun ho82 => (OpX.own1 (k := 1) rfl trivial (defdB rfl) fun ho83 => (X.build Try.zeroValue25 Try.runUnderlying25 (places25 _ Try.underlying25) rfl (by simp only [Instr.fill, one_cells ho82, one_cells ho83]; rfl)))) (by decide) ?_
            refine DW.ts rfl rfl rfl rfl (OpTo.own1 (k := 2) rfl trivial (defd2 rfl rfl rfl) fun ho84 => (OpTo.own1 (k := 1) rfl trivial (defd2 rfl rfl rfl) fun ho85 => (T.storeBA (k := 0) Try.sizeOf25 rfl rfl rfl (one_cons ho84 (one_cons ho85 one_nil)) rfl rfl))) ?_
            refine DW.nil ?_
            refine WK.nThen ?_
            exact WK.meet (m34, b78, v32, v81) rfl (.refl _) (.cons rfl (.cons rfl .nil)) (Mem.le_trans hle31 hle35)
          refine DW.tl rfl rfl rfl (T.lit1 sl23 rfl rfl rfl (by decide)) (by decide) fun b86 => ?_
          refine DW.ta rfl rfl rfl rfl (T.appendFl (α := Stop) (fun _ _ _ h => h) (k := 2) sl23 rfl rfl hs25 rfl (by first | omega | (simp; omega)) (by first | omega | (simp; omega))) (by decide) (fun v87 => ?_)
          refine DW.ta rfl rfl rfl rfl (T.appendF (k := 1) (a := s) sl23 rfl rfl rfl rfl (by first | omega | (simp; done) | (simp; omega)) (by decide)) (by decide) (fun v88 => ?_)
          refine DW.x (V := Value.agg [v32, v88].toArray) rfl rfl (OpX.own1 (k := 2) rfl trivial (defdB rfl) fun ho89 => (OpX.own1 (k := 1) rfl trivial (defdB rfl) fun ho90 => (X.build Try.zeroValue25 Try.runUnderlying25 (places25 _ Try.underlying25) rfl (by simp only [Instr.fill, one_cells ho89, one_cells ho90]; rfl)))) (by decide) ?_
          refine DW.ts rfl rfl rfl rfl (OpTo.own1 (k := 2) rfl trivial (defd2 rfl rfl rfl) fun ho91 => (OpTo.own1 (k := 1) rfl trivial (defd2 rfl rfl rfl) fun ho92 => (T.storeBA (k := 0) Try.sizeOf25 rfl rfl rfl (one_cons ho91 (one_cons ho92 one_nil)) rfl rfl))) ?_
          refine DW.nil ?_
          refine WK.nThen ?_
          exact WK.meet (m34, b78, v32, v88) rfl (.refl _) (.cons rfl (.cons rfl .nil)) (Mem.le_trans hle31 hle35)
        refine DW.fork (List.cons_ne_nil _ _) ?_ ?_
        · refine DW.tl rfl rfl rfl (T.lit1 sl23 rfl rfl rfl (by decide)) (by decide) fun b93 => ?_
          refine DW.fork (List.cons_ne_nil _ _) ?_ ?_
          · refine DW.tO rfl rfl rfl (OpTo.taO (T.lit0 (α := Stop) sl23 rfl)) (by decide) (fun m95 Es_ v94 hle96 hR_ => ?_)
            subst hR_
            replace hs2 := hs2.mono hle96
            replace hs4 := hs4.mono hle96
            replace hp14 := hp14.mono hle96
            replace hp17 := hp17.mono hle96
            replace hp19 := hp19.mono hle96
            replace hs21 := hs21.mono hle96
            replace hp23 := hp23.mono hle96
            replace hs25 := hs25.mono hle96
            refine DW.fork (List.cons_ne_nil _ _) ?_ ?_
            · refine DW.ta rfl rfl rfl rfl (T.appendFl (α := Stop) (fun _ _ _ h => h) (k := 0) sl23 rfl rfl hs25 rfl (by first | omega | (simp; omega)) (by first | omega | (simp; omega))) (by decide) (fun v97 => ?_)
              refine DW.fork (List.cons_ne_nil _ _) ?_ ?_
              · refine DW.ta rfl rfl rfl rfl (OpTo.perm (H' := [blk b93 34 [.int .i64 (s.Column), .int .i64 (s.Ticks.Lo), .int .i64 (s.Ticks.Hi)], rowF (v97) 34 ([] ++ d.Stops), rowF (v32) 31 ([] ++ d.Rates), blk b9 25 [.slice none 0 0, .slice none 0 0]]) (List.perm_middle (l₁ := [rowF (v97) 34 ([] ++ d.Stops)]) (l₂ := [rowF (v32) 31 ([] ++ d.Rates), blk b9 25 [.slice none 0 0, .slice none 0 0]]) (a := blk b93 34 [.int .i64 (s.Column), .int .i64 (s.Ticks.Lo), .int .i64 (s.Ticks.Hi)])).symm (T.appendF (k := 0) (a := s) sl23 rfl rfl rfl rfl (by first | omega | (simp; done) | (simp; omega)) (by decide))) (by decide) (fun v98 => ?_)
                refine DW.x (V := Value.agg [v32, v98].toArray) rfl rfl (OpX.own1 (k := 1) rfl trivial (defdB rfl) fun ho99 => (OpX.own1 (k := 0) rfl trivial (defdB rfl) fun ho100 => (X.build Try.zeroValue25 Try.runUnderlying25 (places25 _ Try.underlying25) rfl (by simp only [Instr.fill, one_cells ho99, one_cells ho100]; rfl)))) (by decide) ?_
                refine DW.tn rfl rfl rfl (T.alloc Try.zeroValue25 rfl) (by decide) fun b101 => ?_
                refine DW.ts rfl rfl rfl rfl (OpTo.own1 (k := 2) rfl trivial (defd2 rfl rfl rfl) fun ho102 => (OpTo.own1 (k := 1) rfl trivial (defd2 rfl rfl rfl) fun ho103 => (T.storeBA (k := 0) Try.sizeOf25 rfl rfl rfl (one_cons ho102 (one_cons ho103 one_nil)) rfl rfl))) ?_
                refine DW.nil ?_
                refine WK.nThen ?_
                exact WK.meet (m95, b101, v32, v98) rfl (.refl _) (.cons rfl (.cons rfl .nil)) (Mem.le_trans hle31 hle96)
              refine DW.tn rfl rfl rfl (T.alloc Try.zeroValue25 rfl) (by decide) fun b104 => ?_
              refine DW.ta rfl rfl rfl rfl (OpTo.perm (H' := [blk b93 34 [.int .i64 (s.Column), .int .i64 (s.Ticks.Lo), .int .i64 (s.Ticks.Hi)], blk b104 25 [.slice none 0 0, .slice none 0 0], rowF (v97) 34 ([] ++ d.Stops), rowF (v32) 31 ([] ++ d.Rates), blk b9 25 [.slice none 0 0, .slice none 0 0]]) (List.perm_middle (l₁ := [blk b104 25 [.slice none 0 0, .slice none 0 0], rowF (v97) 34 ([] ++ d.Stops)]) (l₂ := [rowF (v32) 31 ([] ++ d.Rates), blk b9 25 [.slice none 0 0, .slice none 0 0]]) (a := blk b93 34 [.int .i64 (s.Column), .int .i64 (s.Ticks.Lo), .int .i64 (s.Ticks.Hi)])).symm (T.appendF (k := 1) (a := s) sl23 rfl rfl rfl rfl (by first | omega | (simp; done) | (simp; omega)) (by decide))) (by decide) (fun v105 => ?_)
              refine DW.x (V := Value.agg [v32, v105].toArray) rfl rfl (OpX.own1 (k := 2) rfl trivial (defdB rfl) fun ho106 => (OpX.own1 (k := 1) rfl trivial (defdB rfl) fun ho107 => (X.build Try.zeroValue25 Try.runUnderlying25 (places25 _ Try.underlying25) rfl (by simp only [Instr.fill, one_cells ho106, one_cells ho107]; rfl)))) (by decide) ?_
              refine DW.ts rfl rfl rfl rfl (OpTo.own1 (k := 2) rfl trivial (defd2 rfl rfl rfl) fun ho108 => (OpTo.own1 (k := 1) rfl trivial (defd2 rfl rfl rfl) fun ho109 => (T.storeBA (k := 0) Try.sizeOf25 rfl rfl rfl (one_cons ho108 (one_cons ho109 one_nil)) rfl rfl))) ?_
              refine DW.nil ?_
              refine WK.nThen ?_
              exact WK.meet (m95, b104, v32, v105) rfl (.refl _) (.cons rfl (.cons rfl .nil)) (Mem.le_trans hle31 hle96)
            refine DW.tn rfl rfl rfl (T.alloc Try.zeroValue25 rfl) (by decide) fun b110 => ?_
            refine DW.ta rfl rfl rfl rfl (T.appendFl (α := Stop) (fun _ _ _ h => h) (k := 1) sl23 rfl rfl hs25 rfl (by first | omega | (simp; omega)) (by first | omega | (simp; omega))) (by decide) (fun v111 => ?_)
            refine DW.ta rfl rfl rfl rfl (OpTo.perm (H' := [blk b93 34 [.int .i64 (s.Column), .int .i64 (s.Ticks.Lo), .int .i64 (s.Ticks.Hi)], blk b110 25 [.slice none 0 0, .slice none 0 0], rowF (v111) 34 ([] ++ d.Stops), rowF (v32) 31 ([] ++ d.Rates), blk b9 25 [.slice none 0 0, .slice none 0 0]]) (List.perm_middle (l₁ := [blk b110 25 [.slice none 0 0, .slice none 0 0], rowF (v111) 34 ([] ++ d.Stops)]) (l₂ := [rowF (v32) 31 ([] ++ d.Rates), blk b9 25 [.slice none 0 0, .slice none 0 0]]) (a := blk b93 34 [.int .i64 (s.Column), .int .i64 (s.Ticks.Lo), .int .i64 (s.Ticks.Hi)])).symm (T.appendF (k := 1) (a := s) sl23 rfl rfl rfl rfl (by first | omega | (simp; done) | (simp; omega)) (by decide))) (by decide) (fun v112 => ?_)
            refine DW.x (V := Value.agg [v32, v112].toArray) rfl rfl (OpX.own1 (k := 2) rfl trivial (defdB rfl) fun ho113 => (OpX.own1 (k := 1) rfl trivial (defdB rfl) fun ho114 => (X.build Try.zeroValue25 Try.runUnderlying25 (places25 _ Try.underlying25) rfl (by simp only [Instr.fill, one_cells ho113, one_cells ho114]; rfl)))) (by decide) ?_
            refine DW.ts rfl rfl rfl rfl (OpTo.own1 (k := 2) rfl trivial (defd2 rfl rfl rfl) fun ho115 => (OpTo.own1 (k := 1) rfl trivial (defd2 rfl rfl rfl) fun ho116 => (T.storeBA (k := 0) Try.sizeOf25 rfl rfl rfl (one_cons ho115 (one_cons ho116 one_nil)) rfl rfl))) ?_
            refine DW.nil ?_
            refine WK.nThen ?_
            exact WK.meet (m95, b110, v32, v112) rfl (.refl _) (.cons rfl (.cons rfl .nil)) (Mem.le_trans hle31 hle96)
          refine DW.tn rfl rfl rfl (T.alloc Try.zeroValue25 rfl) (by decide) fun b117 => ?_
          refine DW.tO rfl rfl rfl (OpTo.taO (T.lit0 (α := Stop) sl23 rfl)) (by decide) (fun m119 Es_ v118 hle120 hR_ => ?_)
          subst hR_
          replace hs2 := hs2.mono hle120
          replace hs4 := hs4.mono hle120
          replace hp14 := hp14.mono hle120
          replace hp17 := hp17.mono hle120
          replace hp19 := hp19.mono hle120
          replace hs21 := hs21.mono hle120
          replace hp23 := hp23.mono hle120
          replace hs25 := hs25.mono hle120
          refine DW.ta rfl rfl rfl rfl (T.appendFl (α := Stop) (fun _ _ _ h => h) (k := 0) sl23 rfl rfl hs25 rfl (by first | omega | (simp; omega)) (by first | omega | (simp; omega))) (by decide) (fun v121 => ?_)
          refine DW.ta rfl rfl rfl rfl (OpTo.perm (H' := [blk b93 34 [.int .i64 (s.Column), .int .i64 (s.Ticks.Lo), .int .i64 (s.Ticks.Hi)], rowF (v121) 34 ([] ++ d.Stops), blk b117 25 [.slice none 0 0, .slice none 0 0], rowF (v32) 31 ([] ++ d.Rates), blk b9 25 [.slice none 0 0, .slice none 0 0]]) (List.perm_middle (l₁ := [rowF (v121) 34 ([] ++ d.Stops), blk b117 25 [.slice none 0 0, .slice none 0 0]]) (l₂ := [rowF (v32) 31 ([] ++ d.Rates), blk b9 25 [.slice none 0 0, .slice none 0 0]]) (a := blk b93 34 [.int .i64 (s.Column), .int .i64 (s.Ticks.Lo), .int .i64 (s.Ticks.Hi)])).symm (T.appendF (k := 0) (a := s) sl23 rfl rfl rfl rfl (by first | omega | (simp; done) | (simp; omega)) (by decide))) (by decide) (fun v122 => ?_)
          refine DW.x (V := Value.agg [v32, v122].toArray) rfl rfl (OpX.own1 (k := 2) rfl trivial (defdB rfl) fun ho123 => (OpX.own1 (k := 0) rfl trivial (defdB rfl) fun ho124 => (X.build Try.zeroValue25 Try.runUnderlying25 (places25 _ Try.underlying25) rfl (by simp only [Instr.fill, one_cells ho123, one_cells ho124]; rfl)))) (by decide) ?_
          refine DW.ts rfl rfl rfl rfl (OpTo.own1 (k := 2) rfl trivial (defd2 rfl rfl rfl) fun ho125 => (OpTo.own1 (k := 0) rfl trivial (defd2 rfl rfl rfl) fun ho126 => (T.storeBA (k := 1) Try.sizeOf25 rfl rfl rfl (one_cons ho125 (one_cons ho126 one_nil)) rfl rfl))) ?_
          refine DW.nil ?_
          refine WK.nThen ?_
          refine WK.perm [blk b117 25 [v32, v122], rowF (v122) 34 (([] ++ d.Stops) ++ [s]), rowF (v32) 31 ([] ++ d.Rates), blk b9 25 [.slice none 0 0, .slice none 0 0]] ((List.Perm.cons _ (.refl _)).trans (List.perm_middle (l₁ := [rowF (v122) 34 (([] ++ d.Stops) ++ [s])]) (l₂ := [rowF (v32) 31 ([] ++ d.Rates), blk b9 25 [.slice none 0 0, .slice none 0 0]]) (a := blk b117 25 [v32, v122])).symm) ?_
          exact WK.meet (m119, b117, v32, v122) rfl (.refl _) (.cons rfl (.cons rfl .nil)) (Mem.le_trans hle31 hle120)
        refine DW.tn rfl rfl rfl (T.alloc Try.zeroValue25 rfl) (by decide) fun b127 => ?_
        refine DW.fork (List.cons_ne_nil _ _) ?_ ?_
        · refine DW.tO rfl rfl rfl (OpTo.taO (T.lit0 (α := Stop) sl23 rfl)) (by decide) (fun m129 Es_ v128 hle130 hR_ => ?_)
          subst hR_
          replace hs2 := hs2.mono hle130
          replace hs4 := hs4.mono hle130
          replace hp14 := hp14.mono hle130
          replace hp17 := hp17.mono hle130
          replace hp19 := hp19.mono hle130
          replace hs21 := hs21.mono hle130
          replace hp23 := hp23.mono hle130
          replace hs25 := hs25.mono hle130
          refine DW.fork (List.cons_ne_nil _ _) ?_ ?_
          · refine DW.ta rfl rfl rfl rfl (T.appendFl (α := Stop) (fun _ _ _ h => h) (k := 0) sl23 rfl rfl hs25 rfl (by first | omega | (simp; omega)) (by first | omega | (simp; omega))) (by decide) (fun v131 => ?_)
            refine DW.tl rfl rfl rfl (T.lit1 sl23 rfl rfl rfl (by decide)) (by decide) fun b132 => ?_
            refine DW.ta rfl rfl rfl rfl (T.appendF (k := 0) (a := s) sl23 rfl rfl rfl rfl (by first | omega | (simp; done) | (simp; omega)) (by decide)) (by decide) (fun v133 => ?_)
            refine DW.x (V := Value.agg [v32, v133].toArray) rfl rfl (OpX.own1 (k := 2) rfl trivial (defdB rfl) fun ho134 => (OpX.own1 (k := 0) rfl trivial (defdB rfl) fun ho135 => (X.build Try.zeroValue25 Try.runUnderlying25 (places25 _ Try.underlying25) rfl (by simp only [Instr.fill, one_cells ho134, one_cells ho135]; rfl)))) (by decide) ?_
            refine DW.ts rfl rfl rfl rfl (OpTo.own1 (k := 2) rfl trivial (defd2 rfl rfl rfl) fun ho136 => (OpTo.own1 (k := 0) rfl trivial (defd2 rfl rfl rfl) fun ho137 => (T.storeBA (k := 1) Try.sizeOf25 rfl rfl rfl (one_cons ho136 (one_cons ho137 one_nil)) rfl rfl))) ?_
            refine DW.nil ?_
            refine WK.nThen ?_
            refine WK.perm [blk b127 25 [v32, v133], rowF (v133) 34 (([] ++ d.Stops) ++ [s]), rowF (v32) 31 ([] ++ d.Rates), blk b9 25 [.slice none 0 0, .slice none 0 0]] ((List.Perm.cons _ (.refl _)).trans (List.perm_middle (l₁ := [rowF (v133) 34 (([] ++ d.Stops) ++ [s])]) (l₂ := [rowF (v32) 31 ([] ++ d.Rates), blk b9 25 [.slice none 0 0, .slice none 0 0]]) (a := blk b127 25 [v32, v133])).symm) ?_
            exact WK.meet (m129, b127, v32, v133) rfl (.refl _) (.cons rfl (.cons rfl .nil)) (Mem.le_trans hle31 hle130)
          refine DW.tl rfl rfl rfl (T.lit1 sl23 rfl rfl rfl (by decide)) (by decide) fun b138 => ?_
          refine DW.ta rfl rfl rfl rfl (T.appendFl (α := Stop) (fun _ _ _ h => h) (k := 1) sl23 rfl rfl hs25 rfl (by first | omega | (simp; omega)) (by first | omega | (simp; omega))) (by decide) (fun v139 => ?_)
          refine DW.ta rfl rfl rfl rfl (T.appendF (k := 0) (a := s) sl23 rfl rfl rfl rfl (by first | omega | (simp; done) | (simp; omega)) (by decide)) (by decide) (fun v140 => ?_)
          refine DW.x (V := Value.agg [v32, v140].toArray) rfl rfl (OpX.own1 (k := 2) rfl trivial (defdB rfl) fun ho141 => (OpX.own1 (k := 0) rfl trivial (defdB rfl) fun ho142 => (X.build Try.zeroValue25 Try.runUnderlying25 (places25 _ Try.underlying25) rfl (by simp only [Instr.fill, one_cells ho141, one_cells ho142]; rfl)))) (by decide) ?_
          refine DW.ts rfl rfl rfl rfl (OpTo.own1 (k := 2) rfl trivial (defd2 rfl rfl rfl) fun ho143 => (OpTo.own1 (k := 0) rfl trivial (defd2 rfl rfl rfl) fun ho144 => (T.storeBA (k := 1) Try.sizeOf25 rfl rfl rfl (one_cons ho143 (one_cons ho144 one_nil)) rfl rfl))) ?_
          refine DW.nil ?_
          refine WK.nThen ?_
          refine WK.perm [blk b127 25 [v32, v140], rowF (v140) 34 (([] ++ d.Stops) ++ [s]), rowF (v32) 31 ([] ++ d.Rates), blk b9 25 [.slice none 0 0, .slice none 0 0]] ((List.Perm.cons _ (.refl _)).trans (List.perm_middle (l₁ := [rowF (v140) 34 (([] ++ d.Stops) ++ [s])]) (l₂ := [rowF (v32) 31 ([] ++ d.Rates), blk b9 25 [.slice none 0 0, .slice none 0 0]]) (a := blk b127 25 [v32, v140])).symm) ?_
          exact WK.meet (m129, b127, v32, v140) rfl (.refl _) (.cons rfl (.cons rfl .nil)) (Mem.le_trans hle31 hle130)
        refine DW.tl rfl rfl rfl (T.lit1 sl23 rfl rfl rfl (by decide)) (by decide) fun b145 => ?_
        refine DW.tO rfl rfl rfl (OpTo.taO (T.lit0 (α := Stop) sl23 rfl)) (by decide) (fun m147 Es_ v146 hle148 hR_ => ?_)
        subst hR_
        replace hs2 := hs2.mono hle148
        replace hs4 := hs4.mono hle148
        replace hp14 := hp14.mono hle148
        replace hp17 := hp17.mono hle148
        replace hp19 := hp19.mono hle148
        replace hs21 := hs21.mono hle148
        replace hp23 := hp23.mono hle148
        replace hs25 := hs25.mono hle148
        refine DW.ta rfl rfl rfl rfl (T.appendFl (α := Stop) (fun _ _ _ h => h) (k := 0) sl23 rfl rfl hs25 rfl (by first | omega | (simp; omega)) (by first | omega | (simp; omega))) (by decide) (fun v149 => ?_)
        refine DW.ta rfl rfl rfl rfl (OpTo.perm (H' := [blk b145 34 [.int .i64 (s.Column), .int .i64 (s.Ticks.Lo), .int .i64 (s.Ticks.Hi)], rowF (v149) 34 ([] ++ d.Stops), blk b127 25 [.slice none 0 0, .slice none 0 0], rowF (v32) 31 ([] ++ d.Rates), blk b9 25 [.slice none 0 0, .slice none 0 0]]) (List.perm_middle (l₁ := [rowF (v149) 34 ([] ++ d.Stops)]) (l₂ := [blk b127 25 [.slice none 0 0, .slice none 0 0], rowF (v32) 31 ([] ++ d.Rates), blk b9 25 [.slice none 0 0, .slice none 0 0]]) (a := blk b145 34 [.int .i64 (s.Column), .int .i64 (s.Ticks.Lo), .int .i64 (s.Ticks.Hi)])).symm (T.appendF (k := 0) (a := s) sl23 rfl rfl rfl rfl (by first | omega | (simp; done) | (simp; omega)) (by decide))) (by decide) (fun v150 => ?_)
        refine DW.x (V := Value.agg [v32, v150].toArray) rfl rfl (OpX.own1 (k := 2) rfl trivial (defdB rfl) fun ho151 => (OpX.own1 (k := 0) rfl trivial (defdB rfl) fun ho152 => (X.build Try.zeroValue25 Try.runUnderlying25 (places25 _ Try.underlying25) rfl (by simp only [Instr.fill, one_cells ho151, one_cells ho152]; rfl)))) (by decide) ?_
        refine DW.ts rfl rfl rfl rfl (OpTo.own1 (k := 2) rfl trivial (defd2 rfl rfl rfl) fun ho153 => (OpTo.own1 (k := 0) rfl trivial (defd2 rfl rfl rfl) fun ho154 => (T.storeBA (k := 1) Try.sizeOf25 rfl rfl rfl (one_cons ho153 (one_cons ho154 one_nil)) rfl rfl))) ?_
        refine DW.nil ?_
        refine WK.nThen ?_
        refine WK.perm [blk b127 25 [v32, v150], rowF (v150) 34 (([] ++ d.Stops) ++ [s]), rowF (v32) 31 ([] ++ d.Rates), blk b9 25 [.slice none 0 0, .slice none 0 0]] ((List.Perm.cons _ (.refl _)).trans (List.perm_middle (l₁ := [rowF (v150) 34 (([] ++ d.Stops) ++ [s])]) (l₂ := [rowF (v32) 31 ([] ++ d.Rates), blk b9 25 [.slice none 0 0, .slice none 0 0]]) (a := blk b127 25 [v32, v150])).symm) ?_
        exact WK.meet (m147, b127, v32, v150) rfl (.refl _) (.cons rfl (.cons rfl .nil)) (Mem.le_trans hle31 hle148)
      refine DW.fork (List.cons_ne_nil _ _) ?_ ?_
      · refine DW.tO rfl rfl rfl (OpTo.taO (T.lit0 (α := Stop) sl23 rfl)) (by decide) (fun m156 Es_ v155 hle157 hR_ => ?_)
        subst hR_
        replace hs2 := hs2.mono hle157
        replace hs4 := hs4.mono hle157
        replace hp14 := hp14.mono hle157
        replace hp17 := hp17.mono hle157
        replace hp19 := hp19.mono hle157
        replace hs21 := hs21.mono hle157
        replace hp23 := hp23.mono hle157
        replace hs25 := hs25.mono hle157
        refine DW.fork (List.cons_ne_nil _ _) ?_ ?_
        · refine DW.ta rfl rfl rfl rfl (T.appendFl (α := Span) (fun _ _ _ h => h) (k := 1) sl22 rfl rfl hs21 rfl (by first | omega | (simp; omega)) (by first | omega | (simp; omega))) (by decide) (fun v158 => ?_)
          refine DW.fork (List.cons_ne_nil _ _) ?_ ?_
          · refine DW.ta rfl rfl rfl rfl (T.appendFl (α := Stop) (fun _ _ _ h => h) (k := 0) sl23 rfl rfl hs25 rfl (by first | omega | (simp; omega)) (by first | omega | (simp; omega))) (by decide) (fun v159 => ?_)
            refine DW.fork (List.cons_ne_nil _ _) ?_ ?_
            · refine DW.tl rfl rfl rfl (T.lit1 sl23 rfl rfl rfl (by decide)) (by decide) fun b160 => ?_
              refine DW.fork (List.cons_ne_nil _ _) ?_ ?_
              · refine DW.ta rfl rfl rfl rfl (T.appendF (k := 0) (a := s) sl23 rfl rfl rfl rfl (by first | omega | (simp; done) | (simp; omega)) (by decide)) (by decide) (fun v161 => ?_)
                refine DW.x (V := Value.agg [v158, v161].toArray) rfl rfl (OpX.own1 (k := 1) rfl trivial (defdB rfl) fun ho162 => (OpX.own1 (k := 0) rfl trivial (defdB rfl) fun ho163 => (X.build Try.zeroValue25 Try.runUnderlying25 (places25 _ Try.underlying25) rfl (by simp only [Instr.fill, one_cells ho162, one_cells ho163]; rfl)))) (by decide) ?_
                refine DW.tn rfl rfl rfl (T.alloc Try.zeroValue25 rfl) (by decide) fun b164 => ?_
                refine DW.ts rfl rfl rfl rfl (OpTo.own1 (k := 2) rfl trivial (defd2 rfl rfl rfl) fun ho165 => (OpTo.own1 (k := 1) rfl trivial (defd2 rfl rfl rfl) fun ho166 => (T.storeBA (k := 0) Try.sizeOf25 rfl rfl rfl (one_cons ho165 (one_cons ho166 one_nil)) rfl rfl))) ?_
                refine DW.nil ?_
                refine WK.nThen ?_
                exact WK.meet (m156, b164, v158, v161) rfl (.refl _) (.cons rfl (.cons rfl .nil)) (Mem.le_trans hle31 hle157)
              refine DW.tn rfl rfl rfl (T.alloc Try.zeroValue25 rfl) (by decide) fun b167 => ?_
              refine DW.ta rfl rfl rfl rfl (OpTo.perm (H' := [blk b160 34 [.int .i64 (s.Column), .int .i64 (s.Ticks.Lo), .int .i64 (s.Ticks.Hi)], blk b167 25 [.slice none 0 0, .slice none 0 0], rowF (v159) 34 ([] ++ d.Stops), rowF (v158) 31 ([] ++ d.Rates), blk b9 25 [.slice none 0 0, .slice none 0 0]]) (List.perm_middle (l₁ := [blk b167 25 [.slice none 0 0, .slice none 0 0]]) (l₂ := [rowF (v159) 34 ([] ++ d.Stops), rowF (v158) 31 ([] ++ d.Rates), blk b9 25 [.slice none 0 0, .slice none 0 0]]) (a := blk b160 34 [.int .i64 (s.Column), .int .i64 (s.Ticks.Lo), .int .i64 (s.Ticks.Hi)])).symm (T.appendF (k := 1) (a := s) sl23 rfl rfl rfl rfl (by first | omega | (simp; done) | (simp; omega)) (by decide))) (by decide) (fun v168 => ?_)
              refine DW.x (V := Value.agg [v158, v168].toArray) rfl rfl (OpX.own1 (k := 2) rfl trivial (defdB rfl) fun ho169 => (OpX.own1 (k := 1) rfl trivial (defdB rfl) fun ho170 => (X.build Try.zeroValue25 Try.runUnderlying25 (places25 _ Try.underlying25) rfl (by simp only [Instr.fill, one_cells ho169, one_cells ho170]; rfl)))) (by decide) ?_
              refine DW.ts rfl rfl rfl rfl (OpTo.own1 (k := 2) rfl trivial (defd2 rfl rfl rfl) fun ho171 => (OpTo.own1 (k := 1) rfl trivial (defd2 rfl rfl rfl) fun ho172 => (T.storeBA (k := 0) Try.sizeOf25 rfl rfl rfl (one_cons ho171 (one_cons ho172 one_nil)) rfl rfl))) ?_
              refine DW.nil ?_
              refine WK.nThen ?_
              exact WK.meet (m156, b167, v158, v168) rfl (.refl _) (.cons rfl (.cons rfl .nil)) (Mem.le_trans hle31 hle157)
            refine DW.tn rfl rfl rfl (T.alloc Try.zeroValue25 rfl) (by decide) fun b173 => ?_
            refine DW.tl rfl rfl rfl (T.lit1 sl23 rfl rfl rfl (by decide)) (by decide) fun b174 => ?_
            refine DW.ta rfl rfl rfl rfl (T.appendF (k := 1) (a := s) sl23 rfl rfl rfl rfl (by first | omega | (simp; done) | (simp; omega)) (by decide)) (by decide) (fun v175 => ?_)
            refine DW.x (V := Value.agg [v158, v175].toArray) rfl rfl (OpX.own1 (k := 2) rfl trivial (defdB rfl) fun ho176 => (OpX.own1 (k := 1) rfl trivial (defdB rfl) fun ho177 => (X.build Try.zeroValue25 Try.runUnderlying25 (places25 _ Try.underlying25) rfl (by simp only [Instr.fill, one_cells ho176, one_cells ho177]; rfl)))) (by decide) ?_
            refine DW.ts rfl rfl rfl rfl (OpTo.own1 (k := 2) rfl trivial (defd2 rfl rfl rfl) fun ho178 => (OpTo.own1 (k := 1) rfl trivial (defd2 rfl rfl rfl) fun ho179 => (T.storeBA (k := 0) Try.sizeOf25 rfl rfl rfl (one_cons ho178 (one_cons ho179 one_nil)) rfl rfl))) ?_
            refine DW.nil ?_
            refine WK.nThen ?_
            exact WK.meet (m156, b173, v158, v175) rfl (.refl _) (.cons rfl (.cons rfl .nil)) (Mem.le_trans hle31 hle157)
          refine DW.fork (List.cons_ne_nil _ _) ?_ ?_
          · refine DW.tl rfl rfl rfl (T.lit1 sl23 rfl rfl rfl (by decide)) (by decide) fun b180 => ?_
            refine DW.fork (List.cons_ne_nil _ _) ?_ ?_
            · refine DW.ta rfl rfl rfl rfl (T.appendFl (α := Stop) (fun _ _ _ h => h) (k := 1) sl23 rfl rfl hs25 rfl (by first | omega | (simp; omega)) (by first | omega | (simp; omega))) (by decide) (fun v181 => ?_)
              refine DW.fork (List.cons_ne_nil _ _) ?_ ?_
              · refine DW.ta rfl rfl rfl rfl (T.appendF (k := 0) (a := s) sl23 rfl rfl rfl rfl (by first | omega | (simp; done) | (simp; omega)) (by decide)) (by decide) (fun v182 => ?_)
                refine DW.x (V := Value.agg [v158, v182].toArray) rfl rfl (OpX.own1 (k := 1) rfl trivial (defdB rfl) fun ho183 => (OpX.own1 (k := 0) rfl trivial (defdB rfl) fun ho184 => (X.build Try.zeroValue25 Try.runUnderlying25 (places25 _ Try.underlying25) rfl (by simp only [Instr.fill, one_cells ho183, one_cells ho184]; rfl)))) (by decide) ?_
                refine DW.tn rfl rfl rfl (T.alloc Try.zeroValue25 rfl) (by decide) fun b185 => ?_
                refine DW.ts rfl rfl rfl rfl (OpTo.own1 (k := 2) rfl trivial (defd2 rfl rfl rfl) fun ho186 => (OpTo.own1 (k := 1) rfl trivial (defd2 rfl rfl rfl) fun ho187 => (T.storeBA (k := 0) Try.sizeOf25 rfl rfl rfl (one_cons ho186 (one_cons ho187 one_nil)) rfl rfl))) ?_
                refine DW.nil ?_
                refine WK.nThen ?_
                exact WK.meet (m156, b185, v158, v182) rfl (.refl _) (.cons rfl (.cons rfl .nil)) (Mem.le_trans hle31 hle157)
              refine DW.tn rfl rfl rfl (T.alloc Try.zeroValue25 rfl) (by decide) fun b188 => ?_
              refine DW.ta rfl rfl rfl rfl (OpTo.perm (H' := [blk b180 34 [.int .i64 (s.Column), .int .i64 (s.Ticks.Lo), .int .i64 (s.Ticks.Hi)], blk b188 25 [.slice none 0 0, .slice none 0 0], rowF (v181) 34 ([] ++ d.Stops), rowF (v158) 31 ([] ++ d.Rates), blk b9 25 [.slice none 0 0, .slice none 0 0]]) (List.perm_middle (l₁ := [blk b188 25 [.slice none 0 0, .slice none 0 0]]) (l₂ := [rowF (v181) 34 ([] ++ d.Stops), rowF (v158) 31 ([] ++ d.Rates), blk b9 25 [.slice none 0 0, .slice none 0 0]]) (a := blk b180 34 [.int .i64 (s.Column), .int .i64 (s.Ticks.Lo), .int .i64 (s.Ticks.Hi)])).symm (T.appendF (k := 1) (a := s) sl23 rfl rfl rfl rfl (by first | omega | (simp; done) | (simp; omega)) (by decide))) (by decide) (fun v189 => ?_)
              refine DW.x (V := Value.agg [v158, v189].toArray) rfl rfl (OpX.own1 (k := 2) rfl trivial (defdB rfl) fun ho190 => (OpX.own1 (k := 1) rfl trivial (defdB rfl) fun ho191 => (X.build Try.zeroValue25 Try.runUnderlying25 (places25 _ Try.underlying25) rfl (by simp only [Instr.fill, one_cells ho190, one_cells ho191]; rfl)))) (by decide) ?_
              refine DW.ts rfl rfl rfl rfl (OpTo.own1 (k := 2) rfl trivial (defd2 rfl rfl rfl) fun ho192 => (OpTo.own1 (k := 1) rfl trivial (defd2 rfl rfl rfl) fun ho193 => (T.storeBA (k := 0) Try.sizeOf25 rfl rfl rfl (one_cons ho192 (one_cons ho193 one_nil)) rfl rfl))) ?_
              refine DW.nil ?_
              refine WK.nThen ?_
              exact WK.meet (m156, b188, v158, v189) rfl (.refl _) (.cons rfl (.cons rfl .nil)) (Mem.le_trans hle31 hle157)
            refine DW.tn rfl rfl rfl (T.alloc Try.zeroValue25 rfl) (by decide) fun b194 => ?_
            refine DW.ta rfl rfl rfl rfl (T.appendFl (α := Stop) (fun _ _ _ h => h) (k := 2) sl23 rfl rfl hs25 rfl (by first | omega | (simp; omega)) (by first | omega | (simp; omega))) (by decide) (fun v195 => ?_)
            refine DW.ta rfl rfl rfl rfl (OpTo.perm (H' := [blk b180 34 [.int .i64 (s.Column), .int .i64 (s.Ticks.Lo), .int .i64 (s.Ticks.Hi)], blk b194 25 [.slice none 0 0, .slice none 0 0], rowF (v195) 34 ([] ++ d.Stops), rowF (v158) 31 ([] ++ d.Rates), blk b9 25 [.slice none 0 0, .slice none 0 0]]) (List.perm_middle (l₁ := [blk b194 25 [.slice none 0 0, .slice none 0 0]]) (l₂ := [rowF (v195) 34 ([] ++ d.Stops), rowF (v158) 31 ([] ++ d.Rates), blk b9 25 [.slice none 0 0, .slice none 0 0]]) (a := blk b180 34 [.int .i64 (s.Column), .int .i64 (s.Ticks.Lo), .int .i64 (s.Ticks.Hi)])).symm (T.appendF (k := 1) (a := s) sl23 rfl rfl rfl rfl (by first | omega | (simp; done) | (simp; omega)) (by decide))) (by decide) (fun v196 => ?_)
            refine DW.x (V := Value.agg [v158, v196].toArray) rfl rfl (OpX.own1 (k := 2) rfl trivial (defdB rfl) fun ho197 => (OpX.own1 (k := 1) rfl trivial (defdB rfl) fun ho198 => (X.build Try.zeroValue25 Try.runUnderlying25 (places25 _ Try.underlying25) rfl (by simp only [Instr.fill, one_cells ho197, one_cells ho198]; rfl)))) (by decide) ?_
            refine DW.ts rfl rfl rfl rfl (OpTo.own1 (k := 2) rfl trivial (defd2 rfl rfl rfl) fun ho199 => (OpTo.own1 (k := 1) rfl trivial (defd2 rfl rfl rfl) fun ho200 => (T.storeBA (k := 0) Try.sizeOf25 rfl rfl rfl (one_cons ho199 (one_cons ho200 one_nil)) rfl rfl))) ?_
            refine DW.nil ?_
            refine WK.nThen ?_
            exact WK.meet (m156, b194, v158, v196) rfl (.refl _) (.cons rfl (.cons rfl .nil)) (Mem.le_trans hle31 hle157)
          refine DW.tn rfl rfl rfl (T.alloc Try.zeroValue25 rfl) (by decide) fun b201 => ?_
          refine DW.fork (List.cons_ne_nil _ _) ?_ ?_
          · refine DW.ta rfl rfl rfl rfl (T.appendFl (α := Stop) (fun _ _ _ h => h) (k := 1) sl23 rfl rfl hs25 rfl (by first | omega | (simp; omega)) (by first | omega | (simp; omega))) (by decide) (fun v202 => ?_)
            refine DW.tl rfl rfl rfl (T.lit1 sl23 rfl rfl rfl (by decide)) (by decide) fun b203 => ?_
            refine DW.ta rfl rfl rfl rfl (T.appendF (k := 1) (a := s) sl23 rfl rfl rfl rfl (by first | omega | (simp; done) | (simp; omega)) (by decide)) (by decide) (fun v204 => ?_)
            refine DW.x (V := Value.agg [v158, v204].toArray) rfl rfl (OpX.own1 (k := 2) rfl trivial (defdB rfl) fun ho205 => (OpX.own1 (k := 1) rfl trivial (defdB rfl) fun ho206 => (X.build Try.zeroValue25 Try.runUnderlying25 (places25 _ Try.underlying25) rfl (by simp only [Instr.fill, one_cells ho205, one_cells ho206]; rfl)))) (by decide) ?_
            refine DW.ts rfl rfl rfl rfl (OpTo.own1 (k := 2) rfl trivial (defd2 rfl rfl rfl) fun ho207 => (OpTo.own1 (k := 1) rfl trivial (defd2 rfl rfl rfl) fun ho208 => (T.storeBA (k := 0) Try.sizeOf25 rfl rfl rfl (one_cons ho207 (one_cons ho208 one_nil)) rfl rfl))) ?_
            refine DW.nil ?_
            refine WK.nThen ?_
            exact WK.meet (m156, b201, v158, v204) rfl (.refl _) (.cons rfl (.cons rfl .nil)) (Mem.le_trans hle31 hle157)
          refine DW.tl rfl rfl rfl (T.lit1 sl23 rfl rfl rfl (by decide)) (by decide) fun b209 => ?_
          refine DW.ta rfl rfl rfl rfl (T.appendFl (α := Stop) (fun _ _ _ h => h) (k := 2) sl23 rfl rfl hs25 rfl (by first | omega | (simp; omega)) (by first | omega | (simp; omega))) (by decide) (fun v210 => ?_)
          refine DW.ta rfl rfl rfl rfl (T.appendF (k := 1) (a := s) sl23 rfl rfl rfl rfl (by first | omega | (simp; done) | (simp; omega)) (by decide)) (by decide) (fun v211 => ?_)
          refine DW.x (V := Value.agg [v158, v211].toArray) rfl rfl (OpX.own1 (k := 2) rfl trivial (defdB rfl) fun ho212 => (OpX.own1 (k := 1) rfl trivial (defdB rfl) fun ho213 => (X.build Try.zeroValue25 Try.runUnderlying25 (places25 _ Try.underlying25) rfl (by simp only [Instr.fill, one_cells ho212, one_cells ho213]; rfl)))) (by decide) ?_
          refine DW.ts rfl rfl rfl rfl (OpTo.own1 (k := 2) rfl trivial (defd2 rfl rfl rfl) fun ho214 => (OpTo.own1 (k := 1) rfl trivial (defd2 rfl rfl rfl) fun ho215 => (T.storeBA (k := 0) Try.sizeOf25 rfl rfl rfl (one_cons ho214 (one_cons ho215 one_nil)) rfl rfl))) ?_
          refine DW.nil ?_
          refine WK.nThen ?_
          exact WK.meet (m156, b201, v158, v211) rfl (.refl _) (.cons rfl (.cons rfl .nil)) (Mem.le_trans hle31 hle157)
        refine DW.fork (List.cons_ne_nil _ _) ?_ ?_
        · refine DW.tl rfl rfl rfl (T.lit1 sl23 rfl rfl rfl (by decide)) (by decide) fun b216 => ?_
          refine DW.fork (List.cons_ne_nil _ _) ?_ ?_
          · refine DW.ta rfl rfl rfl rfl (T.appendFl (α := Span) (fun _ _ _ h => h) (k := 2) sl22 rfl rfl hs21 rfl (by first | omega | (simp; omega)) (by first | omega | (simp; omega))) (by decide) (fun v217 => ?_)
            refine DW.fork (List.cons_ne_nil _ _) ?_ ?_
            · refine DW.ta rfl rfl rfl rfl (T.appendFl (α := Stop) (fun _ _ _ h => h) (k := 1) sl23 rfl rfl hs25 rfl (by first | omega | (simp; omega)) (by first | omega | (simp; omega))) (by decide) (fun v218 => ?_)
              refine DW.fork (List.cons_ne_nil _ _) ?_ ?_
              · refine DW.ta rfl rfl rfl rfl (T.appendF (k := 0) (a := s) sl23 rfl rfl rfl rfl (by first | omega | (simp; done) | (simp; omega)) (by decide)) (by decide) (fun v219 => ?_)
                refine DW.x (V := Value.agg [v217, v219].toArray) rfl rfl (OpX.own1 (k := 1) rfl trivial (defdB rfl) fun ho220 => (OpX.own1 (k := 0) rfl trivial (defdB rfl) fun ho221 => (X.build Try.zeroValue25 Try.runUnderlying25 (places25 _ Try.underlying25) rfl (by simp only [Instr.fill, one_cells ho220, one_cells ho221]; rfl)))) (by decide) ?_
                refine DW.tn rfl rfl rfl (T.alloc Try.zeroValue25 rfl) (by decide) fun b222 => ?_
                refine DW.ts rfl rfl rfl rfl (OpTo.own1 (k := 2) rfl trivial (defd2 rfl rfl rfl) fun ho223 => (OpTo.own1 (k := 1) rfl trivial (defd2 rfl rfl rfl) fun ho224 => (T.storeBA (k := 0) Try.sizeOf25 rfl rfl rfl (one_cons ho223 (one_cons ho224 one_nil)) rfl rfl))) ?_
                refine DW.nil ?_
                refine WK.nThen ?_
                exact WK.meet (m156, b222, v217, v219) rfl (.refl _) (.cons rfl (.cons rfl .nil)) (Mem.le_trans hle31 hle157)
              refine DW.tn rfl rfl rfl (T.alloc Try.zeroValue25 rfl) (by decide) fun b225 => ?_
              refine DW.ta rfl rfl rfl rfl (OpTo.perm (H' := [blk b216 34 [.int .i64 (s.Column), .int .i64 (s.Ticks.Lo), .int .i64 (s.Ticks.Hi)], blk b225 25 [.slice none 0 0, .slice none 0 0], rowF (v218) 34 ([] ++ d.Stops), rowF (v217) 31 ([] ++ d.Rates), blk b9 25 [.slice none 0 0, .slice none 0 0]]) (List.perm_middle (l₁ := [blk b225 25 [.slice none 0 0, .slice none 0 0]]) (l₂ := [rowF (v218) 34 ([] ++ d.Stops), rowF (v217) 31 ([] ++ d.Rates), blk b9 25 [.slice none 0 0, .slice none 0 0]]) (a := blk b216 34 [.int .i64 (s.Column), .int .i64 (s.Ticks.Lo), .int .i64 (s.Ticks.Hi)])).symm (T.appendF (k := 1) (a := s) sl23 rfl rfl rfl rfl (by first | omega | (simp; done) | (simp; omega)) (by decide))) (by decide) (fun v226 => ?_)
              refine DW.x (V := Value.agg [v217, v226].toArray) rfl rfl (OpX.own1 (k := 2) rfl trivial (defdB rfl) fun ho227 => (OpX.own1 (k := 1) rfl trivial (defdB rfl) fun ho228 => (X.build Try.zeroValue25 Try.runUnderlying25 (places25 _ Try.underlying25) rfl (by simp only [Instr.fill, one_cells ho227, one_cells ho228]; rfl)))) (by decide) ?_
              refine DW.ts rfl rfl rfl rfl (OpTo.own1 (k := 2) rfl trivial (defd2 rfl rfl rfl) fun ho229 => (OpTo.own1 (k := 1) rfl trivial (defd2 rfl rfl rfl) fun ho230 => (T.storeBA (k := 0) Try.sizeOf25 rfl rfl rfl (one_cons ho229 (one_cons ho230 one_nil)) rfl rfl))) ?_
              refine DW.nil ?_
              refine WK.nThen ?_
              exact WK.meet (m156, b225, v217, v226) rfl (.refl _) (.cons rfl (.cons rfl .nil)) (Mem.le_trans hle31 hle157)
            refine DW.tn rfl rfl rfl (T.alloc Try.zeroValue25 rfl) (by decide) fun b231 => ?_
            refine DW.ta rfl rfl rfl rfl (T.appendFl (α := Stop) (fun _ _ _ h => h) (k := 2) sl23 rfl rfl hs25 rfl (by first | omega | (simp; omega)) (by first | omega | (simp; omega))) (by decide) (fun v232 => ?_)
            refine DW.ta rfl rfl rfl rfl (OpTo.perm (H' := [blk b216 34 [.int .i64 (s.Column), .int .i64 (s.Ticks.Lo), .int .i64 (s.Ticks.Hi)], blk b231 25 [.slice none 0 0, .slice none 0 0], rowF (v232) 34 ([] ++ d.Stops), rowF (v217) 31 ([] ++ d.Rates), blk b9 25 [.slice none 0 0, .slice none 0 0]]) (List.perm_middle (l₁ := [blk b231 25 [.slice none 0 0, .slice none 0 0]]) (l₂ := [rowF (v232) 34 ([] ++ d.Stops), rowF (v217) 31 ([] ++ d.Rates), blk b9 25 [.slice none 0 0, .slice none 0 0]]) (a := blk b216 34 [.int .i64 (s.Column), .int .i64 (s.Ticks.Lo), .int .i64 (s.Ticks.Hi)])).symm (T.appendF (k := 1) (a := s) sl23 rfl rfl rfl rfl (by first | omega | (simp; done) | (simp; omega)) (by decide))) (by decide) (fun v233 => ?_)
            refine DW.x (V := Value.agg [v217, v233].toArray) rfl rfl (OpX.own1 (k := 2) rfl trivial (defdB rfl) fun ho234 => (OpX.own1 (k := 1) rfl trivial (defdB rfl) fun ho235 => (X.build Try.zeroValue25 Try.runUnderlying25 (places25 _ Try.underlying25) rfl (by simp only [Instr.fill, one_cells ho234, one_cells ho235]; rfl)))) (by decide) ?_
            refine DW.ts rfl rfl rfl rfl (OpTo.own1 (k := 2) rfl trivial (defd2 rfl rfl rfl) fun ho236 => (OpTo.own1 (k := 1) rfl trivial (defd2 rfl rfl rfl) fun ho237 => (T.storeBA (k := 0) Try.sizeOf25 rfl rfl rfl (one_cons ho236 (one_cons ho237 one_nil)) rfl rfl))) ?_
            refine DW.nil ?_
            refine WK.nThen ?_
            exact WK.meet (m156, b231, v217, v233) rfl (.refl _) (.cons rfl (.cons rfl .nil)) (Mem.le_trans hle31 hle157)
          refine DW.tn rfl rfl rfl (T.alloc Try.zeroValue25 rfl) (by decide) fun b238 => ?_
          refine DW.ta rfl rfl rfl rfl (T.appendFl (α := Span) (fun _ _ _ h => h) (k := 3) sl22 rfl rfl hs21 rfl (by first | omega | (simp; omega)) (by first | omega | (simp; omega))) (by decide) (fun v239 => ?_)
          refine DW.ta rfl rfl rfl rfl (T.appendFl (α := Stop) (fun _ _ _ h => h) (k := 2) sl23 rfl rfl hs25 rfl (by first | omega | (simp; omega)) (by first | omega | (simp; omega))) (by decide) (fun v240 => ?_)
          refine DW.ta rfl rfl rfl rfl (OpTo.perm (H' := [blk b216 34 [.int .i64 (s.Column), .int .i64 (s.Ticks.Lo), .int .i64 (s.Ticks.Hi)], blk b238 25 [.slice none 0 0, .slice none 0 0], rowF (v240) 34 ([] ++ d.Stops), rowF (v239) 31 ([] ++ d.Rates), blk b9 25 [.slice none 0 0, .slice none 0 0]]) (List.perm_middle (l₁ := [blk b238 25 [.slice none 0 0, .slice none 0 0]]) (l₂ := [rowF (v240) 34 ([] ++ d.Stops), rowF (v239) 31 ([] ++ d.Rates), blk b9 25 [.slice none 0 0, .slice none 0 0]]) (a := blk b216 34 [.int .i64 (s.Column), .int .i64 (s.Ticks.Lo), .int .i64 (s.Ticks.Hi)])).symm (T.appendF (k := 1) (a := s) sl23 rfl rfl rfl rfl (by first | omega | (simp; done) | (simp; omega)) (by decide))) (by decide) (fun v241 => ?_)
          refine DW.x (V := Value.agg [v239, v241].toArray) rfl rfl (OpX.own1 (k := 2) rfl trivial (defdB rfl) fun ho242 => (OpX.own1 (k := 1) rfl trivial (defdB rfl) fun ho243 => (X.build Try.zeroValue25 Try.runUnderlying25 (places25 _ Try.underlying25) rfl (by simp only [Instr.fill, one_cells ho242, one_cells ho243]; rfl)))) (by decide) ?_
          refine DW.ts rfl rfl rfl rfl (OpTo.own1 (k := 2) rfl trivial (defd2 rfl rfl rfl) fun ho244 => (OpTo.own1 (k := 1) rfl trivial (defd2 rfl rfl rfl) fun ho245 => (T.storeBA (k := 0) Try.sizeOf25 rfl rfl rfl (one_cons ho244 (one_cons ho245 one_nil)) rfl rfl))) ?_
          refine DW.nil ?_
          refine WK.nThen ?_
          exact WK.meet (m156, b238, v239, v241) rfl (.refl _) (.cons rfl (.cons rfl .nil)) (Mem.le_trans hle31 hle157)
        refine DW.tn rfl rfl rfl (T.alloc Try.zeroValue25 rfl) (by decide) fun b246 => ?_
        refine DW.fork (List.cons_ne_nil _ _) ?_ ?_
        · refine DW.ta rfl rfl rfl rfl (T.appendFl (α := Span) (fun _ _ _ h => h) (k := 2) sl22 rfl rfl hs21 rfl (by first | omega | (simp; omega)) (by first | omega | (simp; omega))) (by decide) (fun v247 => ?_)
          refine DW.fork (List.cons_ne_nil _ _) ?_ ?_
          · refine DW.ta rfl rfl rfl rfl (T.appendFl (α := Stop) (fun _ _ _ h => h) (k := 1) sl23 rfl rfl hs25 rfl (by first | omega | (simp; omega)) (by first | omega | (simp; omega))) (by decide) (fun v248 => ?_)
            refine DW.tl rfl rfl rfl (T.lit1 sl23 rfl rfl rfl (by decide)) (by decide) fun b249 => ?_
            refine DW.ta rfl rfl rfl rfl (T.appendF (k := 1) (a := s) sl23 rfl rfl rfl rfl (by first | omega | (simp; done) | (simp; omega)) (by decide)) (by decide) (fun v250 => ?_)
            refine DW.x (V := Value.agg [v247, v250].toArray) rfl rfl (OpX.own1 (k := 2) rfl trivial (defdB rfl) fun ho251 => (OpX.own1 (k := 1) rfl trivial (defdB rfl) fun ho252 => (X.build Try.zeroValue25 Try.runUnderlying25 (places25 _ Try.underlying25) rfl (by simp only [Instr.fill, one_cells ho251, one_cells ho252]; rfl)))) (by decide) ?_
            refine DW.ts rfl rfl rfl rfl (OpTo.own1 (k := 2) rfl trivial (defd2 rfl rfl rfl) fun ho253 => (OpTo.own1 (k := 1) rfl trivial (defd2 rfl rfl rfl) fun ho254 => (T.storeBA (k := 0) Try.sizeOf25 rfl rfl rfl (one_cons ho253 (one_cons ho254 one_nil)) rfl rfl))) ?_
            refine DW.nil ?_
            refine WK.nThen ?_
            exact WK.meet (m156, b246, v247, v250) rfl (.refl _) (.cons rfl (.cons rfl .nil)) (Mem.le_trans hle31 hle157)
          refine DW.tl rfl rfl rfl (T.lit1 sl23 rfl rfl rfl (by decide)) (by decide) fun b255 => ?_
          refine DW.ta rfl rfl rfl rfl (T.appendFl (α := Stop) (fun _ _ _ h => h) (k := 2) sl23 rfl rfl hs25 rfl (by first | omega | (simp; omega)) (by first | omega | (simp; omega))) (by decide) (fun v256 => ?_)
          refine DW.ta rfl rfl rfl rfl (T.appendF (k := 1) (a := s) sl23 rfl rfl rfl rfl (by first | omega | (simp; done) | (simp; omega)) (by decide)) (by decide) (fun v257 => ?_)
          refine DW.x (V := Value.agg [v247, v257].toArray) rfl rfl (OpX.own1 (k := 2) rfl trivial (defdB rfl) fun ho258 => (OpX.own1 (k := 1) rfl trivial (defdB rfl) fun ho259 => (X.build Try.zeroValue25 Try.runUnderlying25 (places25 _ Try.underlying25) rfl (by simp only [Instr.fill, one_cells ho258, one_cells ho259]; rfl)))) (by decide) ?_
          refine DW.ts rfl rfl rfl rfl (OpTo.own1 (k := 2) rfl trivial (defd2 rfl rfl rfl) fun ho260 => (OpTo.own1 (k := 1) rfl trivial (defd2 rfl rfl rfl) fun ho261 => (T.storeBA (k := 0) Try.sizeOf25 rfl rfl rfl (one_cons ho260 (one_cons ho261 one_nil)) rfl rfl))) ?_
          refine DW.nil ?_
          refine WK.nThen ?_
          exact WK.meet (m156, b246, v247, v257) rfl (.refl _) (.cons rfl (.cons rfl .nil)) (Mem.le_trans hle31 hle157)
        refine DW.tl rfl rfl rfl (T.lit1 sl23 rfl rfl rfl (by decide)) (by decide) fun b262 => ?_
        refine DW.ta rfl rfl rfl rfl (T.appendFl (α := Span) (fun _ _ _ h => h) (k := 3) sl22 rfl rfl hs21 rfl (by first | omega | (simp; omega)) (by first | omega | (simp; omega))) (by decide) (fun v263 => ?_)
        refine DW.ta rfl rfl rfl rfl (T.appendFl (α := Stop) (fun _ _ _ h => h) (k := 2) sl23 rfl rfl hs25 rfl (by first | omega | (simp; omega)) (by first | omega | (simp; omega))) (by decide) (fun v264 => ?_)
        refine DW.ta rfl rfl rfl rfl (T.appendF (k := 1) (a := s) sl23 rfl rfl rfl rfl (by first | omega | (simp; done) | (simp; omega)) (by decide)) (by decide) (fun v265 => ?_)
        refine DW.x (V := Value.agg [v263, v265].toArray) rfl rfl (OpX.own1 (k := 2) rfl trivial (defdB rfl) fun ho266 => (OpX.own1 (k := 1) rfl trivial (defdB rfl) fun ho267 => (X.build Try.zeroValue25 Try.runUnderlying25 (places25 _ Try.underlying25) rfl (by simp only [Instr.fill, one_cells ho266, one_cells ho267]; rfl)))) (by decide) ?_
        refine DW.ts rfl rfl rfl rfl (OpTo.own1 (k := 2) rfl trivial (defd2 rfl rfl rfl) fun ho268 => (OpTo.own1 (k := 1) rfl trivial (defd2 rfl rfl rfl) fun ho269 => (T.storeBA (k := 0) Try.sizeOf25 rfl rfl rfl (one_cons ho268 (one_cons ho269 one_nil)) rfl rfl))) ?_
        refine DW.nil ?_
        refine WK.nThen ?_
        exact WK.meet (m156, b246, v263, v265) rfl (.refl _) (.cons rfl (.cons rfl .nil)) (Mem.le_trans hle31 hle157)
      refine DW.fork (List.cons_ne_nil _ _) ?_ ?_
      · refine DW.tl rfl rfl rfl (T.lit1 sl23 rfl rfl rfl (by decide)) (by decide) fun b270 => ?_
        refine DW.fork (List.cons_ne_nil _ _) ?_ ?_
        · refine DW.ta rfl rfl rfl rfl (T.appendFl (α := Span) (fun _ _ _ h => h) (k := 1) sl22 rfl rfl hs21 rfl (by first | omega | (simp; omega)) (by first | omega | (simp; omega))) (by decide) (fun v271 => ?_)
          refine DW.fork (List.cons_ne_nil _ _) ?_ ?_
          · refine DW.tO rfl rfl rfl (OpTo.taO (T.lit0 (α := Stop) sl23 rfl)) (by decide) (fun m273 Es_ v272 hle274 hR_ => ?_)
            subst hR_
            replace hs2 := hs2.mono hle274
            replace hs4 := hs4.mono hle274
            replace hp14 := hp14.mono hle274
            replace hp17 := hp17.mono hle274
            replace hp19 := hp19.mono hle274
            replace hs21 := hs21.mono hle274
            replace hp23 := hp23.mono hle274
            replace hs25 := hs25.mono hle274
            refine DW.fork (List.cons_ne_nil _ _) ?_ ?_
            · refine DW.ta rfl rfl rfl rfl (T.appendFl (α := Stop) (fun _ _ _ h => h) (k := 0) sl23 rfl rfl hs25 rfl (by first | omega | (simp; omega)) (by first | omega | (simp; omega))) (by decide) (fun v275 => ?_)
              refine DW.fork (List.cons_ne_nil _ _) ?_ ?_
              · refine DW.ta rfl rfl rfl rfl (OpTo.perm (H' := [blk b270 34 [.int .i64 (s.Column), .int .i64 (s.Ticks.Lo), .int .i64 (s.Ticks.Hi)], rowF (v275) 34 ([] ++ d.Stops), rowF (v271) 31 ([] ++ d.Rates), blk b9 25 [.slice none 0 0, .slice none 0 0]]) (List.perm_middle (l₁ := [rowF (v275) 34 ([] ++ d.Stops)]) (l₂ := [rowF (v271) 31 ([] ++ d.Rates), blk b9 25 [.slice none 0 0, .slice none 0 0]]) (a := blk b270 34 [.int .i64 (s.Column), .int .i64 (s.Ticks.Lo), .int .i64 (s.Ticks.Hi)])).symm (T.appendF (k := 0) (a := s) sl23 rfl rfl rfl rfl (by first | omega | (simp; done) | (simp; omega)) (by decide))) (by decide) (fun v276 => ?_)
                refine DW.x (V := Value.agg [v271, v276].toArray) rfl rfl (OpX.own1 (k := 1) rfl trivial (defdB rfl) fun ho277 => (OpX.own1 (k := 0) rfl trivial (defdB rfl) fun ho278 => (X.build Try.zeroValue25 Try.runUnderlying25 (places25 _ Try.underlying25) rfl (by simp only [Instr.fill, one_cells ho277, one_cells ho278]; rfl)))) (by decide) ?_
                refine DW.tn rfl rfl rfl (T.alloc Try.zeroValue25 rfl) (by decide) fun b279 => ?_
                refine DW.ts rfl rfl rfl rfl (OpTo.own1 (k := 2) rfl trivial (defd2 rfl rfl rfl) fun ho280 => (OpTo.own1 (k := 1) rfl trivial (defd2 rfl rfl rfl) fun ho281 => (T.storeBA (k := 0) Try.sizeOf25 rfl rfl rfl (one_cons ho280 (one_cons ho281 one_nil)) rfl rfl))) ?_
                refine DW.nil ?_
                refine WK.nThen ?_
                exact WK.meet (m273, b279, v271, v276) rfl (.refl _) (.cons rfl (.cons rfl .nil)) (Mem.le_trans hle31 hle274)
              refine DW.tn rfl rfl rfl (T.alloc Try.zeroValue25 rfl) (by decide) fun b282 => ?_
              refine DW.ta rfl rfl rfl rfl (OpTo.perm (H' := [blk b270 34 [.int .i64 (s.Column), .int .i64 (s.Ticks.Lo), .int .i64 (s.Ticks.Hi)], blk b282 25 [.slice none 0 0, .slice none 0 0], rowF (v275) 34 ([] ++ d.Stops), rowF (v271) 31 ([] ++ d.Rates), blk b9 25 [.slice none 0 0, .slice none 0 0]]) (List.perm_middle (l₁ := [blk b282 25 [.slice none 0 0, .slice none 0 0], rowF (v275) 34 ([] ++ d.Stops)]) (l₂ := [rowF (v271) 31 ([] ++ d.Rates), blk b9 25 [.slice none 0 0, .slice none 0 0]]) (a := blk b270 34 [.int .i64 (s.Column), .int .i64 (s.Ticks.Lo), .int .i64 (s.Ticks.Hi)])).symm (T.appendF (k := 1) (a := s) sl23 rfl rfl rfl rfl (by first | omega | (simp; done) | (simp; omega)) (by decide))) (by decide) (fun v283 => ?_)
              refine DW.x (V := Value.agg [v271, v283].toArray) rfl rfl (OpX.own1 (k := 2) rfl trivial (defdB rfl) fun ho284 => (OpX.own1 (k := 1) rfl trivial (defdB rfl) fun ho285 => (X.build Try.zeroValue25 Try.runUnderlying25 (places25 _ Try.underlying25) rfl (by simp only [Instr.fill, one_cells ho284, one_cells ho285]; rfl)))) (by decide) ?_
              refine DW.ts rfl rfl rfl rfl (OpTo.own1 (k := 2) rfl trivial (defd2 rfl rfl rfl) fun ho286 => (OpTo.own1 (k := 1) rfl trivial (defd2 rfl rfl rfl) fun ho287 => (T.storeBA (k := 0) Try.sizeOf25 rfl rfl rfl (one_cons ho286 (one_cons ho287 one_nil)) rfl rfl))) ?_
              refine DW.nil ?_
              refine WK.nThen ?_
              exact WK.meet (m273, b282, v271, v283) rfl (.refl _) (.cons rfl (.cons rfl .nil)) (Mem.le_trans hle31 hle274)
            refine DW.tn rfl rfl rfl (T.alloc Try.zeroValue25 rfl) (by decide) fun b288 => ?_
            refine DW.ta rfl rfl rfl rfl (T.appendFl (α := Stop) (fun _ _ _ h => h) (k := 1) sl23 rfl rfl hs25 rfl (by first | omega | (simp; omega)) (by first | omega | (simp; omega))) (by decide) (fun v289 => ?_)
            refine DW.ta rfl rfl rfl rfl (OpTo.perm (H' := [blk b270 34 [.int .i64 (s.Column), .int .i64 (s.Ticks.Lo), .int .i64 (s.Ticks.Hi)], blk b288 25 [.slice none 0 0, .slice none 0 0], rowF (v289) 34 ([] ++ d.Stops), rowF (v271) 31 ([] ++ d.Rates), blk b9 25 [.slice none 0 0, .slice none 0 0]]) (List.perm_middle (l₁ := [blk b288 25 [.slice none 0 0, .slice none 0 0], rowF (v289) 34 ([] ++ d.Stops)]) (l₂ := [rowF (v271) 31 ([] ++ d.Rates), blk b9 25 [.slice none 0 0, .slice none 0 0]]) (a := blk b270 34 [.int .i64 (s.Column), .int .i64 (s.Ticks.Lo), .int .i64 (s.Ticks.Hi)])).symm (T.appendF (k := 1) (a := s) sl23 rfl rfl rfl rfl (by first | omega | (simp; done) | (simp; omega)) (by decide))) (by decide) (fun v290 => ?_)
            refine DW.x (V := Value.agg [v271, v290].toArray) rfl rfl (OpX.own1 (k := 2) rfl trivial (defdB rfl) fun ho291 => (OpX.own1 (k := 1) rfl trivial (defdB rfl) fun ho292 => (X.build Try.zeroValue25 Try.runUnderlying25 (places25 _ Try.underlying25) rfl (by simp only [Instr.fill, one_cells ho291, one_cells ho292]; rfl)))) (by decide) ?_
            refine DW.ts rfl rfl rfl rfl (OpTo.own1 (k := 2) rfl trivial (defd2 rfl rfl rfl) fun ho293 => (OpTo.own1 (k := 1) rfl trivial (defd2 rfl rfl rfl) fun ho294 => (T.storeBA (k := 0) Try.sizeOf25 rfl rfl rfl (one_cons ho293 (one_cons ho294 one_nil)) rfl rfl))) ?_
            refine DW.nil ?_
            refine WK.nThen ?_
            exact WK.meet (m273, b288, v271, v290) rfl (.refl _) (.cons rfl (.cons rfl .nil)) (Mem.le_trans hle31 hle274)
          refine DW.tn rfl rfl rfl (T.alloc Try.zeroValue25 rfl) (by decide) fun b295 => ?_
          refine DW.tO rfl rfl rfl (OpTo.taO (T.lit0 (α := Stop) sl23 rfl)) (by decide) (fun m297 Es_ v296 hle298 hR_ => ?_)
          subst hR_
          replace hs2 := hs2.mono hle298
          replace hs4 := hs4.mono hle298
          replace hp14 := hp14.mono hle298
          replace hp17 := hp17.mono hle298
          replace hp19 := hp19.mono hle298
          replace hs21 := hs21.mono hle298
          replace hp23 := hp23.mono hle298
          replace hs25 := hs25.mono hle298
          refine DW.ta rfl rfl rfl rfl (T.appendFl (α := Stop) (fun _ _ _ h => h) (k := 0) sl23 rfl rfl hs25 rfl (by first | omega | (simp; omega)) (by first | omega | (simp; omega))) (by decide) (fun v299 => ?_)
          refine DW.ta rfl rfl rfl rfl (OpTo.perm (H' := [blk b270 34 [.int .i64 (s.Column), .int .i64 (s.Ticks.Lo), .int .i64 (s.Ticks.Hi)], rowF (v299) 34 ([] ++ d.Stops), blk b295 25 [.slice none 0 0, .slice none 0 0], rowF (v271) 31 ([] ++ d.Rates), blk b9 25 [.slice none 0 0, .slice none 0 0]]) (List.perm_middle (l₁ := [rowF (v299) 34 ([] ++ d.Stops), blk b295 25 [.slice none 0 0, .slice none 0 0]]) (l₂ := [rowF (v271) 31 ([] ++ d.Rates), blk b9 25 [.slice none 0 0, .slice none 0 0]]) (a := blk b270 34 [.int .i64 (s.Column), .int .i64 (s.Ticks.Lo), .int .i64 (s.Ticks.Hi)])).symm (T.appendF (k := 0) (a := s) sl23 rfl rfl rfl rfl (by first | omega | (simp; done) | (simp; omega)) (by decide))) (by decide) (fun v300 => ?_)
          refine DW.x (V := Value.agg [v271, v300].toArray) rfl rfl (OpX.own1 (k := 2) rfl trivial (defdB rfl) fun ho301 => (OpX.own1 (k := 0) rfl trivial (defdB rfl) fun ho302 => (X.build Try.zeroValue25 Try.runUnderlying25 (places25 _ Try.underlying25) rfl (by simp only [Instr.fill, one_cells ho301, one_cells ho302]; rfl)))) (by decide) ?_
          refine DW.ts rfl rfl rfl rfl (OpTo.own1 (k := 2) rfl trivial (defd2 rfl rfl rfl) fun ho303 => (OpTo.own1 (k := 0) rfl trivial (defd2 rfl rfl rfl) fun ho304 => (T.storeBA (k := 1) Try.sizeOf25 rfl rfl rfl (one_cons ho303 (one_cons ho304 one_nil)) rfl rfl))) ?_
          refine DW.nil ?_
          refine WK.nThen ?_
          refine WK.perm [blk b295 25 [v271, v300], rowF (v300) 34 (([] ++ d.Stops) ++ [s]), rowF (v271) 31 ([] ++ d.Rates), blk b9 25 [.slice none 0 0, .slice none 0 0]] ((List.Perm.cons _ (.refl _)).trans (List.perm_middle (l₁ := [rowF (v300) 34 (([] ++ d.Stops) ++ [s])]) (l₂ := [rowF (v271) 31 ([] ++ d.Rates), blk b9 25 [.slice none 0 0, .slice none 0 0]]) (a := blk b295 25 [v271, v300])).symm) ?_
          exact WK.meet (m297, b295, v271, v300) rfl (.refl _) (.cons rfl (.cons rfl .nil)) (Mem.le_trans hle31 hle298)
        refine DW.fork (List.cons_ne_nil _ _) ?_ ?_
        · refine DW.tO rfl rfl rfl (OpTo.taO (T.lit0 (α := Stop) sl23 rfl)) (by decide) (fun m306 Es_ v305 hle307 hR_ => ?_)
          subst hR_
          replace hs2 := hs2.mono hle307
          replace hs4 := hs4.mono hle307
          replace hp14 := hp14.mono hle307
          replace hp17 := hp17.mono hle307
          replace hp19 := hp19.mono hle307
          replace hs21 := hs21.mono hle307
          replace hp23 := hp23.mono hle307
          replace hs25 := hs25.mono hle307
          refine DW.fork (List.cons_ne_nil _ _) ?_ ?_
          · refine DW.ta rfl rfl rfl rfl (T.appendFl (α := Span) (fun _ _ _ h => h) (k := 2) sl22 rfl rfl hs21 rfl (by first | omega | (simp; omega)) (by first | omega | (simp; omega))) (by decide) (fun v308 => ?_)
            refine DW.fork (List.cons_ne_nil _ _) ?_ ?_
            · refine DW.ta rfl rfl rfl rfl (T.appendFl (α := Stop) (fun _ _ _ h => h) (k := 0) sl23 rfl rfl hs25 rfl (by first | omega | (simp; omega)) (by first | omega | (simp; omega))) (by decide) (fun v309 => ?_)
              refine DW.fork (List.cons_ne_nil _ _) ?_ ?_
              · refine DW.ta rfl rfl rfl rfl (OpTo.perm (H' := [blk b270 34 [.int .i64 (s.Column), .int .i64 (s.Ticks.Lo), .int .i64 (s.Ticks.Hi)], rowF (v309) 34 ([] ++ d.Stops), rowF (v308) 31 ([] ++ d.Rates), blk b9 25 [.slice none 0 0, .slice none 0 0]]) (List.perm_middle (l₁ := [rowF (v309) 34 ([] ++ d.Stops)]) (l₂ := [rowF (v308) 31 ([] ++ d.Rates), blk b9 25 [.slice none 0 0, .slice none 0 0]]) (a := blk b270 34 [.int .i64 (s.Column), .int .i64 (s.Ticks.Lo), .int .i64 (s.Ticks.Hi)])).symm (T.appendF (k := 0) (a := s) sl23 rfl rfl rfl rfl (by first | omega | (simp; done) | (simp; omega)) (by decide))) (by decide) (fun v310 => ?_)
                refine DW.x (V := Value.agg [v308, v310].toArray) rfl rfl (OpX.own1 (k := 1) rfl trivial (defdB rfl) fun ho311 => (OpX.own1 (k := 0) rfl trivial (defdB rfl) fun ho312 => (X.build Try.zeroValue25 Try.runUnderlying25 (places25 _ Try.underlying25) rfl (by simp only [Instr.fill, one_cells ho311, one_cells ho312]; rfl)))) (by decide) ?_
                refine DW.tn rfl rfl rfl (T.alloc Try.zeroValue25 rfl) (by decide) fun b313 => ?_
                refine DW.ts rfl rfl rfl rfl (OpTo.own1 (k := 2) rfl trivial (defd2 rfl rfl rfl) fun ho314 => (OpTo.own1 (k := 1) rfl trivial (defd2 rfl rfl rfl) fun ho315 => (T.storeBA (k := 0) Try.sizeOf25 rfl rfl rfl (one_cons ho314 (one_cons ho315 one_nil)) rfl rfl))) ?_
                refine DW.nil ?_
                refine WK.nThen ?_
                exact WK.meet (m306, b313, v308, v310) rfl (.refl _) (.cons rfl (.cons rfl .nil)) (Mem.le_trans hle31 hle307)
              refine DW.tn rfl rfl rfl (T.alloc Try.zeroValue25 rfl) (by decide) fun b316 => ?_
              refine DW.ta rfl rfl rfl rfl (OpTo.perm (H' := [blk b270 34 [.int .i64 (s.Column), .int .i64 (s.Ticks.Lo), .int .i64 (s.Ticks.Hi)], blk b316 25 [.slice none 0 0, .slice none 0 0], rowF (v309) 34 ([] ++ d.Stops), rowF (v308) 31 ([] ++ d.Rates), blk b9 25 [.slice none 0 0, .slice none 0 0]]) (List.perm_middle (l₁ := [blk b316 25 [.slice none 0 0, .slice none 0 0], rowF (v309) 34 ([] ++ d.Stops)]) (l₂ := [rowF (v308) 31 ([] ++ d.Rates), blk b9 25 [.slice none 0 0, .slice none 0 0]]) (a := blk b270 34 [.int .i64 (s.Column), .int .i64 (s.Ticks.Lo), .int .i64 (s.Ticks.Hi)])).symm (T.appendF (k := 1) (a := s) sl23 rfl rfl rfl rfl (by first | omega | (simp; done) | (simp; omega)) (by decide))) (by decide) (fun v317 => ?_)
              refine DW.x (V := Value.agg [v308, v317].toArray) rfl rfl (OpX.own1 (k := 2) rfl trivial (defdB rfl) fun ho318 => (OpX.own1 (k := 1) rfl trivial (defdB rfl) fun ho319 => (X.build Try.zeroValue25 Try.runUnderlying25 (places25 _ Try.underlying25) rfl (by simp only [Instr.fill, one_cells ho318, one_cells ho319]; rfl)))) (by decide) ?_
              refine DW.ts rfl rfl rfl rfl (OpTo.own1 (k := 2) rfl trivial (defd2 rfl rfl rfl) fun ho320 => (OpTo.own1 (k := 1) rfl trivial (defd2 rfl rfl rfl) fun ho321 => (T.storeBA (k := 0) Try.sizeOf25 rfl rfl rfl (one_cons ho320 (one_cons ho321 one_nil)) rfl rfl))) ?_
              refine DW.nil ?_
              refine WK.nThen ?_
              exact WK.meet (m306, b316, v308, v317) rfl (.refl _) (.cons rfl (.cons rfl .nil)) (Mem.le_trans hle31 hle307)
            refine DW.tn rfl rfl rfl (T.alloc Try.zeroValue25 rfl) (by decide) fun b322 => ?_
            refine DW.ta rfl rfl rfl rfl (T.appendFl (α := Stop) (fun _ _ _ h => h) (k := 1) sl23 rfl rfl hs25 rfl (by first | omega | (simp; omega)) (by first | omega | (simp; omega))) (by decide) (fun v323 => ?_)
            refine DW.ta rfl rfl rfl rfl (OpTo.perm (H' := [blk b270 34 [.int .i64 (s.Column), .int .i64 (s.Ticks.Lo), .int .i64 (s.Ticks.Hi)], blk b322 25 [.slice none 0 0, .slice none 0 0], rowF (v323) 34 ([] ++ d.Stops), rowF (v308) 31 ([] ++ d.Rates), blk b9 25 [.slice none 0 0, .slice none 0 0]]) (List.perm_middle (l₁ := [blk b322 25 [.slice none 0 0, .slice none 0 0], rowF (v323) 34 ([] ++ d.Stops)]) (l₂ := [rowF (v308) 31 ([] ++ d.Rates), blk b9 25 [.slice none 0 0, .slice none 0 0]]) (a := blk b270 34 [.int .i64 (s.Column), .int .i64 (s.Ticks.Lo), .int .i64 (s.Ticks.Hi)])).symm (T.appendF (k := 1) (a := s) sl23 rfl rfl rfl rfl (by first | omega | (simp; done) | (simp; omega)) (by decide))) (by decide) (fun v324 => ?_)
            refine DW.x (V := Value.agg [v308, v324].toArray) rfl rfl (OpX.own1 (k := 2) rfl trivial (defdB rfl) fun ho325 => (OpX.own1 (k := 1) rfl trivial (defdB rfl) fun ho326 => (X.build Try.zeroValue25 Try.runUnderlying25 (places25 _ Try.underlying25) rfl (by simp only [Instr.fill, one_cells ho325, one_cells ho326]; rfl)))) (by decide) ?_
            refine DW.ts rfl rfl rfl rfl (OpTo.own1 (k := 2) rfl trivial (defd2 rfl rfl rfl) fun ho327 => (OpTo.own1 (k := 1) rfl trivial (defd2 rfl rfl rfl) fun ho328 => (T.storeBA (k := 0) Try.sizeOf25 rfl rfl rfl (one_cons ho327 (one_cons ho328 one_nil)) rfl rfl))) ?_
            refine DW.nil ?_
            refine WK.nThen ?_
            exact WK.meet (m306, b322, v308, v324) rfl (.refl _) (.cons rfl (.cons rfl .nil)) (Mem.le_trans hle31 hle307)
          refine DW.tn rfl rfl rfl (T.alloc Try.zeroValue25 rfl) (by decide) fun b329 => ?_
          refine DW.ta rfl rfl rfl rfl (T.appendFl (α := Span) (fun _ _ _ h => h) (k := 3) sl22 rfl rfl hs21 rfl (by first | omega | (simp; omega)) (by first | omega | (simp; omega))) (by decide) (fun v330 => ?_)
          refine DW.ta rfl rfl rfl rfl (T.appendFl (α := Stop) (fun _ _ _ h => h) (k := 1) sl23 rfl rfl hs25 rfl (by first | omega | (simp; omega)) (by first | omega | (simp; omega))) (by decide) (fun v331 => ?_)
          refine DW.ta rfl rfl rfl rfl (OpTo.perm (H' := [blk b270 34 [.int .i64 (s.Column), .int .i64 (s.Ticks.Lo), .int .i64 (s.Ticks.Hi)], blk b329 25 [.slice none 0 0, .slice none 0 0], rowF (v331) 34 ([] ++ d.Stops), rowF (v330) 31 ([] ++ d.Rates), blk b9 25 [.slice none 0 0, .slice none 0 0]]) (List.perm_middle (l₁ := [blk b329 25 [.slice none 0 0, .slice none 0 0], rowF (v331) 34 ([] ++ d.Stops)]) (l₂ := [rowF (v330) 31 ([] ++ d.Rates), blk b9 25 [.slice none 0 0, .slice none 0 0]]) (a := blk b270 34 [.int .i64 (s.Column), .int .i64 (s.Ticks.Lo), .int .i64 (s.Ticks.Hi)])).symm (T.appendF (k := 1) (a := s) sl23 rfl rfl rfl rfl (by first | omega | (simp; done) | (simp; omega)) (by decide))) (by decide) (fun v332 => ?_)
          refine DW.x (V := Value.agg [v330, v332].toArray) rfl rfl (OpX.own1 (k := 2) rfl trivial (defdB rfl) fun ho333 => (OpX.own1 (k := 1) rfl trivial (defdB rfl) fun ho334 => (X.build Try.zeroValue25 Try.runUnderlying25 (places25 _ Try.underlying25) rfl (by simp only [Instr.fill, one_cells ho333, one_cells ho334]; rfl)))) (by decide) ?_
          refine DW.ts rfl rfl rfl rfl (OpTo.own1 (k := 2) rfl trivial (defd2 rfl rfl rfl) fun ho335 => (OpTo.own1 (k := 1) rfl trivial (defd2 rfl rfl rfl) fun ho336 => (T.storeBA (k := 0) Try.sizeOf25 rfl rfl rfl (one_cons ho335 (one_cons ho336 one_nil)) rfl rfl))) ?_
          refine DW.nil ?_
          refine WK.nThen ?_
          exact WK.meet (m306, b329, v330, v332) rfl (.refl _) (.cons rfl (.cons rfl .nil)) (Mem.le_trans hle31 hle307)
        refine DW.tn rfl rfl rfl (T.alloc Try.zeroValue25 rfl) (by decide) fun b337 => ?_
        refine DW.fork (List.cons_ne_nil _ _) ?_ ?_
        · refine DW.ta rfl rfl rfl rfl (T.appendFl (α := Span) (fun _ _ _ h => h) (k := 2) sl22 rfl rfl hs21 rfl (by first | omega | (simp; omega)) (by first | omega | (simp; omega))) (by decide) (fun v338 => ?_)
          refine DW.tO rfl rfl rfl (OpTo.taO (T.lit0 (α := Stop) sl23 rfl)) (by decide) (fun m340 Es_ v339 hle341 hR_ => ?_)
          subst hR_
          replace hs2 := hs2.mono hle341
          replace hs4 := hs4.mono hle341
          replace hp14 := hp14.mono hle341
          replace hp17 := hp17.mono hle341
          replace hp19 := hp19.mono hle341
          replace hs21 := hs21.mono hle341
          replace hp23 := hp23.mono hle341
          replace hs25 := hs25.mono hle341
          refine DW.ta rfl rfl rfl rfl (T.appendFl (α := Stop) (fun _ _ _ h => h) (k := 0) sl23 rfl rfl hs25 rfl (by first | omega | (simp; omega)) (by first | omega | (simp; omega))) (by decide) (fun v342 => ?_)
          refine DW.ta rfl rfl rfl rfl (OpTo.perm (H' := [blk b270 34 [.int .i64 (s.Column), .int .i64 (s.Ticks.Lo), .int .i64 (s.Ticks.Hi)], rowF (v342) 34 ([] ++ d.Stops), blk b337 25 [.slice none 0 0, .slice none 0 0], rowF (v338) 31 ([] ++ d.Rates), blk b9 25 [.slice none 0 0, .slice none 0 0]]) (List.perm_middle (l₁ := [rowF (v342) 34 ([] ++ d.Stops), blk b337 25 [.slice none 0 0, .slice none 0 0]]) (l₂ := [rowF (v338) 31 ([] ++ d.Rates), blk b9 25 [.slice none 0 0, .slice none 0 0]]) (a := blk b270 34 [.int .i64 (s.Column), .int .i64 (s.Ticks.Lo), .int .i64 (s.Ticks.Hi)])).symm (T.appendF (k := 0) (a := s) sl23 rfl rfl rfl rfl (by first | omega | (simp; done) | (simp; omega)) (by decide))) (by decide) (fun v343 => ?_)
          refine DW.x (V := Value.agg [v338, v343].toArray) rfl rfl (OpX.own1 (k := 2) rfl trivial (defdB rfl) fun ho344 => (OpX.own1 (k := 0) rfl trivial (defdB rfl) fun ho345 => (X.build Try.zeroValue25 Try.runUnderlying25 (places25 _ Try.underlying25) rfl (by simp only [Instr.fill, one_cells ho344, one_cells ho345]; rfl)))) (by decide) ?_
          refine DW.ts rfl rfl rfl rfl (OpTo.own1 (k := 2) rfl trivial (defd2 rfl rfl rfl) fun ho346 => (OpTo.own1 (k := 0) rfl trivial (defd2 rfl rfl rfl) fun ho347 => (T.storeBA (k := 1) Try.sizeOf25 rfl rfl rfl (one_cons ho346 (one_cons ho347 one_nil)) rfl rfl))) ?_
          refine DW.nil ?_
          refine WK.nThen ?_
          refine WK.perm [blk b337 25 [v338, v343], rowF (v343) 34 (([] ++ d.Stops) ++ [s]), rowF (v338) 31 ([] ++ d.Rates), blk b9 25 [.slice none 0 0, .slice none 0 0]] ((List.Perm.cons _ (.refl _)).trans (List.perm_middle (l₁ := [rowF (v343) 34 (([] ++ d.Stops) ++ [s])]) (l₂ := [rowF (v338) 31 ([] ++ d.Rates), blk b9 25 [.slice none 0 0, .slice none 0 0]]) (a := blk b337 25 [v338, v343])).symm) ?_
          exact WK.meet (m340, b337, v338, v343) rfl (.refl _) (.cons rfl (.cons rfl .nil)) (Mem.le_trans hle31 hle341)
        refine DW.tO rfl rfl rfl (OpTo.taO (T.lit0 (α := Stop) sl23 rfl)) (by decide) (fun m349 Es_ v348 hle350 hR_ => ?_)
        subst hR_
        replace hs2 := hs2.mono hle350
        replace hs4 := hs4.mono hle350
        replace hp14 := hp14.mono hle350
        replace hp17 := hp17.mono hle350
        replace hp19 := hp19.mono hle350
        replace hs21 := hs21.mono hle350
        replace hp23 := hp23.mono hle350
        replace hs25 := hs25.mono hle350
        refine DW.ta rfl rfl rfl rfl (T.appendFl (α := Span) (fun _ _ _ h => h) (k := 3) sl22 rfl rfl hs21 rfl (by first | omega | (simp; omega)) (by first | omega | (simp; omega))) (by decide) (fun v351 => ?_)
        refine DW.ta rfl rfl rfl rfl (T.appendFl (α := Stop) (fun _ _ _ h => h) (k := 0) sl23 rfl rfl hs25 rfl (by first | omega | (simp; omega)) (by first | omega | (simp; omega))) (by decide) (fun v352 => ?_)
        refine DW.ta rfl rfl rfl rfl (OpTo.perm (H' := [blk b270 34 [.int .i64 (s.Column), .int .i64 (s.Ticks.Lo), .int .i64 (s.Ticks.Hi)], rowF (v352) 34 ([] ++ d.Stops), blk b337 25 [.slice none 0 0, .slice none 0 0], rowF (v351) 31 ([] ++ d.Rates), blk b9 25 [.slice none 0 0, .slice none 0 0]]) (List.perm_middle (l₁ := [rowF (v352) 34 ([] ++ d.Stops), blk b337 25 [.slice none 0 0, .slice none 0 0]]) (l₂ := [rowF (v351) 31 ([] ++ d.Rates), blk b9 25 [.slice none 0 0, .slice none 0 0]]) (a := blk b270 34 [.int .i64 (s.Column), .int .i64 (s.Ticks.Lo), .int .i64 (s.Ticks.Hi)])).symm (T.appendF (k := 0) (a := s) sl23 rfl rfl rfl rfl (by first | omega | (simp; done) | (simp; omega)) (by decide))) (by decide) (fun v353 => ?_)
        refine DW.x (V := Value.agg [v351, v353].toArray) rfl rfl (OpX.own1 (k := 2) rfl trivial (defdB rfl) fun ho354 => (OpX.own1 (k := 0) rfl trivial (defdB rfl) fun ho355 => (X.build Try.zeroValue25 Try.runUnderlying25 (places25 _ Try.underlying25) rfl (by simp only [Instr.fill, one_cells ho354, one_cells ho355]; rfl)))) (by decide) ?_
        refine DW.ts rfl rfl rfl rfl (OpTo.own1 (k := 2) rfl trivial (defd2 rfl rfl rfl) fun ho356 => (OpTo.own1 (k := 0) rfl trivial (defd2 rfl rfl rfl) fun ho357 => (T.storeBA (k := 1) Try.sizeOf25 rfl rfl rfl (one_cons ho356 (one_cons ho357 one_nil)) rfl rfl))) ?_
        refine DW.nil ?_
        refine WK.nThen ?_
        refine WK.perm [blk b337 25 [v351, v353], rowF (v353) 34 (([] ++ d.Stops) ++ [s]), rowF (v351) 31 ([] ++ d.Rates), blk b9 25 [.slice none 0 0, .slice none 0 0]] ((List.Perm.cons _ (.refl _)).trans (List.perm_middle (l₁ := [rowF (v353) 34 (([] ++ d.Stops) ++ [s])]) (l₂ := [rowF (v351) 31 ([] ++ d.Rates), blk b9 25 [.slice none 0 0, .slice none 0 0]]) (a := blk b337 25 [v351, v353])).symm) ?_
        exact WK.meet (m349, b337, v351, v353) rfl (.refl _) (.cons rfl (.cons rfl .nil)) (Mem.le_trans hle31 hle350)
      refine DW.tn rfl rfl rfl (T.alloc Try.zeroValue25 rfl) (by decide) fun b358 => ?_
      refine DW.fork (List.cons_ne_nil _ _) ?_ ?_
      · refine DW.ta rfl rfl rfl rfl (T.appendFl (α := Span) (fun _ _ _ h => h) (k := 1) sl22 rfl rfl hs21 rfl (by first | omega | (simp; omega)) (by first | omega | (simp; omega))) (by decide) (fun v359 => ?_)
        refine DW.fork (List.cons_ne_nil _ _) ?_ ?_
        · refine DW.tO rfl rfl rfl (OpTo.taO (T.lit0 (α := Stop) sl23 rfl)) (by decide) (fun m361 Es_ v360 hle362 hR_ => ?_)
          subst hR_
          replace hs2 := hs2.mono hle362
          replace hs4 := hs4.mono hle362
          replace hp14 := hp14.mono hle362
          replace hp17 := hp17.mono hle362
          replace hp19 := hp19.mono hle362
          replace hs21 := hs21.mono hle362
          replace hp23 := hp23.mono hle362
          replace hs25 := hs25.mono hle362
          refine DW.fork (List.cons_ne_nil _ _) ?_ ?_
          · refine DW.ta rfl rfl rfl rfl (T.appendFl (α := Stop) (fun _ _ _ h => h) (k := 0) sl23 rfl rfl hs25 rfl (by first | omega | (simp; omega)) (by first | omega | (simp; omega))) (by decide) (fun v363 => ?_)
            refine DW.tl rfl rfl rfl (T.lit1 sl23 rfl rfl rfl (by decide)) (by decide) fun b364 => ?_
            refine DW.ta rfl rfl rfl rfl (T.appendF (k := 0) (a := s) sl23 rfl rfl rfl rfl (by first | omega | (simp; done) | (simp; omega)) (by decide)) (by decide) (fun v365 => ?_)
            refine DW.x (V := Value.agg [v359, v365].toArray) rfl rfl (OpX.own1 (k := 2) rfl trivial (defdB rfl) fun ho366 => (OpX.own1 (k := 0) rfl trivial (defdB rfl) fun ho367 => (X.build Try.zeroValue25 Try.runUnderlying25 (places25 _ Try.underlying25) rfl (by simp only [Instr.fill, one_cells ho366, one_cells ho367]; rfl)))) (by decide) ?_
            refine DW.ts rfl rfl rfl rfl (OpTo.own1 (k := 2) rfl trivial (defd2 rfl rfl rfl) fun ho368 => (OpTo.own1 (k := 0) rfl trivial (defd2 rfl rfl rfl) fun ho369 => (T.storeBA (k := 1) Try.sizeOf25 rfl rfl rfl (one_cons ho368 (one_cons ho369 one_nil)) rfl rfl))) ?_
            refine DW.nil ?_
            refine WK.nThen ?_
            refine WK.perm [blk b358 25 [v359, v365], rowF (v365) 34 (([] ++ d.Stops) ++ [s]), rowF (v359) 31 ([] ++ d.Rates), blk b9 25 [.slice none 0 0, .slice none 0 0]] ((List.Perm.cons _ (.refl _)).trans (List.perm_middle (l₁ := [rowF (v365) 34 (([] ++ d.Stops) ++ [s])]) (l₂ := [rowF (v359) 31 ([] ++ d.Rates), blk b9 25 [.slice none 0 0, .slice none 0 0]]) (a := blk b358 25 [v359, v365])).symm) ?_
            exact WK.meet (m361, b358, v359, v365) rfl (.refl _) (.cons rfl (.cons rfl .nil)) (Mem.le_trans hle31 hle362)
          refine DW.tl rfl rfl rfl (T.lit1 sl23 rfl rfl rfl (by decide)) (by decide) fun b370 => ?_
          refine DW.ta rfl rfl rfl rfl (T.appendFl (α := Stop) (fun _ _ _ h => h) (k := 1) sl23 rfl rfl hs25 rfl (by first | omega | (simp; omega)) (by first | omega | (simp; omega))) (by decide) (fun v371 => ?_)
          refine DW.ta rfl rfl rfl rfl (T.appendF (k := 0) (a := s) sl23 rfl rfl rfl rfl (by first | omega | (simp; done) | (simp; omega)) (by decide)) (by decide) (fun v372 => ?_)
          refine DW.x (V := Value.agg [v359, v372].toArray) rfl rfl (OpX.own1 (k := 2) rfl trivial (defdB rfl) fun ho373 => (OpX.own1 (k := 0) rfl trivial (defdB rfl) fun ho374 => (X.build Try.zeroValue25 Try.runUnderlying25 (places25 _ Try.underlying25) rfl (by simp only [Instr.fill, one_cells ho373, one_cells ho374]; rfl)))) (by decide) ?_
          refine DW.ts rfl rfl rfl rfl (OpTo.own1 (k := 2) rfl trivial (defd2 rfl rfl rfl) fun ho375 => (OpTo.own1 (k := 0) rfl trivial (defd2 rfl rfl rfl) fun ho376 => (T.storeBA (k := 1) Try.sizeOf25 rfl rfl rfl (one_cons ho375 (one_cons ho376 one_nil)) rfl rfl))) ?_
          refine DW.nil ?_
          refine WK.nThen ?_
          refine WK.perm [blk b358 25 [v359, v372], rowF (v372) 34 (([] ++ d.Stops) ++ [s]), rowF (v359) 31 ([] ++ d.Rates), blk b9 25 [.slice none 0 0, .slice none 0 0]] ((List.Perm.cons _ (.refl _)).trans (List.perm_middle (l₁ := [rowF (v372) 34 (([] ++ d.Stops) ++ [s])]) (l₂ := [rowF (v359) 31 ([] ++ d.Rates), blk b9 25 [.slice none 0 0, .slice none 0 0]]) (a := blk b358 25 [v359, v372])).symm) ?_
          exact WK.meet (m361, b358, v359, v372) rfl (.refl _) (.cons rfl (.cons rfl .nil)) (Mem.le_trans hle31 hle362)
        refine DW.tl rfl rfl rfl (T.lit1 sl23 rfl rfl rfl (by decide)) (by decide) fun b377 => ?_
        refine DW.tO rfl rfl rfl (OpTo.taO (T.lit0 (α := Stop) sl23 rfl)) (by decide) (fun m379 Es_ v378 hle380 hR_ => ?_)
        subst hR_
        replace hs2 := hs2.mono hle380
        replace hs4 := hs4.mono hle380
        replace hp14 := hp14.mono hle380
        replace hp17 := hp17.mono hle380
        replace hp19 := hp19.mono hle380
        replace hs21 := hs21.mono hle380
        replace hp23 := hp23.mono hle380
        replace hs25 := hs25.mono hle380
        refine DW.ta rfl rfl rfl rfl (T.appendFl (α := Stop) (fun _ _ _ h => h) (k := 0) sl23 rfl rfl hs25 rfl (by first | omega | (simp; omega)) (by first | omega | (simp; omega))) (by decide) (fun v381 => ?_)
        refine DW.ta rfl rfl rfl rfl (OpTo.perm (H' := [blk b377 34 [.int .i64 (s.Column), .int .i64 (s.Ticks.Lo), .int .i64 (s.Ticks.Hi)], rowF (v381) 34 ([] ++ d.Stops), blk b358 25 [.slice none 0 0, .slice none 0 0], rowF (v359) 31 ([] ++ d.Rates), blk b9 25 [.slice none 0 0, .slice none 0 0]]) (List.perm_middle (l₁ := [rowF (v381) 34 ([] ++ d.Stops)]) (l₂ := [blk b358 25 [.slice none 0 0, .slice none 0 0], rowF (v359) 31 ([] ++ d.Rates), blk b9 25 [.slice none 0 0, .slice none 0 0]]) (a := blk b377 34 [.int .i64 (s.Column), .int .i64 (s.Ticks.Lo), .int .i64 (s.Ticks.Hi)])).symm (T.appendF (k := 0) (a := s) sl23 rfl rfl rfl rfl (by first | omega | (simp; done) | (simp; omega)) (by decide))) (by decide) (fun v382 => ?_)
        refine DW.x (V := Value.agg [v359, v382].toArray) rfl rfl (OpX.own1 (k := 2) rfl trivial (defdB rfl) fun ho383 => (OpX.own1 (k := 0) rfl trivial (defdB rfl) fun ho384 => (X.build Try.zeroValue25 Try.runUnderlying25 (places25 _ Try.underlying25) rfl (by simp only [Instr.fill, one_cells ho383, one_cells ho384]; rfl)))) (by decide) ?_
        refine DW.ts rfl rfl rfl rfl (OpTo.own1 (k := 2) rfl trivial (defd2 rfl rfl rfl) fun ho385 => (OpTo.own1 (k := 0) rfl trivial (defd2 rfl rfl rfl) fun ho386 => (T.storeBA (k := 1) Try.sizeOf25 rfl rfl rfl (one_cons ho385 (one_cons ho386 one_nil)) rfl rfl))) ?_
        refine DW.nil ?_
        refine WK.nThen ?_
        refine WK.perm [blk b358 25 [v359, v382], rowF (v382) 34 (([] ++ d.Stops) ++ [s]), rowF (v359) 31 ([] ++ d.Rates), blk b9 25 [.slice none 0 0, .slice none 0 0]] ((List.Perm.cons _ (.refl _)).trans (List.perm_middle (l₁ := [rowF (v382) 34 (([] ++ d.Stops) ++ [s])]) (l₂ := [rowF (v359) 31 ([] ++ d.Rates), blk b9 25 [.slice none 0 0, .slice none 0 0]]) (a := blk b358 25 [v359, v382])).symm) ?_
        exact WK.meet (m379, b358, v359, v382) rfl (.refl _) (.cons rfl (.cons rfl .nil)) (Mem.le_trans hle31 hle380)
      refine DW.fork (List.cons_ne_nil _ _) ?_ ?_
      · refine DW.tO rfl rfl rfl (OpTo.taO (T.lit0 (α := Stop) sl23 rfl)) (by decide) (fun m388 Es_ v387 hle389 hR_ => ?_)
        subst hR_
        replace hs2 := hs2.mono hle389
        replace hs4 := hs4.mono hle389
        replace hp14 := hp14.mono hle389
        replace hp17 := hp17.mono hle389
        replace hp19 := hp19.mono hle389
        replace hs21 := hs21.mono hle389
        replace hp23 := hp23.mono hle389
        replace hs25 := hs25.mono hle389
        refine DW.fork (List.cons_ne_nil _ _) ?_ ?_
        · refine DW.ta rfl rfl rfl rfl (T.appendFl (α := Span) (fun _ _ _ h => h) (k := 2) sl22 rfl rfl hs21 rfl (by first | omega | (simp; omega)) (by first | omega | (simp; omega))) (by decide) (fun v390 => ?_)
          refine DW.fork (List.cons_ne_nil _ _) ?_ ?_
          · refine DW.ta rfl rfl rfl rfl (T.appendFl (α := Stop) (fun _ _ _ h => h) (k := 0) sl23 rfl rfl hs25 rfl (by first | omega | (simp; omega)) (by first | omega | (simp; omega))) (by decide) (fun v391 => ?_)
            refine DW.tl rfl rfl rfl (T.lit1 sl23 rfl rfl rfl (by decide)) (by decide) fun b392 => ?_
            refine DW.ta rfl rfl rfl rfl (T.appendF (k := 0) (a := s) sl23 rfl rfl rfl rfl (by first | omega | (simp; done) | (simp; omega)) (by decide)) (by decide) (fun v393 => ?_)
            refine DW.x (V := Value.agg [v390, v393].toArray) rfl rfl (OpX.own1 (k := 2) rfl trivial (defdB rfl) fun ho394 => (OpX.own1 (k := 0) rfl trivial (defdB rfl) fun ho395 => (X.build Try.zeroValue25 Try.runUnderlying25 (places25 _ Try.underlying25) rfl (by simp only [Instr.fill, one_cells ho394, one_cells ho395]; rfl)))) (by decide) ?_
            refine DW.ts rfl rfl rfl rfl (OpTo.own1 (k := 2) rfl trivial (defd2 rfl rfl rfl) fun ho396 => (OpTo.own1 (k := 0) rfl trivial (defd2 rfl rfl rfl) fun ho397 => (T.storeBA (k := 1) Try.sizeOf25 rfl rfl rfl (one_cons ho396 (one_cons ho397 one_nil)) rfl rfl))) ?_
            refine DW.nil ?_
            refine WK.nThen ?_
            refine WK.perm [blk b358 25 [v390, v393], rowF (v393) 34 (([] ++ d.Stops) ++ [s]), rowF (v390) 31 ([] ++ d.Rates), blk b9 25 [.slice none 0 0, .slice none 0 0]] ((List.Perm.cons _ (.refl _)).trans (List.perm_middle (l₁ := [rowF (v393) 34 (([] ++ d.Stops) ++ [s])]) (l₂ := [rowF (v390) 31 ([] ++ d.Rates), blk b9 25 [.slice none 0 0, .slice none 0 0]]) (a := blk b358 25 [v390, v393])).symm) ?_
            exact WK.meet (m388, b358, v390, v393) rfl (.refl _) (.cons rfl (.cons rfl .nil)) (Mem.le_trans hle31 hle389)
          refine DW.tl rfl rfl rfl (T.lit1 sl23 rfl rfl rfl (by decide)) (by decide) fun b398 => ?_
          refine DW.ta rfl rfl rfl rfl (T.appendFl (α := Stop) (fun _ _ _ h => h) (k := 1) sl23 rfl rfl hs25 rfl (by first | omega | (simp; omega)) (by first | omega | (simp; omega))) (by decide) (fun v399 => ?_)
          refine DW.ta rfl rfl rfl rfl (T.appendF (k := 0) (a := s) sl23 rfl rfl rfl rfl (by first | omega | (simp; done) | (simp; omega)) (by decide)) (by decide) (fun v400 => ?_)
          refine DW.x (V := Value.agg [v390, v400].toArray) rfl rfl (OpX.own1 (k := 2) rfl trivial (defdB rfl) fun ho401 => (OpX.own1 (k := 0) rfl trivial (defdB rfl) fun ho402 => (X.build Try.zeroValue25 Try.runUnderlying25 (places25 _ Try.underlying25) rfl (by simp only [Instr.fill, one_cells ho401, one_cells ho402]; rfl)))) (by decide) ?_
          refine DW.ts rfl rfl rfl rfl (OpTo.own1 (k := 2) rfl trivial (defd2 rfl rfl rfl) fun ho403 => (OpTo.own1 (k := 0) rfl trivial (defd2 rfl rfl rfl) fun ho404 => (T.storeBA (k := 1) Try.sizeOf25 rfl rfl rfl (one_cons ho403 (one_cons ho404 one_nil)) rfl rfl))) ?_
          refine DW.nil ?_
          refine WK.nThen ?_
          refine WK.perm [blk b358 25 [v390, v400], rowF (v400) 34 (([] ++ d.Stops) ++ [s]), rowF (v390) 31 ([] ++ d.Rates), blk b9 25 [.slice none 0 0, .slice none 0 0]] ((List.Perm.cons _ (.refl _)).trans (List.perm_middle (l₁ := [rowF (v400) 34 (([] ++ d.Stops) ++ [s])]) (l₂ := [rowF (v390) 31 ([] ++ d.Rates), blk b9 25 [.slice none 0 0, .slice none 0 0]]) (a := blk b358 25 [v390, v400])).symm) ?_
          exact WK.meet (m388, b358, v390, v400) rfl (.refl _) (.cons rfl (.cons rfl .nil)) (Mem.le_trans hle31 hle389)
        refine DW.tl rfl rfl rfl (T.lit1 sl23 rfl rfl rfl (by decide)) (by decide) fun b405 => ?_
        refine DW.ta rfl rfl rfl rfl (T.appendFl (α := Span) (fun _ _ _ h => h) (k := 3) sl22 rfl rfl hs21 rfl (by first | omega | (simp; omega)) (by first | omega | (simp; omega))) (by decide) (fun v406 => ?_)
        refine DW.ta rfl rfl rfl rfl (T.appendFl (α := Stop) (fun _ _ _ h => h) (k := 1) sl23 rfl rfl hs25 rfl (by first | omega | (simp; omega)) (by first | omega | (simp; omega))) (by decide) (fun v407 => ?_)
        refine DW.ta rfl rfl rfl rfl (T.appendF (k := 0) (a := s) sl23 rfl rfl rfl rfl (by first | omega | (simp; done) | (simp; omega)) (by decide)) (by decide) (fun v408 => ?_)
        refine DW.x (V := Value.agg [v406, v408].toArray) rfl rfl (OpX.own1 (k := 2) rfl trivial (defdB rfl) fun ho409 => (OpX.own1 (k := 0) rfl trivial (defdB rfl) fun ho410 => (X.build Try.zeroValue25 Try.runUnderlying25 (places25 _ Try.underlying25) rfl (by simp only [Instr.fill, one_cells ho409, one_cells ho410]; rfl)))) (by decide) ?_
        refine DW.ts rfl rfl rfl rfl (OpTo.own1 (k := 2) rfl trivial (defd2 rfl rfl rfl) fun ho411 => (OpTo.own1 (k := 0) rfl trivial (defd2 rfl rfl rfl) fun ho412 => (T.storeBA (k := 1) Try.sizeOf25 rfl rfl rfl (one_cons ho411 (one_cons ho412 one_nil)) rfl rfl))) ?_
        refine DW.nil ?_
        refine WK.nThen ?_
        refine WK.perm [blk b358 25 [v406, v408], rowF (v408) 34 (([] ++ d.Stops) ++ [s]), rowF (v406) 31 ([] ++ d.Rates), blk b9 25 [.slice none 0 0, .slice none 0 0]] ((List.Perm.cons _ (.refl _)).trans (List.perm_middle (l₁ := [rowF (v408) 34 (([] ++ d.Stops) ++ [s])]) (l₂ := [rowF (v406) 31 ([] ++ d.Rates), blk b9 25 [.slice none 0 0, .slice none 0 0]]) (a := blk b358 25 [v406, v408])).symm) ?_
        exact WK.meet (m388, b358, v406, v408) rfl (.refl _) (.cons rfl (.cons rfl .nil)) (Mem.le_trans hle31 hle389)
      refine DW.tl rfl rfl rfl (T.lit1 sl23 rfl rfl rfl (by decide)) (by decide) fun b413 => ?_
      refine DW.fork (List.cons_ne_nil _ _) ?_ ?_
      · refine DW.ta rfl rfl rfl rfl (T.appendFl (α := Span) (fun _ _ _ h => h) (k := 2) sl22 rfl rfl hs21 rfl (by first | omega | (simp; omega)) (by first | omega | (simp; omega))) (by decide) (fun v414 => ?_)
        refine DW.tO rfl rfl rfl (OpTo.taO (T.lit0 (α := Stop) sl23 rfl)) (by decide) (fun m416 Es_ v415 hle417 hR_ => ?_)
        subst hR_
        replace hs2 := hs2.mono hle417
        replace hs4 := hs4.mono hle417
        replace hp14 := hp14.mono hle417
        replace hp17 := hp17.mono hle417
        replace hp19 := hp19.mono hle417
        replace hs21 := hs21.mono hle417
        replace hp23 := hp23.mono hle417
        replace hs25 := hs25.mono hle417
        refine DW.ta rfl rfl rfl rfl (T.appendFl (α := Stop) (fun _ _ _ h => h) (k := 0) sl23 rfl rfl hs25 rfl (by first | omega | (simp; omega)) (by first | omega | (simp; omega))) (by decide) (fun v418 => ?_)
        refine DW.ta rfl rfl rfl rfl (OpTo.perm (H' := [blk b413 34 [.int .i64 (s.Column), .int .i64 (s.Ticks.Lo), .int .i64 (s.Ticks.Hi)], rowF (v418) 34 ([] ++ d.Stops), blk b358 25 [.slice none 0 0, .slice none 0 0], rowF (v414) 31 ([] ++ d.Rates), blk b9 25 [.slice none 0 0, .slice none 0 0]]) (List.perm_middle (l₁ := [rowF (v418) 34 ([] ++ d.Stops)]) (l₂ := [blk b358 25 [.slice none 0 0, .slice none 0 0], rowF (v414) 31 ([] ++ d.Rates), blk b9 25 [.slice none 0 0, .slice none 0 0]]) (a := blk b413 34 [.int .i64 (s.Column), .int .i64 (s.Ticks.Lo), .int .i64 (s.Ticks.Hi)])).symm (T.appendF (k := 0) (a := s) sl23 rfl rfl rfl rfl (by first | omega | (simp; done) | (simp; omega)) (by decide))) (by decide) (fun v419 => ?_)
        refine DW.x (V := Value.agg [v414, v419].toArray) rfl rfl (OpX.own1 (k := 2) rfl trivial (defdB rfl) fun ho420 => (OpX.own1 (k := 0) rfl trivial (defdB rfl) fun ho421 => (X.build Try.zeroValue25 Try.runUnderlying25 (places25 _ Try.underlying25) rfl (by simp only [Instr.fill, one_cells ho420, one_cells ho421]; rfl)))) (by decide) ?_
        refine DW.ts rfl rfl rfl rfl (OpTo.own1 (k := 2) rfl trivial (defd2 rfl rfl rfl) fun ho422 => (OpTo.own1 (k := 0) rfl trivial (defd2 rfl rfl rfl) fun ho423 => (T.storeBA (k := 1) Try.sizeOf25 rfl rfl rfl (one_cons ho422 (one_cons ho423 one_nil)) rfl rfl))) ?_
        refine DW.nil ?_
        refine WK.nThen ?_
        refine WK.perm [blk b358 25 [v414, v419], rowF (v419) 34 (([] ++ d.Stops) ++ [s]), rowF (v414) 31 ([] ++ d.Rates), blk b9 25 [.slice none 0 0, .slice none 0 0]] ((List.Perm.cons _ (.refl _)).trans (List.perm_middle (l₁ := [rowF (v419) 34 (([] ++ d.Stops) ++ [s])]) (l₂ := [rowF (v414) 31 ([] ++ d.Rates), blk b9 25 [.slice none 0 0, .slice none 0 0]]) (a := blk b358 25 [v414, v419])).symm) ?_
        exact WK.meet (m416, b358, v414, v419) rfl (.refl _) (.cons rfl (.cons rfl .nil)) (Mem.le_trans hle31 hle417)
      refine DW.tO rfl rfl rfl (OpTo.taO (T.lit0 (α := Stop) sl23 rfl)) (by decide) (fun m425 Es_ v424 hle426 hR_ => ?_)
      subst hR_
      replace hs2 := hs2.mono hle426
      replace hs4 := hs4.mono hle426
      replace hp14 := hp14.mono hle426
      replace hp17 := hp17.mono hle426
      replace hp19 := hp19.mono hle426
      replace hs21 := hs21.mono hle426
      replace hp23 := hp23.mono hle426
      replace hs25 := hs25.mono hle426
      refine DW.ta rfl rfl rfl rfl (T.appendFl (α := Span) (fun _ _ _ h => h) (k := 3) sl22 rfl rfl hs21 rfl (by first | omega | (simp; omega)) (by first | omega | (simp; omega))) (by decide) (fun v427 => ?_)
      refine DW.ta rfl rfl rfl rfl (T.appendFl (α := Stop) (fun _ _ _ h => h) (k := 0) sl23 rfl rfl hs25 rfl (by first | omega | (simp; omega)) (by first | omega | (simp; omega))) (by decide) (fun v428 => ?_)
      refine DW.ta rfl rfl rfl rfl (OpTo.perm (H' := [blk b413 34 [.int .i64 (s.Column), .int .i64 (s.Ticks.Lo), .int .i64 (s.Ticks.Hi)], rowF (v428) 34 ([] ++ d.Stops), blk b358 25 [.slice none 0 0, .slice none 0 0], rowF (v427) 31 ([] ++ d.Rates), blk b9 25 [.slice none 0 0, .slice none 0 0]]) (List.perm_middle (l₁ := [rowF (v428) 34 ([] ++ d.Stops)]) (l₂ := [blk b358 25 [.slice none 0 0, .slice none 0 0], rowF (v427) 31 ([] ++ d.Rates), blk b9 25 [.slice none 0 0, .slice none 0 0]]) (a := blk b413 34 [.int .i64 (s.Column), .int .i64 (s.Ticks.Lo), .int .i64 (s.Ticks.Hi)])).symm (T.appendF (k := 0) (a := s) sl23 rfl rfl rfl rfl (by first | omega | (simp; done) | (simp; omega)) (by decide))) (by decide) (fun v429 => ?_)
      refine DW.x (V := Value.agg [v427, v429].toArray) rfl rfl (OpX.own1 (k := 2) rfl trivial (defdB rfl) fun ho430 => (OpX.own1 (k := 0) rfl trivial (defdB rfl) fun ho431 => (X.build Try.zeroValue25 Try.runUnderlying25 (places25 _ Try.underlying25) rfl (by simp only [Instr.fill, one_cells ho430, one_cells ho431]; rfl)))) (by decide) ?_
      refine DW.ts rfl rfl rfl rfl (OpTo.own1 (k := 2) rfl trivial (defd2 rfl rfl rfl) fun ho432 => (OpTo.own1 (k := 0) rfl trivial (defd2 rfl rfl rfl) fun ho433 => (T.storeBA (k := 1) Try.sizeOf25 rfl rfl rfl (one_cons ho432 (one_cons ho433 one_nil)) rfl rfl))) ?_
      refine DW.nil ?_
      refine WK.nThen ?_
      refine WK.perm [blk b358 25 [v427, v429], rowF (v429) 34 (([] ++ d.Stops) ++ [s]), rowF (v427) 31 ([] ++ d.Rates), blk b9 25 [.slice none 0 0, .slice none 0 0]] ((List.Perm.cons _ (.refl _)).trans (List.perm_middle (l₁ := [rowF (v429) 34 (([] ++ d.Stops) ++ [s])]) (l₂ := [rowF (v427) 31 ([] ++ d.Rates), blk b9 25 [.slice none 0 0, .slice none 0 0]]) (a := blk b358 25 [v427, v429])).symm) ?_
      exact WK.meet (m425, b358, v427, v429) rfl (.refl _) (.cons rfl (.cons rfl .nil)) (Mem.le_trans hle31 hle426)
    refine DW.fork (List.cons_ne_nil _ _) ?_ ?_
    · refine DW.tO rfl rfl rfl (OpTo.taO (T.lit0 (α := Stop) sl23 rfl)) (by decide) (fun m435 Es_ v434 hle436 hR_ => ?_)
      subst hR_
      replace hs2 := hs2.mono hle436
      replace hs4 := hs4.mono hle436
      replace hp14 := hp14.mono hle436
      replace hp17 := hp17.mono hle436
      replace hp19 := hp19.mono hle436
      replace hs21 := hs21.mono hle436
      replace hp23 := hp23.mono hle436
      replace hs25 := hs25.mono hle436
      refine DW.fork (List.cons_ne_nil _ _) ?_ ?_
      · refine DW.tO rfl rfl rfl (OpTo.taO (T.lit0 (α := Span) sl22 rfl)) (by decide) (fun m438 Es_ v437 hle439 hR_ => ?_)
        subst hR_
        replace hs2 := hs2.mono hle439
        replace hs4 := hs4.mono hle439
        replace hp14 := hp14.mono hle439
        replace hp17 := hp17.mono hle439
        replace hp19 := hp19.mono hle439
        replace hs21 := hs21.mono hle439
        replace hp23 := hp23.mono hle439
        replace hs25 := hs25.mono hle439
        refine DW.fork (List.cons_ne_nil _ _) ?_ ?_
        · refine DW.ta rfl rfl rfl rfl (T.appendFl (α := Span) (fun _ _ _ h => h) (k := 0) sl22 rfl rfl hs21 rfl (by first | omega | (simp; omega)) (by first | omega | (simp; omega))) (by decide) (fun v440 => ?_)
          refine DW.fork (List.cons_ne_nil _ _) ?_ ?_
          · refine DW.ta rfl rfl rfl rfl (T.appendFl (α := Stop) (fun _ _ _ h => h) (k := 1) sl23 rfl rfl hs25 rfl (by first | omega | (simp; omega)) (by first | omega | (simp; omega))) (by decide) (fun v441 => ?_)
            refine DW.fork (List.cons_ne_nil _ _) ?_ ?_
            · refine DW.tl rfl rfl rfl (T.lit1 sl23 rfl rfl rfl (by decide)) (by decide) fun b442 => ?_
              refine DW.fork (List.cons_ne_nil _ _) ?_ ?_
              · refine DW.ta rfl rfl rfl rfl (T.appendF (k := 1) (a := s) sl23 rfl rfl rfl rfl (by first | omega | (simp; done) | (simp; omega)) (by decide)) (by decide) (fun v443 => ?_)
                refine DW.x (V := Value.agg [v440, v443].toArray) rfl rfl (OpX.own1 (k := 0) rfl trivial (defdB rfl) fun ho444 => (OpX.own1 (k := 1) rfl trivial (defdB rfl) fun ho445 => (X.build Try.zeroValue25 Try.runUnderlying25 (places25 _ Try.underlying25) rfl (by simp only [Instr.fill, one_cells ho444, one_cells ho445]; rfl)))) (by decide) ?_
                refine DW.tn rfl rfl rfl (T.alloc Try.zeroValue25 rfl) (by decide) fun b446 => ?_
                refine DW.ts rfl rfl rfl rfl (OpTo.own1 (k := 1) rfl trivial (defd2 rfl rfl rfl) fun ho447 => (OpTo.own1 (k := 2) rfl trivial (defd2 rfl rfl rfl) fun ho448 => (T.storeBA (k := 0) Try.sizeOf25 rfl rfl rfl (one_cons ho447 (one_cons ho448 one_nil)) rfl rfl))) ?_
                refine DW.nil ?_
                refine WK.nThen ?_
                refine WK.perm [blk b446 25 [v440, v443], rowF (v443) 34 (([] ++ d.Stops) ++ [s]), rowF (v440) 31 ([] ++ d.Rates), blk b9 25 [.slice none 0 0, .slice none 0 0]] (List.Perm.cons _ ((List.Perm.cons _ (.refl _)).trans (List.perm_middle (l₁ := [rowF (v440) 31 ([] ++ d.Rates)]) (l₂ := [blk b9 25 [.slice none 0 0, .slice none 0 0]]) (a := rowF (v443) 34 (([] ++ d.Stops) ++ [s]))).symm)) ?_
                exact WK.meet (m438, b446, v440, v443) rfl (.refl _) (.cons rfl (.cons rfl .nil)) (Mem.le_trans hle436 hle439)
              refine DW.tn rfl rfl rfl (T.alloc Try.zeroValue25 rfl) (by decide) fun b449 => ?_
              refine DW.ta rfl rfl rfl rfl (OpTo.perm (H' := [blk b442 34 [.int .i64 (s.Column), .int .i64 (s.Ticks.Lo), .int .i64 (s.Ticks.Hi)], blk b449 25 [.slice none 0 0, .slice none 0 0], rowF (v440) 31 ([] ++ d.Rates), rowF (v441) 34 ([] ++ d.Stops), blk b9 25 [.slice none 0 0, .slice none 0 0]]) (List.perm_middle (l₁ := [blk b449 25 [.slice none 0 0, .slice none 0 0]]) (l₂ := [rowF (v440) 31 ([] ++ d.Rates), rowF (v441) 34 ([] ++ d.Stops), blk b9 25 [.slice none 0 0, .slice none 0 0]]) (a := blk b442 34 [.int .i64 (s.Column), .int .i64 (s.Ticks.Lo), .int .i64 (s.Ticks.Hi)])).symm (T.appendF (k := 2) (a := s) sl23 rfl rfl rfl rfl (by first | omega | (simp; done) | (simp; omega)) (by decide))) (by decide) (fun v450 => ?_)
              refine DW.x (V := Value.agg [v440, v450].toArray) rfl rfl (OpX.own1 (k := 1) rfl trivial (defdB rfl) fun ho451 => (OpX.own1 (k := 2) rfl trivial (defdB rfl) fun ho452 => (X.build Try.zeroValue25 Try.runUnderlying25 (places25 _ Try.underlying25) rfl (by simp only [Instr.fill, one_cells ho451, one_cells ho452]; rfl)))) (by decide) ?_
              refine DW.ts rfl rfl rfl rfl (OpTo.own1 (k := 1) rfl trivial (defd2 rfl rfl rfl) fun ho453 => (OpTo.own1 (k := 2) rfl trivial (defd2 rfl rfl rfl) fun ho454 => (T.storeBA (k := 0) Try.sizeOf25 rfl rfl rfl (one_cons ho453 (one_cons ho454 one_nil)) rfl rfl))) ?_
              refine DW.nil ?_
              refine WK.nThen ?_
              refine WK.perm [blk b449 25 [v440, v450], rowF (v450) 34 (([] ++ d.Stops) ++ [s]), rowF (v440) 31 ([] ++ d.Rates), blk b9 25 [.slice none 0 0, .slice none 0 0]] (List.Perm.cons _ ((List.Perm.cons _ (.refl _)).trans (List.perm_middle (l₁ := [rowF (v440) 31 ([] ++ d.Rates)]) (l₂ := [blk b9 25 [.slice none 0 0, .slice none 0 0]]) (a := rowF (v450) 34 (([] ++ d.Stops) ++ [s]))).symm)) ?_
              exact WK.meet (m438, b449, v440, v450) rfl (.refl _) (.cons rfl (.cons rfl .nil)) (Mem.le_trans hle436 hle439)
            refine DW.tn rfl rfl rfl (T.alloc Try.zeroValue25 rfl) (by decide) fun b455 => ?_
            refine DW.tl rfl rfl rfl (T.lit1 sl23 rfl rfl rfl (by decide)) (by decide) fun b456 => ?_
            refine DW.ta rfl rfl rfl rfl (T.appendF (k := 2) (a := s) sl23 rfl rfl rfl rfl (by first | omega | (simp; done) | (simp; omega)) (by decide)) (by decide) (fun v457 => ?_)
            refine DW.x (V := Value.agg [v440, v457].toArray) rfl rfl (OpX.own1 (k := 1) rfl trivial (defdB rfl) fun ho458 => (OpX.own1 (k := 2) rfl trivial (defdB rfl) fun ho459 => (X.build Try.zeroValue25 Try.runUnderlying25 (places25 _ Try.underlying25) rfl (by simp only [Instr.fill, one_cells ho458, one_cells ho459]; rfl)))) (by decide) ?_
            refine DW.ts rfl rfl rfl rfl (OpTo.own1 (k := 1) rfl trivial (defd2 rfl rfl rfl) fun ho460 => (OpTo.own1 (k := 2) rfl trivial (defd2 rfl rfl rfl) fun ho461 => (T.storeBA (k := 0) Try.sizeOf25 rfl rfl rfl (one_cons ho460 (one_cons ho461 one_nil)) rfl rfl))) ?_
            refine DW.nil ?_
            refine WK.nThen ?_
            refine WK.perm [blk b455 25 [v440, v457], rowF (v457) 34 (([] ++ d.Stops) ++ [s]), rowF (v440) 31 ([] ++ d.Rates), blk b9 25 [.slice none 0 0, .slice none 0 0]] (List.Perm.cons _ ((List.Perm.cons _ (.refl _)).trans (List.perm_middle (l₁ := [rowF (v440) 31 ([] ++ d.Rates)]) (l₂ := [blk b9 25 [.slice none 0 0, .slice none 0 0]]) (a := rowF (v457) 34 (([] ++ d.Stops) ++ [s]))).symm)) ?_
            exact WK.meet (m438, b455, v440, v457) rfl (.refl _) (.cons rfl (.cons rfl .nil)) (Mem.le_trans hle436 hle439)
          refine DW.fork (List.cons_ne_nil _ _) ?_ ?_
          · refine DW.tl rfl rfl rfl (T.lit1 sl23 rfl rfl rfl (by decide)) (by decide) fun b462 => ?_
            refine DW.fork (List.cons_ne_nil _ _) ?_ ?_
            · refine DW.ta rfl rfl rfl rfl (T.appendFl (α := Stop) (fun _ _ _ h => h) (k := 2) sl23 rfl rfl hs25 rfl (by first | omega | (simp; omega)) (by first | omega | (simp; omega))) (by decide) (fun v463 => ?_)
              refine DW.fork (List.cons_ne_nil _ _) ?_ ?_
              · refine DW.ta rfl rfl rfl rfl (T.appendF (k := 1) (a := s) sl23 rfl rfl rfl rfl (by first | omega | (simp; done) | (simp; omega)) (by decide)) (by decide) (fun v464 => ?_)
                refine DW.x (V := Value.agg [v440, v464].toArray) rfl rfl (OpX.own1 (k := 0) rfl trivial (defdB rfl) fun ho465 => (OpX.own1 (k := 1) rfl trivial (defdB rfl) fun ho466 => (X.build Try.zeroValue25 Try.runUnderlying25 (places25 _ Try.underlying25) rfl (by simp only [Instr.fill, one_cells ho465, one_cells ho466]; rfl)))) (by decide) ?_
                refine DW.tn rfl rfl rfl (T.alloc Try.zeroValue25 rfl) (by decide) fun b467 => ?_
                refine DW.ts rfl rfl rfl rfl (OpTo.own1 (k := 1) rfl trivial (defd2 rfl rfl rfl) fun ho468 => (OpTo.own1 (k := 2) rfl trivial (defd2 rfl rfl rfl) fun ho469 => (T.storeBA (k := 0) Try.sizeOf25 rfl rfl rfl (one_cons ho468 (one_cons ho469 one_nil)) rfl rfl))) ?_
                refine DW.nil ?_
                refine WK.nThen ?_
                refine WK.perm [blk b467 25 [v440, v464], rowF (v464) 34 (([] ++ d.Stops) ++ [s]), rowF (v440) 31 ([] ++ d.Rates), blk b9 25 [.slice none 0 0, .slice none 0 0]] (List.Perm.cons _ ((List.Perm.cons _ (.refl _)).trans (List.perm_middle (l₁ := [rowF (v440) 31 ([] ++ d.Rates)]) (l₂ := [blk b9 25 [.slice none 0 0, .slice none 0 0]]) (a := rowF (v464) 34 (([] ++ d.Stops) ++ [s]))).symm)) ?_
                exact WK.meet (m438, b467, v440, v464) rfl (.refl _) (.cons rfl (.cons rfl .nil)) (Mem.le_trans hle436 hle439)
              refine DW.tn rfl rfl rfl (T.alloc Try.zeroValue25 rfl) (by decide) fun b470 => ?_
              refine DW.ta rfl rfl rfl rfl (OpTo.perm (H' := [blk b462 34 [.int .i64 (s.Column), .int .i64 (s.Ticks.Lo), .int .i64 (s.Ticks.Hi)], blk b470 25 [.slice none 0 0, .slice none 0 0], rowF (v440) 31 ([] ++ d.Rates), rowF (v463) 34 ([] ++ d.Stops), blk b9 25 [.slice none 0 0, .slice none 0 0]]) (List.perm_middle (l₁ := [blk b470 25 [.slice none 0 0, .slice none 0 0]]) (l₂ := [rowF (v440) 31 ([] ++ d.Rates), rowF (v463) 34 ([] ++ d.Stops), blk b9 25 [.slice none 0 0, .slice none 0 0]]) (a := blk b462 34 [.int .i64 (s.Column), .int .i64 (s.Ticks.Lo), .int .i64 (s.Ticks.Hi)])).symm (T.appendF (k := 2) (a := s) sl23 rfl rfl rfl rfl (by first | omega | (simp; done) | (simp; omega)) (by decide))) (by decide) (fun v471 => ?_)
              refine DW.x (V := Value.agg [v440, v471].toArray) rfl rfl (OpX.own1 (k := 1) rfl trivial (defdB rfl) fun ho472 => (OpX.own1 (k := 2) rfl trivial (defdB rfl) fun ho473 => (X.build Try.zeroValue25 Try.runUnderlying25 (places25 _ Try.underlying25) rfl (by simp only [Instr.fill, one_cells ho472, one_cells ho473]; rfl)))) (by decide) ?_
              refine DW.ts rfl rfl rfl rfl (OpTo.own1 (k := 1) rfl trivial (defd2 rfl rfl rfl) fun ho474 => (OpTo.own1 (k := 2) rfl trivial (defd2 rfl rfl rfl) fun ho475 => (T.storeBA (k := 0) Try.sizeOf25 rfl rfl rfl (one_cons ho474 (one_cons ho475 one_nil)) rfl rfl))) ?_
              refine DW.nil ?_
              refine WK.nThen ?_
              refine WK.perm [blk b470 25 [v440, v471], rowF (v471) 34 (([] ++ d.Stops) ++ [s]), rowF (v440) 31 ([] ++ d.Rates), blk b9 25 [.slice none 0 0, .slice none 0 0]] (List.Perm.cons _ ((List.Perm.cons _ (.refl _)).trans (List.perm_middle (l₁ := [rowF (v440) 31 ([] ++ d.Rates)]) (l₂ := [blk b9 25 [.slice none 0 0, .slice none 0 0]]) (a := rowF (v471) 34 (([] ++ d.Stops) ++ [s]))).symm)) ?_
              exact WK.meet (m438, b470, v440, v471) rfl (.refl _) (.cons rfl (.cons rfl .nil)) (Mem.le_trans hle436 hle439)
            refine DW.tn rfl rfl rfl (T.alloc Try.zeroValue25 rfl) (by decide) fun b476 => ?_
            refine DW.ta rfl rfl rfl rfl (T.appendFl (α := Stop) (fun _ _ _ h => h) (k := 3) sl23 rfl rfl hs25 rfl (by first | omega | (simp; omega)) (by first | omega | (simp; omega))) (by decide) (fun v477 => ?_)
            refine DW.ta rfl rfl rfl rfl (OpTo.perm (H' := [blk b462 34 [.int .i64 (s.Column), .int .i64 (s.Ticks.Lo), .int .i64 (s.Ticks.Hi)], blk b476 25 [.slice none 0 0, .slice none 0 0], rowF (v440) 31 ([] ++ d.Rates), rowF (v477) 34 ([] ++ d.Stops), blk b9 25 [.slice none 0 0, .slice none 0 0]]) (List.perm_middle (l₁ := [blk b476 25 [.slice none 0 0, .slice none 0 0]]) (l₂ := [rowF (v440) 31 ([] ++ d.Rates), rowF (v477) 34 ([] ++ d.Stops), blk b9 25 [.slice none 0 0, .slice none 0 0]]) (a := blk b462 34 [.int .i64 (s.Column), .int .i64 (s.Ticks.Lo), .int .i64 (s.Ticks.Hi)])).symm (T.appendF (k := 2) (a := s) sl23 rfl rfl rfl rfl (by first | omega | (simp; done) | (simp; omega)) (by decide))) (by decide) (fun v478 => ?_)
            refine DW.x (V := Value.agg [v440, v478].toArray) rfl rfl (OpX.own1 (k := 1) rfl trivial (defdB rfl) fun ho479 => (OpX.own1 (k := 2) rfl trivial (defdB rfl) fun ho480 => (X.build Try.zeroValue25 Try.runUnderlying25 (places25 _ Try.underlying25) rfl (by simp only [Instr.fill, one_cells ho479, one_cells ho480]; rfl)))) (by decide) ?_
            refine DW.ts rfl rfl rfl rfl (OpTo.own1 (k := 1) rfl trivial (defd2 rfl rfl rfl) fun ho481 => (OpTo.own1 (k := 2) rfl trivial (defd2 rfl rfl rfl) fun ho482 => (T.storeBA (k := 0) Try.sizeOf25 rfl rfl rfl (one_cons ho481 (one_cons ho482 one_nil)) rfl rfl))) ?_
            refine DW.nil ?_
            refine WK.nThen ?_
            refine WK.perm [blk b476 25 [v440, v478], rowF (v478) 34 (([] ++ d.Stops) ++ [s]), rowF (v440) 31 ([] ++ d.Rates), blk b9 25 [.slice none 0 0, .slice none 0 0]] (List.Perm.cons _ ((List.Perm.cons _ (.refl _)).trans (List.perm_middle (l₁ := [rowF (v440) 31 ([] ++ d.Rates)]) (l₂ := [blk b9 25 [.slice none 0 0, .slice none 0 0]]) (a := rowF (v478) 34 (([] ++ d.Stops) ++ [s]))).symm)) ?_
            exact WK.meet (m438, b476, v440, v478) rfl (.refl _) (.cons rfl (.cons rfl .nil)) (Mem.le_trans hle436 hle439)
          refine DW.tn rfl rfl rfl (T.alloc Try.zeroValue25 rfl) (by decide) fun b483 => ?_
          refine DW.fork (List.cons_ne_nil _ _) ?_ ?_
          · refine DW.ta rfl rfl rfl rfl (T.appendFl (α := Stop) (fun _ _ _ h => h) (k := 2) sl23 rfl rfl hs25 rfl (by first | omega | (simp; omega)) (by first | omega | (simp; omega))) (by decide) (fun v484 => ?_)
            refine DW.tl rfl rfl rfl (T.lit1 sl23 rfl rfl rfl (by decide)) (by decide) fun b485 => ?_
            refine DW.ta rfl rfl rfl rfl (T.appendF (k := 2) (a := s) sl23 rfl rfl rfl rfl (by first | omega | (simp; done) | (simp; omega)) (by decide)) (by decide) (fun v486 => ?_)
            refine DW.x (V := Value.agg [v440, v486].toArray) rfl rfl (OpX.own1 (k := 1) rfl trivial (defdB rfl) fun ho487 => (OpX.own1 (k := 2) rfl trivial (defdB rfl) fun ho488 => (X.build Try.zeroValue25 Try.runUnderlying25 (places25 _ Try.underlying25) rfl (by simp only [Instr.fill, one_cells ho487, one_cells ho488]; rfl)))) (by decide) ?_
            refine DW.ts rfl rfl rfl rfl (OpTo.own1 (k := 1) rfl trivial (defd2 rfl rfl rfl) fun ho489 => (OpTo.own1 (k := 2) rfl trivial (defd2 rfl rfl rfl) fun ho490 => (T.storeBA (k := 0) Try.sizeOf25 rfl rfl rfl (one_cons ho489 (one_cons ho490 one_nil)) rfl rfl))) ?_
            refine DW.nil ?_
            refine WK.nThen ?_
            refine WK.perm [blk b483 25 [v440, v486], rowF (v486) 34 (([] ++ d.Stops) ++ [s]), rowF (v440) 31 ([] ++ d.Rates), blk b9 25 [.slice none 0 0, .slice none 0 0]] (List.Perm.cons _ ((List.Perm.cons _ (.refl _)).trans (List.perm_middle (l₁ := [rowF (v440) 31 ([] ++ d.Rates)]) (l₂ := [blk b9 25 [.slice none 0 0, .slice none 0 0]]) (a := rowF (v486) 34 (([] ++ d.Stops) ++ [s]))).symm)) ?_
            exact WK.meet (m438, b483, v440, v486) rfl (.refl _) (.cons rfl (.cons rfl .nil)) (Mem.le_trans hle436 hle439)
          refine DW.tl rfl rfl rfl (T.lit1 sl23 rfl rfl rfl (by decide)) (by decide) fun b491 => ?_
          refine DW.ta rfl rfl rfl rfl (T.appendFl (α := Stop) (fun _ _ _ h => h) (k := 3) sl23 rfl rfl hs25 rfl (by first | omega | (simp; omega)) (by first | omega | (simp; omega))) (by decide) (fun v492 => ?_)
          refine DW.ta rfl rfl rfl rfl (T.appendF (k := 2) (a := s) sl23 rfl rfl rfl rfl (by first | omega | (simp; done) | (simp; omega)) (by decide)) (by decide) (fun v493 => ?_)
          refine DW.x (V := Value.agg [v440, v493].toArray) rfl rfl (OpX.own1 (k := 1) rfl trivial (defdB rfl) fun ho494 => (OpX.own1 (k := 2) rfl trivial (defdB rfl) fun ho495 => (X.build Try.zeroValue25 Try.runUnderlying25 (places25 _ Try.underlying25) rfl (by simp only [Instr.fill, one_cells ho494, one_cells ho495]; rfl)))) (by decide) ?_
          refine DW.ts rfl rfl rfl rfl (OpTo.own1 (k := 1) rfl trivial (defd2 rfl rfl rfl) fun ho496 => (OpTo.own1 (k := 2) rfl trivial (defd2 rfl rfl rfl) fun ho497 => (T.storeBA (k := 0) Try.sizeOf25 rfl rfl rfl (one_cons ho496 (one_cons ho497 one_nil)) rfl rfl))) ?_
          refine DW.nil ?_
          refine WK.nThen ?_
          refine WK.perm [blk b483 25 [v440, v493], rowF (v493) 34 (([] ++ d.Stops) ++ [s]), rowF (v440) 31 ([] ++ d.Rates), blk b9 25 [.slice none 0 0, .slice none 0 0]] (List.Perm.cons _ ((List.Perm.cons _ (.refl _)).trans (List.perm_middle (l₁ := [rowF (v440) 31 ([] ++ d.Rates)]) (l₂ := [blk b9 25 [.slice none 0 0, .slice none 0 0]]) (a := rowF (v493) 34 (([] ++ d.Stops) ++ [s]))).symm)) ?_
          exact WK.meet (m438, b483, v440, v493) rfl (.refl _) (.cons rfl (.cons rfl .nil)) (Mem.le_trans hle436 hle439)
        refine DW.fork (List.cons_ne_nil _ _) ?_ ?_
        · refine DW.tl rfl rfl rfl (T.lit1 sl23 rfl rfl rfl (by decide)) (by decide) fun b498 => ?_
          refine DW.fork (List.cons_ne_nil _ _) ?_ ?_
          · refine DW.ta rfl rfl rfl rfl (T.appendFl (α := Span) (fun _ _ _ h => h) (k := 1) sl22 rfl rfl hs21 rfl (by first | omega | (simp; omega)) (by first | omega | (simp; omega))) (by decide) (fun v499 => ?_)
            refine DW.fork (List.cons_ne_nil _ _) ?_ ?_
            · refine DW.ta rfl rfl rfl rfl (T.appendFl (α := Stop) (fun _ _ _ h => h) (k := 2) sl23 rfl rfl hs25 rfl (by first | omega | (simp; omega)) (by first | omega | (simp; omega))) (by decide) (fun v500 => ?_)
              refine DW.fork (List.cons_ne_nil _ _) ?_ ?_
              · refine DW.ta rfl rfl rfl rfl (T.appendF (k := 1) (a := s) sl23 rfl rfl rfl rfl (by first | omega | (simp; done) | (simp; omega)) (by decide)) (by decide) (fun v501 => ?_)
                refine DW.x (V := Value.agg [v499, v501].toArray) rfl rfl (OpX.own1 (k := 0) rfl trivial (defdB rfl) fun ho502 => (OpX.own1 (k := 1) rfl trivial (defdB rfl) fun ho503 => (X.build Try.zeroValue25 Try.runUnderlying25 (places25 _ Try.underlying25) rfl (by simp only [Instr.fill, one_cells ho502, one_cells ho503]; rfl)))) (by decide) ?_
                refine DW.tn rfl rfl rfl (T.alloc Try.zeroValue25 rfl) (by decide) fun b504 => ?_
                refine DW.ts rfl rfl rfl rfl (OpTo.own1 (k := 1) rfl trivial (defd2 rfl rfl rfl) fun ho505 => (OpTo.own1 (k := 2) rfl trivial (defd2 rfl rfl rfl) fun ho506 => (T.storeBA (k := 0) Try.sizeOf25 rfl rfl rfl (one_cons ho505 (one_cons ho506 one_nil)) rfl rfl))) ?_
                refine DW.nil ?_
                refine WK.nThen ?_
                refine WK.perm [blk b504 25 [v499, v501], rowF (v501) 34 (([] ++ d.Stops) ++ [s]), rowF (v499) 31 ([] ++ d.Rates), blk b9 25 [.slice none 0 0, .slice none 0 0]] (List.Perm.cons _ ((List.Perm.cons _ (.refl _)).trans (List.perm_middle (l₁ := [rowF (v499) 31 ([] ++ d.Rates)]) (l₂ := [blk b9 25 [.slice none 0 0, .slice none 0 0]]) (a := rowF (v501) 34 (([] ++ d.Stops) ++ [s]))).symm)) ?_
                exact WK.meet (m438, b504, v499, v501) rfl (.refl _) (.cons rfl (.cons rfl .nil)) (Mem.le_trans hle436 hle439)
              refine DW.tn rfl rfl rfl (T.alloc Try.zeroValue25 rfl) (by decide) fun b507 => ?_
              refine DW.ta rfl rfl rfl rfl (OpTo.perm (H' := [blk b498 34 [.int .i64 (s.Column), .int .i64 (s.Ticks.Lo), .int .i64 (s.Ticks.Hi)], blk b507 25 [.slice none 0 0, .slice none 0 0], rowF (v499) 31 ([] ++ d.Rates), rowF (v500) 34 ([] ++ d.Stops), blk b9 25 [.slice none 0 0, .slice none 0 0]]) (List.perm_middle (l₁ := [blk b507 25 [.slice none 0 0, .slice none 0 0]]) (l₂ := [rowF (v499) 31 ([] ++ d.Rates), rowF (v500) 34 ([] ++ d.Stops), blk b9 25 [.slice none 0 0, .slice none 0 0]]) (a := blk b498 34 [.int .i64 (s.Column), .int .i64 (s.Ticks.Lo), .int .i64 (s.Ticks.Hi)])).symm (T.appendF (k := 2) (a := s) sl23 rfl rfl rfl rfl (by first | omega | (simp; done) | (simp; omega)) (by decide))) (by decide) (fun v508 => ?_)
              refine DW.x (V := Value.agg [v499, v508].toArray) rfl rfl (OpX.own1 (k := 1) rfl trivial (defdB rfl) fun ho509 => (OpX.own1 (k := 2) rfl trivial (defdB rfl) fun ho510 => (X.build Try.zeroValue25 Try.runUnderlying25 (places25 _ Try.underlying25) rfl (by simp only [Instr.fill, one_cells ho509, one_cells ho510]; rfl)))) (by decide) ?_
              refine DW.ts rfl rfl rfl rfl (OpTo.own1 (k := 1) rfl trivial (defd2 rfl rfl rfl) fun ho511 => (OpTo.own1 (k := 2) rfl trivial (defd2 rfl rfl rfl) fun ho512 => (T.storeBA (k := 0) Try.sizeOf25 rfl rfl rfl (one_cons ho511 (one_cons ho512 one_nil)) rfl rfl))) ?_
              refine DW.nil ?_
              refine WK.nThen ?_
              refine WK.perm [blk b507 25 [v499, v508], rowF (v508) 34 (([] ++ d.Stops) ++ [s]), rowF (v499) 31 ([] ++ d.Rates), blk b9 25 [.slice none 0 0, .slice none 0 0]] (List.Perm.cons _ ((List.Perm.cons _ (.refl _)).trans (List.perm_middle (l₁ := [rowF (v499) 31 ([] ++ d.Rates)]) (l₂ := [blk b9 25 [.slice none 0 0, .slice none 0 0]]) (a := rowF (v508) 34 (([] ++ d.Stops) ++ [s]))).symm)) ?_
              exact WK.meet (m438, b507, v499, v508) rfl (.refl _) (.cons rfl (.cons rfl .nil)) (Mem.le_trans hle436 hle439)
            refine DW.tn rfl rfl rfl (T.alloc Try.zeroValue25 rfl) (by decide) fun b513 => ?_
            refine DW.ta rfl rfl rfl rfl (T.appendFl (α := Stop) (fun _ _ _ h => h) (k := 3) sl23 rfl rfl hs25 rfl (by first | omega | (simp; omega)) (by first | omega | (simp; omega))) (by decide) (fun v514 => ?_)
            refine DW.ta rfl rfl rfl rfl (OpTo.perm (H' := [blk b498 34 [.int .i64 (s.Column), .int .i64 (s.Ticks.Lo), .int .i64 (s.Ticks.Hi)], blk b513 25 [.slice none 0 0, .slice none 0 0], rowF (v499) 31 ([] ++ d.Rates), rowF (v514) 34 ([] ++ d.Stops), blk b9 25 [.slice none 0 0, .slice none 0 0]]) (List.perm_middle (l₁ := [blk b513 25 [.slice none 0 0, .slice none 0 0]]) (l₂ := [rowF (v499) 31 ([] ++ d.Rates), rowF (v514) 34 ([] ++ d.Stops), blk b9 25 [.slice none 0 0, .slice none 0 0]]) (a := blk b498 34 [.int .i64 (s.Column), .int .i64 (s.Ticks.Lo), .int .i64 (s.Ticks.Hi)])).symm (T.appendF (k := 2) (a := s) sl23 rfl rfl rfl rfl (by first | omega | (simp; done) | (simp; omega)) (by decide))) (by decide) (fun v515 => ?_)
            refine DW.x (V := Value.agg [v499, v515].toArray) rfl rfl (OpX.own1 (k := 1) rfl trivial (defdB rfl) fun ho516 => (OpX.own1 (k := 2) rfl trivial (defdB rfl) fun ho517 => (X.build Try.zeroValue25 Try.runUnderlying25 (places25 _ Try.underlying25) rfl (by simp only [Instr.fill, one_cells ho516, one_cells ho517]; rfl)))) (by decide) ?_
            refine DW.ts rfl rfl rfl rfl (OpTo.own1 (k := 1) rfl trivial (defd2 rfl rfl rfl) fun ho518 => (OpTo.own1 (k := 2) rfl trivial (defd2 rfl rfl rfl) fun ho519 => (T.storeBA (k := 0) Try.sizeOf25 rfl rfl rfl (one_cons ho518 (one_cons ho519 one_nil)) rfl rfl))) ?_
            refine DW.nil ?_
            refine WK.nThen ?_
            refine WK.perm [blk b513 25 [v499, v515], rowF (v515) 34 (([] ++ d.Stops) ++ [s]), rowF (v499) 31 ([] ++ d.Rates), blk b9 25 [.slice none 0 0, .slice none 0 0]] (List.Perm.cons _ ((List.Perm.cons _ (.refl _)).trans (List.perm_middle (l₁ := [rowF (v499) 31 ([] ++ d.Rates)]) (l₂ := [blk b9 25 [.slice none 0 0, .slice none 0 0]]) (a := rowF (v515) 34 (([] ++ d.Stops) ++ [s]))).symm)) ?_
            exact WK.meet (m438, b513, v499, v515) rfl (.refl _) (.cons rfl (.cons rfl .nil)) (Mem.le_trans hle436 hle439)
          refine DW.tn rfl rfl rfl (T.alloc Try.zeroValue25 rfl) (by decide) fun b520 => ?_
          refine DW.ta rfl rfl rfl rfl (T.appendFl (α := Span) (fun _ _ _ h => h) (k := 2) sl22 rfl rfl hs21 rfl (by first | omega | (simp; omega)) (by first | omega | (simp; omega))) (by decide) (fun v521 => ?_)
          refine DW.ta rfl rfl rfl rfl (T.appendFl (α := Stop) (fun _ _ _ h => h) (k := 3) sl23 rfl rfl hs25 rfl (by first | omega | (simp; omega)) (by first | omega | (simp; omega))) (by decide) (fun v522 => ?_)
          refine DW.ta rfl rfl rfl rfl (OpTo.perm (H' := [blk b498 34 [.int .i64 (s.Column), .int .i64 (s.Ticks.Lo), .int .i64 (s.Ticks.Hi)], blk b520 25 [.slice none 0 0, .slice none 0 0], rowF (v521) 31 ([] ++ d.Rates), rowF (v522) 34 ([] ++ d.Stops), blk b9 25 [.slice none 0 0, .slice none 0 0]]) (List.perm_middle (l₁ := [blk b520 25 [.slice none 0 0, .slice none 0 0]]) (l₂ := [rowF (v521) 31 ([] ++ d.Rates), rowF (v522) 34 ([] ++ d.Stops), blk b9 25 [.slice none 0 0, .slice none 0 0]]) (a := blk b498 34 [.int .i64 (s.Column), .int .i64 (s.Ticks.Lo), .int .i64 (s.Ticks.Hi)])).symm (T.appendF (k := 2) (a := s) sl23 rfl rfl rfl rfl (by first | omega | (simp; done) | (simp; omega)) (by decide))) (by decide) (fun v523 => ?_)
          refine DW.x (V := Value.agg [v521, v523].toArray) rfl rfl (OpX.own1 (k := 1) rfl trivial (defdB rfl) fun ho524 => (OpX.own1 (k := 2) rfl trivial (defdB rfl) fun ho525 => (X.build Try.zeroValue25 Try.runUnderlying25 (places25 _ Try.underlying25) rfl (by simp only [Instr.fill, one_cells ho524, one_cells ho525]; rfl)))) (by decide) ?_
          refine DW.ts rfl rfl rfl rfl (OpTo.own1 (k := 1) rfl trivial (defd2 rfl rfl rfl) fun ho526 => (OpTo.own1 (k := 2) rfl trivial (defd2 rfl rfl rfl) fun ho527 => (T.storeBA (k := 0) Try.sizeOf25 rfl rfl rfl (one_cons ho526 (one_cons ho527 one_nil)) rfl rfl))) ?_
          refine DW.nil ?_
          refine WK.nThen ?_
          refine WK.perm [blk b520 25 [v521, v523], rowF (v523) 34 (([] ++ d.Stops) ++ [s]), rowF (v521) 31 ([] ++ d.Rates), blk b9 25 [.slice none 0 0, .slice none 0 0]] (List.Perm.cons _ ((List.Perm.cons _ (.refl _)).trans (List.perm_middle (l₁ := [rowF (v521) 31 ([] ++ d.Rates)]) (l₂ := [blk b9 25 [.slice none 0 0, .slice none 0 0]]) (a := rowF (v523) 34 (([] ++ d.Stops) ++ [s]))).symm)) ?_
          exact WK.meet (m438, b520, v521, v523) rfl (.refl _) (.cons rfl (.cons rfl .nil)) (Mem.le_trans hle436 hle439)
        refine DW.tn rfl rfl rfl (T.alloc Try.zeroValue25 rfl) (by decide) fun b528 => ?_
        refine DW.fork (List.cons_ne_nil _ _) ?_ ?_
        · refine DW.ta rfl rfl rfl rfl (T.appendFl (α := Span) (fun _ _ _ h => h) (k := 1) sl22 rfl rfl hs21 rfl (by first | omega | (simp; omega)) (by first | omega | (simp; omega))) (by decide) (fun v529 => ?_)
          refine DW.fork (List.cons_ne_nil _ _) ?_ ?_
          · refine DW.ta rfl rfl rfl rfl (T.appendFl (α := Stop) (fun _ _ _ h => h) (k := 2) sl23 rfl rfl hs25 rfl (by first | omega | (simp; omega)) (by first | omega | (simp; omega))) (by decide) (fun v530 => ?_)
            refine DW.tl rfl rfl rfl (T.lit1 sl23 rfl rfl rfl (by decide)) (by decide) fun b531 => ?_
            refine DW.ta rfl rfl rfl rfl (T.appendF (k := 2) (a := s) sl23 rfl rfl rfl rfl (by first | omega | (simp; done) | (simp; omega)) (by decide)) (by decide) (fun v532 => ?_)
            refine DW.x (V := Value.agg [v529, v532].toArray) rfl rfl (OpX.own1 (k := 1) rfl trivial (defdB rfl) fun ho533 => (OpX.own1 (k := 2) rfl trivial (defdB rfl) fun ho534 => (X.build Try.zeroValue25 Try.runUnderlying25 (places25 _ Try.underlying25) rfl (by simp only [Instr.fill, one_cells ho533, one_cells ho534]; rfl)))) (by decide) ?_
            refine DW.ts rfl rfl rfl rfl (OpTo.own1 (k := 1) rfl trivial (defd2 rfl rfl rfl) fun ho535 => (OpTo.own1 (k := 2) rfl trivial (defd2 rfl rfl rfl) fun ho536 => (T.storeBA (k := 0) Try.sizeOf25 rfl rfl rfl (one_cons ho535 (one_cons ho536 one_nil)) rfl rfl))) ?_
            refine DW.nil ?_
            refine WK.nThen ?_
            refine WK.perm [blk b528 25 [v529, v532], rowF (v532) 34 (([] ++ d.Stops) ++ [s]), rowF (v529) 31 ([] ++ d.Rates), blk b9 25 [.slice none 0 0, .slice none 0 0]] (List.Perm.cons _ ((List.Perm.cons _ (.refl _)).trans (List.perm_middle (l₁ := [rowF (v529) 31 ([] ++ d.Rates)]) (l₂ := [blk b9 25 [.slice none 0 0, .slice none 0 0]]) (a := rowF (v532) 34 (([] ++ d.Stops) ++ [s]))).symm)) ?_
            exact WK.meet (m438, b528, v529, v532) rfl (.refl _) (.cons rfl (.cons rfl .nil)) (Mem.le_trans hle436 hle439)
          refine DW.tl rfl rfl rfl (T.lit1 sl23 rfl rfl rfl (by decide)) (by decide) fun b537 => ?_
          refine DW.ta rfl rfl rfl rfl (T.appendFl (α := Stop) (fun _ _ _ h => h) (k := 3) sl23 rfl rfl hs25 rfl (by first | omega | (simp; omega)) (by first | omega | (simp; omega))) (by decide) (fun v538 => ?_)
          refine DW.ta rfl rfl rfl rfl (T.appendF (k := 2) (a := s) sl23 rfl rfl rfl rfl (by first | omega | (simp; done) | (simp; omega)) (by decide)) (by decide) (fun v539 => ?_)
          refine DW.x (V := Value.agg [v529, v539].toArray) rfl rfl (OpX.own1 (k := 1) rfl trivial (defdB rfl) fun ho540 => (OpX.own1 (k := 2) rfl trivial (defdB rfl) fun ho541 => (X.build Try.zeroValue25 Try.runUnderlying25 (places25 _ Try.underlying25) rfl (by simp only [Instr.fill, one_cells ho540, one_cells ho541]; rfl)))) (by decide) ?_
          refine DW.ts rfl rfl rfl rfl (OpTo.own1 (k := 1) rfl trivial (defd2 rfl rfl rfl) fun ho542 => (OpTo.own1 (k := 2) rfl trivial (defd2 rfl rfl rfl) fun ho543 => (T.storeBA (k := 0) Try.sizeOf25 rfl rfl rfl (one_cons ho542 (one_cons ho543 one_nil)) rfl rfl))) ?_
          refine DW.nil ?_
          refine WK.nThen ?_
          refine WK.perm [blk b528 25 [v529, v539], rowF (v539) 34 (([] ++ d.Stops) ++ [s]), rowF (v529) 31 ([] ++ d.Rates), blk b9 25 [.slice none 0 0, .slice none 0 0]] (List.Perm.cons _ ((List.Perm.cons _ (.refl _)).trans (List.perm_middle (l₁ := [rowF (v529) 31 ([] ++ d.Rates)]) (l₂ := [blk b9 25 [.slice none 0 0, .slice none 0 0]]) (a := rowF (v539) 34 (([] ++ d.Stops) ++ [s]))).symm)) ?_
          exact WK.meet (m438, b528, v529, v539) rfl (.refl _) (.cons rfl (.cons rfl .nil)) (Mem.le_trans hle436 hle439)
        refine DW.tl rfl rfl rfl (T.lit1 sl23 rfl rfl rfl (by decide)) (by decide) fun b544 => ?_
        refine DW.ta rfl rfl rfl rfl (T.appendFl (α := Span) (fun _ _ _ h => h) (k := 2) sl22 rfl rfl hs21 rfl (by first | omega | (simp; omega)) (by first | omega | (simp; omega))) (by decide) (fun v545 => ?_)
        refine DW.ta rfl rfl rfl rfl (T.appendFl (α := Stop) (fun _ _ _ h => h) (k := 3) sl23 rfl rfl hs25 rfl (by first | omega | (simp; omega)) (by first | omega | (simp; omega))) (by decide) (fun v546 => ?_)
        refine DW.ta rfl rfl rfl rfl (T.appendF (k := 2) (a := s) sl23 rfl rfl rfl rfl (by first | omega | (simp; done) | (simp; omega)) (by decide)) (by decide) (fun v547 => ?_)
        refine DW.x (V := Value.agg [v545, v547].toArray) rfl rfl (OpX.own1 (k := 1) rfl trivial (defdB rfl) fun ho548 => (OpX.own1 (k := 2) rfl trivial (defdB rfl) fun ho549 => (X.build Try.zeroValue25 Try.runUnderlying25 (places25 _ Try.underlying25) rfl (by simp only [Instr.fill, one_cells ho548, one_cells ho549]; rfl)))) (by decide) ?_
        refine DW.ts rfl rfl rfl rfl (OpTo.own1 (k := 1) rfl trivial (defd2 rfl rfl rfl) fun ho550 => (OpTo.own1 (k := 2) rfl trivial (defd2 rfl rfl rfl) fun ho551 => (T.storeBA (k := 0) Try.sizeOf25 rfl rfl rfl (one_cons ho550 (one_cons ho551 one_nil)) rfl rfl))) ?_
        refine DW.nil ?_
        refine WK.nThen ?_
        refine WK.perm [blk b528 25 [v545, v547], rowF (v547) 34 (([] ++ d.Stops) ++ [s]), rowF (v545) 31 ([] ++ d.Rates), blk b9 25 [.slice none 0 0, .slice none 0 0]] (List.Perm.cons _ ((List.Perm.cons _ (.refl _)).trans (List.perm_middle (l₁ := [rowF (v545) 31 ([] ++ d.Rates)]) (l₂ := [blk b9 25 [.slice none 0 0, .slice none 0 0]]) (a := rowF (v547) 34 (([] ++ d.Stops) ++ [s]))).symm)) ?_
        exact WK.meet (m438, b528, v545, v547) rfl (.refl _) (.cons rfl (.cons rfl .nil)) (Mem.le_trans hle436 hle439)
      refine DW.fork (List.cons_ne_nil _ _) ?_ ?_
      · refine DW.tl rfl rfl rfl (T.lit1 sl23 rfl rfl rfl (by decide)) (by decide) fun b552 => ?_
        refine DW.fork (List.cons_ne_nil _ _) ?_ ?_
        · refine DW.tO rfl rfl rfl (OpTo.taO (T.lit0 (α := Span) sl22 rfl)) (by decide) (fun m554 Es_ v553 hle555 hR_ => ?_)
          subst hR_
          replace hs2 := hs2.mono hle555
          replace hs4 := hs4.mono hle555
          replace hp14 := hp14.mono hle555
          replace hp17 := hp17.mono hle555
          replace hp19 := hp19.mono hle555
          replace hs21 := hs21.mono hle555
          replace hp23 := hp23.mono hle555
          replace hs25 := hs25.mono hle555
          refine DW.fork (List.cons_ne_nil _ _) ?_ ?_
          · refine DW.ta rfl rfl rfl rfl (T.appendFl (α := Span) (fun _ _ _ h => h) (k := 0) sl22 rfl rfl hs21 rfl (by first | omega | (simp; omega)) (by first | omega | (simp; omega))) (by decide) (fun v556 => ?_)
            refine DW.fork (List.cons_ne_nil _ _) ?_ ?_
            · refine DW.ta rfl rfl rfl rfl (T.appendFl (α := Stop) (fun _ _ _ h => h) (k := 2) sl23 rfl rfl hs25 rfl (by first | omega | (simp; omega)) (by first | omega | (simp; omega))) (by decide) (fun v557 => ?_)
              refine DW.fork (List.cons_ne_nil _ _) ?_ ?_
              · refine DW.ta rfl rfl rfl rfl (OpTo.perm (H' := [blk b552 34 [.int .i64 (s.Column), .int .i64 (s.Ticks.Lo), .int .i64 (s.Ticks.Hi)], rowF (v556) 31 ([] ++ d.Rates), rowF (v557) 34 ([] ++ d.Stops), blk b9 25 [.slice none 0 0, .slice none 0 0]]) (List.perm_middle (l₁ := [rowF (v556) 31 ([] ++ d.Rates)]) (l₂ := [rowF (v557) 34 ([] ++ d.Stops), blk b9 25 [.slice none 0 0, .slice none 0 0]]) (a := blk b552 34 [.int .i64 (s.Column), .int .i64 (s.Ticks.Lo), .int .i64 (s.Ticks.Hi)])).symm (T.appendF (k := 1) (a := s) sl23 rfl rfl rfl rfl (by first | omega | (simp; done) | (simp; omega)) (by decide))) (by decide) (fun v558 => ?_)
                refine DW.x (V := Value.agg [v556, v558].toArray) rfl rfl (OpX.own1 (k := 0) rfl trivial (defdB rfl) fun ho559 => (OpX.own1 (k := 1) rfl trivial (defdB rfl) fun ho560 => (X.build Try.zeroValue25 Try.runUnderlying25 (places25 _ Try.underlying25) rfl (by simp only [Instr.fill, one_cells ho559, one_cells ho560]; rfl)))) (by decide) ?_
                refine DW.tn rfl rfl rfl (T.alloc Try.zeroValue25 rfl) (by decide) fun b561 => ?_
                refine DW.ts rfl rfl rfl rfl (OpTo.own1 (k := 1) rfl trivial (defd2 rfl rfl rfl) fun ho562 => (OpTo.own1 (k := 2) rfl trivial (defd2 rfl rfl rfl) fun ho563 => (T.storeBA (k := 0) Try.sizeOf25 rfl rfl rfl (one_cons ho562 (one_cons ho563 one_nil)) rfl rfl))) ?_
                refine DW.nil ?_
                refine WK.nThen ?_
                refine WK.perm [blk b561 25 [v556, v558], rowF (v558) 34 (([] ++ d.Stops) ++ [s]), rowF (v556) 31 ([] ++ d.Rates), blk b9 25 [.slice none 0 0, .slice none 0 0]] (List.Perm.cons _ ((List.Perm.cons _ (.refl _)).trans (List.perm_middle (l₁ := [rowF (v556) 31 ([] ++ d.Rates)]) (l₂ := [blk b9 25 [.slice none 0 0, .slice none 0 0]]) (a := rowF (v558) 34 (([] ++ d.Stops) ++ [s]))).symm)) ?_
                exact WK.meet (m554, b561, v556, v558) rfl (.refl _) (.cons rfl (.cons rfl .nil)) (Mem.le_trans hle436 hle555)
              refine DW.tn rfl rfl rfl (T.alloc Try.zeroValue25 rfl) (by decide) fun b564 => ?_
              refine DW.ta rfl rfl rfl rfl (OpTo.perm (H' := [blk b552 34 [.int .i64 (s.Column), .int .i64 (s.Ticks.Lo), .int .i64 (s.Ticks.Hi)], blk b564 25 [.slice none 0 0, .slice none 0 0], rowF (v556) 31 ([] ++ d.Rates), rowF (v557) 34 ([] ++ d.Stops), blk b9 25 [.slice none 0 0, .slice none 0 0]]) (List.perm_middle (l₁ := [blk b564 25 [.slice none 0 0, .slice none 0 0], rowF (v556) 31 ([] ++ d.Rates)]) (l₂ := [rowF (v557) 34 ([] ++ d.Stops), blk b9 25 [.slice none 0 0, .slice none 0 0]]) (a := blk b552 34 [.int .i64 (s.Column), .int .i64 (s.Ticks.Lo), .int .i64 (s.Ticks.Hi)])).symm (T.appendF (k := 2) (a := s) sl23 rfl rfl rfl rfl (by first | omega | (simp; done) | (simp; omega)) (by decide))) (by decide) (fun v565 => ?_)
              refine DW.x (V := Value.agg [v556, v565].toArray) rfl rfl (OpX.own1 (k := 1) rfl trivial (defdB rfl) fun ho566 => (OpX.own1 (k := 2) rfl trivial (defdB rfl) fun ho567 => (X.build Try.zeroValue25 Try.runUnderlying25 (places25 _ Try.underlying25) rfl (by simp only [Instr.fill, one_cells ho566, one_cells ho567]; rfl)))) (by decide) ?_
              refine DW.ts rfl rfl rfl rfl (OpTo.own1 (k := 1) rfl trivial (defd2 rfl rfl rfl) fun ho568 => (OpTo.own1 (k := 2) rfl trivial (defd2 rfl rfl rfl) fun ho569 => (T.storeBA (k := 0) Try.sizeOf25 rfl rfl rfl (one_cons ho568 (one_cons ho569 one_nil)) rfl rfl))) ?_
              refine DW.nil ?_
              refine WK.nThen ?_
              refine WK.perm [blk b564 25 [v556, v565], rowF (v565) 34 (([] ++ d.Stops) ++ [s]), rowF (v556) 31 ([] ++ d.Rates), blk b9 25 [.slice none 0 0, .slice none 0 0]] (List.Perm.cons _ ((List.Perm.cons _ (.refl _)).trans (List.perm_middle (l₁ := [rowF (v556) 31 ([] ++ d.Rates)]) (l₂ := [blk b9 25 [.slice none 0 0, .slice none 0 0]]) (a := rowF (v565) 34 (([] ++ d.Stops) ++ [s]))).symm)) ?_
              exact WK.meet (m554, b564, v556, v565) rfl (.refl _) (.cons rfl (.cons rfl .nil)) (Mem.le_trans hle436 hle555)
            refine DW.tn rfl rfl rfl (T.alloc Try.zeroValue25 rfl) (by decide) fun b570 => ?_
            refine DW.ta rfl rfl rfl rfl (T.appendFl (α := Stop) (fun _ _ _ h => h) (k := 3) sl23 rfl rfl hs25 rfl (by first | omega | (simp; omega)) (by first | omega | (simp; omega))) (by decide) (fun v571 => ?_)
            refine DW.ta rfl rfl rfl rfl (OpTo.perm (H' := [blk b552 34 [.int .i64 (s.Column), .int .i64 (s.Ticks.Lo), .int .i64 (s.Ticks.Hi)], blk b570 25 [.slice none 0 0, .slice none 0 0], rowF (v556) 31 ([] ++ d.Rates), rowF (v571) 34 ([] ++ d.Stops), blk b9 25 [.slice none 0 0, .slice none 0 0]]) (List.perm_middle (l₁ := [blk b570 25 [.slice none 0 0, .slice none 0 0], rowF (v556) 31 ([] ++ d.Rates)]) (l₂ := [rowF (v571) 34 ([] ++ d.Stops), blk b9 25 [.slice none 0 0, .slice none 0 0]]) (a := blk b552 34 [.int .i64 (s.Column), .int .i64 (s.Ticks.Lo), .int .i64 (s.Ticks.Hi)])).symm (T.appendF (k := 2) (a := s) sl23 rfl rfl rfl rfl (by first | omega | (simp; done) | (simp; omega)) (by decide))) (by decide) (fun v572 => ?_)
            refine DW.x (V := Value.agg [v556, v572].toArray) rfl rfl (OpX.own1 (k := 1) rfl trivial (defdB rfl) fun ho573 => (OpX.own1 (k := 2) rfl trivial (defdB rfl) fun ho574 => (X.build Try.zeroValue25 Try.runUnderlying25 (places25 _ Try.underlying25) rfl (by simp only [Instr.fill, one_cells ho573, one_cells ho574]; rfl)))) (by decide) ?_
            refine DW.ts rfl rfl rfl rfl (OpTo.own1 (k := 1) rfl trivial (defd2 rfl rfl rfl) fun ho575 => (OpTo.own1 (k := 2) rfl trivial (defd2 rfl rfl rfl) fun ho576 => (T.storeBA (k := 0) Try.sizeOf25 rfl rfl rfl (one_cons ho575 (one_cons ho576 one_nil)) rfl rfl))) ?_
            refine DW.nil ?_
            refine WK.nThen ?_
            refine WK.perm [blk b570 25 [v556, v572], rowF (v572) 34 (([] ++ d.Stops) ++ [s]), rowF (v556) 31 ([] ++ d.Rates), blk b9 25 [.slice none 0 0, .slice none 0 0]] (List.Perm.cons _ ((List.Perm.cons _ (.refl _)).trans (List.perm_middle (l₁ := [rowF (v556) 31 ([] ++ d.Rates)]) (l₂ := [blk b9 25 [.slice none 0 0, .slice none 0 0]]) (a := rowF (v572) 34 (([] ++ d.Stops) ++ [s]))).symm)) ?_
            exact WK.meet (m554, b570, v556, v572) rfl (.refl _) (.cons rfl (.cons rfl .nil)) (Mem.le_trans hle436 hle555)
          refine DW.tn rfl rfl rfl (T.alloc Try.zeroValue25 rfl) (by decide) fun b577 => ?_
          refine DW.ta rfl rfl rfl rfl (T.appendFl (α := Span) (fun _ _ _ h => h) (k := 1) sl22 rfl rfl hs21 rfl (by first | omega | (simp; omega)) (by first | omega | (simp; omega))) (by decide) (fun v578 => ?_)
          refine DW.ta rfl rfl rfl rfl (T.appendFl (α := Stop) (fun _ _ _ h => h) (k := 3) sl23 rfl rfl hs25 rfl (by first | omega | (simp; omega)) (by first | omega | (simp; omega))) (by decide) (fun v579 => ?_)
          refine DW.ta rfl rfl rfl rfl (OpTo.perm (H' := [blk b552 34 [.int .i64 (s.Column), .int .i64 (s.Ticks.Lo), .int .i64 (s.Ticks.Hi)], blk b577 25 [.slice none 0 0, .slice none 0 0], rowF (v578) 31 ([] ++ d.Rates), rowF (v579) 34 ([] ++ d.Stops), blk b9 25 [.slice none 0 0, .slice none 0 0]]) (List.perm_middle (l₁ := [blk b577 25 [.slice none 0 0, .slice none 0 0], rowF (v578) 31 ([] ++ d.Rates)]) (l₂ := [rowF (v579) 34 ([] ++ d.Stops), blk b9 25 [.slice none 0 0, .slice none 0 0]]) (a := blk b552 34 [.int .i64 (s.Column), .int .i64 (s.Ticks.Lo), .int .i64 (s.Ticks.Hi)])).symm (T.appendF (k := 2) (a := s) sl23 rfl rfl rfl rfl (by first | omega | (simp; done) | (simp; omega)) (by decide))) (by decide) (fun v580 => ?_)
          refine DW.x (V := Value.agg [v578, v580].toArray) rfl rfl (OpX.own1 (k := 1) rfl trivial (defdB rfl) fun ho581 => (OpX.own1 (k := 2) rfl trivial (defdB rfl) fun ho582 => (X.build Try.zeroValue25 Try.runUnderlying25 (places25 _ Try.underlying25) rfl (by simp only [Instr.fill, one_cells ho581, one_cells ho582]; rfl)))) (by decide) ?_
          refine DW.ts rfl rfl rfl rfl (OpTo.own1 (k := 1) rfl trivial (defd2 rfl rfl rfl) fun ho583 => (OpTo.own1 (k := 2) rfl trivial (defd2 rfl rfl rfl) fun ho584 => (T.storeBA (k := 0) Try.sizeOf25 rfl rfl rfl (one_cons ho583 (one_cons ho584 one_nil)) rfl rfl))) ?_
          refine DW.nil ?_
          refine WK.nThen ?_
          refine WK.perm [blk b577 25 [v578, v580], rowF (v580) 34 (([] ++ d.Stops) ++ [s]), rowF (v578) 31 ([] ++ d.Rates), blk b9 25 [.slice none 0 0, .slice none 0 0]] (List.Perm.cons _ ((List.Perm.cons _ (.refl _)).trans (List.perm_middle (l₁ := [rowF (v578) 31 ([] ++ d.Rates)]) (l₂ := [blk b9 25 [.slice none 0 0, .slice none 0 0]]) (a := rowF (v580) 34 (([] ++ d.Stops) ++ [s]))).symm)) ?_
          exact WK.meet (m554, b577, v578, v580) rfl (.refl _) (.cons rfl (.cons rfl .nil)) (Mem.le_trans hle436 hle555)
        refine DW.tn rfl rfl rfl (T.alloc Try.zeroValue25 rfl) (by decide) fun b585 => ?_
        refine DW.tO rfl rfl rfl (OpTo.taO (T.lit0 (α := Span) sl22 rfl)) (by decide) (fun m587 Es_ v586 hle588 hR_ => ?_)
        subst hR_
        replace hs2 := hs2.mono hle588
        replace hs4 := hs4.mono hle588
        replace hp14 := hp14.mono hle588
        replace hp17 := hp17.mono hle588
        replace hp19 := hp19.mono hle588
        replace hs21 := hs21.mono hle588
        replace hp23 := hp23.mono hle588
        replace hs25 := hs25.mono hle588
        refine DW.ta rfl rfl rfl rfl (T.appendFl (α := Span) (fun _ _ _ h => h) (k := 0) sl22 rfl rfl hs21 rfl (by first | omega | (simp; omega)) (by first | omega | (simp; omega))) (by decide) (fun v589 => ?_)
        refine DW.ta rfl rfl rfl rfl (T.appendFl (α := Stop) (fun _ _ _ h => h) (k := 3) sl23 rfl rfl hs25 rfl (by first | omega | (simp; omega)) (by first | omega | (simp; omega))) (by decide) (fun v590 => ?_)
        refine DW.ta rfl rfl rfl rfl (OpTo.perm (H' := [blk b552 34 [.int .i64 (s.Column), .int .i64 (s.Ticks.Lo), .int .i64 (s.Ticks.Hi)], rowF (v589) 31 ([] ++ d.Rates), blk b585 25 [.slice none 0 0, .slice none 0 0], rowF (v590) 34 ([] ++ d.Stops), blk b9 25 [.slice none 0 0, .slice none 0 0]]) (List.perm_middle (l₁ := [rowF (v589) 31 ([] ++ d.Rates), blk b585 25 [.slice none 0 0, .slice none 0 0]]) (l₂ := [rowF (v590) 34 ([] ++ d.Stops), blk b9 25 [.slice none 0 0, .slice none 0 0]]) (a := blk b552 34 [.int .i64 (s.Column), .int .i64 (s.Ticks.Lo), .int .i64 (s.Ticks.Hi)])).symm (T.appendF (k := 2) (a := s) sl23 rfl rfl rfl rfl (by first | omega | (simp; done) | (simp; omega)) (by decide))) (by decide) (fun v591 => ?_)
        refine DW.x (V := Value.agg [v589, v591].toArray) rfl rfl (OpX.own1 (k := 0) rfl trivial (defdB rfl) fun ho592 => (OpX.own1 (k := 2) rfl trivial (defdB rfl) fun ho593 => (X.build Try.zeroValue25 Try.runUnderlying25 (places25 _ Try.underlying25) rfl (by simp only [Instr.fill, one_cells ho592, one_cells ho593]; rfl)))) (by decide) ?_
        refine DW.ts rfl rfl rfl rfl (OpTo.own1 (k := 0) rfl trivial (defd2 rfl rfl rfl) fun ho594 => (OpTo.own1 (k := 2) rfl trivial (defd2 rfl rfl rfl) fun ho595 => (T.storeBA (k := 1) Try.sizeOf25 rfl rfl rfl (one_cons ho594 (one_cons ho595 one_nil)) rfl rfl))) ?_
        refine DW.nil ?_
        refine WK.nThen ?_
        refine WK.perm [blk b585 25 [v589, v591], rowF (v591) 34 (([] ++ d.Stops) ++ [s]), rowF (v589) 31 ([] ++ d.Rates), blk b9 25 [.slice none 0 0, .slice none 0 0]] ((List.Perm.cons _ ((List.Perm.cons _ (.refl _)).trans (List.perm_middle (l₁ := [rowF (v589) 31 ([] ++ d.Rates)]) (l₂ := [blk b9 25 [.slice none 0 0, .slice none 0 0]]) (a := rowF (v591) 34 (([] ++ d.Stops) ++ [s]))).symm)).trans (List.perm_middle (l₁ := [rowF (v589) 31 ([] ++ d.Rates)]) (l₂ := [rowF (v591) 34 (([] ++ d.Stops) ++ [s]), blk b9 25 [.slice none 0 0, .slice none 0 0]]) (a := blk b585 25 [v589, v591])).symm) ?_
        exact WK.meet (m587, b585, v589, v591) rfl (.refl _) (.cons rfl (.cons rfl .nil)) (Mem.le_trans hle436 hle588)
      refine DW.tn rfl rfl rfl (T.alloc Try.zeroValue25 rfl) (by decide) fun b596 => ?_
      refine DW.fork (List.cons_ne_nil _ _) ?_ ?_
      · refine DW.tO rfl rfl rfl (OpTo.taO (T.lit0 (α := Span) sl22 rfl)) (by decide) (fun m598 Es_ v597 hle599 hR_ => ?_)
        subst hR_
        replace hs2 := hs2.mono hle599
        replace hs4 := hs4.mono hle599
        replace hp14 := hp14.mono hle599
        replace hp17 := hp17.mono hle599
        replace hp19 := hp19.mono hle599
        replace hs21 := hs21.mono hle599
        replace hp23 := hp23.mono hle599
        replace hs25 := hs25.mono hle599
        refine DW.fork (List.cons_ne_nil _ _) ?_ ?_
        · refine DW.ta rfl rfl rfl rfl (T.appendFl (α := Span) (fun _ _ _ h => h) (k := 0) sl22 rfl rfl hs21 rfl (by first | omega | (simp; omega)) (by first | omega | (simp; omega))) (by decide) (fun v600 => ?_)
          refine DW.fork (List.cons_ne_nil _ _) ?_ ?_
          · refine DW.ta rfl rfl rfl rfl (T.appendFl (α := Stop) (fun _ _ _ h => h) (k := 2) sl23 rfl rfl hs25 rfl (by first | omega | (simp; omega)) (by first | omega | (simp; omega))) (by decide) (fun v601 => ?_)
            refine DW.tl rfl rfl rfl (T.lit1 sl23 rfl rfl rfl (by decide)) (by decide) fun b602 => ?_
            refine DW.ta rfl rfl rfl rfl (T.appendF (k := 2) (a := s) sl23 rfl rfl rfl rfl (by first | omega | (simp; done) | (simp; omega)) (by decide)) (by decide) (fun v603 => ?_)
            refine DW.x (V := Value.agg [v600, v603].toArray) rfl rfl (OpX.own1 (k := 0) rfl trivial (defdB rfl) fun ho604 => (OpX.own1 (k := 2) rfl trivial (defdB rfl) fun ho605 => (X.build Try.zeroValue25 Try.runUnderlying25 (places25 _ Try.underlying25) rfl (by simp only [Instr.fill, one_cells ho604, one_cells ho605]; rfl)))) (by decide) ?_
            refine DW.ts rfl rfl rfl rfl (OpTo.own1 (k := 0) rfl trivial (defd2 rfl rfl rfl) fun ho606 => (OpTo.own1 (k := 2) rfl trivial (defd2 rfl rfl rfl) fun ho607 => (T.storeBA (k := 1) Try.sizeOf25 rfl rfl rfl (one_cons ho606 (one_cons ho607 one_nil)) rfl rfl))) ?_
            refine DW.nil ?_
            refine WK.nThen ?_
            refine WK.perm [blk b596 25 [v600, v603], rowF (v603) 34 (([] ++ d.Stops) ++ [s]), rowF (v600) 31 ([] ++ d.Rates), blk b9 25 [.slice none 0 0, .slice none 0 0]] ((List.Perm.cons _ ((List.Perm.cons _ (.refl _)).trans (List.perm_middle (l₁ := [rowF (v600) 31 ([] ++ d.Rates)]) (l₂ := [blk b9 25 [.slice none 0 0, .slice none 0 0]]) (a := rowF (v603) 34 (([] ++ d.Stops) ++ [s]))).symm)).trans (List.perm_middle (l₁ := [rowF (v600) 31 ([] ++ d.Rates)]) (l₂ := [rowF (v603) 34 (([] ++ d.Stops) ++ [s]), blk b9 25 [.slice none 0 0, .slice none 0 0]]) (a := blk b596 25 [v600, v603])).symm) ?_
            exact WK.meet (m598, b596, v600, v603) rfl (.refl _) (.cons rfl (.cons rfl .nil)) (Mem.le_trans hle436 hle599)
          refine DW.tl rfl rfl rfl (T.lit1 sl23 rfl rfl rfl (by decide)) (by decide) fun b608 => ?_
          refine DW.ta rfl rfl rfl rfl (T.appendFl (α := Stop) (fun _ _ _ h => h) (k := 3) sl23 rfl rfl hs25 rfl (by first | omega | (simp; omega)) (by first | omega | (simp; omega))) (by decide) (fun v609 => ?_)
          refine DW.ta rfl rfl rfl rfl (T.appendF (k := 2) (a := s) sl23 rfl rfl rfl rfl (by first | omega | (simp; done) | (simp; omega)) (by decide)) (by decide) (fun v610 => ?_)
          refine DW.x (V := Value.agg [v600, v610].toArray) rfl rfl (OpX.own1 (k := 0) rfl trivial (defdB rfl) fun ho611 => (OpX.own1 (k := 2) rfl trivial (defdB rfl) fun ho612 => (X.build Try.zeroValue25 Try.runUnderlying25 (places25 _ Try.underlying25) rfl (by simp only [Instr.fill, one_cells ho611, one_cells ho612]; rfl)))) (by decide) ?_
          refine DW.ts rfl rfl rfl rfl (OpTo.own1 (k := 0) rfl trivial (defd2 rfl rfl rfl) fun ho613 => (OpTo.own1 (k := 2) rfl trivial (defd2 rfl rfl rfl) fun ho614 => (T.storeBA (k := 1) Try.sizeOf25 rfl rfl rfl (one_cons ho613 (one_cons ho614 one_nil)) rfl rfl))) ?_
          refine DW.nil ?_
          refine WK.nThen ?_
          refine WK.perm [blk b596 25 [v600, v610], rowF (v610) 34 (([] ++ d.Stops) ++ [s]), rowF (v600) 31 ([] ++ d.Rates), blk b9 25 [.slice none 0 0, .slice none 0 0]] ((List.Perm.cons _ ((List.Perm.cons _ (.refl _)).trans (List.perm_middle (l₁ := [rowF (v600) 31 ([] ++ d.Rates)]) (l₂ := [blk b9 25 [.slice none 0 0, .slice none 0 0]]) (a := rowF (v610) 34 (([] ++ d.Stops) ++ [s]))).symm)).trans (List.perm_middle (l₁ := [rowF (v600) 31 ([] ++ d.Rates)]) (l₂ := [rowF (v610) 34 (([] ++ d.Stops) ++ [s]), blk b9 25 [.slice none 0 0, .slice none 0 0]]) (a := blk b596 25 [v600, v610])).symm) ?_
          exact WK.meet (m598, b596, v600, v610) rfl (.refl _) (.cons rfl (.cons rfl .nil)) (Mem.le_trans hle436 hle599)
        refine DW.tl rfl rfl rfl (T.lit1 sl23 rfl rfl rfl (by decide)) (by decide) fun b615 => ?_
        refine DW.ta rfl rfl rfl rfl (T.appendFl (α := Span) (fun _ _ _ h => h) (k := 1) sl22 rfl rfl hs21 rfl (by first | omega | (simp; omega)) (by first | omega | (simp; omega))) (by decide) (fun v616 => ?_)
        refine DW.ta rfl rfl rfl rfl (T.appendFl (α := Stop) (fun _ _ _ h => h) (k := 3) sl23 rfl rfl hs25 rfl (by first | omega | (simp; omega)) (by first | omega | (simp; omega))) (by decide) (fun v617 => ?_)
        refine DW.ta rfl rfl rfl rfl (T.appendF (k := 2) (a := s) sl23 rfl rfl rfl rfl (by first | omega | (simp; done) | (simp; omega)) (by decide)) (by decide) (fun v618 => ?_)
        refine DW.x (V := Value.agg [v616, v618].toArray) rfl rfl (OpX.own1 (k := 0) rfl trivial (defdB rfl) fun ho619 => (OpX.own1 (k := 2) rfl trivial (defdB rfl) fun ho620 => (X.build Try.zeroValue25 Try.runUnderlying25 (places25 _ Try.underlying25) rfl (by simp only [Instr.fill, one_cells ho619, one_cells ho620]; rfl)))) (by decide) ?_
        refine DW.ts rfl rfl rfl rfl (OpTo.own1 (k := 0) rfl trivial (defd2 rfl rfl rfl) fun ho621 => (OpTo.own1 (k := 2) rfl trivial (defd2 rfl rfl rfl) fun ho622 => (T.storeBA (k := 1) Try.sizeOf25 rfl rfl rfl (one_cons ho621 (one_cons ho622 one_nil)) rfl rfl))) ?_
        refine DW.nil ?_
        refine WK.nThen ?_
        refine WK.perm [blk b596 25 [v616, v618], rowF (v618) 34 (([] ++ d.Stops) ++ [s]), rowF (v616) 31 ([] ++ d.Rates), blk b9 25 [.slice none 0 0, .slice none 0 0]] ((List.Perm.cons _ ((List.Perm.cons _ (.refl _)).trans (List.perm_middle (l₁ := [rowF (v616) 31 ([] ++ d.Rates)]) (l₂ := [blk b9 25 [.slice none 0 0, .slice none 0 0]]) (a := rowF (v618) 34 (([] ++ d.Stops) ++ [s]))).symm)).trans (List.perm_middle (l₁ := [rowF (v616) 31 ([] ++ d.Rates)]) (l₂ := [rowF (v618) 34 (([] ++ d.Stops) ++ [s]), blk b9 25 [.slice none 0 0, .slice none 0 0]]) (a := blk b596 25 [v616, v618])).symm) ?_
        exact WK.meet (m598, b596, v616, v618) rfl (.refl _) (.cons rfl (.cons rfl .nil)) (Mem.le_trans hle436 hle599)
      refine DW.tl rfl rfl rfl (T.lit1 sl23 rfl rfl rfl (by decide)) (by decide) fun b623 => ?_
      refine DW.tO rfl rfl rfl (OpTo.taO (T.lit0 (α := Span) sl22 rfl)) (by decide) (fun m625 Es_ v624 hle626 hR_ => ?_)
      subst hR_
      replace hs2 := hs2.mono hle626
      replace hs4 := hs4.mono hle626
      replace hp14 := hp14.mono hle626
      replace hp17 := hp17.mono hle626
      replace hp19 := hp19.mono hle626
      replace hs21 := hs21.mono hle626
      replace hp23 := hp23.mono hle626
      replace hs25 := hs25.mono hle626
      refine DW.ta rfl rfl rfl rfl (T.appendFl (α := Span) (fun _ _ _ h => h) (k := 0) sl22 rfl rfl hs21 rfl (by first | omega | (simp; omega)) (by first | omega | (simp; omega))) (by decide) (fun v627 => ?_)
      refine DW.ta rfl rfl rfl rfl (T.appendFl (α := Stop) (fun _ _ _ h => h) (k := 3) sl23 rfl rfl hs25 rfl (by first | omega | (simp; omega)) (by first | omega | (simp; omega))) (by decide) (fun v628 => ?_)
      refine DW.ta rfl rfl rfl rfl (OpTo.perm (H' := [blk b623 34 [.int .i64 (s.Column), .int .i64 (s.Ticks.Lo), .int .i64 (s.Ticks.Hi)], rowF (v627) 31 ([] ++ d.Rates), blk b596 25 [.slice none 0 0, .slice none 0 0], rowF (v628) 34 ([] ++ d.Stops), blk b9 25 [.slice none 0 0, .slice none 0 0]]) (List.perm_middle (l₁ := [rowF (v627) 31 ([] ++ d.Rates)]) (l₂ := [blk b596 25 [.slice none 0 0, .slice none 0 0], rowF (v628) 34 ([] ++ d.Stops), blk b9 25 [.slice none 0 0, .slice none 0 0]]) (a := blk b623 34 [.int .i64 (s.Column), .int .i64 (s.Ticks.Lo), .int .i64 (s.Ticks.Hi)])).symm (T.appendF (k := 2) (a := s) sl23 rfl rfl rfl rfl (by first | omega | (simp; done) | (simp; omega)) (by decide))) (by decide) (fun v629 => ?_)
      refine DW.x (V := Value.agg [v627, v629].toArray) rfl rfl (OpX.own1 (k := 0) rfl trivial (defdB rfl) fun ho630 => (OpX.own1 (k := 2) rfl trivial (defdB rfl) fun ho631 => (X.build Try.zeroValue25 Try.runUnderlying25 (places25 _ Try.underlying25) rfl (by simp only [Instr.fill, one_cells ho630, one_cells ho631]; rfl)))) (by decide) ?_
      refine DW.ts rfl rfl rfl rfl (OpTo.own1 (k := 0) rfl trivial (defd2 rfl rfl rfl) fun ho632 => (OpTo.own1 (k := 2) rfl trivial (defd2 rfl rfl rfl) fun ho633 => (T.storeBA (k := 1) Try.sizeOf25 rfl rfl rfl (one_cons ho632 (one_cons ho633 one_nil)) rfl rfl))) ?_
      refine DW.nil ?_
      refine WK.nThen ?_
      refine WK.perm [blk b596 25 [v627, v629], rowF (v629) 34 (([] ++ d.Stops) ++ [s]), rowF (v627) 31 ([] ++ d.Rates), blk b9 25 [.slice none 0 0, .slice none 0 0]] ((List.Perm.cons _ ((List.Perm.cons _ (.refl _)).trans (List.perm_middle (l₁ := [rowF (v627) 31 ([] ++ d.Rates)]) (l₂ := [blk b9 25 [.slice none 0 0, .slice none 0 0]]) (a := rowF (v629) 34 (([] ++ d.Stops) ++ [s]))).symm)).trans (List.perm_middle (l₁ := [rowF (v627) 31 ([] ++ d.Rates)]) (l₂ := [rowF (v629) 34 (([] ++ d.Stops) ++ [s]), blk b9 25 [.slice none 0 0, .slice none 0 0]]) (a := blk b596 25 [v627, v629])).symm) ?_
      exact WK.meet (m625, b596, v627, v629) rfl (.refl _) (.cons rfl (.cons rfl .nil)) (Mem.le_trans hle436 hle626)
    refine DW.fork (List.cons_ne_nil _ _) ?_ ?_
    · refine DW.tl rfl rfl rfl (T.lit1 sl23 rfl rfl rfl (by decide)) (by decide) fun b634 => ?_
      refine DW.fork (List.cons_ne_nil _ _) ?_ ?_
      · refine DW.tO rfl rfl rfl (OpTo.taO (T.lit0 (α := Span) sl22 rfl)) (by decide) (fun m636 Es_ v635 hle637 hR_ => ?_)
        subst hR_
        replace hs2 := hs2.mono hle637
        replace hs4 := hs4.mono hle637
        replace hp14 := hp14.mono hle637
        replace hp17 := hp17.mono hle637
        replace hp19 := hp19.mono hle637
        replace hs21 := hs21.mono hle637
        replace hp23 := hp23.mono hle637
        replace hs25 := hs25.mono hle637
        refine DW.fork (List.cons_ne_nil _ _) ?_ ?_
        · refine DW.ta rfl rfl rfl rfl (T.appendFl (α := Span) (fun _ _ _ h => h) (k := 0) sl22 rfl rfl hs21 rfl (by first | omega | (simp; omega)) (by first | omega | (simp; omega))) (by decide) (fun v638 => ?_)
          refine DW.fork (List.cons_ne_nil _ _) ?_ ?_
          · refine DW.tO rfl rfl rfl (OpTo.taO (T.lit0 (α := Stop) sl23 rfl)) (by decide) (fun m640 Es_ v639 hle641 hR_ => ?_)
            subst hR_
            replace hs2 := hs2.mono hle641
            replace hs4 := hs4.mono hle641
            replace hp14 := hp14.mono hle641
            replace hp17 := hp17.mono hle641
            replace hp19 := hp19.mono hle641
            replace hs21 := hs21.mono hle641
            replace hp23 := hp23.mono hle641
            replace hs25 := hs25.mono hle641
            refine DW.fork (List.cons_ne_nil _ _) ?_ ?_
            · refine DW.ta rfl rfl rfl rfl (T.appendFl (α := Stop) (fun _ _ _ h => h) (k := 0) sl23 rfl rfl hs25 rfl (by first | omega | (simp; omega)) (by first | omega | (simp; omega))) (by decide) (fun v642 => ?_)
              refine DW.fork (List.cons_ne_nil _ _) ?_ ?_
              · refine DW.ta rfl rfl rfl rfl (OpTo.perm (H' := [blk b634 34 [.int .i64 (s.Column), .int .i64 (s.Ticks.Lo), .int .i64 (s.Ticks.Hi)], rowF (v642) 34 ([] ++ d.Stops), rowF (v638) 31 ([] ++ d.Rates), blk b9 25 [.slice none 0 0, .slice none 0 0]]) (List.perm_middle (l₁ := [rowF (v642) 34 ([] ++ d.Stops), rowF (v638) 31 ([] ++ d.Rates)]) (l₂ := [blk b9 25 [.slice none 0 0, .slice none 0 0]]) (a := blk b634 34 [.int .i64 (s.Column), .int .i64 (s.Ticks.Lo), .int .i64 (s.Ticks.Hi)])).symm (T.appendF (k := 0) (a := s) sl23 rfl rfl rfl rfl (by first | omega | (simp; done) | (simp; omega)) (by decide))) (by decide) (fun v643 => ?_)
                refine DW.x (V := Value.agg [v638, v643].toArray) rfl rfl (OpX.own1 (k := 1) rfl trivial (defdB rfl) fun ho644 => (OpX.own1 (k := 0) rfl trivial (defdB rfl) fun ho645 => (X.build Try.zeroValue25 Try.runUnderlying25 (places25 _ Try.underlying25) rfl (by simp only [Instr.fill, one_cells ho644, one_cells ho645]; rfl)))) (by decide) ?_
                refine DW.tn rfl rfl rfl (T.alloc Try.zeroValue25 rfl) (by decide) fun b646 => ?_
                refine DW.ts rfl rfl rfl rfl (OpTo.own1 (k := 2) rfl trivial (defd2 rfl rfl rfl) fun ho647 => (OpTo.own1 (k := 1) rfl trivial (defd2 rfl rfl rfl) fun ho648 => (T.storeBA (k := 0) Try.sizeOf25 rfl rfl rfl (one_cons ho647 (one_cons ho648 one_nil)) rfl rfl))) ?_
                refine DW.nil ?_
                refine WK.nThen ?_
                exact WK.meet (m640, b646, v638, v643) rfl (.refl _) (.cons rfl (.cons rfl .nil)) (Mem.le_trans hle637 hle641)
              refine DW.tn rfl rfl rfl (T.alloc Try.zeroValue25 rfl) (by decide) fun b649 => ?_
              refine DW.ta rfl rfl rfl rfl (OpTo.perm (H' := [blk b634 34 [.int .i64 (s.Column), .int .i64 (s.Ticks.Lo), .int .i64 (s.Ticks.Hi)], blk b649 25 [.slice none 0 0, .slice none 0 0], rowF (v642) 34 ([] ++ d.Stops), rowF (v638) 31 ([] ++ d.Rates), blk b9 25 [.slice none 0 0, .slice none 0 0]]) (List.perm_middle (l₁ := [blk b649 25 [.slice none 0 0, .slice none 0 0], rowF (v642) 34 ([] ++ d.Stops), rowF (v638) 31 ([] ++ d.Rates)]) (l₂ := [blk b9 25 [.slice none 0 0, .slice none 0 0]]) (a := blk b634 34 [.int .i64 (s.Column), .int .i64 (s.Ticks.Lo), .int .i64 (s.Ticks.Hi)])).symm (T.appendF (k := 1) (a := s) sl23 rfl rfl rfl rfl (by first | omega | (simp; done) | (simp; omega)) (by decide))) (by decide) (fun v650 => ?_)
              refine DW.x (V := Value.agg [v638, v650].toArray) rfl rfl (OpX.own1 (k := 2) rfl trivial (defdB rfl) fun ho651 => (OpX.own1 (k := 1) rfl trivial (defdB rfl) fun ho652 => (X.build Try.zeroValue25 Try.runUnderlying25 (places25 _ Try.underlying25) rfl (by simp only [Instr.fill, one_cells ho651, one_cells ho652]; rfl)))) (by decide) ?_
              refine DW.ts rfl rfl rfl rfl (OpTo.own1 (k := 2) rfl trivial (defd2 rfl rfl rfl) fun ho653 => (OpTo.own1 (k := 1) rfl trivial (defd2 rfl rfl rfl) fun ho654 => (T.storeBA (k := 0) Try.sizeOf25 rfl rfl rfl (one_cons ho653 (one_cons ho654 one_nil)) rfl rfl))) ?_
              refine DW.nil ?_
              refine WK.nThen ?_
              exact WK.meet (m640, b649, v638, v650) rfl (.refl _) (.cons rfl (.cons rfl .nil)) (Mem.le_trans hle637 hle641)
            refine DW.tn rfl rfl rfl (T.alloc Try.zeroValue25 rfl) (by decide) fun b655 => ?_
            refine DW.ta rfl rfl rfl rfl (T.appendFl (α := Stop) (fun _ _ _ h => h) (k := 1) sl23 rfl rfl hs25 rfl (by first | omega | (simp; omega)) (by first | omega | (simp; omega))) (by decide) (fun v656 => ?_)
            refine DW.ta rfl rfl rfl rfl (OpTo.perm (H' := [blk b634 34 [.int .i64 (s.Column), .int .i64 (s.Ticks.Lo), .int .i64 (s.Ticks.Hi)], blk b655 25 [.slice none 0 0, .slice none 0 0], rowF (v656) 34 ([] ++ d.Stops), rowF (v638) 31 ([] ++ d.Rates), blk b9 25 [.slice none 0 0, .slice none 0 0]]) (List.perm_middle (l₁ := [blk b655 25 [.slice none 0 0, .slice none 0 0], rowF (v656) 34 ([] ++ d.Stops), rowF (v638) 31 ([] ++ d.Rates)]) (l₂ := [blk b9 25 [.slice none 0 0, .slice none 0 0]]) (a := blk b634 34 [.int .i64 (s.Column), .int .i64 (s.Ticks.Lo), .int .i64 (s.Ticks.Hi)])).symm (T.appendF (k := 1) (a := s) sl23 rfl rfl rfl rfl (by first | omega | (simp; done) | (simp; omega)) (by decide))) (by decide) (fun v657 => ?_)
            refine DW.x (V := Value.agg [v638, v657].toArray) rfl rfl (OpX.own1 (k := 2) rfl trivial (defdB rfl) fun ho658 => (OpX.own1 (k := 1) rfl trivial (defdB rfl) fun ho659 => (X.build Try.zeroValue25 Try.runUnderlying25 (places25 _ Try.underlying25) rfl (by simp only [Instr.fill, one_cells ho658, one_cells ho659]; rfl)))) (by decide) ?_
            refine DW.ts rfl rfl rfl rfl (OpTo.own1 (k := 2) rfl trivial (defd2 rfl rfl rfl) fun ho660 => (OpTo.own1 (k := 1) rfl trivial (defd2 rfl rfl rfl) fun ho661 => (T.storeBA (k := 0) Try.sizeOf25 rfl rfl rfl (one_cons ho660 (one_cons ho661 one_nil)) rfl rfl))) ?_
            refine DW.nil ?_
            refine WK.nThen ?_
            exact WK.meet (m640, b655, v638, v657) rfl (.refl _) (.cons rfl (.cons rfl .nil)) (Mem.le_trans hle637 hle641)
          refine DW.tn rfl rfl rfl (T.alloc Try.zeroValue25 rfl) (by decide) fun b662 => ?_
          refine DW.tO rfl rfl rfl (OpTo.taO (T.lit0 (α := Stop) sl23 rfl)) (by decide) (fun m664 Es_ v663 hle665 hR_ => ?_)
          subst hR_
          replace hs2 := hs2.mono hle665
          replace hs4 := hs4.mono hle665
          replace hp14 := hp14.mono hle665
          replace hp17 := hp17.mono hle665
          replace hp19 := hp19.mono hle665
          replace hs21 := hs21.mono hle665
          replace hp23 := hp23.mono hle665
          replace hs25 := hs25.mono hle665
          refine DW.ta rfl rfl rfl rfl (T.appendFl (α := Stop) (fun _ _ _ h => h) (k := 0) sl23 rfl rfl hs25 rfl (by first | omega | (simp; omega)) (by first | omega | (simp; omega))) (by decide) (fun v666 => ?_)
          refine DW.ta rfl rfl rfl rfl (OpTo.perm (H' := [blk b634 34 [.int .i64 (s.Column), .int .i64 (s.Ticks.Lo), .int .i64 (s.Ticks.Hi)], rowF (v666) 34 ([] ++ d.Stops), blk b662 25 [.slice none 0 0, .slice none 0 0], rowF (v638) 31 ([] ++ d.Rates), blk b9 25 [.slice none 0 0, .slice none 0 0]]) (List.perm_middle (l₁ := [rowF (v666) 34 ([] ++ d.Stops), blk b662 25 [.slice none 0 0, .slice none 0 0], rowF (v638) 31 ([] ++ d.Rates)]) (l₂ := [blk b9 25 [.slice none 0 0, .slice none 0 0]]) (a := blk b634 34 [.int .i64 (s.Column), .int .i64 (s.Ticks.Lo), .int .i64 (s.Ticks.Hi)])).symm (T.appendF (k := 0) (a := s) sl23 rfl rfl rfl rfl (by first | omega | (simp; done) | (simp; omega)) (by decide))) (by decide) (fun v667 => ?_)
          refine DW.x (V := Value.agg [v638, v667].toArray) rfl rfl (OpX.own1 (k := 2) rfl trivial (defdB rfl) fun ho668 => (OpX.own1 (k := 0) rfl trivial (defdB rfl) fun ho669 => (X.build Try.zeroValue25 Try.runUnderlying25 (places25 _ Try.underlying25) rfl (by simp only [Instr.fill, one_cells ho668, one_cells ho669]; rfl)))) (by decide) ?_
          refine DW.ts rfl rfl rfl rfl (OpTo.own1 (k := 2) rfl trivial (defd2 rfl rfl rfl) fun ho670 => (OpTo.own1 (k := 0) rfl trivial (defd2 rfl rfl rfl) fun ho671 => (T.storeBA (k := 1) Try.sizeOf25 rfl rfl rfl (one_cons ho670 (one_cons ho671 one_nil)) rfl rfl))) ?_
          refine DW.nil ?_
          refine WK.nThen ?_
          refine WK.perm [blk b662 25 [v638, v667], rowF (v667) 34 (([] ++ d.Stops) ++ [s]), rowF (v638) 31 ([] ++ d.Rates), blk b9 25 [.slice none 0 0, .slice none 0 0]] ((List.Perm.cons _ (.refl _)).trans (List.perm_middle (l₁ := [rowF (v667) 34 (([] ++ d.Stops) ++ [s])]) (l₂ := [rowF (v638) 31 ([] ++ d.Rates), blk b9 25 [.slice none 0 0, .slice none 0 0]]) (a := blk b662 25 [v638, v667])).symm) ?_
          exact WK.meet (m664, b662, v638, v667) rfl (.refl _) (.cons rfl (.cons rfl .nil)) (Mem.le_trans hle637 hle665)
        refine DW.fork (List.cons_ne_nil _ _) ?_ ?_
        · refine DW.tO rfl rfl rfl (OpTo.taO (T.lit0 (α := Stop) sl23 rfl)) (by decide) (fun m673 Es_ v672 hle674 hR_ => ?_)
          subst hR_
          replace hs2 := hs2.mono hle674
          replace hs4 := hs4.mono hle674
          replace hp14 := hp14.mono hle674
          replace hp17 := hp17.mono hle674
          replace hp19 := hp19.mono hle674
          replace hs21 := hs21.mono hle674
          replace hp23 := hp23.mono hle674
          replace hs25 := hs25.mono hle674
          refine DW.fork (List.cons_ne_nil _ _) ?_ ?_
          · refine DW.ta rfl rfl rfl rfl (T.appendFl (α := Span) (fun _ _ _ h => h) (k := 1) sl22 rfl rfl hs21 rfl (by first | omega | (simp; omega)) (by first | omega | (simp; omega))) (by decide) (fun v675 => ?_)
            refine DW.fork (List.cons_ne_nil _ _) ?_ ?_
            · refine DW.ta rfl rfl rfl rfl (T.appendFl (α := Stop) (fun _ _ _ h => h) (k := 0) sl23 rfl rfl hs25 rfl (by first | omega | (simp; omega)) (by first | omega | (simp; omega))) (by decide) (fun v676 => ?_)
              refine DW.fork (List.cons_ne_nil _ _) ?_ ?_
              · refine DW.ta rfl rfl rfl rfl (OpTo.perm (H' := [blk b634 34 [.int .i64 (s.Column), .int .i64 (s.Ticks.Lo), .int .i64 (s.Ticks.Hi)], rowF (v676) 34 ([] ++ d.Stops), rowF (v675) 31 ([] ++ d.Rates), blk b9 25 [.slice none 0 0, .slice none 0 0]]) (List.perm_middle (l₁ := [rowF (v676) 34 ([] ++ d.Stops), rowF (v675) 31 ([] ++ d.Rates)]) (l₂ := [blk b9 25 [.slice none 0 0, .slice none 0 0]]) (a := blk b634 34 [.int .i64 (s.Column), .int .i64 (s.Ticks.Lo), .int .i64 (s.Ticks.Hi)])).symm (T.appendF (k := 0) (a := s) sl23 rfl rfl rfl rfl (by first | omega | (simp; done) | (simp; omega)) (by decide))) (by decide) (fun v677 => ?_)
                refine DW.x (V := Value.agg [v675, v677].toArray) rfl rfl (OpX.own1 (k := 1) rfl trivial (defdB rfl) fun ho678 => (OpX.own1 (k := 0) rfl trivial (defdB rfl) fun ho679 => (X.build Try.zeroValue25 Try.runUnderlying25 (places25 _ Try.underlying25) rfl (by simp only [Instr.fill, one_cells ho678, one_cells ho679]; rfl)))) (by decide) ?_
                refine DW.tn rfl rfl rfl (T.alloc Try.zeroValue25 rfl) (by decide) fun b680 => ?_
                refine DW.ts rfl rfl rfl rfl (OpTo.own1 (k := 2) rfl trivial (defd2 rfl rfl rfl) fun ho681 => (OpTo.own1 (k := 1) rfl trivial (defd2 rfl rfl rfl) fun ho682 => (T.storeBA (k := 0) Try.sizeOf25 rfl rfl rfl (one_cons ho681 (one_cons ho682 one_nil)) rfl rfl))) ?_
                refine DW.nil ?_
                refine WK.nThen ?_
                exact WK.meet (m673, b680, v675, v677) rfl (.refl _) (.cons rfl (.cons rfl .nil)) (Mem.le_trans hle637 hle674)
              refine DW.tn rfl rfl rfl (T.alloc Try.zeroValue25 rfl) (by decide) fun b683 => ?_
              refine DW.ta rfl rfl rfl rfl (OpTo.perm (H' := [blk b634 34 [.int .i64 (s.Column), .int .i64 (s.Ticks.Lo), .int .i64 (s.Ticks.Hi)], blk b683 25 [.slice none 0 0, .slice none 0 0], rowF (v676) 34 ([] ++ d.Stops), rowF (v675) 31 ([] ++ d.Rates), blk b9 25 [.slice none 0 0, .slice none 0 0]]) (List.perm_middle (l₁ := [blk b683 25 [.slice none 0 0, .slice none 0 0], rowF (v676) 34 ([] ++ d.Stops), rowF (v675) 31 ([] ++ d.Rates)]) (l₂ := [blk b9 25 [.slice none 0 0, .slice none 0 0]]) (a := blk b634 34 [.int .i64 (s.Column), .int .i64 (s.Ticks.Lo), .int .i64 (s.Ticks.Hi)])).symm (T.appendF (k := 1) (a := s) sl23 rfl rfl rfl rfl (by first | omega | (simp; done) | (simp; omega)) (by decide))) (by decide) (fun v684 => ?_)
              refine DW.x (V := Value.agg [v675, v684].toArray) rfl rfl (OpX.own1 (k := 2) rfl trivial (defdB rfl) fun ho685 => (OpX.own1 (k := 1) rfl trivial (defdB rfl) fun ho686 => (X.build Try.zeroValue25 Try.runUnderlying25 (places25 _ Try.underlying25) rfl (by simp only [Instr.fill, one_cells ho685, one_cells ho686]; rfl)))) (by decide) ?_
              refine DW.ts rfl rfl rfl rfl (OpTo.own1 (k := 2) rfl trivial (defd2 rfl rfl rfl) fun ho687 => (OpTo.own1 (k := 1) rfl trivial (defd2 rfl rfl rfl) fun ho688 => (T.storeBA (k := 0) Try.sizeOf25 rfl rfl rfl (one_cons ho687 (one_cons ho688 one_nil)) rfl rfl))) ?_
              refine DW.nil ?_
              refine WK.nThen ?_
              exact WK.meet (m673, b683, v675, v684) rfl (.refl _) (.cons rfl (.cons rfl .nil)) (Mem.le_trans hle637 hle674)
            refine DW.tn rfl rfl rfl (T.alloc Try.zeroValue25 rfl) (by decide) fun b689 => ?_
            refine DW.ta rfl rfl rfl rfl (T.appendFl (α := Stop) (fun _ _ _ h => h) (k := 1) sl23 rfl rfl hs25 rfl (by first | omega | (simp; omega)) (by first | omega | (simp; omega))) (by decide) (fun v690 => ?_)
            refine DW.ta rfl rfl rfl rfl (OpTo.perm (H' := [blk b634 34 [.int .i64 (s.Column), .int .i64 (s.Ticks.Lo), .int .i64 (s.Ticks.Hi)], blk b689 25 [.slice none 0 0, .slice none 0 0], rowF (v690) 34 ([] ++ d.Stops), rowF (v675) 31 ([] ++ d.Rates), blk b9 25 [.slice none 0 0, .slice none 0 0]]) (List.perm_middle (l₁ := [blk b689 25 [.slice none 0 0, .slice none 0 0], rowF (v690) 34 ([] ++ d.Stops), rowF (v675) 31 ([] ++ d.Rates)]) (l₂ := [blk b9 25 [.slice none 0 0, .slice none 0 0]]) (a := blk b634 34 [.int .i64 (s.Column), .int .i64 (s.Ticks.Lo), .int .i64 (s.Ticks.Hi)])).symm (T.appendF (k := 1) (a := s) sl23 rfl rfl rfl rfl (by first | omega | (simp; done) | (simp; omega)) (by decide))) (by decide) (fun v691 => ?_)
            refine DW.x (V := Value.agg [v675, v691].toArray) rfl rfl (OpX.own1 (k := 2) rfl trivial (defdB rfl) fun ho692 => (OpX.own1 (k := 1) rfl trivial (defdB rfl) fun ho693 => (X.build Try.zeroValue25 Try.runUnderlying25 (places25 _ Try.underlying25) rfl (by simp only [Instr.fill, one_cells ho692, one_cells ho693]; rfl)))) (by decide) ?_
            refine DW.ts rfl rfl rfl rfl (OpTo.own1 (k := 2) rfl trivial (defd2 rfl rfl rfl) fun ho694 => (OpTo.own1 (k := 1) rfl trivial (defd2 rfl rfl rfl) fun ho695 => (T.storeBA (k := 0) Try.sizeOf25 rfl rfl rfl (one_cons ho694 (one_cons ho695 one_nil)) rfl rfl))) ?_
            refine DW.nil ?_
            refine WK.nThen ?_
            exact WK.meet (m673, b689, v675, v691) rfl (.refl _) (.cons rfl (.cons rfl .nil)) (Mem.le_trans hle637 hle674)
          refine DW.tn rfl rfl rfl (T.alloc Try.zeroValue25 rfl) (by decide) fun b696 => ?_
          refine DW.ta rfl rfl rfl rfl (T.appendFl (α := Span) (fun _ _ _ h => h) (k := 2) sl22 rfl rfl hs21 rfl (by first | omega | (simp; omega)) (by first | omega | (simp; omega))) (by decide) (fun v697 => ?_)
          refine DW.ta rfl rfl rfl rfl (T.appendFl (α := Stop) (fun _ _ _ h => h) (k := 1) sl23 rfl rfl hs25 rfl (by first | omega | (simp; omega)) (by first | omega | (simp; omega))) (by decide) (fun v698 => ?_)
          refine DW.ta rfl rfl rfl rfl (OpTo.perm (H' := [blk b634 34 [.int .i64 (s.Column), .int .i64 (s.Ticks.Lo), .int .i64 (s.Ticks.Hi)], blk b696 25 [.slice none 0 0, .slice none 0 0], rowF (v698) 34 ([] ++ d.Stops), rowF (v697) 31 ([] ++ d.Rates), blk b9 25 [.slice none 0 0, .slice none 0 0]]) (List.perm_middle (l₁ := [blk b696 25 [.slice none 0 0, .slice none 0 0], rowF (v698) 34 ([] ++ d.Stops), rowF (v697) 31 ([] ++ d.Rates)]) (l₂ := [blk b9 25 [.slice none 0 0, .slice none 0 0]]) (a := blk b634 34 [.int .i64 (s.Column), .int .i64 (s.Ticks.Lo), .int .i64 (s.Ticks.Hi)])).symm (T.appendF (k := 1) (a := s) sl23 rfl rfl rfl rfl (by first | omega | (simp; done) | (simp; omega)) (by decide))) (by decide) (fun v699 => ?_)
          refine DW.x (V := Value.agg [v697, v699].toArray) rfl rfl (OpX.own1 (k := 2) rfl trivial (defdB rfl) fun ho700 => (OpX.own1 (k := 1) rfl trivial (defdB rfl) fun ho701 => (X.build Try.zeroValue25 Try.runUnderlying25 (places25 _ Try.underlying25) rfl (by simp only [Instr.fill, one_cells ho700, one_cells ho701]; rfl)))) (by decide) ?_
          refine DW.ts rfl rfl rfl rfl (OpTo.own1 (k := 2) rfl trivial (defd2 rfl rfl rfl) fun ho702 => (OpTo.own1 (k := 1) rfl trivial (defd2 rfl rfl rfl) fun ho703 => (T.storeBA (k := 0) Try.sizeOf25 rfl rfl rfl (one_cons ho702 (one_cons ho703 one_nil)) rfl rfl))) ?_
          refine DW.nil ?_
          refine WK.nThen ?_
          exact WK.meet (m673, b696, v697, v699) rfl (.refl _) (.cons rfl (.cons rfl .nil)) (Mem.le_trans hle637 hle674)
        refine DW.tn rfl rfl rfl (T.alloc Try.zeroValue25 rfl) (by decide) fun b704 => ?_
        refine DW.fork (List.cons_ne_nil _ _) ?_ ?_
        · refine DW.ta rfl rfl rfl rfl (T.appendFl (α := Span) (fun _ _ _ h => h) (k := 1) sl22 rfl rfl hs21 rfl (by first | omega | (simp; omega)) (by first | omega | (simp; omega))) (by decide) (fun v705 => ?_)
          refine DW.tO rfl rfl rfl (OpTo.taO (T.lit0 (α := Stop) sl23 rfl)) (by decide) (fun m707 Es_ v706 hle708 hR_ => ?_)
          subst hR_
          replace hs2 := hs2.mono hle708
          replace hs4 := hs4.mono hle708
          replace hp14 := hp14.mono hle708
          replace hp17 := hp17.mono hle708
          replace hp19 := hp19.mono hle708
          replace hs21 := hs21.mono hle708
          replace hp23 := hp23.mono hle708
          replace hs25 := hs25.mono hle708
          refine DW.ta rfl rfl rfl rfl (T.appendFl (α := Stop) (fun _ _ _ h => h) (k := 0) sl23 rfl rfl hs25 rfl (by first | omega | (simp; omega)) (by first | omega | (simp; omega))) (by decide) (fun v709 => ?_)
          refine DW.ta rfl rfl rfl rfl (OpTo.perm (H' := [blk b634 34 [.int .i64 (s.Column), .int .i64 (s.Ticks.Lo), .int .i64 (s.Ticks.Hi)], rowF (v709) 34 ([] ++ d.Stops), blk b704 25 [.slice none 0 0, .slice none 0 0], rowF (v705) 31 ([] ++ d.Rates), blk b9 25 [.slice none 0 0, .slice none 0 0]]) (List.perm_middle (l₁ := [rowF (v709) 34 ([] ++ d.Stops), blk b704 25 [.slice none 0 0, .slice none 0 0], rowF (v705) 31 ([] ++ d.Rates)]) (l₂ := [blk b9 25 [.slice none 0 0, .slice none 0 0]]) (a := blk b634 34 [.int .i64 (s.Column), .int .i64 (s.Ticks.Lo), .int .i64 (s.Ticks.Hi)])).symm (T.appendF (k := 0) (a := s) sl23 rfl rfl rfl rfl (by first | omega | (simp; done) | (simp; omega)) (by decide))) (by decide) (fun v710 => ?_)
          refine DW.x (V := Value.agg [v705, v710].toArray) rfl rfl (OpX.own1 (k := 2) rfl trivial (defdB rfl) fun ho711 => (OpX.own1 (k := 0) rfl trivial (defdB rfl) fun ho712 => (X.build Try.zeroValue25 Try.runUnderlying25 (places25 _ Try.underlying25) rfl (by simp only [Instr.fill, one_cells ho711, one_cells ho712]; rfl)))) (by decide) ?_
          refine DW.ts rfl rfl rfl rfl (OpTo.own1 (k := 2) rfl trivial (defd2 rfl rfl rfl) fun ho713 => (OpTo.own1 (k := 0) rfl trivial (defd2 rfl rfl rfl) fun ho714 => (T.storeBA (k := 1) Try.sizeOf25 rfl rfl rfl (one_cons ho713 (one_cons ho714 one_nil)) rfl rfl))) ?_
          refine DW.nil ?_
          refine WK.nThen ?_
          refine WK.perm [blk b704 25 [v705, v710], rowF (v710) 34 (([] ++ d.Stops) ++ [s]), rowF (v705) 31 ([] ++ d.Rates), blk b9 25 [.slice none 0 0, .slice none 0 0]] ((List.Perm.cons _ (.refl _)).trans (List.perm_middle (l₁ := [rowF (v710) 34 (([] ++ d.Stops) ++ [s])]) (l₂ := [rowF (v705) 31 ([] ++ d.Rates), blk b9 25 [.slice none 0 0, .slice none 0 0]]) (a := blk b704 25 [v705, v710])).symm) ?_
          exact WK.meet (m707, b704, v705, v710) rfl (.refl _) (.cons rfl (.cons rfl .nil)) (Mem.le_trans hle637 hle708)
        refine DW.tO rfl rfl rfl (OpTo.taO (T.lit0 (α := Stop) sl23 rfl)) (by decide) (fun m716 Es_ v715 hle717 hR_ => ?_)
        subst hR_
        replace hs2 := hs2.mono hle717
        replace hs4 := hs4.mono hle717
        replace hp14 := hp14.mono hle717
        replace hp17 := hp17.mono hle717
        replace hp19 := hp19.mono hle717
        replace hs21 := hs21.mono hle717
        replace hp23 := hp23.mono hle717
        replace hs25 := hs25.mono hle717
        refine DW.ta rfl rfl rfl rfl (T.appendFl (α := Span) (fun _ _ _ h => h) (k := 2) sl22 rfl rfl hs21 rfl (by first | omega | (simp; omega)) (by first | omega | (simp; omega))) (by decide) (fun v718 => ?_)
        refine DW.ta rfl rfl rfl rfl (T.appendFl (α := Stop) (fun _ _ _ h => h) (k := 0) sl23 rfl rfl hs25 rfl (by first | omega | (simp; omega)) (by first | omega | (simp; omega))) (by decide) (fun v719 => ?_)
        refine DW.ta rfl rfl rfl rfl (OpTo.perm (H' := [blk b634 34 [.int .i64 (s.Column), .int .i64 (s.Ticks.Lo), .int .i64 (s.Ticks.Hi)], rowF (v719) 34 ([] ++ d.Stops), blk b704 25 [.slice none 0 0, .slice none 0 0], rowF (v718) 31 ([] ++ d.Rates), blk b9 25 [.slice none 0 0, .slice none 0 0]]) (List.perm_middle (l₁ := [rowF (v719) 34 ([] ++ d.Stops), blk b704 25 [.slice none 0 0, .slice none 0 0], rowF (v718) 31 ([] ++ d.Rates)]) (l₂ := [blk b9 25 [.slice none 0 0, .slice none 0 0]]) (a := blk b634 34 [.int .i64 (s.Column), .int .i64 (s.Ticks.Lo), .int .i64 (s.Ticks.Hi)])).symm (T.appendF (k := 0) (a := s) sl23 rfl rfl rfl rfl (by first | omega | (simp; done) | (simp; omega)) (by decide))) (by decide) (fun v720 => ?_)
        refine DW.x (V := Value.agg [v718, v720].toArray) rfl rfl (OpX.own1 (k := 2) rfl trivial (defdB rfl) fun ho721 => (OpX.own1 (k := 0) rfl trivial (defdB rfl) fun ho722 => (X.build Try.zeroValue25 Try.runUnderlying25 (places25 _ Try.underlying25) rfl (by simp only [Instr.fill, one_cells ho721, one_cells ho722]; rfl)))) (by decide) ?_
        refine DW.ts rfl rfl rfl rfl (OpTo.own1 (k := 2) rfl trivial (defd2 rfl rfl rfl) fun ho723 => (OpTo.own1 (k := 0) rfl trivial (defd2 rfl rfl rfl) fun ho724 => (T.storeBA (k := 1) Try.sizeOf25 rfl rfl rfl (one_cons ho723 (one_cons ho724 one_nil)) rfl rfl))) ?_
        refine DW.nil ?_
        refine WK.nThen ?_
        refine WK.perm [blk b704 25 [v718, v720], rowF (v720) 34 (([] ++ d.Stops) ++ [s]), rowF (v718) 31 ([] ++ d.Rates), blk b9 25 [.slice none 0 0, .slice none 0 0]] ((List.Perm.cons _ (.refl _)).trans (List.perm_middle (l₁ := [rowF (v720) 34 (([] ++ d.Stops) ++ [s])]) (l₂ := [rowF (v718) 31 ([] ++ d.Rates), blk b9 25 [.slice none 0 0, .slice none 0 0]]) (a := blk b704 25 [v718, v720])).symm) ?_
        exact WK.meet (m716, b704, v718, v720) rfl (.refl _) (.cons rfl (.cons rfl .nil)) (Mem.le_trans hle637 hle717)
      refine DW.fork (List.cons_ne_nil _ _) ?_ ?_
      · refine DW.tO rfl rfl rfl (OpTo.taO (T.lit0 (α := Stop) sl23 rfl)) (by decide) (fun m726 Es_ v725 hle727 hR_ => ?_)
        subst hR_
        replace hs2 := hs2.mono hle727
        replace hs4 := hs4.mono hle727
        replace hp14 := hp14.mono hle727
        replace hp17 := hp17.mono hle727
        replace hp19 := hp19.mono hle727
        replace hs21 := hs21.mono hle727
        replace hp23 := hp23.mono hle727
        replace hs25 := hs25.mono hle727
        refine DW.fork (List.cons_ne_nil _ _) ?_ ?_
        · refine DW.tO rfl rfl rfl (OpTo.taO (T.lit0 (α := Span) sl22 rfl)) (by decide) (fun m729 Es_ v728 hle730 hR_ => ?_)
          subst hR_
          replace hs2 := hs2.mono hle730
          replace hs4 := hs4.mono hle730
          replace hp14 := hp14.mono hle730
          replace hp17 := hp17.mono hle730
          replace hp19 := hp19.mono hle730
          replace hs21 := hs21.mono hle730
          replace hp23 := hp23.mono hle730
          replace hs25 := hs25.mono hle730
          refine DW.fork (List.cons_ne_nil _ _) ?_ ?_
          · refine DW.ta rfl rfl rfl rfl (T.appendFl (α := Span) (fun _ _ _ h => h) (k := 0) sl22 rfl rfl hs21 rfl (by first | omega | (simp; omega)) (by first | omega | (simp; omega))) (by decide) (fun v731 => ?_)
            refine DW.fork (List.cons_ne_nil _ _) ?_ ?_
            · refine DW.ta rfl rfl rfl rfl (T.appendFl (α := Stop) (fun _ _ _ h => h) (k := 1) sl23 rfl rfl hs25 rfl (by first | omega | (simp; omega)) (by first | omega | (simp; omega))) (by decide) (fun v732 => ?_)
              refine DW.fork (List.cons_ne_nil _ _) ?_ ?_
              · refine DW.ta rfl rfl rfl rfl (OpTo.perm (H' := [blk b634 34 [.int .i64 (s.Column), .int .i64 (s.Ticks.Lo), .int .i64 (s.Ticks.Hi)], rowF (v731) 31 ([] ++ d.Rates), rowF (v732) 34 ([] ++ d.Stops), blk b9 25 [.slice none 0 0, .slice none 0 0]]) (List.perm_middle (l₁ := [rowF (v731) 31 ([] ++ d.Rates), rowF (v732) 34 ([] ++ d.Stops)]) (l₂ := [blk b9 25 [.slice none 0 0, .slice none 0 0]]) (a := blk b634 34 [.int .i64 (s.Column), .int .i64 (s.Ticks.Lo), .int .i64 (s.Ticks.Hi)])).symm (T.appendF (k := 1) (a := s) sl23 rfl rfl rfl rfl (by first | omega | (simp; done) | (simp; omega)) (by decide))) (by decide) (fun v733 => ?_)
                refine DW.x (V := Value.agg [v731, v733].toArray) rfl rfl (OpX.own1 (k := 0) rfl trivial (defdB rfl) fun ho734 => (OpX.own1 (k := 1) rfl trivial (defdB rfl) fun ho735 => (X.build Try.zeroValue25 Try.runUnderlying25 (places25 _ Try.underlying25) rfl (by simp only [Instr.fill, one_cells ho734, one_cells ho735]; rfl)))) (by decide) ?_
                refine DW.tn rfl rfl rfl (T.alloc Try.zeroValue25 rfl) (by decide) fun b736 => ?_
                refine DW.ts rfl rfl rfl rfl (OpTo.own1 (k := 1) rfl trivial (defd2 rfl rfl rfl) fun ho737 => (OpTo.own1 (k := 2) rfl trivial (defd2 rfl rfl rfl) fun ho738 => (T.storeBA (k := 0) Try.sizeOf25 rfl rfl rfl (one_cons ho737 (one_cons ho738 one_nil)) rfl rfl))) ?_
                refine DW.nil ?_
                refine WK.nThen ?_
                refine WK.perm [blk b736 25 [v731, v733], rowF (v733) 34 (([] ++ d.Stops) ++ [s]), rowF (v731) 31 ([] ++ d.Rates), blk b9 25 [.slice none 0 0, .slice none 0 0]] (List.Perm.cons _ ((List.Perm.cons _ (.refl _)).trans (List.perm_middle (l₁ := [rowF (v731) 31 ([] ++ d.Rates)]) (l₂ := [blk b9 25 [.slice none 0 0, .slice none 0 0]]) (a := rowF (v733) 34 (([] ++ d.Stops) ++ [s]))).symm)) ?_
                exact WK.meet (m729, b736, v731, v733) rfl (.refl _) (.cons rfl (.cons rfl .nil)) (Mem.le_trans hle727 hle730)
              refine DW.tn rfl rfl rfl (T.alloc Try.zeroValue25 rfl) (by decide) fun b739 => ?_
              refine DW.ta rfl rfl rfl rfl (OpTo.perm (H' := [blk b634 34 [.int .i64 (s.Column), .int .i64 (s.Ticks.Lo), .int .i64 (s.Ticks.Hi)], blk b739 25 [.slice none 0 0, .slice none 0 0], rowF (v731) 31 ([] ++ d.Rates), rowF (v732) 34 ([] ++ d.Stops), blk b9 25 [.slice none 0 0, .slice none 0 0]]) (List.perm_middle (l₁ := [blk b739 25 [.slice none 0 0, .slice none 0 0], rowF (v731) 31 ([] ++ d.Rates), rowF (v732) 34 ([] ++ d.Stops)]) (l₂ := [blk b9 25 [.slice none 0 0, .slice none 0 0]]) (a := blk b634 34 [.int .i64 (s.Column), .int .i64 (s.Ticks.Lo), .int .i64 (s.Ticks.Hi)])).symm (T.appendF (k := 2) (a := s) sl23 rfl rfl rfl rfl (by first | omega | (simp; done) | (simp; omega)) (by decide))) (by decide) (fun v740 => ?_)
              refine DW.x (V := Value.agg [v731, v740].toArray) rfl rfl (OpX.own1 (k := 1) rfl trivial (defdB rfl) fun ho741 => (OpX.own1 (k := 2) rfl trivial (defdB rfl) fun ho742 => (X.build Try.zeroValue25 Try.runUnderlying25 (places25 _ Try.underlying25) rfl (by simp only [Instr.fill, one_cells ho741, one_cells ho742]; rfl)))) (by decide) ?_
              refine DW.ts rfl rfl rfl rfl (OpTo.own1 (k := 1) rfl trivial (defd2 rfl rfl rfl) fun ho743 => (OpTo.own1 (k := 2) rfl trivial (defd2 rfl rfl rfl) fun ho744 => (T.storeBA (k := 0) Try.sizeOf25 rfl rfl rfl (one_cons ho743 (one_cons ho744 one_nil)) rfl rfl))) ?_
              refine DW.nil ?_
              refine WK.nThen ?_
              refine WK.perm [blk b739 25 [v731, v740], rowF (v740) 34 (([] ++ d.Stops) ++ [s]), rowF (v731) 31 ([] ++ d.Rates), blk b9 25 [.slice none 0 0, .slice none 0 0]] (List.Perm.cons _ ((List.Perm.cons _ (.refl _)).trans (List.perm_middle (l₁ := [rowF (v731) 31 ([] ++ d.Rates)]) (l₂ := [blk b9 25 [.slice none 0 0, .slice none 0 0]]) (a := rowF (v740) 34 (([] ++ d.Stops) ++ [s]))).symm)) ?_
              exact WK.meet (m729, b739, v731, v740) rfl (.refl _) (.cons rfl (.cons rfl .nil)) (Mem.le_trans hle727 hle730)
            refine DW.tn rfl rfl rfl (T.alloc Try.zeroValue25 rfl) (by decide) fun b745 => ?_
            refine DW.ta rfl rfl rfl rfl (T.appendFl (α := Stop) (fun _ _ _ h => h) (k := 2) sl23 rfl rfl hs25 rfl (by first | omega | (simp; omega)) (by first | omega | (simp; omega))) (by decide) (fun v746 => ?_)
            refine DW.ta rfl rfl rfl rfl (OpTo.perm (H' := [blk b634 34 [.int .i64 (s.Column), .int .i64 (s.Ticks.Lo), .int .i64 (s.Ticks.Hi)], blk b745 25 [.slice none 0 0, .slice none 0 0], rowF (v731) 31 ([] ++ d.Rates), rowF (v746) 34 ([] ++ d.Stops), blk b9 25 [.slice none 0 0, .slice none 0 0]]) (List.perm_middle (l₁ := [blk b745 25 [.slice none 0 0, .slice none 0 0], rowF (v731) 31 ([] ++ d.Rates), rowF (v746) 34 ([] ++ d.Stops)]) (l₂ := [blk b9 25 [.slice none 0 0, .slice none 0 0]]) (a := blk b634 34 [.int .i64 (s.Column), .int .i64 (s.Ticks.Lo), .int .i64 (s.Ticks.Hi)])).symm (T.appendF (k := 2) (a := s) sl23 rfl rfl rfl rfl (by first | omega | (simp; done) | (simp; omega)) (by decide))) (by decide) (fun v747 => ?_)
            refine DW.x (V := Value.agg [v731, v747].toArray) rfl rfl (OpX.own1 (k := 1) rfl trivial (defdB rfl) fun ho748 => (OpX.own1 (k := 2) rfl trivial (defdB rfl) fun ho749 => (X.build Try.zeroValue25 Try.runUnderlying25 (places25 _ Try.underlying25) rfl (by simp only [Instr.fill, one_cells ho748, one_cells ho749]; rfl)))) (by decide) ?_
            refine DW.ts rfl rfl rfl rfl (OpTo.own1 (k := 1) rfl trivial (defd2 rfl rfl rfl) fun ho750 => (OpTo.own1 (k := 2) rfl trivial (defd2 rfl rfl rfl) fun ho751 => (T.storeBA (k := 0) Try.sizeOf25 rfl rfl rfl (one_cons ho750 (one_cons ho751 one_nil)) rfl rfl))) ?_
            refine DW.nil ?_
            refine WK.nThen ?_
            refine WK.perm [blk b745 25 [v731, v747], rowF (v747) 34 (([] ++ d.Stops) ++ [s]), rowF (v731) 31 ([] ++ d.Rates), blk b9 25 [.slice none 0 0, .slice none 0 0]] (List.Perm.cons _ ((List.Perm.cons _ (.refl _)).trans (List.perm_middle (l₁ := [rowF (v731) 31 ([] ++ d.Rates)]) (l₂ := [blk b9 25 [.slice none 0 0, .slice none 0 0]]) (a := rowF (v747) 34 (([] ++ d.Stops) ++ [s]))).symm)) ?_
            exact WK.meet (m729, b745, v731, v747) rfl (.refl _) (.cons rfl (.cons rfl .nil)) (Mem.le_trans hle727 hle730)
          refine DW.tn rfl rfl rfl (T.alloc Try.zeroValue25 rfl) (by decide) fun b752 => ?_
          refine DW.ta rfl rfl rfl rfl (T.appendFl (α := Span) (fun _ _ _ h => h) (k := 1) sl22 rfl rfl hs21 rfl (by first | omega | (simp; omega)) (by first | omega | (simp; omega))) (by decide) (fun v753 => ?_)
          refine DW.ta rfl rfl rfl rfl (T.appendFl (α := Stop) (fun _ _ _ h => h) (k := 2) sl23 rfl rfl hs25 rfl (by first | omega | (simp; omega)) (by first | omega | (simp; omega))) (by decide) (fun v754 => ?_)
          refine DW.ta rfl rfl rfl rfl (OpTo.perm (H' := [blk b634 34 [.int .i64 (s.Column), .int .i64 (s.Ticks.Lo), .int .i64 (s.Ticks.Hi)], blk b752 25 [.slice none 0 0, .slice none 0 0], rowF (v753) 31 ([] ++ d.Rates), rowF (v754) 34 ([] ++ d.Stops), blk b9 25 [.slice none 0 0, .slice none 0 0]]) (List.perm_middle (l₁ := [blk b752 25 [.slice none 0 0, .slice none 0 0], rowF (v753) 31 ([] ++ d.Rates), rowF (v754) 34 ([] ++ d.Stops)]) (l₂ := [blk b9 25 [.slice none 0 0, .slice none 0 0]]) (a := blk b634 34 [.int .i64 (s.Column), .int .i64 (s.Ticks.Lo), .int .i64 (s.Ticks.Hi)])).symm (T.appendF (k := 2) (a := s) sl23 rfl rfl rfl rfl (by first | omega | (simp; done) | (simp; omega)) (by decide))) (by decide) (fun v755 => ?_)
          refine DW.x (V := Value.agg [v753, v755].toArray) rfl rfl (OpX.own1 (k := 1) rfl trivial (defdB rfl) fun ho756 => (OpX.own1 (k := 2) rfl trivial (defdB rfl) fun ho757 => (X.build Try.zeroValue25 Try.runUnderlying25 (places25 _ Try.underlying25) rfl (by simp only [Instr.fill, one_cells ho756, one_cells ho757]; rfl)))) (by decide) ?_
          refine DW.ts rfl rfl rfl rfl (OpTo.own1 (k := 1) rfl trivial (defd2 rfl rfl rfl) fun ho758 => (OpTo.own1 (k := 2) rfl trivial (defd2 rfl rfl rfl) fun ho759 => (T.storeBA (k := 0) Try.sizeOf25 rfl rfl rfl (one_cons ho758 (one_cons ho759 one_nil)) rfl rfl))) ?_
          refine DW.nil ?_
          refine WK.nThen ?_
          refine WK.perm [blk b752 25 [v753, v755], rowF (v755) 34 (([] ++ d.Stops) ++ [s]), rowF (v753) 31 ([] ++ d.Rates), blk b9 25 [.slice none 0 0, .slice none 0 0]] (List.Perm.cons _ ((List.Perm.cons _ (.refl _)).trans (List.perm_middle (l₁ := [rowF (v753) 31 ([] ++ d.Rates)]) (l₂ := [blk b9 25 [.slice none 0 0, .slice none 0 0]]) (a := rowF (v755) 34 (([] ++ d.Stops) ++ [s]))).symm)) ?_
          exact WK.meet (m729, b752, v753, v755) rfl (.refl _) (.cons rfl (.cons rfl .nil)) (Mem.le_trans hle727 hle730)
        refine DW.tn rfl rfl rfl (T.alloc Try.zeroValue25 rfl) (by decide) fun b760 => ?_
        refine DW.tO rfl rfl rfl (OpTo.taO (T.lit0 (α := Span) sl22 rfl)) (by decide) (fun m762 Es_ v761 hle763 hR_ => ?_)
        subst hR_
        replace hs2 := hs2.mono hle763
        replace hs4 := hs4.mono hle763
        replace hp14 := hp14.mono hle763
        replace hp17 := hp17.mono hle763
        replace hp19 := hp19.mono hle763
        replace hs21 := hs21.mono hle763
        replace hp23 := hp23.mono hle763
        replace hs25 := hs25.mono hle763
        refine DW.ta rfl rfl rfl rfl (T.appendFl (α := Span) (fun _ _ _ h => h) (k := 0) sl22 rfl rfl hs21 rfl (by first | omega | (simp; omega)) (by first | omega | (simp; omega))) (by decide) (fun v764 => ?_)
        refine DW.ta rfl rfl rfl rfl (T.appendFl (α := Stop) (fun _ _ _ h => h) (k := 2) sl23 rfl rfl hs25 rfl (by first | omega | (simp; omega)) (by first | omega | (simp; omega))) (by decide) (fun v765 => ?_)
        refine DW.ta rfl rfl rfl rfl (OpTo.perm (H' := [blk b634 34 [.int .i64 (s.Column), .int .i64 (s.Ticks.Lo), .int .i64 (s.Ticks.Hi)], rowF (v764) 31 ([] ++ d.Rates), blk b760 25 [.slice none 0 0, .slice none 0 0], rowF (v765) 34 ([] ++ d.Stops), blk b9 25 [.slice none 0 0, .slice none 0 0]]) (List.perm_middle (l₁ := [rowF (v764) 31 ([] ++ d.Rates), blk b760 25 [.slice none 0 0, .slice none 0 0], rowF (v765) 34 ([] ++ d.Stops)]) (l₂ := [blk b9 25 [.slice none 0 0, .slice none 0 0]]) (a := blk b634 34 [.int .i64 (s.Column), .int .i64 (s.Ticks.Lo), .int .i64 (s.Ticks.Hi)])).symm (T.appendF (k := 2) (a := s) sl23 rfl rfl rfl rfl (by first | omega | (simp; done) | (simp; omega)) (by decide))) (by decide) (fun v766 => ?_)
        refine DW.x (V := Value.agg [v764, v766].toArray) rfl rfl (OpX.own1 (k := 0) rfl trivial (defdB rfl) fun ho767 => (OpX.own1 (k := 2) rfl trivial (defdB rfl) fun ho768 => (X.build Try.zeroValue25 Try.runUnderlying25 (places25 _ Try.underlying25) rfl (by simp only [Instr.fill, one_cells ho767, one_cells ho768]; rfl)))) (by decide) ?_
        refine DW.ts rfl rfl rfl rfl (OpTo.own1 (k := 0) rfl trivial (defd2 rfl rfl rfl) fun ho769 => (OpTo.own1 (k := 2) rfl trivial (defd2 rfl rfl rfl) fun ho770 => (T.storeBA (k := 1) Try.sizeOf25 rfl rfl rfl (one_cons ho769 (one_cons ho770 one_nil)) rfl rfl))) ?_
        refine DW.nil ?_
        refine WK.nThen ?_
        refine WK.perm [blk b760 25 [v764, v766], rowF (v766) 34 (([] ++ d.Stops) ++ [s]), rowF (v764) 31 ([] ++ d.Rates), blk b9 25 [.slice none 0 0, .slice none 0 0]] ((List.Perm.cons _ ((List.Perm.cons _ (.refl _)).trans (List.perm_middle (l₁ := [rowF (v764) 31 ([] ++ d.Rates)]) (l₂ := [blk b9 25 [.slice none 0 0, .slice none 0 0]]) (a := rowF (v766) 34 (([] ++ d.Stops) ++ [s]))).symm)).trans (List.perm_middle (l₁ := [rowF (v764) 31 ([] ++ d.Rates)]) (l₂ := [rowF (v766) 34 (([] ++ d.Stops) ++ [s]), blk b9 25 [.slice none 0 0, .slice none 0 0]]) (a := blk b760 25 [v764, v766])).symm) ?_
        exact WK.meet (m762, b760, v764, v766) rfl (.refl _) (.cons rfl (.cons rfl .nil)) (Mem.le_trans hle727 hle763)
      refine DW.tn rfl rfl rfl (T.alloc Try.zeroValue25 rfl) (by decide) fun b771 => ?_
      refine DW.fork (List.cons_ne_nil _ _) ?_ ?_
      · refine DW.tO rfl rfl rfl (OpTo.taO (T.lit0 (α := Span) sl22 rfl)) (by decide) (fun m773 Es_ v772 hle774 hR_ => ?_)
        subst hR_
        replace hs2 := hs2.mono hle774
        replace hs4 := hs4.mono hle774
        replace hp14 := hp14.mono hle774
        replace hp17 := hp17.mono hle774
        replace hp19 := hp19.mono hle774
        replace hs21 := hs21.mono hle774
        replace hp23 := hp23.mono hle774
        replace hs25 := hs25.mono hle774
        refine DW.fork (List.cons_ne_nil _ _) ?_ ?_
        · refine DW.ta rfl rfl rfl rfl (T.appendFl (α := Span) (fun _ _ _ h => h) (k := 0) sl22 rfl rfl hs21 rfl (by first | omega | (simp; omega)) (by first | omega | (simp; omega))) (by decide) (fun v775 => ?_)
          refine DW.tO rfl rfl rfl (OpTo.taO (T.lit0 (α := Stop) sl23 rfl)) (by decide) (fun m777 Es_ v776 hle778 hR_ => ?_)
          subst hR_
          replace hs2 := hs2.mono hle778
          replace hs4 := hs4.mono hle778
          replace hp14 := hp14.mono hle778
          replace hp17 := hp17.mono hle778
          replace hp19 := hp19.mono hle778
          replace hs21 := hs21.mono hle778
          replace hp23 := hp23.mono hle778
          replace hs25 := hs25.mono hle778
          refine DW.ta rfl rfl rfl rfl (T.appendFl (α := Stop) (fun _ _ _ h => h) (k := 0) sl23 rfl rfl hs25 rfl (by first | omega | (simp; omega)) (by first | omega | (simp; omega))) (by decide) (fun v779 => ?_)
          refine DW.ta rfl rfl rfl rfl (OpTo.perm (H' := [blk b634 34 [.int .i64 (s.Column), .int .i64 (s.Ticks.Lo), .int .i64 (s.Ticks.Hi)], rowF (v779) 34 ([] ++ d.Stops), rowF (v775) 31 ([] ++ d.Rates), blk b771 25 [.slice none 0 0, .slice none 0 0], blk b9 25 [.slice none 0 0, .slice none 0 0]]) (List.perm_middle (l₁ := [rowF (v779) 34 ([] ++ d.Stops), rowF (v775) 31 ([] ++ d.Rates), blk b771 25 [.slice none 0 0, .slice none 0 0]]) (l₂ := [blk b9 25 [.slice none 0 0, .slice none 0 0]]) (a := blk b634 34 [.int .i64 (s.Column), .int .i64 (s.Ticks.Lo), .int .i64 (s.Ticks.Hi)])).symm (T.appendF (k := 0) (a := s) sl23 rfl rfl rfl rfl (by first | omega | (simp; done) | (simp; omega)) (by decide))) (by decide) (fun v780 => ?_)
          refine DW.x (V := Value.agg [v775, v780].toArray) rfl rfl (OpX.own1 (k := 1) rfl trivial (defdB rfl) fun ho781 => (OpX.own1 (k := 0) rfl trivial (defdB rfl) fun ho782 => (X.build Try.zeroValue25 Try.runUnderlying25 (places25 _ Try.underlying25) rfl (by simp only [Instr.fill, one_cells ho781, one_cells ho782]; rfl)))) (by decide) ?_
          refine DW.ts rfl rfl rfl rfl (OpTo.own1 (k := 1) rfl trivial (defd2 rfl rfl rfl) fun ho783 => (OpTo.own1 (k := 0) rfl trivial (defd2 rfl rfl rfl) fun ho784 => (T.storeBA (k := 2) Try.sizeOf25 rfl rfl rfl (one_cons ho783 (one_cons ho784 one_nil)) rfl rfl))) ?_
          refine DW.nil ?_
          refine WK.nThen ?_
          refine WK.perm [blk b771 25 [v775, v780], rowF (v780) 34 (([] ++ d.Stops) ++ [s]), rowF (v775) 31 ([] ++ d.Rates), blk b9 25 [.slice none 0 0, .slice none 0 0]] ((List.Perm.cons _ (.refl _)).trans (List.perm_middle (l₁ := [rowF (v780) 34 (([] ++ d.Stops) ++ [s]), rowF (v775) 31 ([] ++ d.Rates)]) (l₂ := [blk b9 25 [.slice none 0 0, .slice none 0 0]]) (a := blk b771 25 [v775, v780])).symm) ?_
          exact WK.meet (m777, b771, v775, v780) rfl (.refl _) (.cons rfl (.cons rfl .nil)) (Mem.le_trans hle774 hle778)
        refine DW.tO rfl rfl rfl (OpTo.taO (T.lit0 (α := Stop) sl23 rfl)) (by decide) (fun m786 Es_ v785 hle787 hR_ => ?_)
        subst hR_
        replace hs2 := hs2.mono hle787
        replace hs4 := hs4.mono hle787
        replace hp14 := hp14.mono hle787
        replace hp17 := hp17.mono hle787
        replace hp19 := hp19.mono hle787
        replace hs21 := hs21.mono hle787
        replace hp23 := hp23.mono hle787
        replace hs25 := hs25.mono hle787
        refine DW.ta rfl rfl rfl rfl (T.appendFl (α := Span) (fun _ _ _ h => h) (k := 1) sl22 rfl rfl hs21 rfl (by first | omega | (simp; omega)) (by first | omega | (simp; omega))) (by decide) (fun v788 => ?_)
        refine DW.ta rfl rfl rfl rfl (T.appendFl (α := Stop) (fun _ _ _ h => h) (k := 0) sl23 rfl rfl hs25 rfl (by first | omega | (simp; omega)) (by first | omega | (simp; omega))) (by decide) (fun v789 => ?_)
        refine DW.ta rfl rfl rfl rfl (OpTo.perm (H' := [blk b634 34 [.int .i64 (s.Column), .int .i64 (s.Ticks.Lo), .int .i64 (s.Ticks.Hi)], rowF (v789) 34 ([] ++ d.Stops), rowF (v788) 31 ([] ++ d.Rates), blk b771 25 [.slice none 0 0, .slice none 0 0], blk b9 25 [.slice none 0 0, .slice none 0 0]]) (List.perm_middle (l₁ := [rowF (v789) 34 ([] ++ d.Stops), rowF (v788) 31 ([] ++ d.Rates), blk b771 25 [.slice none 0 0, .slice none 0 0]]) (l₂ := [blk b9 25 [.slice none 0 0, .slice none 0 0]]) (a := blk b634 34 [.int .i64 (s.Column), .int .i64 (s.Ticks.Lo), .int .i64 (s.Ticks.Hi)])).symm (T.appendF (k := 0) (a := s) sl23 rfl rfl rfl rfl (by first | omega | (simp; done) | (simp; omega)) (by decide))) (by decide) (fun v790 => ?_)
        refine DW.x (V := Value.agg [v788, v790].toArray) rfl rfl (OpX.own1 (k := 1) rfl trivial (defdB rfl) fun ho791 => (OpX.own1 (k := 0) rfl trivial (defdB rfl) fun ho792 => (X.build Try.zeroValue25 Try.runUnderlying25 (places25 _ Try.underlying25) rfl (by simp only [Instr.fill, one_cells ho791, one_cells ho792]; rfl)))) (by decide) ?_
        refine DW.ts rfl rfl rfl rfl (OpTo.own1 (k := 1) rfl trivial (defd2 rfl rfl rfl) fun ho793 => (OpTo.own1 (k := 0) rfl trivial (defd2 rfl rfl rfl) fun ho794 => (T.storeBA (k := 2) Try.sizeOf25 rfl rfl rfl (one_cons ho793 (one_cons ho794 one_nil)) rfl rfl))) ?_
        refine DW.nil ?_
        refine WK.nThen ?_
        refine WK.perm [blk b771 25 [v788, v790], rowF (v790) 34 (([] ++ d.Stops) ++ [s]), rowF (v788) 31 ([] ++ d.Rates), blk b9 25 [.slice none 0 0, .slice none 0 0]] ((List.Perm.cons _ (.refl _)).trans (List.perm_middle (l₁ := [rowF (v790) 34 (([] ++ d.Stops) ++ [s]), rowF (v788) 31 ([] ++ d.Rates)]) (l₂ := [blk b9 25 [.slice none 0 0, .slice none 0 0]]) (a := blk b771 25 [v788, v790])).symm) ?_
        exact WK.meet (m786, b771, v788, v790) rfl (.refl _) (.cons rfl (.cons rfl .nil)) (Mem.le_trans hle774 hle787)
      refine DW.tO rfl rfl rfl (OpTo.taO (T.lit0 (α := Stop) sl23 rfl)) (by decide) (fun m796 Es_ v795 hle797 hR_ => ?_)
      subst hR_
      replace hs2 := hs2.mono hle797
      replace hs4 := hs4.mono hle797
      replace hp14 := hp14.mono hle797
      replace hp17 := hp17.mono hle797
      replace hp19 := hp19.mono hle797
      replace hs21 := hs21.mono hle797
      replace hp23 := hp23.mono hle797
      replace hs25 := hs25.mono hle797
      refine DW.tO rfl rfl rfl (OpTo.taO (T.lit0 (α := Span) sl22 rfl)) (by decide) (fun m799 Es_ v798 hle800 hR_ => ?_)
      subst hR_
      replace hs2 := hs2.mono hle800
      replace hs4 := hs4.mono hle800
      replace hp14 := hp14.mono hle800
      replace hp17 := hp17.mono hle800
      replace hp19 := hp19.mono hle800
      replace hs21 := hs21.mono hle800
      replace hp23 := hp23.mono hle800
      replace hs25 := hs25.mono hle800
      refine DW.ta rfl rfl rfl rfl (T.appendFl (α := Span) (fun _ _ _ h => h) (k := 0) sl22 rfl rfl hs21 rfl (by first | omega | (simp; omega)) (by first | omega | (simp; omega))) (by decide) (fun v801 => ?_)
      refine DW.ta rfl rfl rfl rfl (T.appendFl (α := Stop) (fun _ _ _ h => h) (k := 1) sl23 rfl rfl hs25 rfl (by first | omega | (simp; omega)) (by first | omega | (simp; omega))) (by decide) (fun v802 => ?_)
      refine DW.ta rfl rfl rfl rfl (OpTo.perm (H' := [blk b634 34 [.int .i64 (s.Column), .int .i64 (s.Ticks.Lo), .int .i64 (s.Ticks.Hi)], rowF (v801) 31 ([] ++ d.Rates), rowF (v802) 34 ([] ++ d.Stops), blk b771 25 [.slice none 0 0, .slice none 0 0], blk b9 25 [.slice none 0 0, .slice none 0 0]]) (List.perm_middle (l₁ := [rowF (v801) 31 ([] ++ d.Rates), rowF (v802) 34 ([] ++ d.Stops), blk b771 25 [.slice none 0 0, .slice none 0 0]]) (l₂ := [blk b9 25 [.slice none 0 0, .slice none 0 0]]) (a := blk b634 34 [.int .i64 (s.Column), .int .i64 (s.Ticks.Lo), .int .i64 (s.Ticks.Hi)])).symm (T.appendF (k := 1) (a := s) sl23 rfl rfl rfl rfl (by first | omega | (simp; done) | (simp; omega)) (by decide))) (by decide) (fun v803 => ?_)
      refine DW.x (V := Value.agg [v801, v803].toArray) rfl rfl (OpX.own1 (k := 0) rfl trivial (defdB rfl) fun ho804 => (OpX.own1 (k := 1) rfl trivial (defdB rfl) fun ho805 => (X.build Try.zeroValue25 Try.runUnderlying25 (places25 _ Try.underlying25) rfl (by simp only [Instr.fill, one_cells ho804, one_cells ho805]; rfl)))) (by decide) ?_
      refine DW.ts rfl rfl rfl rfl (OpTo.own1 (k := 0) rfl trivial (defd2 rfl rfl rfl) fun ho806 => (OpTo.own1 (k := 1) rfl trivial (defd2 rfl rfl rfl) fun ho807 => (T.storeBA (k := 2) Try.sizeOf25 rfl rfl rfl (one_cons ho806 (one_cons ho807 one_nil)) rfl rfl))) ?_
      refine DW.nil ?_
      refine WK.nThen ?_
      refine WK.perm [blk b771 25 [v801, v803], rowF (v803) 34 (([] ++ d.Stops) ++ [s]), rowF (v801) 31 ([] ++ d.Rates), blk b9 25 [.slice none 0 0, .slice none 0 0]] ((List.Perm.cons _ ((List.Perm.cons _ (.refl _)).trans (List.perm_middle (l₁ := [rowF (v801) 31 ([] ++ d.Rates)]) (l₂ := [blk b9 25 [.slice none 0 0, .slice none 0 0]]) (a := rowF (v803) 34 (([] ++ d.Stops) ++ [s]))).symm)).trans (List.perm_middle (l₁ := [rowF (v801) 31 ([] ++ d.Rates), rowF (v803) 34 (([] ++ d.Stops) ++ [s])]) (l₂ := [blk b9 25 [.slice none 0 0, .slice none 0 0]]) (a := blk b771 25 [v801, v803])).symm) ?_
      exact WK.meet (m799, b771, v801, v803) rfl (.refl _) (.cons rfl (.cons rfl .nil)) (Mem.le_trans hle797 hle800)
    refine DW.tn rfl rfl rfl (T.alloc Try.zeroValue25 rfl) (by decide) fun b808 => ?_
    refine DW.fork (List.cons_ne_nil _ _) ?_ ?_
    · refine DW.tO rfl rfl rfl (OpTo.taO (T.lit0 (α := Span) sl22 rfl)) (by decide) (fun m810 Es_ v809 hle811 hR_ => ?_)
      subst hR_
      replace hs2 := hs2.mono hle811
      replace hs4 := hs4.mono hle811
      replace hp14 := hp14.mono hle811
      replace hp17 := hp17.mono hle811
      replace hp19 := hp19.mono hle811
      replace hs21 := hs21.mono hle811
      replace hp23 := hp23.mono hle811
      replace hs25 := hs25.mono hle811
      refine DW.fork (List.cons_ne_nil _ _) ?_ ?_
      · refine DW.ta rfl rfl rfl rfl (T.appendFl (α := Span) (fun _ _ _ h => h) (k := 0) sl22 rfl rfl hs21 rfl (by first | omega | (simp; omega)) (by first | omega | (simp; omega))) (by decide) (fun v812 => ?_)
        refine DW.fork (List.cons_ne_nil _ _) ?_ ?_
        · refine DW.tO rfl rfl rfl (OpTo.taO (T.lit0 (α := Stop) sl23 rfl)) (by decide) (fun m814 Es_ v813 hle815 hR_ => ?_)
          subst hR_
          replace hs2 := hs2.mono hle815
          replace hs4 := hs4.mono hle815
          replace hp14 := hp14.mono hle815
          replace hp17 := hp17.mono hle815
          replace hp19 := hp19.mono hle815
          replace hs21 := hs21.mono hle815
          replace hp23 := hp23.mono hle815
          replace hs25 := hs25.mono hle815
          refine DW.fork (List.cons_ne_nil _ _) ?_ ?_
          · refine DW.ta rfl rfl rfl rfl (T.appendFl (α := Stop) (fun _ _ _ h => h) (k := 0) sl23 rfl rfl hs25 rfl (by first | omega | (simp; omega)) (by first | omega | (simp; omega))) (by decide) (fun v816 => ?_)
            refine DW.tl rfl rfl rfl (T.lit1 sl23 rfl rfl rfl (by decide)) (by decide) fun b817 => ?_
            refine DW.ta rfl rfl rfl rfl (T.appendF (k := 0) (a := s) sl23 rfl rfl rfl rfl (by first | omega | (simp; done) | (simp; omega)) (by decide)) (by decide) (fun v818 => ?_)
            refine DW.x (V := Value.agg [v812, v818].toArray) rfl rfl (OpX.own1 (k := 1) rfl trivial (defdB rfl) fun ho819 => (OpX.own1 (k := 0) rfl trivial (defdB rfl) fun ho820 => (X.build Try.zeroValue25 Try.runUnderlying25 (places25 _ Try.underlying25) rfl (by simp only [Instr.fill, one_cells ho819, one_cells ho820]; rfl)))) (by decide) ?_
            refine DW.ts rfl rfl rfl rfl (OpTo.own1 (k := 1) rfl trivial (defd2 rfl rfl rfl) fun ho821 => (OpTo.own1 (k := 0) rfl trivial (defd2 rfl rfl rfl) fun ho822 => (T.storeBA (k := 2) Try.sizeOf25 rfl rfl rfl (one_cons ho821 (one_cons ho822 one_nil)) rfl rfl))) ?_
            refine DW.nil ?_
            refine WK.nThen ?_
            refine WK.perm [blk b808 25 [v812, v818], rowF (v818) 34 (([] ++ d.Stops) ++ [s]), rowF (v812) 31 ([] ++ d.Rates), blk b9 25 [.slice none 0 0, .slice none 0 0]] ((List.Perm.cons _ (.refl _)).trans (List.perm_middle (l₁ := [rowF (v818) 34 (([] ++ d.Stops) ++ [s]), rowF (v812) 31 ([] ++ d.Rates)]) (l₂ := [blk b9 25 [.slice none 0 0, .slice none 0 0]]) (a := blk b808 25 [v812, v818])).symm) ?_
            exact WK.meet (m814, b808, v812, v818) rfl (.refl _) (.cons rfl (.cons rfl .nil)) (Mem.le_trans hle811 hle815)
          refine DW.tl rfl rfl rfl (T.lit1 sl23 rfl rfl rfl (by decide)) (by decide) fun b823 => ?_
          refine DW.ta rfl rfl rfl rfl (T.appendFl (α := Stop) (fun _ _ _ h => h) (k := 1) sl23 rfl rfl hs25 rfl (by first | omega | (simp; omega)) (by first | omega | (simp; omega))) (by decide) (fun v824 => ?_)
          refine DW.ta rfl rfl rfl rfl (T.appendF (k := 0) (a := s) sl23 rfl rfl rfl rfl (by first | omega | (simp; done) | (simp; omega)) (by decide)) (by decide) (fun v825 => ?_)
          refine DW.x (V := Value.agg [v812, v825].toArray) rfl rfl (OpX.own1 (k := 1) rfl trivial (defdB rfl) fun ho826 => (OpX.own1 (k := 0) rfl trivial (defdB rfl) fun ho827 => (X.build Try.zeroValue25 Try.runUnderlying25 (places25 _ Try.underlying25) rfl (by simp only [Instr.fill, one_cells ho826, one_cells ho827]; rfl)))) (by decide) ?_
          refine DW.ts rfl rfl rfl rfl (OpTo.own1 (k := 1) rfl trivial (defd2 rfl rfl rfl) fun ho828 => (OpTo.own1 (k := 0) rfl trivial (defd2 rfl rfl rfl) fun ho829 => (T.storeBA (k := 2) Try.sizeOf25 rfl rfl rfl (one_cons ho828 (one_cons ho829 one_nil)) rfl rfl))) ?_
          refine DW.nil ?_
          refine WK.nThen ?_
          refine WK.perm [blk b808 25 [v812, v825], rowF (v825) 34 (([] ++ d.Stops) ++ [s]), rowF (v812) 31 ([] ++ d.Rates), blk b9 25 [.slice none 0 0, .slice none 0 0]] ((List.Perm.cons _ (.refl _)).trans (List.perm_middle (l₁ := [rowF (v825) 34 (([] ++ d.Stops) ++ [s]), rowF (v812) 31 ([] ++ d.Rates)]) (l₂ := [blk b9 25 [.slice none 0 0, .slice none 0 0]]) (a := blk b808 25 [v812, v825])).symm) ?_
          exact WK.meet (m814, b808, v812, v825) rfl (.refl _) (.cons rfl (.cons rfl .nil)) (Mem.le_trans hle811 hle815)
        refine DW.tl rfl rfl rfl (T.lit1 sl23 rfl rfl rfl (by decide)) (by decide) fun b830 => ?_
        refine DW.tO rfl rfl rfl (OpTo.taO (T.lit0 (α := Stop) sl23 rfl)) (by decide) (fun m832 Es_ v831 hle833 hR_ => ?_)
        subst hR_
        replace hs2 := hs2.mono hle833
        replace hs4 := hs4.mono hle833
        replace hp14 := hp14.mono hle833
        replace hp17 := hp17.mono hle833
        replace hp19 := hp19.mono hle833
        replace hs21 := hs21.mono hle833
        replace hp23 := hp23.mono hle833
        replace hs25 := hs25.mono hle833
        refine DW.ta rfl rfl rfl rfl (T.appendFl (α := Stop) (fun _ _ _ h => h) (k := 0) sl23 rfl rfl hs25 rfl (by first | omega | (simp; omega)) (by first | omega | (simp; omega))) (by decide) (fun v834 => ?_)
        refine DW.ta rfl rfl rfl rfl (OpTo.perm (H' := [blk b830 34 [.int .i64 (s.Column), .int .i64 (s.Ticks.Lo), .int .i64 (s.Ticks.Hi)], rowF (v834) 34 ([] ++ d.Stops), rowF (v812) 31 ([] ++ d.Rates), blk b808 25 [.slice none 0 0, .slice none 0 0], blk b9 25 [.slice none 0 0, .slice none 0 0]]) (List.perm_middle (l₁ := [rowF (v834) 34 ([] ++ d.Stops)]) (l₂ := [rowF (v812) 31 ([] ++ d.Rates), blk b808 25 [.slice none 0 0, .slice none 0 0], blk b9 25 [.slice none 0 0, .slice none 0 0]]) (a := blk b830 34 [.int .i64 (s.Column), .int .i64 (s.Ticks.Lo), .int .i64 (s.Ticks.Hi)])).symm (T.appendF (k := 0) (a := s) sl23 rfl rfl rfl rfl (by first | omega | (simp; done) | (simp; omega)) (by decide))) (by decide) (fun v835 => ?_)
        refine DW.x (V := Value.agg [v812, v835].toArray) rfl rfl (OpX.own1 (k := 1) rfl trivial (defdB rfl) fun ho836 => (OpX.own1 (k := 0) rfl trivial (defdB rfl) fun ho837 => (X.build Try.zeroValue25 Try.runUnderlying25 (places25 _ Try.underlying25) rfl (by simp only [Instr.fill, one_cells ho836, one_cells ho837]; rfl)))) (by decide) ?_
        refine DW.ts rfl rfl rfl rfl (OpTo.own1 (k := 1) rfl trivial (defd2 rfl rfl rfl) fun ho838 => (OpTo.own1 (k := 0) rfl trivial (defd2 rfl rfl rfl) fun ho839 => (T.storeBA (k := 2) Try.sizeOf25 rfl rfl rfl (one_cons ho838 (one_cons ho839 one_nil)) rfl rfl))) ?_
        refine DW.nil ?_
        refine WK.nThen ?_
        refine WK.perm [blk b808 25 [v812, v835], rowF (v835) 34 (([] ++ d.Stops) ++ [s]), rowF (v812) 31 ([] ++ d.Rates), blk b9 25 [.slice none 0 0, .slice none 0 0]] ((List.Perm.cons _ (.refl _)).trans (List.perm_middle (l₁ := [rowF (v835) 34 (([] ++ d.Stops) ++ [s]), rowF (v812) 31 ([] ++ d.Rates)]) (l₂ := [blk b9 25 [.slice none 0 0, .slice none 0 0]]) (a := blk b808 25 [v812, v835])).symm) ?_
        exact WK.meet (m832, b808, v812, v835) rfl (.refl _) (.cons rfl (.cons rfl .nil)) (Mem.le_trans hle811 hle833)
      refine DW.fork (List.cons_ne_nil _ _) ?_ ?_
      · refine DW.tO rfl rfl rfl (OpTo.taO (T.lit0 (α := Stop) sl23 rfl)) (by decide) (fun m841 Es_ v840 hle842 hR_ => ?_)
        subst hR_
        replace hs2 := hs2.mono hle842
        replace hs4 := hs4.mono hle842
        replace hp14 := hp14.mono hle842
        replace hp17 := hp17.mono hle842
        replace hp19 := hp19.mono hle842
        replace hs21 := hs21.mono hle842
        replace hp23 := hp23.mono hle842
        replace hs25 := hs25.mono hle842
        refine DW.fork (List.cons_ne_nil _ _) ?_ ?_
        · refine DW.ta rfl rfl rfl rfl (T.appendFl (α := Span) (fun _ _ _ h => h) (k := 1) sl22 rfl rfl hs21 rfl (by first | omega | (simp; omega)) (by first | omega | (simp; omega))) (by decide) (fun v843 => ?_)
          refine DW.fork (List.cons_ne_nil _ _) ?_ ?_
          · refine DW.ta rfl rfl rfl rfl (T.appendFl (α := Stop) (fun _ _ _ h => h) (k := 0) sl23 rfl rfl hs25 rfl (by first | omega | (simp; omega)) (by first | omega | (simp; omega))) (by decide) (fun v844 => ?_)
            refine DW.tl rfl rfl rfl (T.lit1 sl23 rfl rfl rfl (by decide)) (by decide) fun b845 => ?_
            refine DW.ta rfl rfl rfl rfl (T.appendF (k := 0) (a := s) sl23 rfl rfl rfl rfl (by first | omega | (simp; done) | (simp; omega)) (by decide)) (by decide) (fun v846 => ?_)
            refine DW.x (V := Value.agg [v843, v846].toArray) rfl rfl (OpX.own1 (k := 1) rfl trivial (defdB rfl) fun ho847 => (OpX.own1 (k := 0) rfl trivial (defdB rfl) fun ho848 => (X.build Try.zeroValue25 Try.runUnderlying25 (places25 _ Try.underlying25) rfl (by simp only [Instr.fill, one_cells ho847, one_cells ho848]; rfl)))) (by decide) ?_
            refine DW.ts rfl rfl rfl rfl (OpTo.own1 (k := 1) rfl trivial (defd2 rfl rfl rfl) fun ho849 => (OpTo.own1 (k := 0) rfl trivial (defd2 rfl rfl rfl) fun ho850 => (T.storeBA (k := 2) Try.sizeOf25 rfl rfl rfl (one_cons ho849 (one_cons ho850 one_nil)) rfl rfl))) ?_
            refine DW.nil ?_
            refine WK.nThen ?_
            refine WK.perm [blk b808 25 [v843, v846], rowF (v846) 34 (([] ++ d.Stops) ++ [s]), rowF (v843) 31 ([] ++ d.Rates), blk b9 25 [.slice none 0 0, .slice none 0 0]] ((List.Perm.cons _ (.refl _)).trans (List.perm_middle (l₁ := [rowF (v846) 34 (([] ++ d.Stops) ++ [s]), rowF (v843) 31 ([] ++ d.Rates)]) (l₂ := [blk b9 25 [.slice none 0 0, .slice none 0 0]]) (a := blk b808 25 [v843, v846])).symm) ?_
            exact WK.meet (m841, b808, v843, v846) rfl (.refl _) (.cons rfl (.cons rfl .nil)) (Mem.le_trans hle811 hle842)
          refine DW.tl rfl rfl rfl (T.lit1 sl23 rfl rfl rfl (by decide)) (by decide) fun b851 => ?_
          refine DW.ta rfl rfl rfl rfl (T.appendFl (α := Stop) (fun _ _ _ h => h) (k := 1) sl23 rfl rfl hs25 rfl (by first | omega | (simp; omega)) (by first | omega | (simp; omega))) (by decide) (fun v852 => ?_)
          refine DW.ta rfl rfl rfl rfl (T.appendF (k := 0) (a := s) sl23 rfl rfl rfl rfl (by first | omega | (simp; done) | (simp; omega)) (by decide)) (by decide) (fun v853 => ?_)
          refine DW.x (V := Value.agg [v843, v853].toArray) rfl rfl (OpX.own1 (k := 1) rfl trivial (defdB rfl) fun ho854 => (OpX.own1 (k := 0) rfl trivial (defdB rfl) fun ho855 => (X.build Try.zeroValue25 Try.runUnderlying25 (places25 _ Try.underlying25) rfl (by simp only [Instr.fill, one_cells ho854, one_cells ho855]; rfl)))) (by decide) ?_
          refine DW.ts rfl rfl rfl rfl (OpTo.own1 (k := 1) rfl trivial (defd2 rfl rfl rfl) fun ho856 => (OpTo.own1 (k := 0) rfl trivial (defd2 rfl rfl rfl) fun ho857 => (T.storeBA (k := 2) Try.sizeOf25 rfl rfl rfl (one_cons ho856 (one_cons ho857 one_nil)) rfl rfl))) ?_
          refine DW.nil ?_
          refine WK.nThen ?_
          refine WK.perm [blk b808 25 [v843, v853], rowF (v853) 34 (([] ++ d.Stops) ++ [s]), rowF (v843) 31 ([] ++ d.Rates), blk b9 25 [.slice none 0 0, .slice none 0 0]] ((List.Perm.cons _ (.refl _)).trans (List.perm_middle (l₁ := [rowF (v853) 34 (([] ++ d.Stops) ++ [s]), rowF (v843) 31 ([] ++ d.Rates)]) (l₂ := [blk b9 25 [.slice none 0 0, .slice none 0 0]]) (a := blk b808 25 [v843, v853])).symm) ?_
          exact WK.meet (m841, b808, v843, v853) rfl (.refl _) (.cons rfl (.cons rfl .nil)) (Mem.le_trans hle811 hle842)
        refine DW.tl rfl rfl rfl (T.lit1 sl23 rfl rfl rfl (by decide)) (by decide) fun b858 => ?_
        refine DW.ta rfl rfl rfl rfl (T.appendFl (α := Span) (fun _ _ _ h => h) (k := 2) sl22 rfl rfl hs21 rfl (by first | omega | (simp; omega)) (by first | omega | (simp; omega))) (by decide) (fun v859 => ?_)
        refine DW.ta rfl rfl rfl rfl (T.appendFl (α := Stop) (fun _ _ _ h => h) (k := 1) sl23 rfl rfl hs25 rfl (by first | omega | (simp; omega)) (by first | omega | (simp; omega))) (by decide) (fun v860 => ?_)
        refine DW.ta rfl rfl rfl rfl (T.appendF (k := 0) (a := s) sl23 rfl rfl rfl rfl (by first | omega | (simp; done) | (simp; omega)) (by decide)) (by decide) (fun v861 => ?_)
        refine DW.x (V := Value.agg [v859, v861].toArray) rfl rfl (OpX.own1 (k := 1) rfl trivial (defdB rfl) fun ho862 => (OpX.own1 (k := 0) rfl trivial (defdB rfl) fun ho863 => (X.build Try.zeroValue25 Try.runUnderlying25 (places25 _ Try.underlying25) rfl (by simp only [Instr.fill, one_cells ho862, one_cells ho863]; rfl)))) (by decide) ?_
        refine DW.ts rfl rfl rfl rfl (OpTo.own1 (k := 1) rfl trivial (defd2 rfl rfl rfl) fun ho864 => (OpTo.own1 (k := 0) rfl trivial (defd2 rfl rfl rfl) fun ho865 => (T.storeBA (k := 2) Try.sizeOf25 rfl rfl rfl (one_cons ho864 (one_cons ho865 one_nil)) rfl rfl))) ?_
        refine DW.nil ?_
        refine WK.nThen ?_
        refine WK.perm [blk b808 25 [v859, v861], rowF (v861) 34 (([] ++ d.Stops) ++ [s]), rowF (v859) 31 ([] ++ d.Rates), blk b9 25 [.slice none 0 0, .slice none 0 0]] ((List.Perm.cons _ (.refl _)).trans (List.perm_middle (l₁ := [rowF (v861) 34 (([] ++ d.Stops) ++ [s]), rowF (v859) 31 ([] ++ d.Rates)]) (l₂ := [blk b9 25 [.slice none 0 0, .slice none 0 0]]) (a := blk b808 25 [v859, v861])).symm) ?_
        exact WK.meet (m841, b808, v859, v861) rfl (.refl _) (.cons rfl (.cons rfl .nil)) (Mem.le_trans hle811 hle842)
      refine DW.tl rfl rfl rfl (T.lit1 sl23 rfl rfl rfl (by decide)) (by decide) fun b866 => ?_
      refine DW.fork (List.cons_ne_nil _ _) ?_ ?_
      · refine DW.ta rfl rfl rfl rfl (T.appendFl (α := Span) (fun _ _ _ h => h) (k := 1) sl22 rfl rfl hs21 rfl (by first | omega | (simp; omega)) (by first | omega | (simp; omega))) (by decide) (fun v867 => ?_)
        refine DW.tO rfl rfl rfl (OpTo.taO (T.lit0 (α := Stop) sl23 rfl)) (by decide) (fun m869 Es_ v868 hle870 hR_ => ?_)
        subst hR_
        replace hs2 := hs2.mono hle870
        replace hs4 := hs4.mono hle870
        replace hp14 := hp14.mono hle870
        replace hp17 := hp17.mono hle870
        replace hp19 := hp19.mono hle870
        replace hs21 := hs21.mono hle870
        replace hp23 := hp23.mono hle870
        replace hs25 := hs25.mono hle870
        refine DW.ta rfl rfl rfl rfl (T.appendFl (α := Stop) (fun _ _ _ h => h) (k := 0) sl23 rfl rfl hs25 rfl (by first | omega | (simp; omega)) (by first | omega | (simp; omega))) (by decide) (fun v871 => ?_)
        refine DW.ta rfl rfl rfl rfl (OpTo.perm (H' := [blk b866 34 [.int .i64 (s.Column), .int .i64 (s.Ticks.Lo), .int .i64 (s.Ticks.Hi)], rowF (v871) 34 ([] ++ d.Stops), rowF (v867) 31 ([] ++ d.Rates), blk b808 25 [.slice none 0 0, .slice none 0 0], blk b9 25 [.slice none 0 0, .slice none 0 0]]) (List.perm_middle (l₁ := [rowF (v871) 34 ([] ++ d.Stops)]) (l₂ := [rowF (v867) 31 ([] ++ d.Rates), blk b808 25 [.slice none 0 0, .slice none 0 0], blk b9 25 [.slice none 0 0, .slice none 0 0]]) (a := blk b866 34 [.int .i64 (s.Column), .int .i64 (s.Ticks.Lo), .int .i64 (s.Ticks.Hi)])).symm (T.appendF (k := 0) (a := s) sl23 rfl rfl rfl rfl (by first | omega | (simp; done) | (simp; omega)) (by decide))) (by decide) (fun v872 => ?_)
        refine DW.x (V := Value.agg [v867, v872].toArray) rfl rfl (OpX.own1 (k := 1) rfl trivial (defdB rfl) fun ho873 => (OpX.own1 (k := 0) rfl trivial (defdB rfl) fun ho874 => (X.build Try.zeroValue25 Try.runUnderlying25 (places25 _ Try.underlying25) rfl (by simp only [Instr.fill, one_cells ho873, one_cells ho874]; rfl)))) (by decide) ?_
        refine DW.ts rfl rfl rfl rfl (OpTo.own1 (k := 1) rfl trivial (defd2 rfl rfl rfl) fun ho875 => (OpTo.own1 (k := 0) rfl trivial (defd2 rfl rfl rfl) fun ho876 => (T.storeBA (k := 2) Try.sizeOf25 rfl rfl rfl (one_cons ho875 (one_cons ho876 one_nil)) rfl rfl))) ?_
        refine DW.nil ?_
        refine WK.nThen ?_
        refine WK.perm [blk b808 25 [v867, v872], rowF (v872) 34 (([] ++ d.Stops) ++ [s]), rowF (v867) 31 ([] ++ d.Rates), blk b9 25 [.slice none 0 0, .slice none 0 0]] ((List.Perm.cons _ (.refl _)).trans (List.perm_middle (l₁ := [rowF (v872) 34 (([] ++ d.Stops) ++ [s]), rowF (v867) 31 ([] ++ d.Rates)]) (l₂ := [blk b9 25 [.slice none 0 0, .slice none 0 0]]) (a := blk b808 25 [v867, v872])).symm) ?_
        exact WK.meet (m869, b808, v867, v872) rfl (.refl _) (.cons rfl (.cons rfl .nil)) (Mem.le_trans hle811 hle870)
      refine DW.tO rfl rfl rfl (OpTo.taO (T.lit0 (α := Stop) sl23 rfl)) (by decide) (fun m878 Es_ v877 hle879 hR_ => ?_)
      subst hR_
      replace hs2 := hs2.mono hle879
      replace hs4 := hs4.mono hle879
      replace hp14 := hp14.mono hle879
      replace hp17 := hp17.mono hle879
      replace hp19 := hp19.mono hle879
      replace hs21 := hs21.mono hle879
      replace hp23 := hp23.mono hle879
      replace hs25 := hs25.mono hle879
      refine DW.ta rfl rfl rfl rfl (T.appendFl (α := Span) (fun _ _ _ h => h) (k := 2) sl22 rfl rfl hs21 rfl (by first | omega | (simp; omega)) (by first | omega | (simp; omega))) (by decide) (fun v880 => ?_)
      refine DW.ta rfl rfl rfl rfl (T.appendFl (α := Stop) (fun _ _ _ h => h) (k := 0) sl23 rfl rfl hs25 rfl (by first | omega | (simp; omega)) (by first | omega | (simp; omega))) (by decide) (fun v881 => ?_)
      refine DW.ta rfl rfl rfl rfl (OpTo.perm (H' := [blk b866 34 [.int .i64 (s.Column), .int .i64 (s.Ticks.Lo), .int .i64 (s.Ticks.Hi)], rowF (v881) 34 ([] ++ d.Stops), rowF (v880) 31 ([] ++ d.Rates), blk b808 25 [.slice none 0 0, .slice none 0 0], blk b9 25 [.slice none 0 0, .slice none 0 0]]) (List.perm_middle (l₁ := [rowF (v881) 34 ([] ++ d.Stops)]) (l₂ := [rowF (v880) 31 ([] ++ d.Rates), blk b808 25 [.slice none 0 0, .slice none 0 0], blk b9 25 [.slice none 0 0, .slice none 0 0]]) (a := blk b866 34 [.int .i64 (s.Column), .int .i64 (s.Ticks.Lo), .int .i64 (s.Ticks.Hi)])).symm (T.appendF (k := 0) (a := s) sl23 rfl rfl rfl rfl (by first | omega | (simp; done) | (simp; omega)) (by decide))) (by decide) (fun v882 => ?_)
      refine DW.x (V := Value.agg [v880, v882].toArray) rfl rfl (OpX.own1 (k := 1) rfl trivial (defdB rfl) fun ho883 => (OpX.own1 (k := 0) rfl trivial (defdB rfl) fun ho884 => (X.build Try.zeroValue25 Try.runUnderlying25 (places25 _ Try.underlying25) rfl (by simp only [Instr.fill, one_cells ho883, one_cells ho884]; rfl)))) (by decide) ?_
      refine DW.ts rfl rfl rfl rfl (OpTo.own1 (k := 1) rfl trivial (defd2 rfl rfl rfl) fun ho885 => (OpTo.own1 (k := 0) rfl trivial (defd2 rfl rfl rfl) fun ho886 => (T.storeBA (k := 2) Try.sizeOf25 rfl rfl rfl (one_cons ho885 (one_cons ho886 one_nil)) rfl rfl))) ?_
      refine DW.nil ?_
      refine WK.nThen ?_
      refine WK.perm [blk b808 25 [v880, v882], rowF (v882) 34 (([] ++ d.Stops) ++ [s]), rowF (v880) 31 ([] ++ d.Rates), blk b9 25 [.slice none 0 0, .slice none 0 0]] ((List.Perm.cons _ (.refl _)).trans (List.perm_middle (l₁ := [rowF (v882) 34 (([] ++ d.Stops) ++ [s]), rowF (v880) 31 ([] ++ d.Rates)]) (l₂ := [blk b9 25 [.slice none 0 0, .slice none 0 0]]) (a := blk b808 25 [v880, v882])).symm) ?_
      exact WK.meet (m878, b808, v880, v882) rfl (.refl _) (.cons rfl (.cons rfl .nil)) (Mem.le_trans hle811 hle879)
    refine DW.fork (List.cons_ne_nil _ _) ?_ ?_
    · refine DW.tO rfl rfl rfl (OpTo.taO (T.lit0 (α := Stop) sl23 rfl)) (by decide) (fun m888 Es_ v887 hle889 hR_ => ?_)
      subst hR_
      replace hs2 := hs2.mono hle889
      replace hs4 := hs4.mono hle889
      replace hp14 := hp14.mono hle889
      replace hp17 := hp17.mono hle889
      replace hp19 := hp19.mono hle889
      replace hs21 := hs21.mono hle889
      replace hp23 := hp23.mono hle889
      replace hs25 := hs25.mono hle889
      refine DW.fork (List.cons_ne_nil _ _) ?_ ?_
      · refine DW.tO rfl rfl rfl (OpTo.taO (T.lit0 (α := Span) sl22 rfl)) (by decide) (fun m891 Es_ v890 hle892 hR_ => ?_)
        subst hR_
        replace hs2 := hs2.mono hle892
        replace hs4 := hs4.mono hle892
        replace hp14 := hp14.mono hle892
        replace hp17 := hp17.mono hle892
        replace hp19 := hp19.mono hle892
        replace hs21 := hs21.mono hle892
        replace hp23 := hp23.mono hle892
        replace hs25 := hs25.mono hle892
        refine DW.fork (List.cons_ne_nil _ _) ?_ ?_
        · refine DW.ta rfl rfl rfl rfl (T.appendFl (α := Span) (fun _ _ _ h => h) (k := 0) sl22 rfl rfl hs21 rfl (by first | omega | (simp; omega)) (by first | omega | (simp; omega))) (by decide) (fun v893 => ?_)
          refine DW.fork (List.cons_ne_nil _ _) ?_ ?_
          · refine DW.ta rfl rfl rfl rfl (T.appendFl (α := Stop) (fun _ _ _ h => h) (k := 1) sl23 rfl rfl hs25 rfl (by first | omega | (simp; omega)) (by first | omega | (simp; omega))) (by decide) (fun v894 => ?_)
            refine DW.tl rfl rfl rfl (T.lit1 sl23 rfl rfl rfl (by decide)) (by decide) fun b895 => ?_
            refine DW.ta rfl rfl rfl rfl (T.appendF (k := 1) (a := s) sl23 rfl rfl rfl rfl (by first | omega | (simp; done) | (simp; omega)) (by decide)) (by decide) (fun v896 => ?_)
            refine DW.x (V := Value.agg [v893, v896].toArray) rfl rfl (OpX.own1 (k := 0) rfl trivial (defdB rfl) fun ho897 => (OpX.own1 (k := 1) rfl trivial (defdB rfl) fun ho898 => (X.build Try.zeroValue25 Try.runUnderlying25 (places25 _ Try.underlying25) rfl (by simp only [Instr.fill, one_cells ho897, one_cells ho898]; rfl)))) (by decide) ?_
            refine DW.ts rfl rfl rfl rfl (OpTo.own1 (k := 0) rfl trivial (defd2 rfl rfl rfl) fun ho899 => (OpTo.own1 (k := 1) rfl trivial (defd2 rfl rfl rfl) fun ho900 => (T.storeBA (k := 2) Try.sizeOf25 rfl rfl rfl (one_cons ho899 (one_cons ho900 one_nil)) rfl rfl))) ?_
            refine DW.nil ?_
            refine WK.nThen ?_
            refine WK.perm [blk b808 25 [v893, v896], rowF (v896) 34 (([] ++ d.Stops) ++ [s]), rowF (v893) 31 ([] ++ d.Rates), blk b9 25 [.slice none 0 0, .slice none 0 0]] ((List.Perm.cons _ ((List.Perm.cons _ (.refl _)).trans (List.perm_middle (l₁ := [rowF (v893) 31 ([] ++ d.Rates)]) (l₂ := [blk b9 25 [.slice none 0 0, .slice none 0 0]]) (a := rowF (v896) 34 (([] ++ d.Stops) ++ [s]))).symm)).trans (List.perm_middle (l₁ := [rowF (v893) 31 ([] ++ d.Rates), rowF (v896) 34 (([] ++ d.Stops) ++ [s])]) (l₂ := [blk b9 25 [.slice none 0 0, .slice none 0 0]]) (a := blk b808 25 [v893, v896])).symm) ?_
            exact WK.meet (m891, b808, v893, v896) rfl (.refl _) (.cons rfl (.cons rfl .nil)) (Mem.le_trans hle889 hle892)
          refine DW.tl rfl rfl rfl (T.lit1 sl23 rfl rfl rfl (by decide)) (by decide) fun b901 => ?_
          refine DW.ta rfl rfl rfl rfl (T.appendFl (α := Stop) (fun _ _ _ h => h) (k := 2) sl23 rfl rfl hs25 rfl (by first | omega | (simp; omega)) (by first | omega | (simp; omega))) (by decide) (fun v902 => ?_)
          refine DW.ta rfl rfl rfl rfl (T.appendF (k := 1) (a := s) sl23 rfl rfl rfl rfl (by first | omega | (simp; done) | (simp; omega)) (by decide)) (by decide) (fun v903 => ?_)
          refine DW.x (V := Value.agg [v893, v903].toArray) rfl rfl (OpX.own1 (k := 0) rfl trivial (defdB rfl) fun ho904 => (OpX.own1 (k := 1) rfl trivial (defdB rfl) fun ho905 => (X.build Try.zeroValue25 Try.runUnderlying25 (places25 _ Try.underlying25) rfl (by simp only [Instr.fill, one_cells ho904, one_cells ho905]; rfl)))) (by decide) ?_
          refine DW.ts rfl rfl rfl rfl (OpTo.own1 (k := 0) rfl trivial (defd2 rfl rfl rfl) fun ho906 => (OpTo.own1 (k := 1) rfl trivial (defd2 rfl rfl rfl) fun ho907 => (T.storeBA (k := 2) Try.sizeOf25 rfl rfl rfl (one_cons ho906 (one_cons ho907 one_nil)) rfl rfl))) ?_
          refine DW.nil ?_
          refine WK.nThen ?_
          refine WK.perm [blk b808 25 [v893, v903], rowF (v903) 34 (([] ++ d.Stops) ++ [s]), rowF (v893) 31 ([] ++ d.Rates), blk b9 25 [.slice none 0 0, .slice none 0 0]] ((List.Perm.cons _ ((List.Perm.cons _ (.refl _)).trans (List.perm_middle (l₁ := [rowF (v893) 31 ([] ++ d.Rates)]) (l₂ := [blk b9 25 [.slice none 0 0, .slice none 0 0]]) (a := rowF (v903) 34 (([] ++ d.Stops) ++ [s]))).symm)).trans (List.perm_middle (l₁ := [rowF (v893) 31 ([] ++ d.Rates), rowF (v903) 34 (([] ++ d.Stops) ++ [s])]) (l₂ := [blk b9 25 [.slice none 0 0, .slice none 0 0]]) (a := blk b808 25 [v893, v903])).symm) ?_
          exact WK.meet (m891, b808, v893, v903) rfl (.refl _) (.cons rfl (.cons rfl .nil)) (Mem.le_trans hle889 hle892)
        refine DW.tl rfl rfl rfl (T.lit1 sl23 rfl rfl rfl (by decide)) (by decide) fun b908 => ?_
        refine DW.ta rfl rfl rfl rfl (T.appendFl (α := Span) (fun _ _ _ h => h) (k := 1) sl22 rfl rfl hs21 rfl (by first | omega | (simp; omega)) (by first | omega | (simp; omega))) (by decide) (fun v909 => ?_)
        refine DW.ta rfl rfl rfl rfl (T.appendFl (α := Stop) (fun _ _ _ h => h) (k := 2) sl23 rfl rfl hs25 rfl (by first | omega | (simp; omega)) (by first | omega | (simp; omega))) (by decide) (fun v910 => ?_)
        refine DW.ta rfl rfl rfl rfl (T.appendF (k := 1) (a := s) sl23 rfl rfl rfl rfl (by first | omega | (simp; done) | (simp; omega)) (by decide)) (by decide) (fun v911 => ?_)
        refine DW.x (V := Value.agg [v909, v911].toArray) rfl rfl (OpX.own1 (k := 0) rfl trivial (defdB rfl) fun ho912 => (OpX.own1 (k := 1) rfl trivial (defdB rfl) fun ho913 => (X.build Try.zeroValue25 Try.runUnderlying25 (places25 _ Try.underlying25) rfl (by simp only [Instr.fill, one_cells ho912, one_cells ho913]; rfl)))) (by decide) ?_
        refine DW.ts rfl rfl rfl rfl (OpTo.own1 (k := 0) rfl trivial (defd2 rfl rfl rfl) fun ho914 => (OpTo.own1 (k := 1) rfl trivial (defd2 rfl rfl rfl) fun ho915 => (T.storeBA (k := 2) Try.sizeOf25 rfl rfl rfl (one_cons ho914 (one_cons ho915 one_nil)) rfl rfl))) ?_
        refine DW.nil ?_
        refine WK.nThen ?_
        refine WK.perm [blk b808 25 [v909, v911], rowF (v911) 34 (([] ++ d.Stops) ++ [s]), rowF (v909) 31 ([] ++ d.Rates), blk b9 25 [.slice none 0 0, .slice none 0 0]] ((List.Perm.cons _ ((List.Perm.cons _ (.refl _)).trans (List.perm_middle (l₁ := [rowF (v909) 31 ([] ++ d.Rates)]) (l₂ := [blk b9 25 [.slice none 0 0, .slice none 0 0]]) (a := rowF (v911) 34 (([] ++ d.Stops) ++ [s]))).symm)).trans (List.perm_middle (l₁ := [rowF (v909) 31 ([] ++ d.Rates), rowF (v911) 34 (([] ++ d.Stops) ++ [s])]) (l₂ := [blk b9 25 [.slice none 0 0, .slice none 0 0]]) (a := blk b808 25 [v909, v911])).symm) ?_
        exact WK.meet (m891, b808, v909, v911) rfl (.refl _) (.cons rfl (.cons rfl .nil)) (Mem.le_trans hle889 hle892)
      refine DW.tl rfl rfl rfl (T.lit1 sl23 rfl rfl rfl (by decide)) (by decide) fun b916 => ?_
      refine DW.tO rfl rfl rfl (OpTo.taO (T.lit0 (α := Span) sl22 rfl)) (by decide) (fun m918 Es_ v917 hle919 hR_ => ?_)
      subst hR_
      replace hs2 := hs2.mono hle919
      replace hs4 := hs4.mono hle919
      replace hp14 := hp14.mono hle919
      replace hp17 := hp17.mono hle919
      replace hp19 := hp19.mono hle919
      replace hs21 := hs21.mono hle919
      replace hp23 := hp23.mono hle919
      replace hs25 := hs25.mono hle919
      refine DW.ta rfl rfl rfl rfl (T.appendFl (α := Span) (fun _ _ _ h => h) (k := 0) sl22 rfl rfl hs21 rfl (by first | omega | (simp; omega)) (by first | omega | (simp; omega))) (by decide) (fun v920 => ?_)
      refine DW.ta rfl rfl rfl rfl (T.appendFl (α := Stop) (fun _ _ _ h => h) (k := 2) sl23 rfl rfl hs25 rfl (by first | omega | (simp; omega)) (by first | omega | (simp; omega))) (by decide) (fun v921 => ?_)
      refine DW.ta rfl rfl rfl rfl (OpTo.perm (H' := [blk b916 34 [.int .i64 (s.Column), .int .i64 (s.Ticks.Lo), .int .i64 (s.Ticks.Hi)], rowF (v920) 31 ([] ++ d.Rates), rowF (v921) 34 ([] ++ d.Stops), blk b808 25 [.slice none 0 0, .slice none 0 0], blk b9 25 [.slice none 0 0, .slice none 0 0]]) (List.perm_middle (l₁ := [rowF (v920) 31 ([] ++ d.Rates)]) (l₂ := [rowF (v921) 34 ([] ++ d.Stops), blk b808 25 [.slice none 0 0, .slice none 0 0], blk b9 25 [.slice none 0 0, .slice none 0 0]]) (a := blk b916 34 [.int .i64 (s.Column), .int .i64 (s.Ticks.Lo), .int .i64 (s.Ticks.Hi)])).symm (T.appendF (k := 1) (a := s) sl23 rfl rfl rfl rfl (by first | omega | (simp; done) | (simp; omega)) (by decide))) (by decide) (fun v922 => ?_)
      refine DW.x (V := Value.agg [v920, v922].toArray) rfl rfl (OpX.own1 (k := 0) rfl trivial (defdB rfl) fun ho923 => (OpX.own1 (k := 1) rfl trivial (defdB rfl) fun ho924 => (X.build Try.zeroValue25 Try.runUnderlying25 (places25 _ Try.underlying25) rfl (by simp only [Instr.fill, one_cells ho923, one_cells ho924]; rfl)))) (by decide) ?_
      refine DW.ts rfl rfl rfl rfl (OpTo.own1 (k := 0) rfl trivial (defd2 rfl rfl rfl) fun ho925 => (OpTo.own1 (k := 1) rfl trivial (defd2 rfl rfl rfl) fun ho926 => (T.storeBA (k := 2) Try.sizeOf25 rfl rfl rfl (one_cons ho925 (one_cons ho926 one_nil)) rfl rfl))) ?_
      refine DW.nil ?_
      refine WK.nThen ?_
      refine WK.perm [blk b808 25 [v920, v922], rowF (v922) 34 (([] ++ d.Stops) ++ [s]), rowF (v920) 31 ([] ++ d.Rates), blk b9 25 [.slice none 0 0, .slice none 0 0]] ((List.Perm.cons _ ((List.Perm.cons _ (.refl _)).trans (List.perm_middle (l₁ := [rowF (v920) 31 ([] ++ d.Rates)]) (l₂ := [blk b9 25 [.slice none 0 0, .slice none 0 0]]) (a := rowF (v922) 34 (([] ++ d.Stops) ++ [s]))).symm)).trans (List.perm_middle (l₁ := [rowF (v920) 31 ([] ++ d.Rates), rowF (v922) 34 (([] ++ d.Stops) ++ [s])]) (l₂ := [blk b9 25 [.slice none 0 0, .slice none 0 0]]) (a := blk b808 25 [v920, v922])).symm) ?_
      exact WK.meet (m918, b808, v920, v922) rfl (.refl _) (.cons rfl (.cons rfl .nil)) (Mem.le_trans hle889 hle919)
    refine DW.tl rfl rfl rfl (T.lit1 sl23 rfl rfl rfl (by decide)) (by decide) fun b927 => ?_
    refine DW.fork (List.cons_ne_nil _ _) ?_ ?_
    · refine DW.tO rfl rfl rfl (OpTo.taO (T.lit0 (α := Span) sl22 rfl)) (by decide) (fun m929 Es_ v928 hle930 hR_ => ?_)
      subst hR_
      replace hs2 := hs2.mono hle930
      replace hs4 := hs4.mono hle930
      replace hp14 := hp14.mono hle930
      replace hp17 := hp17.mono hle930
      replace hp19 := hp19.mono hle930
      replace hs21 := hs21.mono hle930
      replace hp23 := hp23.mono hle930
      replace hs25 := hs25.mono hle930
      refine DW.fork (List.cons_ne_nil _ _) ?_ ?_
      · refine DW.ta rfl rfl rfl rfl (T.appendFl (α := Span) (fun _ _ _ h => h) (k := 0) sl22 rfl rfl hs21 rfl (by first | omega | (simp; omega)) (by first | omega | (simp; omega))) (by decide) (fun v931 => ?_)
        refine DW.tO rfl rfl rfl (OpTo.taO (T.lit0 (α := Stop) sl23 rfl)) (by decide) (fun m933 Es_ v932 hle934 hR_ => ?_)
        subst hR_
        replace hs2 := hs2.mono hle934
        replace hs4 := hs4.mono hle934
        replace hp14 := hp14.mono hle934
        replace hp17 := hp17.mono hle934
        replace hp19 := hp19.mono hle934
        replace hs21 := hs21.mono hle934
        replace hp23 := hp23.mono hle934
        replace hs25 := hs25.mono hle934
        refine DW.ta rfl rfl rfl rfl (T.appendFl (α := Stop) (fun _ _ _ h => h) (k := 0) sl23 rfl rfl hs25 rfl (by first | omega | (simp; omega)) (by first | omega | (simp; omega))) (by decide) (fun v935 => ?_)
        refine DW.ta rfl rfl rfl rfl (OpTo.perm (H' := [blk b927 34 [.int .i64 (s.Column), .int .i64 (s.Ticks.Lo), .int .i64 (s.Ticks.Hi)], rowF (v935) 34 ([] ++ d.Stops), rowF (v931) 31 ([] ++ d.Rates), blk b808 25 [.slice none 0 0, .slice none 0 0], blk b9 25 [.slice none 0 0, .slice none 0 0]]) (List.perm_middle (l₁ := [rowF (v935) 34 ([] ++ d.Stops), rowF (v931) 31 ([] ++ d.Rates)]) (l₂ := [blk b808 25 [.slice none 0 0, .slice none 0 0], blk b9 25 [.slice none 0 0, .slice none 0 0]]) (a := blk b927 34 [.int .i64 (s.Column), .int .i64 (s.Ticks.Lo), .int .i64 (s.Ticks.Hi)])).symm (T.appendF (k := 0) (a := s) sl23 rfl rfl rfl rfl (by first | omega | (simp; done) | (simp; omega)) (by decide))) (by decide) (fun v936 => ?_)
        refine DW.x (V := Value.agg [v931, v936].toArray) rfl rfl (OpX.own1 (k := 1) rfl trivial (defdB rfl) fun ho937 => (OpX.own1 (k := 0) rfl trivial (defdB rfl) fun ho938 => (X.build Try.zeroValue25 Try.runUnderlying25 (places25 _ Try.underlying25) rfl (by simp only [Instr.fill, one_cells ho937, one_cells ho938]; rfl)))) (by decide) ?_
        refine DW.ts rfl rfl rfl rfl (OpTo.own1 (k := 1) rfl trivial (defd2 rfl rfl rfl) fun ho939 => (OpTo.own1 (k := 0) rfl trivial (defd2 rfl rfl rfl) fun ho940 => (T.storeBA (k := 2) Try.sizeOf25 rfl rfl rfl (one_cons ho939 (one_cons ho940 one_nil)) rfl rfl))) ?_
        refine DW.nil ?_
        refine WK.nThen ?_
        refine WK.perm [blk b808 25 [v931, v936], rowF (v936) 34 (([] ++ d.Stops) ++ [s]), rowF (v931) 31 ([] ++ d.Rates), blk b9 25 [.slice none 0 0, .slice none 0 0]] ((List.Perm.cons _ (.refl _)).trans (List.perm_middle (l₁ := [rowF (v936) 34 (([] ++ d.Stops) ++ [s]), rowF (v931) 31 ([] ++ d.Rates)]) (l₂ := [blk b9 25 [.slice none 0 0, .slice none 0 0]]) (a := blk b808 25 [v931, v936])).symm) ?_
        exact WK.meet (m933, b808, v931, v936) rfl (.refl _) (.cons rfl (.cons rfl .nil)) (Mem.le_trans hle930 hle934)
      refine DW.tO rfl rfl rfl (OpTo.taO (T.lit0 (α := Stop) sl23 rfl)) (by decide) (fun m942 Es_ v941 hle943 hR_ => ?_)
      subst hR_
      replace hs2 := hs2.mono hle943
      replace hs4 := hs4.mono hle943
      replace hp14 := hp14.mono hle943
      replace hp17 := hp17.mono hle943
      replace hp19 := hp19.mono hle943
      replace hs21 := hs21.mono hle943
      replace hp23 := hp23.mono hle943
      replace hs25 := hs25.mono hle943
      refine DW.ta rfl rfl rfl rfl (T.appendFl (α := Span) (fun _ _ _ h => h) (k := 1) sl22 rfl rfl hs21 rfl (by first | omega | (simp; omega)) (by first | omega | (simp; omega))) (by decide) (fun v944 => ?_)
      refine DW.ta rfl rfl rfl rfl (T.appendFl (α := Stop) (fun _ _ _ h => h) (k := 0) sl23 rfl rfl hs25 rfl (by first | omega | (simp; omega)) (by first | omega | (simp; omega))) (by decide) (fun v945 => ?_)
      refine DW.ta rfl rfl rfl rfl (OpTo.perm (H' := [blk b927 34 [.int .i64 (s.Column), .int .i64 (s.Ticks.Lo), .int .i64 (s.Ticks.Hi)], rowF (v945) 34 ([] ++ d.Stops), rowF (v944) 31 ([] ++ d.Rates), blk b808 25 [.slice none 0 0, .slice none 0 0], blk b9 25 [.slice none 0 0, .slice none 0 0]]) (List.perm_middle (l₁ := [rowF (v945) 34 ([] ++ d.Stops), rowF (v944) 31 ([] ++ d.Rates)]) (l₂ := [blk b808 25 [.slice none 0 0, .slice none 0 0], blk b9 25 [.slice none 0 0, .slice none 0 0]]) (a := blk b927 34 [.int .i64 (s.Column), .int .i64 (s.Ticks.Lo), .int .i64 (s.Ticks.Hi)])).symm (T.appendF (k := 0) (a := s) sl23 rfl rfl rfl rfl (by first | omega | (simp; done) | (simp; omega)) (by decide))) (by decide) (fun v946 => ?_)
      refine DW.x (V := Value.agg [v944, v946].toArray) rfl rfl (OpX.own1 (k := 1) rfl trivial (defdB rfl) fun ho947 => (OpX.own1 (k := 0) rfl trivial (defdB rfl) fun ho948 => (X.build Try.zeroValue25 Try.runUnderlying25 (places25 _ Try.underlying25) rfl (by simp only [Instr.fill, one_cells ho947, one_cells ho948]; rfl)))) (by decide) ?_
      refine DW.ts rfl rfl rfl rfl (OpTo.own1 (k := 1) rfl trivial (defd2 rfl rfl rfl) fun ho949 => (OpTo.own1 (k := 0) rfl trivial (defd2 rfl rfl rfl) fun ho950 => (T.storeBA (k := 2) Try.sizeOf25 rfl rfl rfl (one_cons ho949 (one_cons ho950 one_nil)) rfl rfl))) ?_
      refine DW.nil ?_
      refine WK.nThen ?_
      refine WK.perm [blk b808 25 [v944, v946], rowF (v946) 34 (([] ++ d.Stops) ++ [s]), rowF (v944) 31 ([] ++ d.Rates), blk b9 25 [.slice none 0 0, .slice none 0 0]] ((List.Perm.cons _ (.refl _)).trans (List.perm_middle (l₁ := [rowF (v946) 34 (([] ++ d.Stops) ++ [s]), rowF (v944) 31 ([] ++ d.Rates)]) (l₂ := [blk b9 25 [.slice none 0 0, .slice none 0 0]]) (a := blk b808 25 [v944, v946])).symm) ?_
      exact WK.meet (m942, b808, v944, v946) rfl (.refl _) (.cons rfl (.cons rfl .nil)) (Mem.le_trans hle930 hle943)
    refine DW.tO rfl rfl rfl (OpTo.taO (T.lit0 (α := Stop) sl23 rfl)) (by decide) (fun m952 Es_ v951 hle953 hR_ => ?_)
    subst hR_
    replace hs2 := hs2.mono hle953
    replace hs4 := hs4.mono hle953
    replace hp14 := hp14.mono hle953
    replace hp17 := hp17.mono hle953
    replace hp19 := hp19.mono hle953
    replace hs21 := hs21.mono hle953
    replace hp23 := hp23.mono hle953
    replace hs25 := hs25.mono hle953
    refine DW.tO rfl rfl rfl (OpTo.taO (T.lit0 (α := Span) sl22 rfl)) (by decide) (fun m955 Es_ v954 hle956 hR_ => ?_)
    subst hR_
    replace hs2 := hs2.mono hle956
    replace hs4 := hs4.mono hle956
    replace hp14 := hp14.mono hle956
    replace hp17 := hp17.mono hle956
    replace hp19 := hp19.mono hle956
    replace hs21 := hs21.mono hle956
    replace hp23 := hp23.mono hle956
    replace hs25 := hs25.mono hle956
    refine DW.ta rfl rfl rfl rfl (T.appendFl (α := Span) (fun _ _ _ h => h) (k := 0) sl22 rfl rfl hs21 rfl (by first | omega | (simp; omega)) (by first | omega | (simp; omega))) (by decide) (fun v957 => ?_)
    refine DW.ta rfl rfl rfl rfl (T.appendFl (α := Stop) (fun _ _ _ h => h) (k := 1) sl23 rfl rfl hs25 rfl (by first | omega | (simp; omega)) (by first | omega | (simp; omega))) (by decide) (fun v958 => ?_)
    refine DW.ta rfl rfl rfl rfl (OpTo.perm (H' := [blk b927 34 [.int .i64 (s.Column), .int .i64 (s.Ticks.Lo), .int .i64 (s.Ticks.Hi)], rowF (v957) 31 ([] ++ d.Rates), rowF (v958) 34 ([] ++ d.Stops), blk b808 25 [.slice none 0 0, .slice none 0 0], blk b9 25 [.slice none 0 0, .slice none 0 0]]) (List.perm_middle (l₁ := [rowF (v957) 31 ([] ++ d.Rates), rowF (v958) 34 ([] ++ d.Stops)]) (l₂ := [blk b808 25 [.slice none 0 0, .slice none 0 0], blk b9 25 [.slice none 0 0, .slice none 0 0]]) (a := blk b927 34 [.int .i64 (s.Column), .int .i64 (s.Ticks.Lo), .int .i64 (s.Ticks.Hi)])).symm (T.appendF (k := 1) (a := s) sl23 rfl rfl rfl rfl (by first | omega | (simp; done) | (simp; omega)) (by decide))) (by decide) (fun v959 => ?_)
    refine DW.x (V := Value.agg [v957, v959].toArray) rfl rfl (OpX.own1 (k := 0) rfl trivial (defdB rfl) fun ho960 => (OpX.own1 (k := 1) rfl trivial (defdB rfl) fun ho961 => (X.build Try.zeroValue25 Try.runUnderlying25 (places25 _ Try.underlying25) rfl (by simp only [Instr.fill, one_cells ho960, one_cells ho961]; rfl)))) (by decide) ?_
    refine DW.ts rfl rfl rfl rfl (OpTo.own1 (k := 0) rfl trivial (defd2 rfl rfl rfl) fun ho962 => (OpTo.own1 (k := 1) rfl trivial (defd2 rfl rfl rfl) fun ho963 => (T.storeBA (k := 2) Try.sizeOf25 rfl rfl rfl (one_cons ho962 (one_cons ho963 one_nil)) rfl rfl))) ?_
    refine DW.nil ?_
    refine WK.nThen ?_
    refine WK.perm [blk b808 25 [v957, v959], rowF (v959) 34 (([] ++ d.Stops) ++ [s]), rowF (v957) 31 ([] ++ d.Rates), blk b9 25 [.slice none 0 0, .slice none 0 0]] ((List.Perm.cons _ ((List.Perm.cons _ (.refl _)).trans (List.perm_middle (l₁ := [rowF (v957) 31 ([] ++ d.Rates)]) (l₂ := [blk b9 25 [.slice none 0 0, .slice none 0 0]]) (a := rowF (v959) 34 (([] ++ d.Stops) ++ [s]))).symm)).trans (List.perm_middle (l₁ := [rowF (v957) 31 ([] ++ d.Rates), rowF (v959) 34 (([] ++ d.Stops) ++ [s])]) (l₂ := [blk b9 25 [.slice none 0 0, .slice none 0 0]]) (a := blk b808 25 [v957, v959])).symm) ?_
    exact WK.meet (m955, b808, v957, v959) rfl (.refl _) (.cons rfl (.cons rfl .nil)) (Mem.le_trans hle953 hle956)
  rintro ⟨m18, b40, v31, v37⟩ hle964
  show WK _ _ m18 [blk b40 25 [v31, v37], rowF (v37) 34 (([] ++ d.Stops) ++ [s]), rowF (v31) 31 ([] ++ d.Rates), blk b9 25 [.slice none 0 0, .slice none 0 0]] [(4, .pointer (some ⟨b9, 0, none⟩)), (6, .pointer (some ⟨b40, 0, none⟩))] _
  replace hs2 := hs2.mono hle964
  replace hs4 := hs4.mono hle964
  replace hp14 := hp14.mono hle964
  replace hp17 := hp17.mono hle964
  refine WC.seq ?_
  refine WC.seq ?_
  have he965 : ([] ++ d.Rates) = d.Rates := rfl
  rw [he965]
  have he966 : (([] ++ d.Stops) ++ [s]) = ((winD d s).Stops) := rfl
  rw [he966]
  refine WC.region ?_
  refine WL.x (X.loadBA (k := 0) Try.isAgg25 Try.sizeOf25 rfl rfl rfl) (by decide) ?_
  refine WL.freezeF 2 rfl rfl (by unfold lenB; omega) (fun m967 hle968 hs969 => ?_)
  replace hs2 := hs2.mono hle968
  replace hs4 := hs4.mono hle968
  replace hp14 := hp14.mono hle968
  replace hp17 := hp17.mono hle968
  refine WL.freezeF 1 rfl rfl (by unfold lenB; omega) (fun m970 hle971 hs972 => ?_)
  replace hs2 := hs2.mono hle971
  replace hs4 := hs4.mono hle971
  replace hp14 := hp14.mono hle971
  replace hp17 := hp17.mono hle971
  replace hs969 := hs969.mono hle971
  refine WL.x (X.call Try.call54 rfl (check54 _ _ ((Drum.mk (d.Rates) ((winD d s).Stops))) ⟨_, _, rfl, hs969, hs972⟩ )) (by decide) ?_
  refine WL.condn (X.neq rfl rfl) (by decide) (fun h973 => ?_) (fun h973 => ?_)
  · refine WL.nil ?_
    refine WK.nThen ?_
    refine WC.condT rfl ?_
    refine WC.seq ?_
    refine WC.region ?_
    refine WL.x (V := Value.agg [.slice none 0 0, .slice none 0 0].toArray) (X.build Try.zeroValue25 Try.runUnderlying25 (places25 _ Try.underlying25) rfl rfl) (by decide) ?_
    refine WL.ts (T.storeBA (k := 1) Try.sizeOf25 rfl rfl rfl (one_cons rfl (one_cons rfl one_nil)) rfl rfl) ?_
    refine WL.x (X.assign rfl) (by decide) ?_
    refine WL.nil ?_
    refine WK.nThen ?_
    refine WC.ret ?_
    refine WK.rThen ?_
    refine WK.retC2 1 rfl rfl rfl rfl Try.isAgg25 Try.sizeOf25 (fun w' hw' => Ret.mem hw' ?_)
    first | (exfalso; omega) | exact ⟨_, tup2 rfl (int_eq (by rw [winR_bad (by omega)]; omega)), by rw [winR_bad (by omega)]; exact ⟨_, _, rfl, .nil, .nil⟩⟩ | exact ⟨_, tup2 rfl (int_eq (by rw [winR_big (by omega) (by omega)])), by rw [winR_big (by omega) (by omega)]; exact ⟨_, _, rfl, .nil, .nil⟩⟩ | exact ⟨_, tup2 rfl (int_eq (by rw [winR_arg (by omega) (by omega) (by assumption)])), by rw [winR_arg (by omega) (by omega) (by assumption)]; exact ⟨_, _, rfl, .nil, .nil⟩⟩ | exact ⟨_, tup2 rfl (int_eq (by rw [winR_ok (by omega) (by omega) (by assumption)])), by rw [winR_ok (by omega) (by omega) (by assumption)]; exact ⟨_, _, rfl, .nil, .nil⟩⟩
  refine WL.nil ?_
  refine WK.nThen ?_
  refine WC.condF rfl ?_
  refine WC.skip ?_
  refine WK.nThen ?_
  refine WC.seq ?_
  refine WC.region ?_
  refine WL.x (X.loadBA (k := 0) Try.isAgg25 Try.sizeOf25 rfl rfl rfl) (by decide) ?_
  refine WL.ts (T.storeBA (k := 1) Try.sizeOf25 rfl rfl rfl (one_cons hs969.one (one_cons hs972.one one_nil)) rfl rfl) ?_
  refine WL.x (X.assign rfl) (by decide) ?_
  refine WL.nil ?_
  refine WK.nThen ?_
  refine WC.ret ?_
  refine WK.retC2 1 rfl rfl rfl rfl Try.isAgg25 Try.sizeOf25 (fun w' hw' => Ret.mem hw' ?_)
  first | (exfalso; omega) | exact ⟨_, tup2 rfl (int_eq (by rw [winR_bad (by omega)]; omega)), by rw [winR_bad (by omega)]; exact ⟨_, _, rfl, hs969, hs972⟩⟩ | exact ⟨_, tup2 rfl (int_eq (by rw [winR_big (by omega) (by omega)])), by rw [winR_big (by omega) (by omega)]; exact ⟨_, _, rfl, hs969, hs972⟩⟩ | exact ⟨_, tup2 rfl (int_eq (by rw [winR_arg (by omega) (by omega) (by assumption)])), by rw [winR_arg (by omega) (by omega) (by assumption)]; exact ⟨_, _, rfl, hs969, hs972⟩⟩ | exact ⟨_, tup2 rfl (int_eq (by rw [winR_ok (by omega) (by omega) (by assumption)])), by rw [winR_ok (by omega) (by omega) (by assumption)]; exact ⟨_, _, rfl, hs969, hs972⟩⟩

theorem same59 (m : Mem) (ca : List Value) (a : Drum) (ha : Enc.rd m ca a) (cb : List Value) (b : Drum) (hb : Enc.rd m cb b)   : Exact Try.prog 59 #[.agg ca.toArray, .agg cb.toArray] m (.bool (decide (a = b))) := by
  obtain ⟨v1, v3, rfl, hs2, hs4⟩ := ha
  have hl5 := hs2.le
  have hl6 := hs4.le
  obtain ⟨v7, v9, rfl, hs8, hs10⟩ := hb
  have hl11 := hs8.le
  have hl12 := hs10.le
  refine Exact.start Try.func59 rfl Try.ntmps59 rfl fun wld => ?_
  refine WC.seq ?_
  refine WC.region ?_
  refine WL.tn (T.boxB rfl rfl) (by decide) fun b13 => ?_
  refine WL.tn (T.boxB rfl rfl) (by decide) fun b14 => ?_
  refine WL.x (X.assign rfl) (by decide) ?_
  refine WL.nil ?_
  refine WK.nThen ?_
  refine WC.seq ?_
  refine WC.seq ?_
  refine WC.region ?_
  refine WL.x (X.field Try.runUnderlying25 rfl Try.sizeOf22 rfl) (by decide) ?_
  refine WL.x (X.loadB (k := 1) Try.isAgg22 rfl rfl rfl) (by decide) ?_
  refine WL.x (X.field Try.runUnderlying25 rfl Try.sizeOf22 rfl) (by decide) ?_
  refine WL.x (X.loadB (k := 0) Try.isAgg22 rfl rfl rfl) (by decide) ?_
  refine WL.cond (X.call Try.call29 rfl (sameSpans29 _ _ _ hs2 _ _ hs8 )) (by decide) (fun h15 => ?_) (fun h15 => ?_)
  · refine WL.x (X.not rfl) (by decide) ?_
    refine WL.x (X.move rfl) (by decide) ?_
    refine WL.yes rfl rfl ?_
    refine WL.x (X.field Try.runUnderlying25 rfl Try.sizeOf23 rfl) (by decide) ?_
    refine WL.yes rfl rfl ?_
    refine WL.x (X.loadB (k := 1) Try.isAgg23 rfl rfl rfl) (by decide) ?_
    refine WL.yes rfl rfl ?_
    refine WL.x (X.len Try.runUnderlying23 rfl hs4) (by decide) ?_
    refine WL.yes rfl rfl ?_
    refine WL.x (X.field Try.runUnderlying25 rfl Try.sizeOf23 rfl) (by decide) ?_
    refine WL.yes rfl rfl ?_
    refine WL.x (X.loadB (k := 0) Try.isAgg23 rfl rfl rfl) (by decide) ?_
    refine WL.yes rfl rfl ?_
    refine WL.x (X.len Try.runUnderlying23 rfl hs10) (by decide) ?_
    refine WL.yes rfl rfl ?_
    refine WL.condn (X.neq rfl rfl) (by decide) (fun h16 => ?_) (fun h16 => ?_)
    · refine WL.x (X.pickF rfl rfl rfl) (by decide) ?_
      refine WL.nil ?_
      refine WK.nThen ?_
      refine WC.condT rfl ?_
      refine WC.seq ?_
      refine WC.region ?_
      refine WL.x (X.assign rfl) (by decide) ?_
      refine WL.nil ?_
      refine WK.nThen ?_
      refine WC.ret ?_
      refine WK.rThen ?_
      refine WK.ret1 rfl rfl (fun w' hw' => Ret.exact hw' ?_)
      first | exact bool_false (fun e => by subst e; first | omega | contradiction) | exact bool_true (drum_eq (by assumption) (ext_gt (by omega) (fun j hj => hall j (by omega))))
    · refine WL.x (X.pickF rfl rfl rfl) (by decide) ?_
      refine WL.nil ?_
      refine WK.nThen ?_
      refine WC.condF rfl ?_
      refine WC.skip ?_
      refine WK.nThen ?_
      refine WC.seq ?_
      refine WC.seq ?_
      refine WC.region ?_
      refine WL.x (X.assign rfl) (by decide) ?_
      refine WL.nil ?_
      refine WK.nThen ?_
      refine WC.block ?_
      refine WC.loop (G := Nat) (fun k => a.Stops.length - k) (fun k => m) (fun k => [blk b14 25 [v7, v9], blk b13 25 [v1, v3]]) (fun k => [(2, .pointer (some ⟨b13, 0, none⟩)), (3, .pointer (some ⟨b14, 0, none⟩)), (5, .int .i64 (↑k))]) (fun k => k ≤ a.Stops.length ∧ (∀ j, j < k → gt a.Stops j = gt b.Stops j)) 0 rfl (.refl _) (.cons rfl (.cons rfl (.cons rfl .nil))) ?_ ?_
      · exact ⟨Nat.zero_le _, fun j hj => absurd hj (Nat.not_lt_zero _)⟩
      · rintro k hF17
        show WK _ _ m [blk b14 25 [v7, v9], blk b13 25 [v1, v3]] [(2, .pointer (some ⟨b13, 0, none⟩)), (3, .pointer (some ⟨b14, 0, none⟩)), (5, .int .i64 (↑k))] _
        replace hF17 : k ≤ a.Stops.length ∧ (∀ j, j < k → gt a.Stops j = gt b.Stops j) := hF17
        obtain ⟨hk, hall⟩ := hF17
        refine WC.seq ?_
        refine WC.seq ?_
        refine WC.region ?_
        refine WL.x (X.move rfl) (by decide) ?_
        refine WL.x (X.field Try.runUnderlying25 rfl Try.sizeOf23 rfl) (by decide) ?_
        refine WL.x (X.loadB (k := 1) Try.isAgg23 rfl rfl rfl) (by decide) ?_
        refine WL.x (X.len Try.runUnderlying23 rfl hs4) (by decide) ?_
        refine WL.cond (X.lss rfl rfl) (by decide) (fun h18 => ?_) (fun h18 => ?_)
        · refine WL.nil ?_
          refine WK.nThen ?_
          refine WC.condT rfl ?_
          refine WC.skip ?_
          refine WK.nThen ?_
          refine WC.seq ?_
          refine WC.block ?_
          refine WC.seq ?_
          refine WC.draw (π := (.cons 0 (.cons 1 (.cons 2 (.cons 3 (.cons 4 (.cons 5 (.cons 6 (.cons 7 (.cons 8 (.cons 9 (.cons 10 .done)))))))))))) [] [] rfl (by kernel_rfl) ?_
          refine DW.x rfl rfl (X.field Try.runUnderlying25 rfl Try.sizeOf23 rfl) (by decide) ?_
          refine DW.x rfl rfl (X.loadB (k := 1) Try.isAgg23 rfl rfl rfl) (by decide) ?_
          refine DW.x rfl rfl (X.move rfl) (by decide) ?_
          refine DW.xe rfl rfl (E.idxN k Try.runUnderlying23 Try.sizeOf34 rfl rfl hs4 (by omega)) (by decide) (fun p19 hp20 => ?_)
          refine DW.xe rfl rfl (E.loadAgg Try.isAgg34 Try.sizeOf34 rfl hp20) (by decide) (fun c21 hc22 => ?_)
          obtain rfl := hc22
          refine DW.x rfl rfl (X.field Try.runUnderlying25 rfl Try.sizeOf23 rfl) (by decide) ?_
          refine DW.x rfl rfl (X.loadB (k := 0) Try.isAgg23 rfl rfl rfl) (by decide) ?_
          refine DW.x rfl rfl (X.move rfl) (by decide) ?_
          refine DW.xe rfl rfl (E.idxN k Try.runUnderlying23 Try.sizeOf34 rfl rfl hs10 (by omega)) (by decide) (fun p23 hp24 => ?_)
          refine DW.xe rfl rfl (E.loadAgg Try.isAgg34 Try.sizeOf34 rfl hp24) (by decide) (fun c25 hc26 => ?_)
          obtain rfl := hc26
          refine DW.condn rfl rfl (X.neqS (a := gt a.Stops k) (b := gt b.Stops k) gd34 (fun w => eqS34 9997 _ _ w) rfl rfl) (by decide) (fun h27 => ?_) (fun h27 => ?_)
          · refine DW.nil ?_
            refine WK.nThen ?_
            refine WC.condT rfl ?_
            refine WC.seq ?_
            refine WC.region ?_
            refine WL.x (X.assign rfl) (by decide) ?_
            refine WL.nil ?_
            refine WK.nThen ?_
            refine WC.ret ?_
            refine WK.rBlock ?_
            refine WK.rThen ?_
            refine WK.rThen ?_
            refine WK.rBlock ?_
            refine WK.rThen ?_
            refine WK.ret1 rfl rfl (fun w' hw' => Ret.exact hw' ?_)
            first | exact bool_false (fun e => by subst e; first | omega | contradiction) | exact bool_true (drum_eq (by assumption) (ext_gt (by omega) (fun j hj => hall j (by omega))))
          · refine DW.nil ?_
            refine WK.nThen ?_
            refine WC.condF rfl ?_
            refine WC.skip ?_
            refine WK.nBlock ?_
            refine WK.nThen ?_
            refine WC.region ?_
            refine WL.x (X.move rfl) (by decide) ?_
            refine WL.x (X.add rfl rfl (by omega) (by omega)) (by decide) ?_
            refine WL.x (X.assign rfl) (by decide) ?_
            refine WL.nil ?_
            refine WK.nThen ?_
            refine WK.next (k + 1) rfl (.refl _) (.cons rfl (.cons rfl (.cons rfl .nil))) ?_ ?_
            · exact ⟨by omega, fun j hj => by rcases Nat.lt_succ_iff_lt_or_eq.1 hj with h | h; exact hall j h; subst h; assumption⟩
            · omega
        · refine WL.nil ?_
          refine WK.nThen ?_
          refine WC.condF rfl ?_
          refine WC.exit ?_
          refine WK.eThen ?_
          refine WK.eThen ?_
          refine WK.eHit ?_
          refine WK.nThen ?_
          refine WC.seq ?_
          refine WC.region ?_
          refine WL.x (X.assign rfl) (by decide) ?_
          refine WL.nil ?_
          refine WK.nThen ?_
          refine WC.ret ?_
          refine WK.ret1 rfl rfl (fun w' hw' => Ret.exact hw' ?_)
          first | exact bool_false (fun e => by subst e; first | omega | contradiction) | exact bool_true (drum_eq (by assumption) (ext_gt (by omega) (fun j hj => hall j (by omega))))
  · refine WL.x (X.not rfl) (by decide) ?_
    refine WL.x (X.move rfl) (by decide) ?_
    refine WL.no rfl rfl rfl (by decide) ?_
    refine WL.no rfl rfl rfl (by decide) ?_
    refine WL.no rfl rfl rfl (by decide) ?_
    refine WL.no rfl rfl rfl (by decide) ?_
    refine WL.no rfl rfl rfl (by decide) ?_
    refine WL.no rfl rfl rfl (by decide) ?_
    refine WL.no rfl rfl rfl (by decide) ?_
    refine WL.x (X.pickT rfl rfl rfl) (by decide) ?_
    refine WL.nil ?_
    refine WK.nThen ?_
    refine WC.condT rfl ?_
    refine WC.seq ?_
    refine WC.region ?_
    refine WL.x (X.assign rfl) (by decide) ?_
    refine WL.nil ?_
    refine WK.nThen ?_
    refine WC.ret ?_
    refine WK.rThen ?_
    refine WK.ret1 rfl rfl (fun w' hw' => Ret.exact hw' ?_)
    first | exact bool_false (fun e => by subst e; first | omega | contradiction) | exact bool_true (drum_eq (by assumption) (ext_gt (by omega) (fun j hj => hall j (by omega))))

end Go.Proofs.C2
