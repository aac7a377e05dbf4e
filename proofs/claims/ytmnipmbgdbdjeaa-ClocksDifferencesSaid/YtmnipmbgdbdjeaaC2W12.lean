import Derived.Test.YtmnipmbgdbdjeaaC2W11
/- Clocks: walks of the reference, by program. -/
namespace Go.Proofs.C2
open Go Go.Kx
set_option linter.unusedVariables false

theorem with73 (m : Mem) (cd : List Value) (d : Drum) (hd : Enc.rd m cd d) (vm_ : Value) (m_ : List Mark) (hm_ : Sl m vm_ m_) (column : Int) (tick : Int)   : Pure Try.prog 73 #[.agg cd.toArray, vm_, .int .i64 (column), .int .i64 (tick)] m (fun m' v => ∃ r0, v = .tuple #[r0, .int .i64 ((withR d m_ column tick).2)] ∧ Sl m' r0 ((withR d m_ column tick).1)) := by
  obtain ⟨v1, v3, rfl, hs2, hs4⟩ := hd
  have hl5 := hs2.le
  have hl6 := hs4.le
  have lm_ := hm_.le
  refine Pure.start Try.func73 rfl Try.ntmps73 rfl fun wld => ?_
  refine WC.seq ?_
  refine WC.region ?_
  refine WL.tn (T.boxB rfl rfl) (by decide) fun b7 => ?_
  refine WL.x (X.assign rfl) (by decide) ?_
  refine WL.x (X.assign rfl) (by decide) ?_
  refine WL.nil ?_
  refine WK.nThen ?_
  refine WC.seq ?_
  refine WC.region ?_
  refine WL.x (X.loadBA (k := 0) Try.isAgg25 Try.sizeOf25 rfl rfl rfl) (by decide) ?_
  refine WL.x (X.move rfl) (by decide) ?_
  refine WL.x (X.move rfl) (by decide) ?_
  refine WL.x (X.move rfl) (by decide) ?_
  refine WL.x (X.call Try.call77 rfl (columns77 _ _ d ⟨_, _, rfl, hs2, hs4⟩ _ _ hm_ _ _ )) (by decide) ?_
  refine WL.x (X.assign rfl) (by decide) ?_
  refine WL.nil ?_
  refine WK.nThen ?_
  refine WC.seq ?_
  refine WC.seq ?_
  refine WC.region ?_
  refine WL.x (X.move rfl) (by decide) ?_
  refine WL.cond (X.eql rfl rfl) (by decide) (fun h8 => ?_) (fun h8 => ?_)
  · refine WL.x (X.move rfl) (by decide) ?_
    refine WL.yes rfl rfl ?_
    refine WL.x (X.move rfl) (by decide) ?_
    refine WL.yes rfl rfl ?_
    refine WL.cond (X.call Try.call84 rfl (within84 _ _ _ _ )) (by decide) (fun h9 => ?_) (fun h9 => ?_)
    · refine WL.yes rfl rfl ?_
      refine WL.x (X.not rfl) (by decide) ?_
      refine WL.x (X.pickT rfl rfl rfl) (by decide) ?_
      refine WL.nil ?_
      refine WK.nThen ?_
      refine WC.condF rfl ?_
      refine WC.skip ?_
      refine WK.nThen ?_
      refine WC.seq ?_
      refine WC.seq ?_
      refine WC.region ?_
      refine WL.x (X.move rfl) (by decide) ?_
      refine WL.x (OpX.t (X.eql rfl rfl) h8) (by decide) ?_
      refine WL.nil ?_
      refine WK.nThen ?_
      refine WC.condT rfl ?_
      refine WC.region ?_
      refine WL.x (X.loadBA (k := 0) Try.isAgg25 Try.sizeOf25 rfl rfl rfl) (by decide) ?_
      refine WL.x (X.move rfl) (by decide) ?_
      refine WL.tm (T.call Try.call78 rfl (told78 _ _ d ⟨_, _, rfl, hs2, hs4⟩ _ _ hm_ )) (by decide) fun m10 r11 hle12 hR13 => ?_
      obtain ⟨v14, rfl, hs15⟩ := hR13
      replace hs2 := hs2.mono hle12
      replace hs4 := hs4.mono hle12
      replace hm_ := hm_.mono hle12
      have hl16 := hs15.le
      refine WL.x (X.move rfl) (by decide) ?_
      refine WL.x (X.extract rfl rfl) (by decide) ?_
      refine WL.x (X.extract rfl rfl) (by decide) ?_
      refine WL.x (X.assign rfl) (by decide) ?_
      refine WL.nil ?_
      refine WK.nThen ?_
      refine WC.seq ?_
      refine WC.seq ?_
      refine WC.region ?_
      refine WL.x (X.move rfl) (by decide) ?_
      refine WL.condn (X.neq rfl rfl) (by decide) (fun h17 => ?_) (fun h17 => ?_)
      · refine WL.nil ?_
        refine WK.nThen ?_
        refine WC.condT rfl ?_
        refine WC.seq ?_
        refine WC.region ?_
        refine WL.x (X.move rfl) (by decide) ?_
        refine WL.x (X.assign rfl) (by decide) ?_
        refine WL.x (X.assign rfl) (by decide) ?_
        refine WL.nil ?_
        refine WK.nThen ?_
        refine WC.ret ?_
        refine WK.rThen ?_
        refine WK.ret2 rfl rfl rfl (fun w' hw' => Ret.mem hw' ?_)
        first | (exfalso; omega) | exact ⟨_, tup2 rfl (int_eq (by rw [with_col (by omega)])), by rw [with_col (by omega)]; exact .nil⟩ | exact ⟨_, tup2 rfl (int_eq (by rw [with_tick (by omega) (by omega)])), by rw [with_tick (by omega) (by omega)]; exact .nil⟩ | exact ⟨_, tup2 rfl (int_eq (by rw [with_tol (by omega) (by omega) (by omega)])), by rw [with_tol (by omega) (by omega) (by omega)]; exact .nil⟩ | exact ⟨_, tup2 rfl (int_eq (by rw [with_no hop hno])), by rw [with_no hop hno]; exact .nil⟩ | exact ⟨_, tup2 rfl (int_eq (by rw [with_yes hop hye.1])), by rw [with_yes hop hye.1, ← hye.2]; exact .nil⟩
      · refine WL.nil ?_
        refine WK.nThen ?_
        refine WC.condF rfl ?_
        refine WC.skip ?_
        refine WK.nThen ?_
        refine WC.seq ?_
        have hcz := col_zero (d := d) (m := m_) (a := column) (b := column) (by omega)
        have hok := hcz.1
        have hn_ := hok.n
        have hop := with_op (d := d) (m := m_) (c := column) (t := tick) (by omega) (by omega) (by omega)
        have hv := hok.val.one hcz.2.1 (t := tick) (by omega)
        have hle_ : ((m_ ++ [⟨column, ⟨tick, tick⟩⟩]) : List Mark).length ≤ 1000 := (by simp; omega)
        refine WC.draw (π := (.cons 0 (.cons 1 (.cons 2 (.cons 3 (.cons 4 (.cons 5 (.cons 6 (.cons 7 (.cons 8 (.cons 9 (.cons 10 (.cons 11 (.cons 12 (.cons 13 .done))))))))))))))) [7, 8] [] rfl (by kernel_rfl) ?_
        refine DW.x rfl rfl (X.loadBA (k := 0) Try.isAgg25 Try.sizeOf25 rfl rfl rfl) (by decide) ?_
        refine DW.x rfl rfl (X.move rfl) (by decide) ?_
        refine DW.x rfl rfl (X.move rfl) (by decide) ?_
        refine DW.x rfl rfl (X.move rfl) (by decide) ?_
        refine DW.x rfl rfl (X.move rfl) (by decide) ?_
        refine DW.x (V := Value.agg [.int .i64 (tick), .int .i64 (tick)].toArray) rfl rfl (X.build Try.zeroValue31 Try.runUnderlying31 (places31 _ Try.underlying31) rfl rfl) (by decide) ?_
        refine DW.x (V := Value.agg [.int .i64 (column), .int .i64 (tick), .int .i64 (tick)].toArray) rfl rfl (X.build Try.zeroValue33 Try.runUnderlying33 (places33 _ Try.underlying33) rfl rfl) (by decide) ?_
        refine DW.tm rfl rfl rfl (T.call Try.call90 rfl (with90 _ _ _ hm_ _ ((Mark.mk (column) ((Span.mk (tick) (tick))))) rfl (by omega))) (by decide) fun m18 r19 hle20 hR21 => ?_
        obtain ⟨v22, hv_, hs23⟩ := hR21
        rw [← hv_] at hs23
        clear hv_ v22
        replace hs2 := hs2.mono hle20
        replace hs4 := hs4.mono hle20
        replace hm_ := hm_.mono hle20
        replace hs15 := hs15.mono hle20
        have hl24 := hs23.le
        refine DW.tm rfl rfl rfl (T.call Try.call89 rfl (spans89 _ _ d ⟨_, _, rfl, hs2, hs4⟩ _ _ hs23 (by first | assumption | omega) (by first | assumption | omega))) (by decide) fun m25 r26 hle27 hR28 => ?_
        obtain ⟨v29, rfl, hs30⟩ := hR28
        replace hs2 := hs2.mono hle27
        replace hs4 := hs4.mono hle27
        replace hm_ := hm_.mono hle27
        replace hs15 := hs15.mono hle27
        replace hs23 := hs23.mono hle27
        have hl31 := hs30.le
        refine DW.x rfl rfl (X.move rfl) (by decide) ?_
        refine DW.x rfl rfl (X.extract rfl rfl) (by decide) ?_
        refine DW.x rfl rfl (X.extract rfl rfl) (by decide) ?_
        refine DW.x rfl rfl (X.assign rfl) (by decide) ?_
        refine DW.x rfl rfl (X.assign rfl) (by decide) ?_
        refine DW.nil ?_
        refine WK.nThen ?_
        refine WC.seq ?_
        refine WC.seq ?_
        refine WC.region ?_
        refine WL.x (X.move rfl) (by decide) ?_
        refine WL.condb (X.not rfl) (by decide) (fun h32 => ?_) (fun h32 => ?_)
        · refine WL.nil ?_
          refine WK.nThen ?_
          refine WC.condT rfl ?_
          refine WC.seq ?_
          have hno := spR_false (d := d) (m := (m_ ++ [⟨column, ⟨tick, tick⟩⟩])) (by simp_all)
          refine WC.region ?_
          refine WL.x (X.assign rfl) (by decide) ?_
          refine WL.x (X.assign rfl) (by decide) ?_
          refine WL.nil ?_
          refine WK.nThen ?_
          refine WC.ret ?_
          refine WK.rThen ?_
          refine WK.ret2 rfl rfl rfl (fun w' hw' => Ret.mem hw' ?_)
          first | (exfalso; omega) | exact ⟨_, tup2 rfl (int_eq (by rw [with_col (by omega)])), by rw [with_col (by omega)]; exact .nil⟩ | exact ⟨_, tup2 rfl (int_eq (by rw [with_tick (by omega) (by omega)])), by rw [with_tick (by omega) (by omega)]; exact .nil⟩ | exact ⟨_, tup2 rfl (int_eq (by rw [with_tol (by omega) (by omega) (by omega)])), by rw [with_tol (by omega) (by omega) (by omega)]; exact .nil⟩ | exact ⟨_, tup2 rfl (int_eq (by rw [with_no hop hno])), by rw [with_no hop hno]; exact .nil⟩ | exact ⟨_, tup2 rfl (int_eq (by rw [with_yes hop hye.1])), by rw [with_yes hop hye.1, ← hye.2]; exact .nil⟩
        · refine WL.nil ?_
          refine WK.nThen ?_
          refine WC.condF rfl ?_
          refine WC.skip ?_
          refine WK.nThen ?_
          refine WC.seq ?_
          have hye := spR_true (d := d) (m := (m_ ++ [⟨column, ⟨tick, tick⟩⟩])) (by simp_all)
          have htl_ : (spR d (m_ ++ [⟨column, ⟨tick, tick⟩⟩])).1.length = d.Rates.length + 1 := (by rw [hye.2, setD_len])
          have hd1 := hok.dr.1
          refine WC.region ?_
          refine WL.x (X.move rfl) (by decide) ?_
          refine WL.tm (T.call Try.call86 rfl (ends86 _ _ _ hs30 _ (by omega))) (by decide) fun m33 r34 hle35 hR36 => ?_
          obtain ⟨v37, hv_, hs38⟩ := hR36
          rw [← hv_] at hs38
          clear hv_ v37
          replace hs2 := hs2.mono hle35
          replace hs4 := hs4.mono hle35
          replace hm_ := hm_.mono hle35
          replace hs15 := hs15.mono hle35
          replace hs23 := hs23.mono hle35
          replace hs30 := hs30.mono hle35
          have hl39 := hs38.le
          refine WL.x (X.assign rfl) (by decide) ?_
          refine WL.x (X.assign rfl) (by decide) ?_
          refine WL.nil ?_
          refine WK.nThen ?_
          refine WC.ret ?_
          refine WK.ret2 rfl rfl rfl (fun w' hw' => Ret.mem hw' ?_)
          first | (exfalso; omega) | exact ⟨_, tup2 rfl (int_eq (by rw [with_col (by omega)])), by rw [with_col (by omega)]; exact hs38⟩ | exact ⟨_, tup2 rfl (int_eq (by rw [with_tick (by omega) (by omega)])), by rw [with_tick (by omega) (by omega)]; exact hs38⟩ | exact ⟨_, tup2 rfl (int_eq (by rw [with_tol (by omega) (by omega) (by omega)])), by rw [with_tol (by omega) (by omega) (by omega)]; exact hs38⟩ | exact ⟨_, tup2 rfl (int_eq (by rw [with_no hop hno])), by rw [with_no hop hno]; exact hs38⟩ | exact ⟨_, tup2 rfl (int_eq (by rw [with_yes hop hye.1])), by rw [with_yes hop hye.1, ← hye.2]; exact hs38⟩
    · refine WL.yes rfl rfl ?_
      refine WL.x (X.not rfl) (by decide) ?_
      refine WL.x (X.pickT rfl rfl rfl) (by decide) ?_
      refine WL.nil ?_
      refine WK.nThen ?_
      refine WC.condT rfl ?_
      refine WC.seq ?_
      refine WC.region ?_
      refine WL.x (X.assign rfl) (by decide) ?_
      refine WL.x (X.assign rfl) (by decide) ?_
      refine WL.nil ?_
      refine WK.nThen ?_
      refine WC.ret ?_
      refine WK.rThen ?_
      refine WK.ret2 rfl rfl rfl (fun w' hw' => Ret.mem hw' ?_)
      first | (exfalso; omega) | exact ⟨_, tup2 rfl (int_eq (by rw [with_col (by omega)])), by rw [with_col (by omega)]; exact .nil⟩ | exact ⟨_, tup2 rfl (int_eq (by rw [with_tick (by omega) (by omega)])), by rw [with_tick (by omega) (by omega)]; exact .nil⟩ | exact ⟨_, tup2 rfl (int_eq (by rw [with_tol (by omega) (by omega) (by omega)])), by rw [with_tol (by omega) (by omega) (by omega)]; exact .nil⟩ | exact ⟨_, tup2 rfl (int_eq (by rw [with_no hop hno])), by rw [with_no hop hno]; exact .nil⟩ | exact ⟨_, tup2 rfl (int_eq (by rw [with_yes hop hye.1])), by rw [with_yes hop hye.1, ← hye.2]; exact .nil⟩
  · refine WL.x (X.move rfl) (by decide) ?_
    refine WL.no rfl rfl rfl (by decide) ?_
    refine WL.no rfl rfl rfl (by decide) ?_
    refine WL.no rfl rfl rfl (by decide) ?_
    refine WL.x (X.pickF rfl rfl rfl) (by decide) ?_
    refine WL.nil ?_
    refine WK.nThen ?_
    refine WC.condF rfl ?_
    refine WC.skip ?_
    refine WK.nThen ?_
    refine WC.seq ?_
    refine WC.seq ?_
    refine WC.region ?_
    refine WL.x (X.move rfl) (by decide) ?_
    refine WL.x (OpX.f (X.eql rfl rfl) h8) (by decide) ?_
    refine WL.nil ?_
    refine WK.nThen ?_
    refine WC.condF rfl ?_
    refine WC.skip ?_
    refine WK.nThen ?_
    refine WC.seq ?_
    refine WC.seq ?_
    refine WC.region ?_
    refine WL.x (X.move rfl) (by decide) ?_
    refine WL.condn (X.neq rfl rfl) (by decide) (fun h40 => ?_) (fun h40 => ?_)
    · refine WL.nil ?_
      refine WK.nThen ?_
      refine WC.condT rfl ?_
      refine WC.seq ?_
      refine WC.region ?_
      refine WL.x (X.move rfl) (by decide) ?_
      refine WL.x (X.assign rfl) (by decide) ?_
      refine WL.x (X.assign rfl) (by decide) ?_
      refine WL.nil ?_
      refine WK.nThen ?_
      refine WC.ret ?_
      refine WK.rThen ?_
      refine WK.ret2 rfl rfl rfl (fun w' hw' => Ret.mem hw' ?_)
      first | (exfalso; omega) | exact ⟨_, tup2 rfl (int_eq (by rw [with_col (by omega)])), by rw [with_col (by omega)]; exact .nil⟩ | exact ⟨_, tup2 rfl (int_eq (by rw [with_tick (by omega) (by omega)])), by rw [with_tick (by omega) (by omega)]; exact .nil⟩ | exact ⟨_, tup2 rfl (int_eq (by rw [with_tol (by omega) (by omega) (by omega)])), by rw [with_tol (by omega) (by omega) (by omega)]; exact .nil⟩ | exact ⟨_, tup2 rfl (int_eq (by rw [with_no hop hno])), by rw [with_no hop hno]; exact .nil⟩ | exact ⟨_, tup2 rfl (int_eq (by rw [with_yes hop hye.1])), by rw [with_yes hop hye.1, ← hye.2]; exact .nil⟩
    · refine WL.nil ?_
      refine WK.nThen ?_
      refine WC.condF rfl ?_
      refine WC.skip ?_
      refine WK.nThen ?_
      refine WC.seq ?_
      have hcz := col_zero (d := d) (m := m_) (a := column) (b := column) (by omega)
      have hok := hcz.1
      have hn_ := hok.n
      have hop := with_op (d := d) (m := m_) (c := column) (t := tick) (by omega) (by omega) (by omega)
      have hv := hok.val.one hcz.2.1 (t := tick) (by omega)
      have hle_ : ((m_ ++ [⟨column, ⟨tick, tick⟩⟩]) : List Mark).length ≤ 1000 := (by simp; omega)
      refine WC.draw (π := (.cons 0 (.cons 1 (.cons 2 (.cons 3 (.cons 4 (.cons 5 (.cons 6 (.cons 7 (.cons 8 (.cons 9 (.cons 10 (.cons 11 (.cons 12 (.cons 13 .done))))))))))))))) [7, 8] [] rfl (by kernel_rfl) ?_
      refine DW.x rfl rfl (X.loadBA (k := 0) Try.isAgg25 Try.sizeOf25 rfl rfl rfl) (by decide) ?_
      refine DW.x rfl rfl (X.move rfl) (by decide) ?_
      refine DW.x rfl rfl (X.move rfl) (by decide) ?_
      refine DW.x rfl rfl (X.move rfl) (by decide) ?_
      refine DW.x rfl rfl (X.move rfl) (by decide) ?_
      refine DW.x (V := Value.agg [.int .i64 (tick), .int .i64 (tick)].toArray) rfl rfl (X.build Try.zeroValue31 Try.runUnderlying31 (places31 _ Try.underlying31) rfl rfl) (by decide) ?_
      refine DW.x (V := Value.agg [.int .i64 (column), .int .i64 (tick), .int .i64 (tick)].toArray) rfl rfl (X.build Try.zeroValue33 Try.runUnderlying33 (places33 _ Try.underlying33) rfl rfl) (by decide) ?_
      refine DW.tm rfl rfl rfl (T.call Try.call90 rfl (with90 _ _ _ hm_ _ ((Mark.mk (column) ((Span.mk (tick) (tick))))) rfl (by omega))) (by decide) fun m41 r42 hle43 hR44 => ?_
      obtain ⟨v45, hv_, hs46⟩ := hR44
      rw [← hv_] at hs46
      clear hv_ v45
      replace hs2 := hs2.mono hle43
      replace hs4 := hs4.mono hle43
      replace hm_ := hm_.mono hle43
      have hl47 := hs46.le
      refine DW.tm rfl rfl rfl (T.call Try.call89 rfl (spans89 _ _ d ⟨_, _, rfl, hs2, hs4⟩ _ _ hs46 (by first | assumption | omega) (by first | assumption | omega))) (by decide) fun m48 r49 hle50 hR51 => ?_
      obtain ⟨v52, rfl, hs53⟩ := hR51
      replace hs2 := hs2.mono hle50
      replace hs4 := hs4.mono hle50
      replace hm_ := hm_.mono hle50
      replace hs46 := hs46.mono hle50
      have hl54 := hs53.le
      refine DW.x rfl rfl (X.move rfl) (by decide) ?_
      refine DW.x rfl rfl (X.extract rfl rfl) (by decide) ?_
      refine DW.x rfl rfl (X.extract rfl rfl) (by decide) ?_
      refine DW.x rfl rfl (X.assign rfl) (by decide) ?_
      refine DW.x rfl rfl (X.assign rfl) (by decide) ?_
      refine DW.nil ?_
      refine WK.nThen ?_
      refine WC.seq ?_
      refine WC.seq ?_
      refine WC.region ?_
      refine WL.x (X.move rfl) (by decide) ?_
      refine WL.condb (X.not rfl) (by decide) (fun h55 => ?_) (fun h55 => ?_)
      · refine WL.nil ?_
        refine WK.nThen ?_
        refine WC.condT rfl ?_
        refine WC.seq ?_
        have hno := spR_false (d := d) (m := (m_ ++ [⟨column, ⟨tick, tick⟩⟩])) (by simp_all)
        refine WC.region ?_
        refine WL.x (X.assign rfl) (by decide) ?_
        refine WL.x (X.assign rfl) (by decide) ?_
        refine WL.nil ?_
        refine WK.nThen ?_
        refine WC.ret ?_
        refine WK.rThen ?_
        refine WK.ret2 rfl rfl rfl (fun w' hw' => Ret.mem hw' ?_)
        first | (exfalso; omega) | exact ⟨_, tup2 rfl (int_eq (by rw [with_col (by omega)])), by rw [with_col (by omega)]; exact .nil⟩ | exact ⟨_, tup2 rfl (int_eq (by rw [with_tick (by omega) (by omega)])), by rw [with_tick (by omega) (by omega)]; exact .nil⟩ | exact ⟨_, tup2 rfl (int_eq (by rw [with_tol (by omega) (by omega) (by omega)])), by rw [with_tol (by omega) (by omega) (by omega)]; exact .nil⟩ | exact ⟨_, tup2 rfl (int_eq (by rw [with_no hop hno])), by rw [with_no hop hno]; exact .nil⟩ | exact ⟨_, tup2 rfl (int_eq (by rw [with_yes hop hye.1])), by rw [with_yes hop hye.1, ← hye.2]; exact .nil⟩
      · refine WL.nil ?_
        refine WK.nThen ?_
        refine WC.condF rfl ?_
        refine WC.skip ?_
        refine WK.nThen ?_
        refine WC.seq ?_
        have hye := spR_true (d := d) (m := (m_ ++ [⟨column, ⟨tick, tick⟩⟩])) (by simp_all)
        have htl_ : (spR d (m_ ++ [⟨column, ⟨tick, tick⟩⟩])).1.length = d.Rates.length + 1 := (by rw [hye.2, setD_len])
        have hd1 := hok.dr.1
        refine WC.region ?_
        refine WL.x (X.move rfl) (by decide) ?_
        refine WL.tm (T.call Try.call86 rfl (ends86 _ _ _ hs53 _ (by omega))) (by decide) fun m56 r57 hle58 hR59 => ?_
        obtain ⟨v60, hv_, hs61⟩ := hR59
        rw [← hv_] at hs61
        clear hv_ v60
        replace hs2 := hs2.mono hle58
        replace hs4 := hs4.mono hle58
        replace hm_ := hm_.mono hle58
        replace hs46 := hs46.mono hle58
        replace hs53 := hs53.mono hle58
        have hl62 := hs61.le
        refine WL.x (X.assign rfl) (by decide) ?_
        refine WL.x (X.assign rfl) (by decide) ?_
        refine WL.nil ?_
        refine WK.nThen ?_
        refine WC.ret ?_
        refine WK.ret2 rfl rfl rfl (fun w' hw' => Ret.mem hw' ?_)
        first | (exfalso; omega) | exact ⟨_, tup2 rfl (int_eq (by rw [with_col (by omega)])), by rw [with_col (by omega)]; exact hs61⟩ | exact ⟨_, tup2 rfl (int_eq (by rw [with_tick (by omega) (by omega)])), by rw [with_tick (by omega) (by omega)]; exact hs61⟩ | exact ⟨_, tup2 rfl (int_eq (by rw [with_tol (by omega) (by omega) (by omega)])), by rw [with_tol (by omega) (by omega) (by omega)]; exact hs61⟩ | exact ⟨_, tup2 rfl (int_eq (by rw [with_no hop hno])), by rw [with_no hop hno]; exact hs61⟩ | exact ⟨_, tup2 rfl (int_eq (by rw [with_yes hop hye.1])), by rw [with_yes hop hye.1, ← hye.2]; exact hs61⟩

set_option maxHeartbeats 1000000 in
theorem between79 (m : Mem) (cd : List Value) (d : Drum) (hd : Enc.rd m cd d) (vm_ : Value) (m_ : List Mark) (hm_ : Sl m vm_ m_) (a : Int) (b : Int)  (hok : Ok d m_) (hod : okD d m_) (hra : 0 ≤ a ∧ a ≤ (d.Rates.length : Int)) (hrb : 0 ≤ b ∧ b ≤ (d.Rates.length : Int)) : Exact Try.prog 79 #[.agg cd.toArray, vm_, .int .i64 (a), .int .i64 (b)] m (.agg [.int .i64 ((betS (setC d m_) (a : Int).toNat (b : Int).toNat).Lo), .int .i64 ((betS (setC d m_) (a : Int).toNat (b : Int).toNat).Hi)].toArray) := by
  obtain ⟨v1, v3, rfl, hs2, hs4⟩ := hd
  have hl5 := hs2.le
  have hl6 := hs4.le
  have lm_ := hm_.le
  have hn_ := hok.n
  have hd1 := hok.dr.1
  refine Exact.start Try.func79 rfl Try.ntmps79 rfl fun wld => ?_
  refine WC.seq ?_
  refine WC.region ?_
  refine WL.tn (T.boxB rfl rfl) (by decide) fun b7 => ?_
  refine WL.tn (T.alloc Try.zeroValue31 rfl) (by decide) fun b8 => ?_
  refine WL.nil ?_
  refine WK.nThen ?_
  refine WC.seq ?_
  refine WC.region ?_
  refine WL.x (V := Value.agg [.int .i64 (800), .int .i64 (-800)].toArray) (X.build Try.zeroValue31 Try.runUnderlying31 (places31 _ Try.underlying31) rfl rfl) (by decide) ?_
  refine WL.tn (T.alloc Try.zeroValue31 rfl) (by decide) fun b9 => ?_
  refine WL.ts (T.storeBA (k := 0) Try.sizeOf31 rfl rfl rfl (one_cons rfl (one_cons rfl one_nil)) rfl rfl) ?_
  refine WL.nil ?_
  refine WK.nThen ?_
  refine WC.seq ?_
  refine WC.seq ?_
  refine WC.region ?_
  refine WL.x (X.assign rfl) (by decide) ?_
  refine WL.nil ?_
  refine WK.nThen ?_
  refine WC.block ?_
  refine WC.loop (G := Nat × Mem) (fun (k, mm) => 401 - k) (fun (k, mm) => mm) (fun (k, mm) => [blk b9 31 [.int .i64 ((rbN d m_ a.toNat b.toNat k).Lo), .int .i64 ((rbN d m_ a.toNat b.toNat k).Hi)], blk b8 31 [.int .i64 (0), .int .i64 (0)], blk b7 25 [v1, v3]]) (fun (k, mm) => [(1, vm_), (2, .int .i64 (a)), (3, .int .i64 (b)), (4, .pointer (some ⟨b7, 0, none⟩)), (8, .pointer (some ⟨b8, 0, none⟩)), (9, .pointer (some ⟨b9, 0, none⟩)), (10, .int .i64 (↑k))]) (fun (k, mm) => m.le mm ∧ k ≤ 401) ((0, m)) rfl (.refl _) (.cons rfl (.cons rfl (.cons rfl (.cons rfl (.cons rfl (.cons rfl (.cons rfl .nil))))))) ?_ ?_
  · exact ⟨Mem.le_refl _, Nat.zero_le _⟩
  · rintro ⟨k, mm⟩ hF10
    show WK _ _ mm [blk b9 31 [.int .i64 ((rbN d m_ a.toNat b.toNat k).Lo), .int .i64 ((rbN d m_ a.toNat b.toNat k).Hi)], blk b8 31 [.int .i64 (0), .int .i64 (0)], blk b7 25 [v1, v3]] [(1, vm_), (2, .int .i64 (a)), (3, .int .i64 (b)), (4, .pointer (some ⟨b7, 0, none⟩)), (8, .pointer (some ⟨b8, 0, none⟩)), (9, .pointer (some ⟨b9, 0, none⟩)), (10, .int .i64 (↑k))] _
    replace hF10 : m.le mm ∧ k ≤ 401 := hF10
    obtain ⟨hmm, hk⟩ := hF10
    replace hs2 := hs2.mono hmm
    replace hs4 := hs4.mono hmm
    replace hm_ := hm_.mono hmm
    refine WC.seq ?_
    refine WC.seq ?_
    refine WC.region ?_
    refine WL.x (X.move rfl) (by decide) ?_
    refine WL.cond (X.leq rfl rfl) (by decide) (fun h11 => ?_) (fun h11 => ?_)
    · refine WL.nil ?_
      refine WK.nThen ?_
      refine WC.condT rfl ?_
      refine WC.skip ?_
      refine WK.nThen ?_
      refine WC.seq ?_
      refine WC.block ?_
      refine WC.seq ?_
      have hv := hok.val.one hra (t := ↑k) (by omega)
      have hle_ : ((m_ ++ [⟨a, ⟨↑k, ↑k⟩⟩]) : List Mark).length ≤ 1000 := (by simp; omega)
      have hrd := rb_bd (m := m_) hok.dr hok.cols (a := a.toNat) (b := b.toNat) (by omega) (by omega) k
      refine WC.draw (π := (.cons 0 (.cons 1 (.cons 2 (.cons 3 (.cons 4 (.cons 5 (.cons 6 (.cons 7 (.cons 8 (.cons 9 (.cons 10 (.cons 11 (.cons 12 (.cons 13 .done))))))))))))))) [7, 8] [] rfl (by kernel_rfl) ?_
      refine DW.x rfl rfl (X.loadBA (k := 2) Try.isAgg25 Try.sizeOf25 rfl rfl rfl) (by decide) ?_
      refine DW.x rfl rfl (X.move rfl) (by decide) ?_
      refine DW.x rfl rfl (X.move rfl) (by decide) ?_
      refine DW.x rfl rfl (X.move rfl) (by decide) ?_
      refine DW.x rfl rfl (X.move rfl) (by decide) ?_
      refine DW.x (V := Value.agg [.int .i64 (↑k), .int .i64 (↑k)].toArray) rfl rfl (X.build Try.zeroValue31 Try.runUnderlying31 (places31 _ Try.underlying31) rfl rfl) (by decide) ?_
      refine DW.x (V := Value.agg [.int .i64 (a), .int .i64 (↑k), .int .i64 (↑k)].toArray) rfl rfl (X.build Try.zeroValue33 Try.runUnderlying33 (places33 _ Try.underlying33) rfl rfl) (by decide) ?_
      refine DW.tm rfl rfl rfl (T.call Try.call90 rfl (with90 _ _ _ hm_ _ ((Mark.mk (a) ((Span.mk (↑k) (↑k))))) rfl (by omega))) (by decide) fun m12 r13 hle14 hR15 => ?_
      obtain ⟨v16, hv_, hs17⟩ := hR15
      rw [← hv_] at hs17
      clear hv_ v16
      replace hs2 := hs2.mono hle14
      replace hs4 := hs4.mono hle14
      replace hm_ := hm_.mono hle14
      have hl18 := hs17.le
      refine DW.tm rfl rfl rfl (T.call Try.call89 rfl (spans89 _ _ d ⟨_, _, rfl, hs2, hs4⟩ _ _ hs17 (by first | assumption | omega) (by first | assumption | omega))) (by decide) fun m19 r20 hle21 hR22 => ?_
      obtain ⟨v23, rfl, hs24⟩ := hR22
      replace hs2 := hs2.mono hle21
      replace hs4 := hs4.mono hle21
      replace hm_ := hm_.mono hle21
      replace hs17 := hs17.mono hle21
      have hl25 := hs24.le
      refine DW.x rfl rfl (X.move rfl) (by decide) ?_
      refine DW.x rfl rfl (X.extract rfl rfl) (by decide) ?_
      refine DW.x rfl rfl (X.extract rfl rfl) (by decide) ?_
      refine DW.x rfl rfl (X.assign rfl) (by decide) ?_
      refine DW.x rfl rfl (X.assign rfl) (by decide) ?_
      refine DW.nil ?_
      refine WK.nThen ?_
      refine WC.seq ?_
      refine WC.region ?_
      refine WL.x (X.move rfl) (by decide) ?_
      refine WL.nil ?_
      refine WK.nThen ?_
      refine WC.condb rfl (fun h26 => ?_) (fun h26 => ?_)
      · have hcl := rb_cell hok hra hrb (k := k) (by assumption)
        have hcl1 := hcl.1
        refine WC.draw (π := (.cons 0 (.cons 1 (.cons 2 (.cons 3 (.cons 4 (.cons 5 (.cons 6 (.cons 7 (.cons 8 (.cons 9 (.cons 10 (.cons 11 (.cons 12 (.cons 13 (.cons 14 (.cons 15 (.cons 16 (.cons 17 (.cons 18 (.cons 19 (.cons 20 (.cons 21 .done))))))))))))))))))))))) [21] [21] rfl (by kernel_rfl) ?_
        refine DW.x rfl rfl (X.field Try.runUnderlying31 rfl Try.sizeOf3 rfl) (by decide) ?_
        refine DW.x rfl rfl (X.loadB (k := 0) Try.isAgg3 rfl rfl rfl) (by decide) ?_
        refine DW.x rfl rfl (X.move rfl) (by decide) ?_
        refine DW.x rfl rfl (X.move rfl) (by decide) ?_
        refine DW.xe rfl rfl (E.idx Try.runUnderlying22 Try.sizeOf31 rfl rfl hs24 (by omega) (by omega)) (by decide) (fun p27 hp28 => ?_)
        have hp29 := At.Span_0 hp28
        refine DW.x rfl rfl (X.field Try.runUnderlying31 rfl Try.sizeOf3 rfl) (by decide) ?_
        refine DW.x rfl rfl (X.loadInt Try.isAgg3 rfl hp29) (by decide) ?_
        refine DW.x rfl rfl (X.move rfl) (by decide) ?_
        refine DW.x rfl rfl (X.sub rfl rfl (by omega) (by omega)) (by decide) ?_
        refine DW.x rfl rfl (X.mn rfl rfl) (by decide) ?_
        refine DW.x rfl rfl (X.field Try.runUnderlying31 rfl Try.sizeOf3 rfl) (by decide) ?_
        refine DW.x rfl rfl (X.loadB (k := 0) Try.isAgg3 rfl rfl rfl) (by decide) ?_
        refine DW.x rfl rfl (X.move rfl) (by decide) ?_
        refine DW.x rfl rfl (X.move rfl) (by decide) ?_
        refine DW.xe rfl rfl (E.idx Try.runUnderlying22 Try.sizeOf31 rfl rfl hs24 (by omega) (by omega)) (by decide) (fun p30 hp31 => ?_)
        have hp32 := At.Span_1 hp31
        refine DW.x rfl rfl (X.field Try.runUnderlying31 rfl Try.sizeOf3 rfl) (by decide) ?_
        refine DW.x rfl rfl (X.loadInt Try.isAgg3 rfl hp32) (by decide) ?_
        refine DW.x rfl rfl (X.move rfl) (by decide) ?_
        refine DW.x rfl rfl (X.sub rfl rfl (by omega) (by omega)) (by decide) ?_
        refine DW.x rfl rfl (X.mx rfl rfl) (by decide) ?_
        refine DW.x (V := Value.agg [.int .i64 (min ((rbN d m_ a.toNat b.toNat k).Lo) (((gt ((spR d ((m_ ++ [((Mark.mk (a) ((Span.mk (↑k) (↑k)))))]))).1) ((b : Int).toNat)).Lo) - ↑k)), .int .i64 (max ((rbN d m_ a.toNat b.toNat k).Hi) (((gt ((spR d ((m_ ++ [((Mark.mk (a) ((Span.mk (↑k) (↑k)))))]))).1) ((b : Int).toNat)).Hi) - ↑k))].toArray) rfl rfl (X.build Try.zeroValue31 Try.runUnderlying31 (places31 _ Try.underlying31) rfl rfl) (by decide) ?_
        refine DW.ts rfl rfl rfl rfl (T.storeBA (k := 0) Try.sizeOf31 rfl rfl rfl (one_cons rfl (one_cons rfl one_nil)) rfl rfl) ?_
        refine DW.nil ?_
        refine WK.nBlock ?_
        refine WK.nThen ?_
        refine WC.region ?_
        refine WL.x (X.move rfl) (by decide) ?_
        refine WL.x (X.add rfl rfl (by omega) (by omega)) (by decide) ?_
        refine WL.x (X.assign rfl) (by decide) ?_
        refine WL.nil ?_
        refine WK.nThen ?_
        have he33 : min ((rbN d m_ a.toNat b.toNat k).Lo) (((gt ((spR d ((m_ ++ [((Mark.mk (a) ((Span.mk (↑k) (↑k)))))]))).1) ((b : Int).toNat)).Lo) - ↑k) = (rbN d m_ a.toNat b.toNat (k + 1)).Lo := (by first | (rw [rb_yes hra.1 (by assumption)]; done) | (rw [rb_yes hra.1 (by assumption)]; rfl) | exact congrArg Span.Lo (rb_no hra.1 (by assumption)))
        rw [he33]
        have he34 : max ((rbN d m_ a.toNat b.toNat k).Hi) (((gt ((spR d ((m_ ++ [((Mark.mk (a) ((Span.mk (↑k) (↑k)))))]))).1) ((b : Int).toNat)).Hi) - ↑k) = (rbN d m_ a.toNat b.toNat (k + 1)).Hi := (by first | (rw [rb_yes hra.1 (by assumption)]; done) | (rw [rb_yes hra.1 (by assumption)]; rfl) | exact congrArg Span.Hi (rb_no hra.1 (by assumption)))
        rw [he34]
        refine WK.next ((k + 1, m19)) rfl (.refl _) (.cons rfl (.cons rfl (.cons rfl (.cons rfl (.cons rfl (.cons rfl (.cons rfl .nil))))))) ?_ ?_
        · exact ⟨Mem.le_trans hmm (Mem.le_trans hle14 hle21), by omega⟩
        · (dsimp only; omega)
      · refine WC.skip ?_
        refine WK.nBlock ?_
        refine WK.nThen ?_
        refine WC.region ?_
        refine WL.x (X.move rfl) (by decide) ?_
        refine WL.x (X.add rfl rfl (by omega) (by omega)) (by decide) ?_
        refine WL.x (X.assign rfl) (by decide) ?_
        refine WL.nil ?_
        refine WK.nThen ?_
        have he35 : (rbN d m_ a.toNat b.toNat k).Lo = (rbN d m_ a.toNat b.toNat (k + 1)).Lo := (by first | (rw [rb_yes hra.1 (by assumption)]; done) | (rw [rb_yes hra.1 (by assumption)]; rfl) | exact congrArg Span.Lo (rb_no hra.1 (by assumption)))
        rw [he35]
        have he36 : (rbN d m_ a.toNat b.toNat k).Hi = (rbN d m_ a.toNat b.toNat (k + 1)).Hi := (by first | (rw [rb_yes hra.1 (by assumption)]; done) | (rw [rb_yes hra.1 (by assumption)]; rfl) | exact congrArg Span.Hi (rb_no hra.1 (by assumption)))
        rw [he36]
        refine WK.next ((k + 1, m19)) rfl (.refl _) (.cons rfl (.cons rfl (.cons rfl (.cons rfl (.cons rfl (.cons rfl (.cons rfl .nil))))))) ?_ ?_
        · exact ⟨Mem.le_trans hmm (Mem.le_trans hle14 hle21), by omega⟩
        · (dsimp only; omega)
    · refine WL.nil ?_
      refine WK.nThen ?_
      refine WC.condF rfl ?_
      refine WC.exit ?_
      refine WK.eThen ?_
      refine WK.eThen ?_
      refine WK.eHit ?_
      refine WK.nThen ?_
      refine WC.seq ?_
      have hra_ := rb_all hok hod (a := a.toNat) (b := b.toNat) (by omega) (by omega)
      obtain rfl : k = 401 := (by omega)
      refine WC.region ?_
      refine WL.x (X.loadBA (k := 0) Try.isAgg31 Try.sizeOf31 rfl rfl rfl) (by decide) ?_
      refine WL.ts (T.storeBA (k := 1) Try.sizeOf31 rfl rfl rfl (one_cons rfl (one_cons rfl one_nil)) rfl rfl) ?_
      refine WL.nil ?_
      refine WK.nThen ?_
      refine WC.ret ?_
      refine WK.retC1 1 rfl rfl rfl Try.isAgg31 Try.sizeOf31 (fun w' hw' => Ret.exact hw' ?_)
      exact agg2i (by rw [hra_]) (by rw [hra_])

theorem between22 (m : Mem) (cd : List Value) (d : Drum) (hd : Enc.rd m cd d) (vm_ : Value) (m_ : List Mark) (hm_ : Sl m vm_ m_) (a : Int) (b : Int)   : Exact Try.prog 22 #[.agg cd.toArray, vm_, .int .i64 (a), .int .i64 (b)] m (.tuple #[.agg [.int .i64 ((betR d m_ a b).1.Lo), .int .i64 ((betR d m_ a b).1.Hi)].toArray, .int .i64 ((betR d m_ a b).2)]) := by
  obtain ⟨v1, v3, rfl, hs2, hs4⟩ := hd
  have hl5 := hs2.le
  have hl6 := hs4.le
  have lm_ := hm_.le
  refine Exact.start Try.func22 rfl Try.ntmps22 rfl fun wld => ?_
  refine WC.seq ?_
  refine WC.region ?_
  refine WL.tn (T.boxB rfl rfl) (by decide) fun b7 => ?_
  refine WL.tn (T.alloc Try.zeroValue31 rfl) (by decide) fun b8 => ?_
  refine WL.x (X.assign rfl) (by decide) ?_
  refine WL.nil ?_
  refine WK.nThen ?_
  refine WC.seq ?_
  refine WC.region ?_
  refine WL.x (X.loadBA (k := 1) Try.isAgg25 Try.sizeOf25 rfl rfl rfl) (by decide) ?_
  refine WL.x (X.move rfl) (by decide) ?_
  refine WL.x (X.move rfl) (by decide) ?_
  refine WL.x (X.move rfl) (by decide) ?_
  refine WL.x (X.call Try.call77 rfl (columns77 _ _ d ⟨_, _, rfl, hs2, hs4⟩ _ _ hm_ _ _ )) (by decide) ?_
  refine WL.x (X.assign rfl) (by decide) ?_
  refine WL.nil ?_
  refine WK.nThen ?_
  refine WC.seq ?_
  refine WC.seq ?_
  refine WC.region ?_
  refine WL.x (X.move rfl) (by decide) ?_
  refine WL.condn (X.neq rfl rfl) (by decide) (fun h9 => ?_) (fun h9 => ?_)
  · refine WL.nil ?_
    refine WK.nThen ?_
    refine WC.condT rfl ?_
    refine WC.seq ?_
    refine WC.region ?_
    refine WL.x (V := Value.agg [.int .i64 (0), .int .i64 (0)].toArray) (X.build Try.zeroValue31 Try.runUnderlying31 (places31 _ Try.underlying31) rfl rfl) (by decide) ?_
    refine WL.x (X.move rfl) (by decide) ?_
    refine WL.ts (T.storeBA (k := 0) Try.sizeOf31 rfl rfl rfl (one_cons rfl (one_cons rfl one_nil)) rfl rfl) ?_
    refine WL.x (X.assign rfl) (by decide) ?_
    refine WL.nil ?_
    refine WK.nThen ?_
    refine WC.ret ?_
    refine WK.rThen ?_
    refine WK.retC2 0 rfl rfl rfl rfl Try.isAgg31 Try.sizeOf31 (fun w' hw' => Ret.exact hw' ?_)
    first | exact tup2 (agg2i (by rw [bet_col (by omega)]) (by rw [bet_col (by omega)])) (int_eq (by rw [bet_col (by omega)])) | exact tup2 (agg2i (by rw [bet_tol (by omega) (by omega)]) (by rw [bet_tol (by omega) (by omega)])) (int_eq (by rw [bet_tol (by omega) (by omega)])) | exact tup2 (agg2i (by rw [bet_sp (by omega) (by omega)]) (by rw [bet_sp (by omega) (by omega)])) (int_eq (by rw [bet_sp (by omega) (by omega)]))
  · refine WL.nil ?_
    refine WK.nThen ?_
    refine WC.condF rfl ?_
    refine WC.skip ?_
    refine WK.nThen ?_
    refine WC.seq ?_
    refine WC.region ?_
    refine WL.x (X.loadBA (k := 1) Try.isAgg25 Try.sizeOf25 rfl rfl rfl) (by decide) ?_
    refine WL.x (X.move rfl) (by decide) ?_
    refine WL.tm (T.call Try.call78 rfl (told78 _ _ d ⟨_, _, rfl, hs2, hs4⟩ _ _ hm_ )) (by decide) fun m10 r11 hle12 hR13 => ?_
    obtain ⟨v14, rfl, hs15⟩ := hR13
    replace hs2 := hs2.mono hle12
    replace hs4 := hs4.mono hle12
    replace hm_ := hm_.mono hle12
    have hl16 := hs15.le
    refine WL.x (X.move rfl) (by decide) ?_
    refine WL.x (X.extract rfl rfl) (by decide) ?_
    refine WL.x (X.extract rfl rfl) (by decide) ?_
    refine WL.x (X.assign rfl) (by decide) ?_
    refine WL.nil ?_
    refine WK.nThen ?_
    refine WC.seq ?_
    refine WC.seq ?_
    refine WC.region ?_
    refine WL.x (X.move rfl) (by decide) ?_
    refine WL.condn (X.neq rfl rfl) (by decide) (fun h17 => ?_) (fun h17 => ?_)
    · refine WL.nil ?_
      refine WK.nThen ?_
      refine WC.condT rfl ?_
      refine WC.seq ?_
      refine WC.region ?_
      refine WL.x (V := Value.agg [.int .i64 (0), .int .i64 (0)].toArray) (X.build Try.zeroValue31 Try.runUnderlying31 (places31 _ Try.underlying31) rfl rfl) (by decide) ?_
      refine WL.x (X.move rfl) (by decide) ?_
      refine WL.ts (T.storeBA (k := 0) Try.sizeOf31 rfl rfl rfl (one_cons rfl (one_cons rfl one_nil)) rfl rfl) ?_
      refine WL.x (X.assign rfl) (by decide) ?_
      refine WL.nil ?_
      refine WK.nThen ?_
      refine WC.ret ?_
      refine WK.rThen ?_
      refine WK.retC2 0 rfl rfl rfl rfl Try.isAgg31 Try.sizeOf31 (fun w' hw' => Ret.exact hw' ?_)
      first | exact tup2 (agg2i (by rw [bet_col (by omega)]) (by rw [bet_col (by omega)])) (int_eq (by rw [bet_col (by omega)])) | exact tup2 (agg2i (by rw [bet_tol (by omega) (by omega)]) (by rw [bet_tol (by omega) (by omega)])) (int_eq (by rw [bet_tol (by omega) (by omega)])) | exact tup2 (agg2i (by rw [bet_sp (by omega) (by omega)]) (by rw [bet_sp (by omega) (by omega)])) (int_eq (by rw [bet_sp (by omega) (by omega)]))
    · refine WL.nil ?_
      refine WK.nThen ?_
      refine WC.condF rfl ?_
      refine WC.skip ?_
      refine WK.nThen ?_
      refine WC.seq ?_
      have hcz := col_zero (d := d) (m := m_) (a := a) (b := b) (by omega)
      have htz := tol_zero (d := d) (m := m_) (by omega)
      have hok := hcz.1
      have hod := htz.2.1
      have hra := hcz.2.1
      have hrb := hcz.2.2
      refine WC.region ?_
      refine WL.x (X.loadBA (k := 1) Try.isAgg25 Try.sizeOf25 rfl rfl rfl) (by decide) ?_
      refine WL.x (X.move rfl) (by decide) ?_
      refine WL.x (X.move rfl) (by decide) ?_
      refine WL.x (X.move rfl) (by decide) ?_
      refine WL.x (X.call Try.call79 rfl (between79 _ _ d ⟨_, _, rfl, hs2, hs4⟩ _ _ hm_ _ _ (by first | assumption | omega) (by first | assumption | omega) (by first | assumption | omega) (by first | assumption | omega))) (by decide) ?_
      refine WL.ts (T.storeBA (k := 0) Try.sizeOf31 rfl rfl rfl (one_cons rfl (one_cons rfl one_nil)) rfl rfl) ?_
      refine WL.x (X.assign rfl) (by decide) ?_
      refine WL.nil ?_
      refine WK.nThen ?_
      refine WC.ret ?_
      refine WK.retC2 0 rfl rfl rfl rfl Try.isAgg31 Try.sizeOf31 (fun w' hw' => Ret.exact hw' ?_)
      first | exact tup2 (agg2i (by rw [bet_col (by omega)]) (by rw [bet_col (by omega)])) (int_eq (by rw [bet_col (by omega)])) | exact tup2 (agg2i (by rw [bet_tol (by omega) (by omega)]) (by rw [bet_tol (by omega) (by omega)])) (int_eq (by rw [bet_tol (by omega) (by omega)])) | exact tup2 (agg2i (by rw [bet_sp (by omega) (by omega)]) (by rw [bet_sp (by omega) (by omega)])) (int_eq (by rw [bet_sp (by omega) (by omega)]))

theorem at24 (m : Mem) (cd : List Value) (d : Drum) (hd : Enc.rd m cd d) (vm_ : Value) (m_ : List Mark) (hm_ : Sl m vm_ m_) (t : Int)   : Exact Try.prog 24 #[.agg cd.toArray, vm_, .int .i64 (t)] m (.tuple #[.agg [.int .i64 ((atR d m_ t).1.Lo), .int .i64 ((atR d m_ t).1.Hi)].toArray, .int .i64 ((atR d m_ t).2)]) := by
  obtain ⟨v1, v3, rfl, hs2, hs4⟩ := hd
  have hl5 := hs2.le
  have hl6 := hs4.le
  have lm_ := hm_.le
  have hel1 : (endL (tolR d m_).1 true).length ≤ 1000 := (by have := tol_len d m_; rw [end_hi, hisL_len]; omega)
  have hel2 : (endL (tolR d m_).1 false).length ≤ 1000 := (by have := tol_len d m_; rw [end_lo, losL_len]; omega)
  have htl := tol_len d m_
  refine Exact.start Try.func24 rfl Try.ntmps24 rfl fun wld => ?_
  refine WC.seq ?_
  refine WC.region ?_
  refine WL.tn (T.boxB rfl rfl) (by decide) fun b7 => ?_
  refine WL.tn (T.alloc Try.zeroValue31 rfl) (by decide) fun b8 => ?_
  refine WL.x (X.assign rfl) (by decide) ?_
  refine WL.nil ?_
  refine WK.nThen ?_
  refine WC.seq ?_
  refine WC.region ?_
  refine WL.x (X.loadBA (k := 1) Try.isAgg25 Try.sizeOf25 rfl rfl rfl) (by decide) ?_
  refine WL.x (X.move rfl) (by decide) ?_
  refine WL.x (X.call Try.call83 rfl (asked83 _ _ d ⟨_, _, rfl, hs2, hs4⟩ _ _ hm_ )) (by decide) ?_
  refine WL.x (X.assign rfl) (by decide) ?_
  refine WL.nil ?_
  refine WK.nThen ?_
  refine WC.seq ?_
  refine WC.seq ?_
  refine WC.region ?_
  refine WL.x (X.move rfl) (by decide) ?_
  refine WL.cond (X.eql rfl rfl) (by decide) (fun h9 => ?_) (fun h9 => ?_)
  · refine WL.x (X.move rfl) (by decide) ?_
    refine WL.yes rfl rfl ?_
    refine WL.x (X.move rfl) (by decide) ?_
    refine WL.yes rfl rfl ?_
    refine WL.cond (X.call Try.call84 rfl (within84 _ _ _ _ )) (by decide) (fun h10 => ?_) (fun h10 => ?_)
    · refine WL.yes rfl rfl ?_
      refine WL.x (X.not rfl) (by decide) ?_
      refine WL.x (X.pickT rfl rfl rfl) (by decide) ?_
      refine WL.nil ?_
      refine WK.nThen ?_
      refine WC.condF rfl ?_
      refine WC.skip ?_
      refine WK.nThen ?_
      refine WC.seq ?_
      refine WC.seq ?_
      refine WC.region ?_
      refine WL.x (X.move rfl) (by decide) ?_
      refine WL.condn (X.neq rfl rfl) (by decide) (fun h11 => ?_) (fun h11 => ?_)
      · refine WL.nil ?_
        refine WK.nThen ?_
        refine WC.condT rfl ?_
        refine WC.seq ?_
        refine WC.region ?_
        refine WL.x (V := Value.agg [.int .i64 (0), .int .i64 (0)].toArray) (X.build Try.zeroValue31 Try.runUnderlying31 (places31 _ Try.underlying31) rfl rfl) (by decide) ?_
        refine WL.x (X.move rfl) (by decide) ?_
        refine WL.ts (T.storeBA (k := 0) Try.sizeOf31 rfl rfl rfl (one_cons rfl (one_cons rfl one_nil)) rfl rfl) ?_
        refine WL.x (X.assign rfl) (by decide) ?_
        refine WL.nil ?_
        refine WK.nThen ?_
        refine WC.ret ?_
        refine WK.rThen ?_
        refine WK.retC2 0 rfl rfl rfl rfl Try.isAgg31 Try.sizeOf31 (fun w' hw' => Ret.exact hw' ?_)
        first | (exfalso; omega) | exact tup2 (agg2i (by rw [at_tick (by omega) (by omega)]) (by rw [at_tick (by omega) (by omega)])) (int_eq (by rw [at_tick (by omega) (by omega)])) | exact tup2 (agg2i (by rw [at_chk (by omega)]) (by rw [at_chk (by omega)])) (int_eq (by rw [at_chk (by omega)])) | exact tup2 (agg2i (by rw [at_tol (by omega) (by omega)]) (by rw [at_tol (by omega) (by omega)])) (int_eq (by rw [at_tol (by omega) (by omega)])) | exact tup2 (agg2i (by rw [at_sp (by omega) (by omega)]) (by rw [at_sp (by omega) (by omega)])) (int_eq (by rw [at_sp (by omega) (by omega)]))
      · refine WL.nil ?_
        refine WK.nThen ?_
        refine WC.condF rfl ?_
        refine WC.skip ?_
        refine WK.nThen ?_
        refine WC.seq ?_
        refine WC.region ?_
        refine WL.x (X.loadBA (k := 1) Try.isAgg25 Try.sizeOf25 rfl rfl rfl) (by decide) ?_
        refine WL.x (X.move rfl) (by decide) ?_
        refine WL.tm (T.call Try.call78 rfl (told78 _ _ d ⟨_, _, rfl, hs2, hs4⟩ _ _ hm_ )) (by decide) fun m12 r13 hle14 hR15 => ?_
        obtain ⟨v16, rfl, hs17⟩ := hR15
        replace hs2 := hs2.mono hle14
        replace hs4 := hs4.mono hle14
        replace hm_ := hm_.mono hle14
        have hl18 := hs17.le
        refine WL.x (X.move rfl) (by decide) ?_
        refine WL.x (X.extract rfl rfl) (by decide) ?_
        refine WL.x (X.extract rfl rfl) (by decide) ?_
        refine WL.x (X.assign rfl) (by decide) ?_
        refine WL.x (X.assign rfl) (by decide) ?_
        refine WL.nil ?_
        refine WK.nThen ?_
        refine WC.seq ?_
        refine WC.seq ?_
        refine WC.region ?_
        refine WL.x (X.move rfl) (by decide) ?_
        refine WL.condn (X.neq rfl rfl) (by decide) (fun h19 => ?_) (fun h19 => ?_)
        · refine WL.nil ?_
          refine WK.nThen ?_
          refine WC.condT rfl ?_
          refine WC.seq ?_
          refine WC.region ?_
          refine WL.x (V := Value.agg [.int .i64 (0), .int .i64 (0)].toArray) (X.build Try.zeroValue31 Try.runUnderlying31 (places31 _ Try.underlying31) rfl rfl) (by decide) ?_
          refine WL.x (X.move rfl) (by decide) ?_
          refine WL.ts (T.storeBA (k := 0) Try.sizeOf31 rfl rfl rfl (one_cons rfl (one_cons rfl one_nil)) rfl rfl) ?_
          refine WL.x (X.assign rfl) (by decide) ?_
          refine WL.nil ?_
          refine WK.nThen ?_
          refine WC.ret ?_
          refine WK.rThen ?_
          refine WK.retC2 0 rfl rfl rfl rfl Try.isAgg31 Try.sizeOf31 (fun w' hw' => Ret.exact hw' ?_)
          first | (exfalso; omega) | exact tup2 (agg2i (by rw [at_tick (by omega) (by omega)]) (by rw [at_tick (by omega) (by omega)])) (int_eq (by rw [at_tick (by omega) (by omega)])) | exact tup2 (agg2i (by rw [at_chk (by omega)]) (by rw [at_chk (by omega)])) (int_eq (by rw [at_chk (by omega)])) | exact tup2 (agg2i (by rw [at_tol (by omega) (by omega)]) (by rw [at_tol (by omega) (by omega)])) (int_eq (by rw [at_tol (by omega) (by omega)])) | exact tup2 (agg2i (by rw [at_sp (by omega) (by omega)]) (by rw [at_sp (by omega) (by omega)])) (int_eq (by rw [at_sp (by omega) (by omega)]))
        · refine WL.nil ?_
          refine WK.nThen ?_
          refine WC.condF rfl ?_
          refine WC.skip ?_
          refine WK.nThen ?_
          refine WC.seq ?_
          refine WC.region ?_
          refine WL.x (X.move rfl) (by decide) ?_
          refine WL.tm (T.call Try.call86 rfl (ends86 _ _ _ hs17 _ (by omega))) (by decide) fun m20 r21 hle22 hR23 => ?_
          obtain ⟨v24, hv_, hs25⟩ := hR23
          rw [← hv_] at hs25
          clear hv_ v24
          replace hs2 := hs2.mono hle22
          replace hs4 := hs4.mono hle22
          replace hm_ := hm_.mono hle22
          replace hs17 := hs17.mono hle22
          have hl26 := hs25.le
          refine WL.x (X.move rfl) (by decide) ?_
          refine WL.x (X.call Try.call85 rfl (passed85 _ _ _ hs25 _ )) (by decide) ?_
          refine WL.x (X.move rfl) (by decide) ?_
          refine WL.tm (T.call Try.call86 rfl (ends86 _ _ _ hs17 _ (by omega))) (by decide) fun m27 r28 hle29 hR30 => ?_
          obtain ⟨v31, hv_, hs32⟩ := hR30
          rw [← hv_] at hs32
          clear hv_ v31
          replace hs2 := hs2.mono hle29
          replace hs4 := hs4.mono hle29
          replace hm_ := hm_.mono hle29
          replace hs17 := hs17.mono hle29
          replace hs25 := hs25.mono hle29
          have hl33 := hs32.le
          refine WL.x (X.move rfl) (by decide) ?_
          refine WL.x (X.call Try.call85 rfl (passed85 _ _ _ hs32 _ )) (by decide) ?_
          refine WL.x (V := Value.agg [.int .i64 (pasS ((endL (((tolR d m_).1)) true)) t), .int .i64 (pasS ((endL (((tolR d m_).1)) false)) t)].toArray) (X.build Try.zeroValue31 Try.runUnderlying31 (places31 _ Try.underlying31) rfl rfl) (by decide) ?_
          refine WL.ts (T.storeBA (k := 0) Try.sizeOf31 rfl rfl rfl (one_cons rfl (one_cons rfl one_nil)) rfl rfl) ?_
          refine WL.x (X.assign rfl) (by decide) ?_
          refine WL.nil ?_
          refine WK.nThen ?_
          refine WC.ret ?_
          refine WK.retC2 0 rfl rfl rfl rfl Try.isAgg31 Try.sizeOf31 (fun w' hw' => Ret.exact hw' ?_)
          first | (exfalso; omega) | exact tup2 (agg2i (by rw [at_tick (by omega) (by omega)]) (by rw [at_tick (by omega) (by omega)])) (int_eq (by rw [at_tick (by omega) (by omega)])) | exact tup2 (agg2i (by rw [at_chk (by omega)]) (by rw [at_chk (by omega)])) (int_eq (by rw [at_chk (by omega)])) | exact tup2 (agg2i (by rw [at_tol (by omega) (by omega)]) (by rw [at_tol (by omega) (by omega)])) (int_eq (by rw [at_tol (by omega) (by omega)])) | exact tup2 (agg2i (by rw [at_sp (by omega) (by omega)]) (by rw [at_sp (by omega) (by omega)])) (int_eq (by rw [at_sp (by omega) (by omega)]))
    · refine WL.yes rfl rfl ?_
      refine WL.x (X.not rfl) (by decide) ?_
      refine WL.x (X.pickT rfl rfl rfl) (by decide) ?_
      refine WL.nil ?_
      refine WK.nThen ?_
      refine WC.condT rfl ?_
      refine WC.seq ?_
      refine WC.region ?_
      refine WL.x (V := Value.agg [.int .i64 (0), .int .i64 (0)].toArray) (X.build Try.zeroValue31 Try.runUnderlying31 (places31 _ Try.underlying31) rfl rfl) (by decide) ?_
      refine WL.ts (T.storeBA (k := 0) Try.sizeOf31 rfl rfl rfl (one_cons rfl (one_cons rfl one_nil)) rfl rfl) ?_
      refine WL.x (X.assign rfl) (by decide) ?_
      refine WL.nil ?_
      refine WK.nThen ?_
      refine WC.ret ?_
      refine WK.rThen ?_
      refine WK.retC2 0 rfl rfl rfl rfl Try.isAgg31 Try.sizeOf31 (fun w' hw' => Ret.exact hw' ?_)
      first | (exfalso; omega) | exact tup2 (agg2i (by rw [at_tick (by omega) (by omega)]) (by rw [at_tick (by omega) (by omega)])) (int_eq (by rw [at_tick (by omega) (by omega)])) | exact tup2 (agg2i (by rw [at_chk (by omega)]) (by rw [at_chk (by omega)])) (int_eq (by rw [at_chk (by omega)])) | exact tup2 (agg2i (by rw [at_tol (by omega) (by omega)]) (by rw [at_tol (by omega) (by omega)])) (int_eq (by rw [at_tol (by omega) (by omega)])) | exact tup2 (agg2i (by rw [at_sp (by omega) (by omega)]) (by rw [at_sp (by omega) (by omega)])) (int_eq (by rw [at_sp (by omega) (by omega)]))
  · refine WL.x (X.move rfl) (by decide) ?_
    refine WL.no rfl rfl rfl (by decide) ?_
    refine WL.no rfl rfl rfl (by decide) ?_
    refine WL.no rfl rfl rfl (by decide) ?_
    refine WL.x (X.pickF rfl rfl rfl) (by decide) ?_
    refine WL.nil ?_
    refine WK.nThen ?_
    refine WC.condF rfl ?_
    refine WC.skip ?_
    refine WK.nThen ?_
    refine WC.seq ?_
    refine WC.seq ?_
    refine WC.region ?_
    refine WL.x (X.move rfl) (by decide) ?_
    refine WL.condn (X.neq rfl rfl) (by decide) (fun h34 => ?_) (fun h34 => ?_)
    · refine WL.nil ?_
      refine WK.nThen ?_
      refine WC.condT rfl ?_
      refine WC.seq ?_
      refine WC.region ?_
      refine WL.x (V := Value.agg [.int .i64 (0), .int .i64 (0)].toArray) (X.build Try.zeroValue31 Try.runUnderlying31 (places31 _ Try.underlying31) rfl rfl) (by decide) ?_
      refine WL.x (X.move rfl) (by decide) ?_
      refine WL.ts (T.storeBA (k := 0) Try.sizeOf31 rfl rfl rfl (one_cons rfl (one_cons rfl one_nil)) rfl rfl) ?_
      refine WL.x (X.assign rfl) (by decide) ?_
      refine WL.nil ?_
      refine WK.nThen ?_
      refine WC.ret ?_
      refine WK.rThen ?_
      refine WK.retC2 0 rfl rfl rfl rfl Try.isAgg31 Try.sizeOf31 (fun w' hw' => Ret.exact hw' ?_)
      first | (exfalso; omega) | exact tup2 (agg2i (by rw [at_tick (by omega) (by omega)]) (by rw [at_tick (by omega) (by omega)])) (int_eq (by rw [at_tick (by omega) (by omega)])) | exact tup2 (agg2i (by rw [at_chk (by omega)]) (by rw [at_chk (by omega)])) (int_eq (by rw [at_chk (by omega)])) | exact tup2 (agg2i (by rw [at_tol (by omega) (by omega)]) (by rw [at_tol (by omega) (by omega)])) (int_eq (by rw [at_tol (by omega) (by omega)])) | exact tup2 (agg2i (by rw [at_sp (by omega) (by omega)]) (by rw [at_sp (by omega) (by omega)])) (int_eq (by rw [at_sp (by omega) (by omega)]))
    · refine WL.nil ?_
      refine WK.nThen ?_
      refine WC.condF rfl ?_
      refine WC.skip ?_
      refine WK.nThen ?_
      refine WC.seq ?_
      refine WC.region ?_
      refine WL.x (X.loadBA (k := 1) Try.isAgg25 Try.sizeOf25 rfl rfl rfl) (by decide) ?_
      refine WL.x (X.move rfl) (by decide) ?_
      refine WL.tm (T.call Try.call78 rfl (told78 _ _ d ⟨_, _, rfl, hs2, hs4⟩ _ _ hm_ )) (by decide) fun m35 r36 hle37 hR38 => ?_
      obtain ⟨v39, rfl, hs40⟩ := hR38
      replace hs2 := hs2.mono hle37
      replace hs4 := hs4.mono hle37
      replace hm_ := hm_.mono hle37
      have hl41 := hs40.le
      refine WL.x (X.move rfl) (by decide) ?_
      refine WL.x (X.extract rfl rfl) (by decide) ?_
      refine WL.x (X.extract rfl rfl) (by decide) ?_
      refine WL.x (X.assign rfl) (by decide) ?_
      refine WL.x (X.assign rfl) (by decide) ?_
      refine WL.nil ?_
      refine WK.nThen ?_
      refine WC.seq ?_
      refine WC.seq ?_
      refine WC.region ?_
      refine WL.x (X.move rfl) (by decide) ?_
      refine WL.condn (X.neq rfl rfl) (by decide) (fun h42 => ?_) (fun h42 => ?_)
      · refine WL.nil ?_
        refine WK.nThen ?_
        refine WC.condT rfl ?_
        refine WC.seq ?_
        refine WC.region ?_
        refine WL.x (V := Value.agg [.int .i64 (0), .int .i64 (0)].toArray) (X.build Try.zeroValue31 Try.runUnderlying31 (places31 _ Try.underlying31) rfl rfl) (by decide) ?_
        refine WL.x (X.move rfl) (by decide) ?_
        refine WL.ts (T.storeBA (k := 0) Try.sizeOf31 rfl rfl rfl (one_cons rfl (one_cons rfl one_nil)) rfl rfl) ?_
        refine WL.x (X.assign rfl) (by decide) ?_
        refine WL.nil ?_
        refine WK.nThen ?_
        refine WC.ret ?_
        refine WK.rThen ?_
        refine WK.retC2 0 rfl rfl rfl rfl Try.isAgg31 Try.sizeOf31 (fun w' hw' => Ret.exact hw' ?_)
        first | (exfalso; omega) | exact tup2 (agg2i (by rw [at_tick (by omega) (by omega)]) (by rw [at_tick (by omega) (by omega)])) (int_eq (by rw [at_tick (by omega) (by omega)])) | exact tup2 (agg2i (by rw [at_chk (by omega)]) (by rw [at_chk (by omega)])) (int_eq (by rw [at_chk (by omega)])) | exact tup2 (agg2i (by rw [at_tol (by omega) (by omega)]) (by rw [at_tol (by omega) (by omega)])) (int_eq (by rw [at_tol (by omega) (by omega)])) | exact tup2 (agg2i (by rw [at_sp (by omega) (by omega)]) (by rw [at_sp (by omega) (by omega)])) (int_eq (by rw [at_sp (by omega) (by omega)]))
      · refine WL.nil ?_
        refine WK.nThen ?_
        refine WC.condF rfl ?_
        refine WC.skip ?_
        refine WK.nThen ?_
        refine WC.seq ?_
        refine WC.region ?_
        refine WL.x (X.move rfl) (by decide) ?_
        refine WL.tm (T.call Try.call86 rfl (ends86 _ _ _ hs40 _ (by omega))) (by decide) fun m43 r44 hle45 hR46 => ?_
        obtain ⟨v47, hv_, hs48⟩ := hR46
        rw [← hv_] at hs48
        clear hv_ v47
        replace hs2 := hs2.mono hle45
        replace hs4 := hs4.mono hle45
        replace hm_ := hm_.mono hle45
        replace hs40 := hs40.mono hle45
        have hl49 := hs48.le
        refine WL.x (X.move rfl) (by decide) ?_
        refine WL.x (X.call Try.call85 rfl (passed85 _ _ _ hs48 _ )) (by decide) ?_
        refine WL.x (X.move rfl) (by decide) ?_
        refine WL.tm (T.call Try.call86 rfl (ends86 _ _ _ hs40 _ (by omega))) (by decide) fun m50 r51 hle52 hR53 => ?_
        obtain ⟨v54, hv_, hs55⟩ := hR53
        rw [← hv_] at hs55
        clear hv_ v54
        replace hs2 := hs2.mono hle52
        replace hs4 := hs4.mono hle52
        replace hm_ := hm_.mono hle52
        replace hs40 := hs40.mono hle52
        replace hs48 := hs48.mono hle52
        have hl56 := hs55.le
        refine WL.x (X.move rfl) (by decide) ?_
        refine WL.x (X.call Try.call85 rfl (passed85 _ _ _ hs55 _ )) (by decide) ?_
        refine WL.x (V := Value.agg [.int .i64 (pasS ((endL (((tolR d m_).1)) true)) t), .int .i64 (pasS ((endL (((tolR d m_).1)) false)) t)].toArray) (X.build Try.zeroValue31 Try.runUnderlying31 (places31 _ Try.underlying31) rfl rfl) (by decide) ?_
        refine WL.ts (T.storeBA (k := 0) Try.sizeOf31 rfl rfl rfl (one_cons rfl (one_cons rfl one_nil)) rfl rfl) ?_
        refine WL.x (X.assign rfl) (by decide) ?_
        refine WL.nil ?_
        refine WK.nThen ?_
        refine WC.ret ?_
        refine WK.retC2 0 rfl rfl rfl rfl Try.isAgg31 Try.sizeOf31 (fun w' hw' => Ret.exact hw' ?_)
        first | (exfalso; omega) | exact tup2 (agg2i (by rw [at_tick (by omega) (by omega)]) (by rw [at_tick (by omega) (by omega)])) (int_eq (by rw [at_tick (by omega) (by omega)])) | exact tup2 (agg2i (by rw [at_chk (by omega)]) (by rw [at_chk (by omega)])) (int_eq (by rw [at_chk (by omega)])) | exact tup2 (agg2i (by rw [at_tol (by omega) (by omega)]) (by rw [at_tol (by omega) (by omega)])) (int_eq (by rw [at_tol (by omega) (by omega)])) | exact tup2 (agg2i (by rw [at_sp (by omega) (by omega)]) (by rw [at_sp (by omega) (by omega)])) (int_eq (by rw [at_sp (by omega) (by omega)]))

theorem run26 (m : Mem) (cd : List Value) (d : Drum) (hd : Enc.rd m cd d) (vm_ : Value) (m_ : List Mark) (hm_ : Sl m vm_ m_) (t : Int)   : Pure Try.prog 26 #[.agg cd.toArray, vm_, .int .i64 (t)] m (fun m' v => ∃ r0, v = .tuple #[r0, .int .i64 ((runR d m_ t).2)] ∧ Sl m' r0 ((runR d m_ t).1)) := by
  obtain ⟨v1, v3, rfl, hs2, hs4⟩ := hd
  have hl5 := hs2.le
  have hl6 := hs4.le
  have lm_ := hm_.le
  refine Pure.start Try.func26 rfl Try.ntmps26 rfl fun wld => ?_
  refine WC.seq ?_
  refine WC.region ?_
  refine WL.tn (T.boxB rfl rfl) (by decide) fun b7 => ?_
  refine WL.x (X.assign rfl) (by decide) ?_
  refine WL.x (X.assign rfl) (by decide) ?_
  refine WL.nil ?_
  refine WK.nThen ?_
  refine WC.seq ?_
  refine WC.region ?_
  refine WL.x (X.loadBA (k := 0) Try.isAgg25 Try.sizeOf25 rfl rfl rfl) (by decide) ?_
  refine WL.x (X.move rfl) (by decide) ?_
  refine WL.x (X.move rfl) (by decide) ?_
  refine WL.tm (T.call Try.call73 rfl (with73 _ _ d ⟨_, _, rfl, hs2, hs4⟩ _ _ hm_ _ _ )) (by decide) fun m8 r9 hle10 hR11 => ?_
  obtain ⟨v12, rfl, hs13⟩ := hR11
  replace hs2 := hs2.mono hle10
  replace hs4 := hs4.mono hle10
  replace hm_ := hm_.mono hle10
  have hl14 := hs13.le
  refine WL.x (X.move rfl) (by decide) ?_
  refine WL.x (X.extract rfl rfl) (by decide) ?_
  refine WL.x (X.extract rfl rfl) (by decide) ?_
  refine WL.x (X.assign rfl) (by decide) ?_
  refine WL.x (X.assign rfl) (by decide) ?_
  refine WL.nil ?_
  refine WK.nThen ?_
  refine WC.seq ?_
  refine WC.seq ?_
  refine WC.region ?_
  refine WL.x (X.move rfl) (by decide) ?_
  refine WL.condn (X.neq rfl rfl) (by decide) (fun h15 => ?_) (fun h15 => ?_)
  · refine WL.nil ?_
    refine WK.nThen ?_
    refine WC.condT rfl ?_
    refine WC.seq ?_
    refine WC.region ?_
    refine WL.x (X.move rfl) (by decide) ?_
    refine WL.x (X.assign rfl) (by decide) ?_
    refine WL.x (X.assign rfl) (by decide) ?_
    refine WL.nil ?_
    refine WK.nThen ?_
    refine WC.ret ?_
    refine WK.rThen ?_
    refine WK.ret2 rfl rfl rfl (fun w' hw' => Ret.mem hw' ?_)
    first | (exfalso; omega) | exact ⟨_, tup2 rfl (int_eq (by rw [run_bad (by omega)])), by rw [run_bad (by omega)]; exact .nil⟩ | exact ⟨_, tup2 rfl (int_eq (by rw [hrs.2])), by rw [hrs.2]; exact .nil⟩
  · refine WL.nil ?_
    refine WK.nThen ?_
    refine WC.condF rfl ?_
    refine WC.skip ?_
    refine WK.nThen ?_
    refine WC.seq ?_
    have hrs := run_sp (d := d) (m := m_) (t := t) (by omega)
    have hok := hrs.1.1
    have hn_ := hok.n
    have hv := hok.val.one (a := 0) (by omega) (t := t) (by omega)
    have hle_ : ((m_ ++ [⟨0, ⟨t, t⟩⟩]) : List Mark).length ≤ 1000 := (by simp; omega)
    refine WC.draw (π := (.cons 0 (.cons 1 (.cons 2 (.cons 3 (.cons 4 (.cons 5 (.cons 6 (.cons 7 (.cons 8 (.cons 9 (.cons 10 (.cons 11 (.cons 12 .done)))))))))))))) [6, 7] [] rfl (by kernel_rfl) ?_
    refine DW.x rfl rfl (X.loadBA (k := 0) Try.isAgg25 Try.sizeOf25 rfl rfl rfl) (by decide) ?_
    refine DW.x rfl rfl (X.move rfl) (by decide) ?_
    refine DW.x rfl rfl (X.move rfl) (by decide) ?_
    refine DW.x rfl rfl (X.move rfl) (by decide) ?_
    refine DW.x (V := Value.agg [.int .i64 (t), .int .i64 (t)].toArray) rfl rfl (X.build Try.zeroValue31 Try.runUnderlying31 (places31 _ Try.underlying31) rfl rfl) (by decide) ?_
    refine DW.x (V := Value.agg [.int .i64 (0), .int .i64 (t), .int .i64 (t)].toArray) rfl rfl (X.build Try.zeroValue33 Try.runUnderlying33 (places33 _ Try.underlying33) rfl rfl) (by decide) ?_
    refine DW.tm rfl rfl rfl (T.call Try.call90 rfl (with90 _ _ _ hm_ _ ((Mark.mk (0) ((Span.mk (t) (t))))) rfl (by omega))) (by decide) fun m16 r17 hle18 hR19 => ?_
    obtain ⟨v20, hv_, hs21⟩ := hR19
    rw [← hv_] at hs21
    clear hv_ v20
    replace hs2 := hs2.mono hle18
    replace hs4 := hs4.mono hle18
    replace hm_ := hm_.mono hle18
    replace hs13 := hs13.mono hle18
    have hl22 := hs21.le
    refine DW.tm rfl rfl rfl (T.call Try.call89 rfl (spans89 _ _ d ⟨_, _, rfl, hs2, hs4⟩ _ _ hs21 (by first | assumption | omega) (by first | assumption | omega))) (by decide) fun m23 r24 hle25 hR26 => ?_
    obtain ⟨v27, rfl, hs28⟩ := hR26
    replace hs2 := hs2.mono hle25
    replace hs4 := hs4.mono hle25
    replace hm_ := hm_.mono hle25
    replace hs13 := hs13.mono hle25
    replace hs21 := hs21.mono hle25
    have hl29 := hs28.le
    refine DW.x rfl rfl (X.move rfl) (by decide) ?_
    refine DW.x rfl rfl (X.extract rfl rfl) (by decide) ?_
    refine DW.x rfl rfl (X.extract rfl rfl) (by decide) ?_
    refine DW.x rfl rfl (X.assign rfl) (by decide) ?_
    refine DW.x rfl rfl (X.assign rfl) (by decide) ?_
    refine DW.nil ?_
    refine WK.nThen ?_
    refine WC.seq ?_
    refine WC.region ?_
    refine WL.x (X.move rfl) (by decide) ?_
    refine WL.x (X.assign rfl) (by decide) ?_
    refine WL.x (X.assign rfl) (by decide) ?_
    refine WL.nil ?_
    refine WK.nThen ?_
    refine WC.ret ?_
    refine WK.ret2 rfl rfl rfl (fun w' hw' => Ret.mem hw' ?_)
    first | (exfalso; omega) | exact ⟨_, tup2 rfl (int_eq (by rw [run_bad (by omega)])), by rw [run_bad (by omega)]; exact hs28⟩ | exact ⟨_, tup2 rfl (int_eq (by rw [hrs.2])), by rw [hrs.2]; exact hs28⟩

theorem drift28 (m : Mem) (cd : List Value) (d : Drum) (hd : Enc.rd m cd d) (vm_ : Value) (m_ : List Mark) (hm_ : Sl m vm_ m_) (a : Int) (b : Int)   : Exact Try.prog 28 #[.agg cd.toArray, vm_, .int .i64 (a), .int .i64 (b)] m (.tuple #[.agg [.int .i64 ((drfR d m_ a b).1.Num), .int .i64 ((drfR d m_ a b).1.Den)].toArray, .agg [.int .i64 ((drfR d m_ a b).2.1.Num), .int .i64 ((drfR d m_ a b).2.1.Den)].toArray, .int .i64 ((drfR d m_ a b).2.2)]) := by
  obtain ⟨v1, v3, rfl, hs2, hs4⟩ := hd
  have hl5 := hs2.le
  have hl6 := hs4.le
  have lm_ := hm_.le
  refine Exact.start Try.func28 rfl Try.ntmps28 rfl fun wld => ?_
  refine WC.seq ?_
  refine WC.region ?_
  refine WL.tn (T.boxB rfl rfl) (by decide) fun b7 => ?_
  refine WL.tn (T.alloc Try.zeroValue46 rfl) (by decide) fun b8 => ?_
  refine WL.tn (T.alloc Try.zeroValue46 rfl) (by decide) fun b9 => ?_
  refine WL.x (X.assign rfl) (by decide) ?_
  refine WL.nil ?_
  refine WK.nThen ?_
  refine WC.seq ?_
  refine WC.region ?_
  refine WL.x (X.loadBA (k := 2) Try.isAgg25 Try.sizeOf25 rfl rfl rfl) (by decide) ?_
  refine WL.x (X.move rfl) (by decide) ?_
  refine WL.x (X.move rfl) (by decide) ?_
  refine WL.x (X.move rfl) (by decide) ?_
  refine WL.x (X.call Try.call77 rfl (columns77 _ _ d ⟨_, _, rfl, hs2, hs4⟩ _ _ hm_ _ _ )) (by decide) ?_
  refine WL.x (X.assign rfl) (by decide) ?_
  refine WL.nil ?_
  refine WK.nThen ?_
  refine WC.seq ?_
  refine WC.seq ?_
  refine WC.region ?_
  refine WL.x (X.move rfl) (by decide) ?_
  refine WL.cond (X.eql rfl rfl) (by decide) (fun h10 => ?_) (fun h10 => ?_)
  · refine WL.x (X.move rfl) (by decide) ?_
    refine WL.yes rfl rfl ?_
    refine WL.x (X.move rfl) (by decide) ?_
    refine WL.yes rfl rfl ?_
    refine WL.x (X.move rfl) (by decide) ?_
    refine WL.yes rfl rfl ?_
    refine WL.cond (X.geq rfl rfl) (by decide) (fun h11 => ?_) (fun h11 => ?_)
    · refine WL.x (X.pickT rfl rfl rfl) (by decide) ?_
      refine WL.nil ?_
      refine WK.nThen ?_
      refine WC.condT rfl ?_
      refine WC.region ?_
      refine WL.x (X.assign rfl) (by decide) ?_
      refine WL.nil ?_
      refine WK.nThen ?_
      refine WC.seq ?_
      refine WC.seq ?_
      refine WC.region ?_
      refine WL.x (X.move rfl) (by decide) ?_
      refine WL.x (X.eql rfl rfl) (by decide) ?_
      refine WL.nil ?_
      refine WK.nThen ?_
      refine WC.condF rfl ?_
      refine WC.skip ?_
      refine WK.nThen ?_
      refine WC.seq ?_
      refine WC.seq ?_
      refine WC.region ?_
      refine WL.x (X.move rfl) (by decide) ?_
      refine WL.x (X.neq rfl rfl) (by decide) ?_
      refine WL.nil ?_
      refine WK.nThen ?_
      refine WC.condT rfl ?_
      refine WC.cut (G := Mem) (fun m12 => m12) (fun m12 => [blk b9 46 [.int .i64 (0), .int .i64 (0)], blk b8 46 [.int .i64 (0), .int .i64 (0)], blk b7 25 [v1, v3]]) (fun m12 => [(8, .pointer (some ⟨b8, 0, none⟩)), (9, .pointer (some ⟨b9, 0, none⟩)), (10, .int .i64 (1))]) (fun m12 => m.le m12 ∧ Sl (α := Span) m12 v1 d.Rates ∧ Sl (α := Stop) m12 v3 d.Stops) ?_ ?_
      · refine WC.draw (π := (.cons 0 (.cons 2 (.fork (.cons 1 (.cons 3 (.cons 4 (.cons 5 .done)))) (.cons 3 (.cons 1 (.cons 4 (.cons 5 .done)))))))) [1, 3, 4] [3, 4] rfl (by kernel_rfl) ?_
        refine DW.x rfl rfl (X.loadBA (k := 1) Try.isAgg46 Try.sizeOf46 rfl rfl rfl) (by decide) ?_
        refine DW.x rfl rfl (X.move rfl) (by decide) ?_
        refine DW.fork (List.cons_ne_nil _ _) ?_ ?_
        · refine DW.xp rfl rfl rfl (fun _ => (X.loadBA (k := 0) Try.isAgg46 Try.sizeOf46 rfl rfl rfl)) (by decide) ?_
          refine DW.ts rfl rfl rfl rfl (T.storeBA (k := 1) Try.sizeOf46 rfl rfl rfl (one_cons rfl (one_cons rfl one_nil)) rfl rfl) ?_
          refine DW.ts rfl rfl rfl rfl (T.storeBA (k := 0) Try.sizeOf46 rfl rfl rfl (one_cons rfl (one_cons rfl one_nil)) rfl rfl) ?_
          refine DW.x rfl rfl (X.assign rfl) (by decide) ?_
          refine DW.nil ?_
          refine WK.nThen ?_
          exact WK.meet m rfl (.refl _) (.cons rfl (.cons rfl (.cons rfl .nil))) ⟨(Mem.le_refl _), hs2, hs4⟩
        · refine DW.ts rfl rfl rfl rfl (T.storeBA (k := 1) Try.sizeOf46 rfl rfl rfl (one_cons rfl (one_cons rfl one_nil)) rfl rfl) ?_
          refine DW.xp rfl rfl rfl (fun _ => (X.loadBA (k := 0) Try.isAgg46 Try.sizeOf46 rfl rfl rfl)) (by decide) ?_
          refine DW.ts rfl rfl rfl rfl (T.storeBA (k := 0) Try.sizeOf46 rfl rfl rfl (one_cons rfl (one_cons rfl one_nil)) rfl rfl) ?_
          refine DW.x rfl rfl (X.assign rfl) (by decide) ?_
          refine DW.nil ?_
          refine WK.nThen ?_
          exact WK.meet m rfl (.refl _) (.cons rfl (.cons rfl (.cons rfl .nil))) ⟨(Mem.le_refl _), hs2, hs4⟩
      · rintro m12 ⟨hle13, hs14, hs15⟩
        show WK _ _ m12 [blk b9 46 [.int .i64 (0), .int .i64 (0)], blk b8 46 [.int .i64 (0), .int .i64 (0)], blk b7 25 [v1, v3]] [(8, .pointer (some ⟨b8, 0, none⟩)), (9, .pointer (some ⟨b9, 0, none⟩)), (10, .int .i64 (1))] _
        replace hs2 := hs2.mono hle13
        replace hs4 := hs4.mono hle13
        replace hm_ := hm_.mono hle13
        have hl16 := hs14.le
        have hl17 := hs15.le
        refine WC.ret ?_
        refine WK.rThen ?_
        refine WK.retC3 1 0 rfl rfl rfl rfl rfl rfl Try.isAgg46 Try.sizeOf46 Try.isAgg46 Try.sizeOf46 (fun w' hw' => Ret.exact hw' ?_)
        first | (exfalso; omega) | exact tup3 (agg2i (by rw [drf_col (by omega)]) (by rw [drf_col (by omega)])) (agg2i (by rw [drf_col (by omega)]) (by rw [drf_col (by omega)])) (int_eq (by rw [drf_col (by omega)])) | exact tup3 (agg2i (by rw [drf_le (by omega) (by omega)]) (by rw [drf_le (by omega) (by omega)])) (agg2i (by rw [drf_le (by omega) (by omega)]) (by rw [drf_le (by omega) (by omega)])) (int_eq (by rw [drf_le (by omega) (by omega)])) | exact tup3 (agg2i (by rw [drf_tol (by omega) (by omega) (by omega)]) (by rw [drf_tol (by omega) (by omega) (by omega)])) (agg2i (by rw [drf_tol (by omega) (by omega) (by omega)]) (by rw [drf_tol (by omega) (by omega) (by omega)])) (int_eq (by rw [drf_tol (by omega) (by omega) (by omega)])) | exact tup3 (agg2i (by rw [drf_sp (by omega) (by omega) (by omega)]) (by rw [drf_sp (by omega) (by omega) (by omega)])) (agg2i (by rw [drf_sp (by omega) (by omega) (by omega)]) (by rw [drf_sp (by omega) (by omega) (by omega)])) (int_eq (by rw [drf_sp (by omega) (by omega) (by omega)]))
    · refine WL.x (X.pickT rfl rfl rfl) (by decide) ?_
      refine WL.nil ?_
      refine WK.nThen ?_
      refine WC.condF rfl ?_
      refine WC.skip ?_
      refine WK.nThen ?_
      refine WC.seq ?_
      refine WC.seq ?_
      refine WC.region ?_
      refine WL.x (X.move rfl) (by decide) ?_
      refine WL.x (OpX.t (X.eql rfl rfl) h10) (by decide) ?_
      refine WL.nil ?_
      refine WK.nThen ?_
      refine WC.condT rfl ?_
      refine WC.region ?_
      refine WL.x (X.loadBA (k := 2) Try.isAgg25 Try.sizeOf25 rfl rfl rfl) (by decide) ?_
      refine WL.x (X.move rfl) (by decide) ?_
      refine WL.tm (T.call Try.call78 rfl (told78 _ _ d ⟨_, _, rfl, hs2, hs4⟩ _ _ hm_ )) (by decide) fun m18 r19 hle20 hR21 => ?_
      obtain ⟨v22, rfl, hs23⟩ := hR21
      replace hs2 := hs2.mono hle20
      replace hs4 := hs4.mono hle20
      replace hm_ := hm_.mono hle20
      have hl24 := hs23.le
      refine WL.x (X.move rfl) (by decide) ?_
      refine WL.x (X.extract rfl rfl) (by decide) ?_
      refine WL.x (X.extract rfl rfl) (by decide) ?_
      refine WL.x (X.assign rfl) (by decide) ?_
      refine WL.nil ?_
      refine WK.nThen ?_
      refine WC.seq ?_
      refine WC.seq ?_
      refine WC.region ?_
      refine WL.x (X.move rfl) (by decide) ?_
      refine WL.condn (X.neq rfl rfl) (by decide) (fun h25 => ?_) (fun h25 => ?_)
      · refine WL.nil ?_
        refine WK.nThen ?_
        refine WC.condT rfl ?_
        refine WC.cut (G := Mem) (fun m26 => m26) (fun m26 => [blk b9 46 [.int .i64 (0), .int .i64 (0)], blk b8 46 [.int .i64 (0), .int .i64 (0)], blk b7 25 [v1, v3]]) (fun m26 => [(8, .pointer (some ⟨b8, 0, none⟩)), (9, .pointer (some ⟨b9, 0, none⟩)), (10, .int .i64 ((tolR d m_).2))]) (fun m26 => m18.le m26 ∧ Sl (α := Span) m26 v1 d.Rates ∧ Sl (α := Stop) m26 v3 d.Stops) ?_ ?_
        · refine WC.draw (π := (.cons 0 (.cons 2 (.fork (.cons 1 (.cons 3 (.cons 4 (.cons 5 .done)))) (.cons 3 (.cons 1 (.cons 4 (.cons 5 .done)))))))) [1, 3, 4] [3, 4] rfl (by kernel_rfl) ?_
          refine DW.x rfl rfl (X.loadBA (k := 1) Try.isAgg46 Try.sizeOf46 rfl rfl rfl) (by decide) ?_
          refine DW.x rfl rfl (X.move rfl) (by decide) ?_
          refine DW.fork (List.cons_ne_nil _ _) ?_ ?_
          · refine DW.xp rfl rfl rfl (fun _ => (X.loadBA (k := 0) Try.isAgg46 Try.sizeOf46 rfl rfl rfl)) (by decide) ?_
            refine DW.ts rfl rfl rfl rfl (T.storeBA (k := 1) Try.sizeOf46 rfl rfl rfl (one_cons rfl (one_cons rfl one_nil)) rfl rfl) ?_
            refine DW.ts rfl rfl rfl rfl (T.storeBA (k := 0) Try.sizeOf46 rfl rfl rfl (one_cons rfl (one_cons rfl one_nil)) rfl rfl) ?_
            refine DW.x rfl rfl (X.assign rfl) (by decide) ?_
            refine DW.nil ?_
            refine WK.nThen ?_
            exact WK.meet m18 rfl (.refl _) (.cons rfl (.cons rfl (.cons rfl .nil))) ⟨(Mem.le_refl _), hs2, hs4⟩
          · refine DW.ts rfl rfl rfl rfl (T.storeBA (k := 1) Try.sizeOf46 rfl rfl rfl (one_cons rfl (one_cons rfl one_nil)) rfl rfl) ?_
            refine DW.xp rfl rfl rfl (fun _ => (X.loadBA (k := 0) Try.isAgg46 Try.sizeOf46 rfl rfl rfl)) (by decide) ?_
            refine DW.ts rfl rfl rfl rfl (T.storeBA (k := 0) Try.sizeOf46 rfl rfl rfl (one_cons rfl (one_cons rfl one_nil)) rfl rfl) ?_
            refine DW.x rfl rfl (X.assign rfl) (by decide) ?_
            refine DW.nil ?_
            refine WK.nThen ?_
            exact WK.meet m18 rfl (.refl _) (.cons rfl (.cons rfl (.cons rfl .nil))) ⟨(Mem.le_refl _), hs2, hs4⟩
        · rintro m26 ⟨hle27, hs28, hs29⟩
          show WK _ _ m26 [blk b9 46 [.int .i64 (0), .int .i64 (0)], blk b8 46 [.int .i64 (0), .int .i64 (0)], blk b7 25 [v1, v3]] [(8, .pointer (some ⟨b8, 0, none⟩)), (9, .pointer (some ⟨b9, 0, none⟩)), (10, .int .i64 ((tolR d m_).2))] _
          replace hs2 := hs2.mono hle27
          replace hs4 := hs4.mono hle27
          replace hm_ := hm_.mono hle27
          replace hs23 := hs23.mono hle27
          have hl30 := hs28.le
          have hl31 := hs29.le
          refine WC.ret ?_
          refine WK.rThen ?_
          refine WK.retC3 1 0 rfl rfl rfl rfl rfl rfl Try.isAgg46 Try.sizeOf46 Try.isAgg46 Try.sizeOf46 (fun w' hw' => Ret.exact hw' ?_)
          first | (exfalso; omega) | exact tup3 (agg2i (by rw [drf_col (by omega)]) (by rw [drf_col (by omega)])) (agg2i (by rw [drf_col (by omega)]) (by rw [drf_col (by omega)])) (int_eq (by rw [drf_col (by omega)])) | exact tup3 (agg2i (by rw [drf_le (by omega) (by omega)]) (by rw [drf_le (by omega) (by omega)])) (agg2i (by rw [drf_le (by omega) (by omega)]) (by rw [drf_le (by omega) (by omega)])) (int_eq (by rw [drf_le (by omega) (by omega)])) | exact tup3 (agg2i (by rw [drf_tol (by omega) (by omega) (by omega)]) (by rw [drf_tol (by omega) (by omega) (by omega)])) (agg2i (by rw [drf_tol (by omega) (by omega) (by omega)]) (by rw [drf_tol (by omega) (by omega) (by omega)])) (int_eq (by rw [drf_tol (by omega) (by omega) (by omega)])) | exact tup3 (agg2i (by rw [drf_sp (by omega) (by omega) (by omega)]) (by rw [drf_sp (by omega) (by omega) (by omega)])) (agg2i (by rw [drf_sp (by omega) (by omega) (by omega)]) (by rw [drf_sp (by omega) (by omega) (by omega)])) (int_eq (by rw [drf_sp (by omega) (by omega) (by omega)]))
      · refine WL.nil ?_
        refine WK.nThen ?_
        refine WC.condF rfl ?_
        refine WC.skip ?_
        refine WK.nThen ?_
        refine WC.seq ?_
        have hcz := col_zero (d := d) (m := m_) (a := a) (b := b) (by omega)
        have htz := tol_zero (d := d) (m := m_) (by omega)
        have hok := hcz.1
        have hod := htz.2.1
        have hra := hcz.2.1
        have hrb := hcz.2.2
        have hbd1 := bet_bd hok hod (a := a.toNat) (b := b.toNat) (by omega) (by omega)
        have hbd2 := bet_bd hok hod (a := b.toNat) (b := a.toNat) (by omega) (by omega)
        have hbv1 : (betS (setC d m_) a.toNat b.toNat).Lo = - mosD d m_ b.toNat a.toNat := rfl
        have hbv2 : (betS (setC d m_) a.toNat b.toNat).Hi = mosD d m_ a.toNat b.toNat := rfl
        have hd1 := hok.dr.1.1.2
        refine WC.region ?_
        refine WL.x (X.loadBA (k := 2) Try.isAgg25 Try.sizeOf25 rfl rfl rfl) (by decide) ?_
        refine WL.x (X.move rfl) (by decide) ?_
        refine WL.x (X.move rfl) (by decide) ?_
        refine WL.x (X.move rfl) (by decide) ?_
        refine WL.x (X.call Try.call79 rfl (between79 _ _ d ⟨_, _, rfl, hs2, hs4⟩ _ _ hm_ _ _ (by first | assumption | omega) (by first | assumption | omega) (by first | assumption | omega) (by first | assumption | omega))) (by decide) ?_
        refine WL.tn (T.alloc Try.zeroValue31 rfl) (by decide) fun b32 => ?_
        refine WL.ts (T.storeBA (k := 0) Try.sizeOf31 rfl rfl rfl (one_cons rfl (one_cons rfl one_nil)) rfl rfl) ?_
        refine WL.nil ?_
        refine WK.nThen ?_
        refine WC.seq ?_
        refine WC.draw (π := (.cons 0 (.cons 1 (.cons 2 (.cons 3 (.cons 4 (.cons 5 (.cons 6 (.cons 7 (.cons 8 (.cons 9 (.cons 10 (.cons 11 (.cons 12 (.cons 13 (.cons 14 .done)))))))))))))))) [12, 13] [12, 13] rfl (by kernel_rfl) ?_
        refine DW.x rfl rfl (X.field Try.runUnderlying31 rfl Try.sizeOf3 rfl) (by decide) ?_
        refine DW.x rfl rfl (X.loadB (k := 0) Try.isAgg3 rfl rfl rfl) (by decide) ?_
        refine DW.x rfl rfl (X.move rfl) (by decide) ?_
        refine DW.x rfl rfl (X.move rfl) (by decide) ?_
        refine DW.x rfl rfl (X.sub rfl rfl (by omega) (by omega)) (by decide) ?_
        refine DW.x rfl rfl (X.call Try.call94 rfl (lowest94 _ _ _ (by omega) (by omega))) (by decide) ?_
        refine DW.x rfl rfl (X.field Try.runUnderlying31 rfl Try.sizeOf3 rfl) (by decide) ?_
        refine DW.x rfl rfl (X.loadB (k := 0) Try.isAgg3 rfl rfl rfl) (by decide) ?_
        refine DW.x rfl rfl (X.move rfl) (by decide) ?_
        refine DW.x rfl rfl (X.move rfl) (by decide) ?_
        refine DW.x rfl rfl (X.sub rfl rfl (by omega) (by omega)) (by decide) ?_
        refine DW.x rfl rfl (X.call Try.call94 rfl (lowest94 _ _ _ (by omega) (by omega))) (by decide) ?_
        refine DW.ts rfl rfl rfl rfl (T.storeBA (k := 2) Try.sizeOf46 rfl rfl rfl (one_cons rfl (one_cons rfl one_nil)) rfl rfl) ?_
        refine DW.ts rfl rfl rfl rfl (T.storeBA (k := 1) Try.sizeOf46 rfl rfl rfl (one_cons rfl (one_cons rfl one_nil)) rfl rfl) ?_
        refine DW.x rfl rfl (X.assign rfl) (by decide) ?_
        refine DW.nil ?_
        refine WK.nThen ?_
        refine WC.ret ?_
        refine WK.retC3 2 1 rfl rfl rfl rfl rfl rfl Try.isAgg46 Try.sizeOf46 Try.isAgg46 Try.sizeOf46 (fun w' hw' => Ret.exact hw' ?_)
        first | (exfalso; omega) | exact tup3 (agg2i (by rw [drf_col (by omega)]) (by rw [drf_col (by omega)])) (agg2i (by rw [drf_col (by omega)]) (by rw [drf_col (by omega)])) (int_eq (by rw [drf_col (by omega)])) | exact tup3 (agg2i (by rw [drf_le (by omega) (by omega)]) (by rw [drf_le (by omega) (by omega)])) (agg2i (by rw [drf_le (by omega) (by omega)]) (by rw [drf_le (by omega) (by omega)])) (int_eq (by rw [drf_le (by omega) (by omega)])) | exact tup3 (agg2i (by rw [drf_tol (by omega) (by omega) (by omega)]) (by rw [drf_tol (by omega) (by omega) (by omega)])) (agg2i (by rw [drf_tol (by omega) (by omega) (by omega)]) (by rw [drf_tol (by omega) (by omega) (by omega)])) (int_eq (by rw [drf_tol (by omega) (by omega) (by omega)])) | exact tup3 (agg2i (by rw [drf_sp (by omega) (by omega) (by omega)]) (by rw [drf_sp (by omega) (by omega) (by omega)])) (agg2i (by rw [drf_sp (by omega) (by omega) (by omega)]) (by rw [drf_sp (by omega) (by omega) (by omega)])) (int_eq (by rw [drf_sp (by omega) (by omega) (by omega)]))
  · refine WL.x (X.move rfl) (by decide) ?_
    refine WL.no rfl rfl rfl (by decide) ?_
    refine WL.no rfl rfl rfl (by decide) ?_
    refine WL.no rfl rfl rfl (by decide) ?_
    refine WL.x (X.pickF rfl rfl rfl) (by decide) ?_
    refine WL.nil ?_
    refine WK.nThen ?_
    refine WC.condF rfl ?_
    refine WC.skip ?_
    refine WK.nThen ?_
    refine WC.seq ?_
    refine WC.seq ?_
    refine WC.region ?_
    refine WL.x (X.move rfl) (by decide) ?_
    refine WL.x (OpX.f (X.eql rfl rfl) h10) (by decide) ?_
    refine WL.nil ?_
    refine WK.nThen ?_
    refine WC.condF rfl ?_
    refine WC.skip ?_
    refine WK.nThen ?_
    refine WC.seq ?_
    refine WC.seq ?_
    refine WC.region ?_
    refine WL.x (X.move rfl) (by decide) ?_
    refine WL.condn (X.neq rfl rfl) (by decide) (fun h33 => ?_) (fun h33 => ?_)
    · refine WL.nil ?_
      refine WK.nThen ?_
      refine WC.condT rfl ?_
      refine WC.cut (G := Mem) (fun m34 => m34) (fun m34 => [blk b9 46 [.int .i64 (0), .int .i64 (0)], blk b8 46 [.int .i64 (0), .int .i64 (0)], blk b7 25 [v1, v3]]) (fun m34 => [(8, .pointer (some ⟨b8, 0, none⟩)), (9, .pointer (some ⟨b9, 0, none⟩)), (10, .int .i64 (colE d m_ a b))]) (fun m34 => m.le m34 ∧ Sl (α := Span) m34 v1 d.Rates ∧ Sl (α := Stop) m34 v3 d.Stops) ?_ ?_
      · refine WC.draw (π := (.cons 0 (.cons 2 (.fork (.cons 1 (.cons 3 (.cons 4 (.cons 5 .done)))) (.cons 3 (.cons 1 (.cons 4 (.cons 5 .done)))))))) [1, 3, 4] [3, 4] rfl (by kernel_rfl) ?_
        refine DW.x rfl rfl (X.loadBA (k := 1) Try.isAgg46 Try.sizeOf46 rfl rfl rfl) (by decide) ?_
        refine DW.x rfl rfl (X.move rfl) (by decide) ?_
        refine DW.fork (List.cons_ne_nil _ _) ?_ ?_
        · refine DW.xp rfl rfl rfl (fun _ => (X.loadBA (k := 0) Try.isAgg46 Try.sizeOf46 rfl rfl rfl)) (by decide) ?_
          refine DW.ts rfl rfl rfl rfl (T.storeBA (k := 1) Try.sizeOf46 rfl rfl rfl (one_cons rfl (one_cons rfl one_nil)) rfl rfl) ?_
          refine DW.ts rfl rfl rfl rfl (T.storeBA (k := 0) Try.sizeOf46 rfl rfl rfl (one_cons rfl (one_cons rfl one_nil)) rfl rfl) ?_
          refine DW.x rfl rfl (X.assign rfl) (by decide) ?_
          refine DW.nil ?_
          refine WK.nThen ?_
          exact WK.meet m rfl (.refl _) (.cons rfl (.cons rfl (.cons rfl .nil))) ⟨(Mem.le_refl _), hs2, hs4⟩
        · refine DW.ts rfl rfl rfl rfl (T.storeBA (k := 1) Try.sizeOf46 rfl rfl rfl (one_cons rfl (one_cons rfl one_nil)) rfl rfl) ?_
          refine DW.xp rfl rfl rfl (fun _ => (X.loadBA (k := 0) Try.isAgg46 Try.sizeOf46 rfl rfl rfl)) (by decide) ?_
          refine DW.ts rfl rfl rfl rfl (T.storeBA (k := 0) Try.sizeOf46 rfl rfl rfl (one_cons rfl (one_cons rfl one_nil)) rfl rfl) ?_
          refine DW.x rfl rfl (X.assign rfl) (by decide) ?_
          refine DW.nil ?_
          refine WK.nThen ?_
          exact WK.meet m rfl (.refl _) (.cons rfl (.cons rfl (.cons rfl .nil))) ⟨(Mem.le_refl _), hs2, hs4⟩
      · rintro m34 ⟨hle35, hs36, hs37⟩
        show WK _ _ m34 [blk b9 46 [.int .i64 (0), .int .i64 (0)], blk b8 46 [.int .i64 (0), .int .i64 (0)], blk b7 25 [v1, v3]] [(8, .pointer (some ⟨b8, 0, none⟩)), (9, .pointer (some ⟨b9, 0, none⟩)), (10, .int .i64 (colE d m_ a b))] _
        replace hs2 := hs2.mono hle35
        replace hs4 := hs4.mono hle35
        replace hm_ := hm_.mono hle35
        have hl38 := hs36.le
        have hl39 := hs37.le
        refine WC.ret ?_
        refine WK.rThen ?_
        refine WK.retC3 1 0 rfl rfl rfl rfl rfl rfl Try.isAgg46 Try.sizeOf46 Try.isAgg46 Try.sizeOf46 (fun w' hw' => Ret.exact hw' ?_)
        first | (exfalso; omega) | exact tup3 (agg2i (by rw [drf_col (by omega)]) (by rw [drf_col (by omega)])) (agg2i (by rw [drf_col (by omega)]) (by rw [drf_col (by omega)])) (int_eq (by rw [drf_col (by omega)])) | exact tup3 (agg2i (by rw [drf_le (by omega) (by omega)]) (by rw [drf_le (by omega) (by omega)])) (agg2i (by rw [drf_le (by omega) (by omega)]) (by rw [drf_le (by omega) (by omega)])) (int_eq (by rw [drf_le (by omega) (by omega)])) | exact tup3 (agg2i (by rw [drf_tol (by omega) (by omega) (by omega)]) (by rw [drf_tol (by omega) (by omega) (by omega)])) (agg2i (by rw [drf_tol (by omega) (by omega) (by omega)]) (by rw [drf_tol (by omega) (by omega) (by omega)])) (int_eq (by rw [drf_tol (by omega) (by omega) (by omega)])) | exact tup3 (agg2i (by rw [drf_sp (by omega) (by omega) (by omega)]) (by rw [drf_sp (by omega) (by omega) (by omega)])) (agg2i (by rw [drf_sp (by omega) (by omega) (by omega)]) (by rw [drf_sp (by omega) (by omega) (by omega)])) (int_eq (by rw [drf_sp (by omega) (by omega) (by omega)]))
    · refine WL.nil ?_
      refine WK.nThen ?_
      refine WC.condF rfl ?_
      refine WC.skip ?_
      refine WK.nThen ?_
      refine WC.seq ?_
      have hcz := col_zero (d := d) (m := m_) (a := a) (b := b) (by omega)
      have htz := tol_zero (d := d) (m := m_) (by omega)
      have hok := hcz.1
      have hod := htz.2.1
      have hra := hcz.2.1
      have hrb := hcz.2.2
      have hbd1 := bet_bd hok hod (a := a.toNat) (b := b.toNat) (by omega) (by omega)
      have hbd2 := bet_bd hok hod (a := b.toNat) (b := a.toNat) (by omega) (by omega)
      have hbv1 : (betS (setC d m_) a.toNat b.toNat).Lo = - mosD d m_ b.toNat a.toNat := rfl
      have hbv2 : (betS (setC d m_) a.toNat b.toNat).Hi = mosD d m_ a.toNat b.toNat := rfl
      have hd1 := hok.dr.1.1.2
      refine WC.region ?_
      refine WL.x (X.loadBA (k := 2) Try.isAgg25 Try.sizeOf25 rfl rfl rfl) (by decide) ?_
      refine WL.x (X.move rfl) (by decide) ?_
      refine WL.x (X.move rfl) (by decide) ?_
      refine WL.x (X.move rfl) (by decide) ?_
      refine WL.x (X.call Try.call79 rfl (between79 _ _ d ⟨_, _, rfl, hs2, hs4⟩ _ _ hm_ _ _ (by first | assumption | omega) (by first | assumption | omega) (by first | assumption | omega) (by first | assumption | omega))) (by decide) ?_
      refine WL.tn (T.alloc Try.zeroValue31 rfl) (by decide) fun b40 => ?_
      refine WL.ts (T.storeBA (k := 0) Try.sizeOf31 rfl rfl rfl (one_cons rfl (one_cons rfl one_nil)) rfl rfl) ?_
      refine WL.nil ?_
      refine WK.nThen ?_
      refine WC.seq ?_
      refine WC.draw (π := (.cons 0 (.cons 1 (.cons 2 (.cons 3 (.cons 4 (.cons 5 (.cons 6 (.cons 7 (.cons 8 (.cons 9 (.cons 10 (.cons 11 (.cons 12 (.cons 13 (.cons 14 .done)))))))))))))))) [12, 13] [12, 13] rfl (by kernel_rfl) ?_
      refine DW.x rfl rfl (X.field Try.runUnderlying31 rfl Try.sizeOf3 rfl) (by decide) ?_
      refine DW.x rfl rfl (X.loadB (k := 0) Try.isAgg3 rfl rfl rfl) (by decide) ?_
      refine DW.x rfl rfl (X.move rfl) (by decide) ?_
      refine DW.x rfl rfl (X.move rfl) (by decide) ?_
      refine DW.x rfl rfl (X.sub rfl rfl (by omega) (by omega)) (by decide) ?_
      refine DW.x rfl rfl (X.call Try.call94 rfl (lowest94 _ _ _ (by omega) (by omega))) (by decide) ?_
      refine DW.x rfl rfl (X.field Try.runUnderlying31 rfl Try.sizeOf3 rfl) (by decide) ?_
      refine DW.x rfl rfl (X.loadB (k := 0) Try.isAgg3 rfl rfl rfl) (by decide) ?_
      refine DW.x rfl rfl (X.move rfl) (by decide) ?_
      refine DW.x rfl rfl (X.move rfl) (by decide) ?_
      refine DW.x rfl rfl (X.sub rfl rfl (by omega) (by omega)) (by decide) ?_
      refine DW.x rfl rfl (X.call Try.call94 rfl (lowest94 _ _ _ (by omega) (by omega))) (by decide) ?_
      refine DW.ts rfl rfl rfl rfl (T.storeBA (k := 2) Try.sizeOf46 rfl rfl rfl (one_cons rfl (one_cons rfl one_nil)) rfl rfl) ?_
      refine DW.ts rfl rfl rfl rfl (T.storeBA (k := 1) Try.sizeOf46 rfl rfl rfl (one_cons rfl (one_cons rfl one_nil)) rfl rfl) ?_
      refine DW.x rfl rfl (X.assign rfl) (by decide) ?_
      refine DW.nil ?_
      refine WK.nThen ?_
      refine WC.ret ?_
      refine WK.retC3 2 1 rfl rfl rfl rfl rfl rfl Try.isAgg46 Try.sizeOf46 Try.isAgg46 Try.sizeOf46 (fun w' hw' => Ret.exact hw' ?_)
      first | (exfalso; omega) | exact tup3 (agg2i (by rw [drf_col (by omega)]) (by rw [drf_col (by omega)])) (agg2i (by rw [drf_col (by omega)]) (by rw [drf_col (by omega)])) (int_eq (by rw [drf_col (by omega)])) | exact tup3 (agg2i (by rw [drf_le (by omega) (by omega)]) (by rw [drf_le (by omega) (by omega)])) (agg2i (by rw [drf_le (by omega) (by omega)]) (by rw [drf_le (by omega) (by omega)])) (int_eq (by rw [drf_le (by omega) (by omega)])) | exact tup3 (agg2i (by rw [drf_tol (by omega) (by omega) (by omega)]) (by rw [drf_tol (by omega) (by omega) (by omega)])) (agg2i (by rw [drf_tol (by omega) (by omega) (by omega)]) (by rw [drf_tol (by omega) (by omega) (by omega)])) (int_eq (by rw [drf_tol (by omega) (by omega) (by omega)])) | exact tup3 (agg2i (by rw [drf_sp (by omega) (by omega) (by omega)]) (by rw [drf_sp (by omega) (by omega) (by omega)])) (agg2i (by rw [drf_sp (by omega) (by omega) (by omega)]) (by rw [drf_sp (by omega) (by omega) (by omega)])) (int_eq (by rw [drf_sp (by omega) (by omega) (by omega)]))

end Go.Proofs.C2
