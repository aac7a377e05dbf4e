import Derived.Test.YtmnipmbgdbdjeaaC2W11
/- Clocks: walks of the reference, by program. -/
namespace Go.Proofs.C2
open Go Go.Kx
set_option linter.unusedVariables false

theorem feasible66 (m : Mem) (cd : List Value) (d : Drum) (hd : Enc.rd m cd d) (vm_ : Value) (m_ : List Mark) (hm_ : Sl m vm_ m_)   : Exact Try.prog 66 #[.agg cd.toArray, vm_] m (.tuple #[.bool ((feasR d m_).1), .int .i64 ((feasR d m_).2)]) := by
  obtain ⟨v1, v3, rfl, hs2, hs4⟩ := hd
  have hl5 := hs2.le
  have hl6 := hs4.le
  have lm_ := hm_.le
  refine Exact.start Try.func66 rfl Try.ntmps66 rfl fun wld => ?_
  refine WC.seq ?_
  refine WC.region ?_
  refine WL.tn (T.boxB rfl rfl) (by decide) fun b7 => ?_
  refine WL.x (X.assign rfl) (by decide) ?_
  refine WL.x (X.assign rfl) (by decide) ?_
  refine WL.nil ?_
  refine WK.nThen ?_
  refine WC.seq ?_
  refine WC.region ?_
  refine WL.x (X.loadBA (k := 0) Try.isAgg25 Try.sizeOf25 rfl rfl rfl) (by decide) ?_
  refine WL.x (X.move rfl) (by decide) ?_
  refine WL.x (X.call Try.call83 rfl (asked83 _ _ d ⟨_, _, rfl, hs2, hs4⟩ _ _ hm_ )) (by decide) ?_
  refine WL.x (X.assign rfl) (by decide) ?_
  refine WL.nil ?_
  refine WK.nThen ?_
  refine WC.seq ?_
  refine WC.seq ?_
  refine WC.region ?_
  refine WL.x (X.move rfl) (by decide) ?_
  refine WL.condn (X.neq rfl rfl) (by decide) (fun h8 => ?_) (fun h8 => ?_)
  · refine WL.nil ?_
    refine WK.nThen ?_
    refine WC.condT rfl ?_
    refine WC.seq ?_
    refine WC.region ?_
    refine WL.x (X.move rfl) (by decide) ?_
    refine WL.x (X.assign rfl) (by decide) ?_
    refine WL.x (X.assign rfl) (by decide) ?_
    refine WL.nil ?_
    refine WK.nThen ?_
    refine WC.ret ?_
    refine WK.rThen ?_
    refine WK.ret2 rfl rfl rfl (fun w' hw' => Ret.exact hw' ?_)
    first | exact tup2 (bool_eq (by rw [feasR_err (by omega)])) (int_eq (by rw [feasR_err (by omega)])) | exact tup2 (bool_eq (by rw [sp_feas (by omega)])) (int_eq (by rw [sp_feas (by omega)]))
  · refine WL.nil ?_
    refine WK.nThen ?_
    refine WC.condF rfl ?_
    refine WC.skip ?_
    refine WK.nThen ?_
    refine WC.seq ?_
    have hok := Ok.of (d := d) (m := m_) (by omega)
    have hv := hok.val
    have hn_ := hok.n
    refine WC.region ?_
    refine WL.x (X.loadBA (k := 0) Try.isAgg25 Try.sizeOf25 rfl rfl rfl) (by decide) ?_
    refine WL.x (X.move rfl) (by decide) ?_
    refine WL.tm (T.call Try.call89 rfl (spans89 _ _ d ⟨_, _, rfl, hs2, hs4⟩ _ _ hm_ (by first | assumption | omega) (by first | assumption | omega))) (by decide) fun m9 r10 hle11 hR12 => ?_
    obtain ⟨v13, rfl, hs14⟩ := hR12
    replace hs2 := hs2.mono hle11
    replace hs4 := hs4.mono hle11
    replace hm_ := hm_.mono hle11
    have hl15 := hs14.le
    refine WL.x (X.move rfl) (by decide) ?_
    refine WL.x (X.extract rfl rfl) (by decide) ?_
    refine WL.x (X.extract rfl rfl) (by decide) ?_
    refine WL.x (X.assign rfl) (by decide) ?_
    refine WL.x (X.assign rfl) (by decide) ?_
    refine WL.nil ?_
    refine WK.nThen ?_
    refine WC.seq ?_
    refine WC.region ?_
    refine WL.x (X.move rfl) (by decide) ?_
    refine WL.x (X.assign rfl) (by decide) ?_
    refine WL.x (X.assign rfl) (by decide) ?_
    refine WL.nil ?_
    refine WK.nThen ?_
    refine WC.ret ?_
    refine WK.ret2 rfl rfl rfl (fun w' hw' => Ret.exact hw' ?_)
    first | exact tup2 (bool_eq (by rw [feasR_err (by omega)])) (int_eq (by rw [feasR_err (by omega)])) | exact tup2 (bool_eq (by rw [sp_feas (by omega)])) (int_eq (by rw [sp_feas (by omega)]))

theorem earliest69 (m : Mem) (cd : List Value) (d : Drum) (hd : Enc.rd m cd d) (vm_ : Value) (m_ : List Mark) (hm_ : Sl m vm_ m_)   : Pure Try.prog 69 #[.agg cd.toArray, vm_] m (fun m' v => ∃ r0, v = .tuple #[r0, .int .i64 ((earR d m_).2)] ∧ Sl m' r0 ((earR d m_).1)) := by
  obtain ⟨v1, v3, rfl, hs2, hs4⟩ := hd
  have hl5 := hs2.le
  have hl6 := hs4.le
  have lm_ := hm_.le
  have htl := tol_len d m_
  refine Pure.start Try.func69 rfl Try.ntmps69 rfl fun wld => ?_
  refine WC.seq ?_
  refine WC.region ?_
  refine WL.tn (T.boxB rfl rfl) (by decide) fun b7 => ?_
  refine WL.x (X.assign rfl) (by decide) ?_
  refine WL.x (X.assign rfl) (by decide) ?_
  refine WL.nil ?_
  refine WK.nThen ?_
  refine WC.seq ?_
  refine WC.region ?_
  refine WL.x (X.loadBA (k := 0) Try.isAgg25 Try.sizeOf25 rfl rfl rfl) (by decide) ?_
  refine WL.x (X.move rfl) (by decide) ?_
  refine WL.tm (T.call Try.call78 rfl (told78 _ _ d ⟨_, _, rfl, hs2, hs4⟩ _ _ hm_ )) (by decide) fun m8 r9 hle10 hR11 => ?_
  obtain ⟨v12, rfl, hs13⟩ := hR11
  replace hs2 := hs2.mono hle10
  replace hs4 := hs4.mono hle10
  replace hm_ := hm_.mono hle10
  have hl14 := hs13.le
  refine WL.x (X.move rfl) (by decide) ?_
  refine WL.x (X.extract rfl rfl) (by decide) ?_
  refine WL.x (X.extract rfl rfl) (by decide) ?_
  refine WL.x (X.assign rfl) (by decide) ?_
  refine WL.x (X.assign rfl) (by decide) ?_
  refine WL.nil ?_
  refine WK.nThen ?_
  refine WC.seq ?_
  refine WC.region ?_
  refine WL.x (X.move rfl) (by decide) ?_
  refine WL.tm (T.call Try.call86 rfl (ends86 _ _ _ hs13 _ (by omega))) (by decide) fun m15 r16 hle17 hR18 => ?_
  obtain ⟨v19, hv_, hs20⟩ := hR18
  rw [← hv_] at hs20
  clear hv_ v19
  replace hs2 := hs2.mono hle17
  replace hs4 := hs4.mono hle17
  replace hm_ := hm_.mono hle17
  replace hs13 := hs13.mono hle17
  have hl21 := hs20.le
  refine WL.x (X.move rfl) (by decide) ?_
  refine WL.x (X.assign rfl) (by decide) ?_
  refine WL.x (X.assign rfl) (by decide) ?_
  refine WL.nil ?_
  refine WK.nThen ?_
  refine WC.ret ?_
  refine WK.ret2 rfl rfl rfl (fun w' hw' => Ret.mem hw' ?_)
  first | (exfalso; omega) | exact ⟨_, tup2 rfl (int_eq (by rw [ear_tol])), by rw [ear_tol]; exact hs20⟩

theorem latest70 (m : Mem) (cd : List Value) (d : Drum) (hd : Enc.rd m cd d) (vm_ : Value) (m_ : List Mark) (hm_ : Sl m vm_ m_)   : Pure Try.prog 70 #[.agg cd.toArray, vm_] m (fun m' v => ∃ r0, v = .tuple #[r0, .int .i64 ((latR d m_).2)] ∧ Sl m' r0 ((latR d m_).1)) := by
  obtain ⟨v1, v3, rfl, hs2, hs4⟩ := hd
  have hl5 := hs2.le
  have hl6 := hs4.le
  have lm_ := hm_.le
  have htl := tol_len d m_
  refine Pure.start Try.func70 rfl Try.ntmps70 rfl fun wld => ?_
  refine WC.seq ?_
  refine WC.region ?_
  refine WL.tn (T.boxB rfl rfl) (by decide) fun b7 => ?_
  refine WL.x (X.assign rfl) (by decide) ?_
  refine WL.x (X.assign rfl) (by decide) ?_
  refine WL.nil ?_
  refine WK.nThen ?_
  refine WC.seq ?_
  refine WC.region ?_
  refine WL.x (X.loadBA (k := 0) Try.isAgg25 Try.sizeOf25 rfl rfl rfl) (by decide) ?_
  refine WL.x (X.move rfl) (by decide) ?_
  refine WL.tm (T.call Try.call78 rfl (told78 _ _ d ⟨_, _, rfl, hs2, hs4⟩ _ _ hm_ )) (by decide) fun m8 r9 hle10 hR11 => ?_
  obtain ⟨v12, rfl, hs13⟩ := hR11
  replace hs2 := hs2.mono hle10
  replace hs4 := hs4.mono hle10
  replace hm_ := hm_.mono hle10
  have hl14 := hs13.le
  refine WL.x (X.move rfl) (by decide) ?_
  refine WL.x (X.extract rfl rfl) (by decide) ?_
  refine WL.x (X.extract rfl rfl) (by decide) ?_
  refine WL.x (X.assign rfl) (by decide) ?_
  refine WL.x (X.assign rfl) (by decide) ?_
  refine WL.nil ?_
  refine WK.nThen ?_
  refine WC.seq ?_
  refine WC.region ?_
  refine WL.x (X.move rfl) (by decide) ?_
  refine WL.tm (T.call Try.call86 rfl (ends86 _ _ _ hs13 _ (by omega))) (by decide) fun m15 r16 hle17 hR18 => ?_
  obtain ⟨v19, hv_, hs20⟩ := hR18
  rw [← hv_] at hs20
  clear hv_ v19
  replace hs2 := hs2.mono hle17
  replace hs4 := hs4.mono hle17
  replace hm_ := hm_.mono hle17
  replace hs13 := hs13.mono hle17
  have hl21 := hs20.le
  refine WL.x (X.move rfl) (by decide) ?_
  refine WL.x (X.assign rfl) (by decide) ?_
  refine WL.x (X.assign rfl) (by decide) ?_
  refine WL.nil ?_
  refine WK.nThen ?_
  refine WC.ret ?_
  refine WK.ret2 rfl rfl rfl (fun w' hw' => Ret.mem hw' ?_)
  first | (exfalso; omega) | exact ⟨_, tup2 rfl (int_eq (by rw [lat_tol])), by rw [lat_tol]; exact hs20⟩

theorem span71 (m : Mem) (cd : List Value) (d : Drum) (hd : Enc.rd m cd d) (vm_ : Value) (m_ : List Mark) (hm_ : Sl m vm_ m_) (a : Int)   : Exact Try.prog 71 #[.agg cd.toArray, vm_, .int .i64 (a)] m (.tuple #[.agg [.int .i64 ((spanR d m_ a).1.Lo), .int .i64 ((spanR d m_ a).1.Hi)].toArray, .int .i64 ((spanR d m_ a).2)]) := by
  obtain ⟨v1, v3, rfl, hs2, hs4⟩ := hd
  have hl5 := hs2.le
  have hl6 := hs4.le
  have lm_ := hm_.le
  refine Exact.start Try.func71 rfl Try.ntmps71 rfl fun wld => ?_
  refine WC.seq ?_
  refine WC.region ?_
  refine WL.tn (T.boxB rfl rfl) (by decide) fun b7 => ?_
  refine WL.tn (T.alloc Try.zeroValue31 rfl) (by decide) fun b8 => ?_
  refine WL.x (X.assign rfl) (by decide) ?_
  refine WL.nil ?_
  refine WK.nThen ?_
  refine WC.seq ?_
  refine WC.region ?_
  refine WL.x (X.loadBA (k := 1) Try.isAgg25 Try.sizeOf25 rfl rfl rfl) (by decide) ?_
  refine WL.x (X.move rfl) (by decide) ?_
  refine WL.x (X.move rfl) (by decide) ?_
  refine WL.x (X.move rfl) (by decide) ?_
  refine WL.x (X.call Try.call77 rfl (columns77 _ _ d ⟨_, _, rfl, hs2, hs4⟩ _ _ hm_ _ _ )) (by decide) ?_
  refine WL.x (X.assign rfl) (by decide) ?_
  refine WL.nil ?_
  refine WK.nThen ?_
  refine WC.seq ?_
  refine WC.seq ?_
  refine WC.region ?_
  refine WL.x (X.move rfl) (by decide) ?_
  refine WL.condn (X.neq rfl rfl) (by decide) (fun h9 => ?_) (fun h9 => ?_)
  · refine WL.nil ?_
    refine WK.nThen ?_
    refine WC.condT rfl ?_
    refine WC.seq ?_
    refine WC.region ?_
    refine WL.x (V := Value.agg [.int .i64 (0), .int .i64 (0)].toArray) (X.build Try.zeroValue31 Try.runUnderlying31 (places31 _ Try.underlying31) rfl rfl) (by decide) ?_
    refine WL.x (X.move rfl) (by decide) ?_
    refine WL.ts (T.storeBA (k := 0) Try.sizeOf31 rfl rfl rfl (one_cons rfl (one_cons rfl one_nil)) rfl rfl) ?_
    refine WL.x (X.assign rfl) (by decide) ?_
    refine WL.nil ?_
    refine WK.nThen ?_
    refine WC.ret ?_
    refine WK.rThen ?_
    refine WK.retC2 0 rfl rfl rfl rfl Try.isAgg31 Try.sizeOf31 (fun w' hw' => Ret.exact hw' ?_)
    first | exact tup2 (agg2i (by rw [span_col (by omega)]) (by rw [span_col (by omega)])) (int_eq (by rw [span_col (by omega)])) | exact tup2 (agg2i (by rw [span_tol (by omega) (by omega)]) (by rw [span_tol (by omega) (by omega)])) (int_eq (by rw [span_tol (by omega) (by omega)])) | exact tup2 (agg2i (by rw [span_sp (by omega) (by omega)]) (by rw [span_sp (by omega) (by omega)])) (int_eq (by rw [span_sp (by omega) (by omega)]))
  · refine WL.nil ?_
    refine WK.nThen ?_
    refine WC.condF rfl ?_
    refine WC.skip ?_
    refine WK.nThen ?_
    refine WC.seq ?_
    refine WC.region ?_
    refine WL.x (X.loadBA (k := 1) Try.isAgg25 Try.sizeOf25 rfl rfl rfl) (by decide) ?_
    refine WL.x (X.move rfl) (by decide) ?_
    refine WL.tm (T.call Try.call78 rfl (told78 _ _ d ⟨_, _, rfl, hs2, hs4⟩ _ _ hm_ )) (by decide) fun m10 r11 hle12 hR13 => ?_
    obtain ⟨v14, rfl, hs15⟩ := hR13
    replace hs2 := hs2.mono hle12
    replace hs4 := hs4.mono hle12
    replace hm_ := hm_.mono hle12
    have hl16 := hs15.le
    refine WL.x (X.move rfl) (by decide) ?_
    refine WL.x (X.extract rfl rfl) (by decide) ?_
    refine WL.x (X.extract rfl rfl) (by decide) ?_
    refine WL.x (X.assign rfl) (by decide) ?_
    refine WL.x (X.assign rfl) (by decide) ?_
    refine WL.nil ?_
    refine WK.nThen ?_
    refine WC.seq ?_
    refine WC.seq ?_
    refine WC.region ?_
    refine WL.x (X.move rfl) (by decide) ?_
    refine WL.condn (X.neq rfl rfl) (by decide) (fun h17 => ?_) (fun h17 => ?_)
    · refine WL.nil ?_
      refine WK.nThen ?_
      refine WC.condT rfl ?_
      refine WC.seq ?_
      refine WC.region ?_
      refine WL.x (V := Value.agg [.int .i64 (0), .int .i64 (0)].toArray) (X.build Try.zeroValue31 Try.runUnderlying31 (places31 _ Try.underlying31) rfl rfl) (by decide) ?_
      refine WL.x (X.move rfl) (by decide) ?_
      refine WL.ts (T.storeBA (k := 0) Try.sizeOf31 rfl rfl rfl (one_cons rfl (one_cons rfl one_nil)) rfl rfl) ?_
      refine WL.x (X.assign rfl) (by decide) ?_
      refine WL.nil ?_
      refine WK.nThen ?_
      refine WC.ret ?_
      refine WK.rThen ?_
      refine WK.retC2 0 rfl rfl rfl rfl Try.isAgg31 Try.sizeOf31 (fun w' hw' => Ret.exact hw' ?_)
      first | exact tup2 (agg2i (by rw [span_col (by omega)]) (by rw [span_col (by omega)])) (int_eq (by rw [span_col (by omega)])) | exact tup2 (agg2i (by rw [span_tol (by omega) (by omega)]) (by rw [span_tol (by omega) (by omega)])) (int_eq (by rw [span_tol (by omega) (by omega)])) | exact tup2 (agg2i (by rw [span_sp (by omega) (by omega)]) (by rw [span_sp (by omega) (by omega)])) (int_eq (by rw [span_sp (by omega) (by omega)]))
    · refine WL.nil ?_
      refine WK.nThen ?_
      refine WC.condF rfl ?_
      refine WC.skip ?_
      refine WK.nThen ?_
      refine WC.seq ?_
      have hcz := col_zero (d := d) (m := m_) (a := a) (b := a) (by omega)
      have htz := tol_zero (d := d) (m := m_) (by omega)
      have htl_ : (tolR d m_).1.length = d.Rates.length + 1 := (by rw [htz.2.2, setD_len])
      have hcz2 := hcz.2.1
      refine WC.region ?_
      refine WL.x (X.move rfl) (by decide) ?_
      refine WL.x (X.move rfl) (by decide) ?_
      refine WL.xe (E.idx Try.runUnderlying22 Try.sizeOf31 rfl rfl hs15 (by omega) (by omega)) (by decide) (fun p18 hp19 => ?_)
      refine WL.xe (E.loadAgg Try.isAgg31 Try.sizeOf31 rfl hp19) (by decide) (fun c20 hc21 => ?_)
      obtain rfl := hc21
      refine WL.ts (T.storeBA (k := 0) Try.sizeOf31 rfl rfl rfl (one_cons rfl (one_cons rfl one_nil)) rfl rfl) ?_
      refine WL.x (X.assign rfl) (by decide) ?_
      refine WL.nil ?_
      refine WK.nThen ?_
      refine WC.ret ?_
      refine WK.retC2 0 rfl rfl rfl rfl Try.isAgg31 Try.sizeOf31 (fun w' hw' => Ret.exact hw' ?_)
      first | exact tup2 (agg2i (by rw [span_col (by omega)]) (by rw [span_col (by omega)])) (int_eq (by rw [span_col (by omega)])) | exact tup2 (agg2i (by rw [span_tol (by omega) (by omega)]) (by rw [span_tol (by omega) (by omega)])) (int_eq (by rw [span_tol (by omega) (by omega)])) | exact tup2 (agg2i (by rw [span_sp (by omega) (by omega)]) (by rw [span_sp (by omega) (by omega)])) (int_eq (by rw [span_sp (by omega) (by omega)]))

theorem with73 (m : Mem) (cd : List Value) (d : Drum) (hd : Enc.rd m cd d) (vm_ : Value) (m_ : List Mark) (hm_ : Sl m vm_ m_) (column : Int) (tick : Int)   : Pure Try.prog 73 #[.agg cd.toArray, vm_, .int .i64 (column), .int .i64 (tick)] m (fun m' v => ∃ r0, v = .tuple #[r0, .int .i64 ((withR d m_ column tick).2)] ∧ Sl m' r0 ((withR d m_ column tick).1)) := by
  obtain ⟨v1, v3, rfl, hs2, hs4⟩ := hd
  have hl5 := hs2.le
  have hl6 := hs4.le
  have lm_ := hm_.le
  refine Pure.start Try.func73 rfl Try.ntmps73 rfl fun wld => ?_
  refine WC.seq ?_
  refine WC.region ?_
  refine WL.tn (T.boxB rfl rfl) (by decide) fun b7 => ?_
  refine WL.x (X.assign rfl) (by decide) ?_
  refine WL.x (X.assign rfl) (by decide) ?_
  refine WL.nil ?_
  refine WK.nThen ?_
  refine WC.seq ?_
  refine WC.region ?_
  refine WL.x (X.loadBA (k := 0) Try.isAgg25 Try.sizeOf25 rfl rfl rfl) (by decide) ?_
  refine WL.x (X.move rfl) (by decide) ?_
  refine WL.x (X.move rfl) (by decide) ?_
  refine WL.x (X.move rfl) (by decide) ?_
  refine WL.x (X.call Try.call77 rfl (columns77 _ _ d ⟨_, _, rfl, hs2, hs4⟩ _ _ hm_ _ _ )) (by decide) ?_
  refine WL.x (X.assign rfl) (by decide) ?_
  refine WL.nil ?_
  refine WK.nThen ?_
  refine WC.seq ?_
  refine WC.seq ?_
  refine WC.region ?_
  refine WL.x (X.move rfl) (by decide) ?_
  refine WL.cond (X.eql rfl rfl) (by decide) (fun h8 => ?_) (fun h8 => ?_)
  · refine WL.x (X.move rfl) (by decide) ?_
    refine WL.yes rfl rfl ?_
    refine WL.x (X.move rfl) (by decide) ?_
    refine WL.yes rfl rfl ?_
    refine WL.cond (X.call Try.call84 rfl (within84 _ _ _ _ )) (by decide) (fun h9 => ?_) (fun h9 => ?_)
    · refine WL.yes rfl rfl ?_
      refine WL.x (X.not rfl) (by decide) ?_
      refine WL.x (X.pickT rfl rfl rfl) (by decide) ?_
      refine WL.nil ?_
      refine WK.nThen ?_
      refine WC.condF rfl ?_
      refine WC.skip ?_
      refine WK.nThen ?_
      refine WC.seq ?_
      refine WC.seq ?_
      refine WC.region ?_
      refine WL.x (X.move rfl) (by decide) ?_
      refine WL.x (OpX.t (X.eql rfl rfl) h8) (by decide) ?_
      refine WL.nil ?_
      refine WK.nThen ?_
      refine WC.condT rfl ?_
      refine WC.region ?_
      refine WL.x (X.loadBA (k := 0) Try.isAgg25 Try.sizeOf25 rfl rfl rfl) (by decide) ?_
      refine WL.x (X.move rfl) (by decide) ?_
      refine WL.tm (T.call Try.call78 rfl (told78 _ _ d ⟨_, _, rfl, hs2, hs4⟩ _ _ hm_ )) (by decide) fun m10 r11 hle12 hR13 => ?_
      obtain ⟨v14, rfl, hs15⟩ := hR13
      replace hs2 := hs2.mono hle12
      replace hs4 := hs4.mono hle12
      replace hm_ := hm_.mono hle12
      have hl16 := hs15.le
      refine WL.x (X.move rfl) (by decide) ?_
      refine WL.x (X.extract rfl rfl) (by decide) ?_
      refine WL.x (X.extract rfl rfl) (by decide) ?_
      refine WL.x (X.assign rfl) (by decide) ?_
      refine WL.nil ?_
      refine WK.nThen ?_
      refine WC.seq ?_
      refine WC.seq ?_
      refine WC.region ?_
      refine WL.x (X.move rfl) (by decide) ?_
      refine WL.condn (X.neq rfl rfl) (by decide) (fun h17 => ?_) (fun h17 => ?_)
      · refine WL.nil ?_
        refine WK.nThen ?_
        refine WC.condT rfl ?_
        refine WC.seq ?_
        refine WC.region ?_
        refine WL.x (X.move rfl) (by decide) ?_
        refine WL.x (X.assign rfl) (by decide) ?_
        refine WL.x (X.assign rfl) (by decide) ?_
        refine WL.nil ?_
        refine WK.nThen ?_
        refine WC.ret ?_
        refine WK.rThen ?_
        refine WK.ret2 rfl rfl rfl (fun w' hw' => Ret.mem hw' ?_)
        first | (exfalso; omega) | exact ⟨_, tup2 rfl (int_eq (by rw [with_col (by omega)])), by rw [with_col (by omega)]; exact .nil⟩ | exact ⟨_, tup2 rfl (int_eq (by rw [with_tick (by omega) (by omega)])), by rw [with_tick (by omega) (by omega)]; exact .nil⟩ | exact ⟨_, tup2 rfl (int_eq (by rw [with_tol (by omega) (by omega) (by omega)])), by rw [with_tol (by omega) (by omega) (by omega)]; exact .nil⟩ | exact ⟨_, tup2 rfl (int_eq (by rw [with_no hop hno])), by rw [with_no hop hno]; exact .nil⟩ | exact ⟨_, tup2 rfl (int_eq (by rw [with_yes hop hye.1])), by rw [with_yes hop hye.1, ← hye.2]; exact .nil⟩
      · refine WL.nil ?_
        refine WK.nThen ?_
        refine WC.condF rfl ?_
        refine WC.skip ?_
        refine WK.nThen ?_
        refine WC.seq ?_
        have hcz := col_zero (d := d) (m := m_) (a := column) (b := column) (by omega)
        have hok := hcz.1
        have hn_ := hok.n
        have hop := with_op (d := d) (m := m_) (c := column) (t := tick) (by omega) (by omega) (by omega)
        have hv := hok.val.one hcz.2.1 (t := tick) (by omega)
        have hle_ : ((m_ ++ [⟨column, ⟨tick, tick⟩⟩]) : List Mark).length ≤ 1000 := (by simp; omega)
        refine WC.draw (π := (.cons 0 (.cons 1 (.cons 2 (.cons 3 (.cons 4 (.cons 5 (.cons 6 (.cons 7 (.cons 8 (.cons 9 (.cons 10 (.cons 11 (.cons 12 (.cons 13 .done))))))))))))))) [7, 8] [] rfl (by kernel_rfl) ?_
        refine DW.x rfl rfl (X.loadBA (k := 0) Try.isAgg25 Try.sizeOf25 rfl rfl rfl) (by decide) ?_
        refine DW.x rfl rfl (X.move rfl) (by decide) ?_
        refine DW.x rfl rfl (X.move rfl) (by decide) ?_
        refine DW.x rfl rfl (X.move rfl) (by decide) ?_
        refine DW.x rfl rfl (X.move rfl) (by decide) ?_
        refine DW.x (V := Value.agg [.int .i64 (tick), .int .i64 (tick)].toArray) rfl rfl (X.build Try.zeroValue31 Try.runUnderlying31 (places31 _ Try.underlying31) rfl rfl) (by decide) ?_
        refine DW.x (V := Value.agg [.int .i64 (column), .int .i64 (tick), .int .i64 (tick)].toArray) rfl rfl (X.build Try.zeroValue33 Try.runUnderlying33 (places33 _ Try.underlying33) rfl rfl) (by decide) ?_
        refine DW.tm rfl rfl rfl (T.call Try.call90 rfl (with90 _ _ _ hm_ _ ((Mark.mk (column) ((Span.mk (tick) (tick))))) rfl (by omega))) (by decide) fun m18 r19 hle20 hR21 => ?_
        obtain ⟨v22, hv_, hs23⟩ := hR21
        rw [← hv_] at hs23
        clear hv_ v22
        replace hs2 := hs2.mono hle20
        replace hs4 := hs4.mono hle20
        replace hm_ := hm_.mono hle20
        replace hs15 := hs15.mono hle20
        have hl24 := hs23.le
        refine DW.tm rfl rfl rfl (T.call Try.call89 rfl (spans89 _ _ d ⟨_, _, rfl, hs2, hs4⟩ _ _ hs23 (by first | assumption | omega) (by first | assumption | omega))) (by decide) fun m25 r26 hle27 hR28 => ?_
        obtain ⟨v29, rfl, hs30⟩ := hR28
        replace hs2 := hs2.mono hle27
        replace hs4 := hs4.mono hle27
        replace hm_ := hm_.mono hle27
        replace hs15 := hs15.mono hle27
        replace hs23 := hs23.mono hle27
        have hl31 := hs30.le
        refine DW.x rfl rfl (X.move rfl) (by decide) ?_
        refine DW.x rfl rfl (X.extract rfl rfl) (by decide) ?_
        refine DW.x rfl rfl (X.extract rfl rfl) (by decide) ?_
        refine DW.x rfl rfl (X.assign rfl) (by decide) ?_
        refine DW.x rfl rfl (X.assign rfl) (by decide) ?_
        refine DW.nil ?_
        refine WK.nThen ?_
        refine WC.seq ?_
        refine WC.seq ?_
        refine WC.region ?_
        refine WL.x (X.move rfl) (by decide) ?_
        refine WL.condb (X.not rfl) (by decide) (fun h32 => ?_) (fun h32 => ?_)
        · refine WL.nil ?_
          refine WK.nThen ?_
          refine WC.condT rfl ?_
          refine WC.seq ?_
          have hno := spR_false (d := d) (m := (m_ ++ [⟨column, ⟨tick, tick⟩⟩])) (by simp_all)
          refine WC.region ?_
          refine WL.x (X.assign rfl) (by decide) ?_
          refine WL.x (X.assign rfl) (by decide) ?_
          refine WL.nil ?_
          refine WK.nThen ?_
          refine WC.ret ?_
          refine WK.rThen ?_
          refine WK.ret2 rfl rfl rfl (fun w' hw' => Ret.mem hw' ?_)
          first | (exfalso; omega) | exact ⟨_, tup2 rfl (int_eq (by rw [with_col (by omega)])), by rw [with_col (by omega)]; exact .nil⟩ | exact ⟨_, tup2 rfl (int_eq (by rw [with_tick (by omega) (by omega)])), by rw [with_tick (by omega) (by omega)]; exact .nil⟩ | exact ⟨_, tup2 rfl (int_eq (by rw [with_tol (by omega) (by omega) (by omega)])), by rw [with_tol (by omega) (by omega) (by omega)]; exact .nil⟩ | exact ⟨_, tup2 rfl (int_eq (by rw [with_no hop hno])), by rw [with_no hop hno]; exact .nil⟩ | exact ⟨_, tup2 rfl (int_eq (by rw [with_yes hop hye.1])), by rw [with_yes hop hye.1, ← hye.2]; exact .nil⟩
        · refine WL.nil ?_
          refine WK.nThen ?_
          refine WC.condF rfl ?_
          refine WC.skip ?_
          refine WK.nThen ?_
          refine WC.seq ?_
          have hye := spR_true (d := d) (m := (m_ ++ [⟨column, ⟨tick, tick⟩⟩])) (by simp_all)
          have htl_ : (spR d (m_ ++ [⟨column, ⟨tick, tick⟩⟩])).1.length = d.Rates.length + 1 := (by rw [hye.2, setD_len])
          have hd1 := hok.dr.1
          refine WC.region ?_
          refine WL.x (X.move rfl) (by decide) ?_
          refine WL.tm (T.call Try.call86 rfl (ends86 _ _ _ hs30 _ (by omega))) (by decide) fun m33 r34 hle35 hR36 => ?_
          obtain ⟨v37, hv_, hs38⟩ := hR36
          rw [← hv_] at hs38
          clear hv_ v37
          replace hs2 := hs2.mono hle35
          replace hs4 := hs4.mono hle35
          replace hm_ := hm_.mono hle35
          replace hs15 := hs15.mono hle35
          replace hs23 := hs23.mono hle35
          replace hs30 := hs30.mono hle35
          have hl39 := hs38.le
          refine WL.x (X.assign rfl) (by decide) ?_
          refine WL.x (X.assign rfl) (by decide) ?_
          refine WL.nil ?_
          refine WK.nThen ?_
          refine WC.ret ?_
          refine WK.ret2 rfl rfl rfl (fun w' hw' => Ret.mem hw' ?_)
          first | (exfalso; omega) | exact ⟨_, tup2 rfl (int_eq (by rw [with_col (by omega)])), by rw [with_col (by omega)]; exact hs38⟩ | exact ⟨_, tup2 rfl (int_eq (by rw [with_tick (by omega) (by omega)])), by rw [with_tick (by omega) (by omega)]; exact hs38⟩ | exact ⟨_, tup2 rfl (int_eq (by rw [with_tol (by omega) (by omega) (by omega)])), by rw [with_tol (by omega) (by omega) (by omega)]; exact hs38⟩ | exact ⟨_, tup2 rfl (int_eq (by rw [with_no hop hno])), by rw [with_no hop hno]; exact hs38⟩ | exact ⟨_, tup2 rfl (int_eq (by rw [with_yes hop hye.1])), by rw [with_yes hop hye.1, ← hye.2]; exact hs38⟩
    · refine WL.yes rfl rfl ?_
      refine WL.x (X.not rfl) (by decide) ?_
      refine WL.x (X.pickT rfl rfl rfl) (by decide) ?_
      refine WL.nil ?_
      refine WK.nThen ?_
      refine WC.condT rfl ?_
      refine WC.seq ?_
      refine WC.region ?_
      refine WL.x (X.assign rfl) (by decide) ?_
      refine WL.x (X.assign rfl) (by decide) ?_
      refine WL.nil ?_
      refine WK.nThen ?_
      refine WC.ret ?_
      refine WK.rThen ?_
      refine WK.ret2 rfl rfl rfl (fun w' hw' => Ret.mem hw' ?_)
      first | (exfalso; omega) | exact ⟨_, tup2 rfl (int_eq (by rw [with_col (by omega)])), by rw [with_col (by omega)]; exact .nil⟩ | exact ⟨_, tup2 rfl (int_eq (by rw [with_tick (by omega) (by omega)])), by rw [with_tick (by omega) (by omega)]; exact .nil⟩ | exact ⟨_, tup2 rfl (int_eq (by rw [with_tol (by omega) (by omega) (by omega)])), by rw [with_tol (by omega) (by omega) (by omega)]; exact .nil⟩ | exact ⟨_, tup2 rfl (int_eq (by rw [with_no hop hno])), by rw [with_no hop hno]; exact .nil⟩ | exact ⟨_, tup2 rfl (int_eq (by rw [with_yes hop hye.1])), by rw [with_yes hop hye.1, ← hye.2]; exact .nil⟩
  · refine WL.x (X.move rfl) (by decide) ?_
    refine WL.no rfl rfl rfl (by decide) ?_
    refine WL.no rfl rfl rfl (by decide) ?_
    refine WL.no rfl rfl rfl (by decide) ?_
    refine WL.x (X.pickF rfl rfl rfl) (by decide) ?_
    refine WL.nil ?_
    refine WK.nThen ?_
    refine WC.condF rfl ?_
    refine WC.skip ?_
    refine WK.nThen ?_
    refine WC.seq ?_
    refine WC.seq ?_
    refine WC.region ?_
    refine WL.x (X.move rfl) (by decide) ?_
    refine WL.x (OpX.f (X.eql rfl rfl) h8) (by decide) ?_
    refine WL.nil ?_
    refine WK.nThen ?_
    refine WC.condF rfl ?_
    refine WC.skip ?_
    refine WK.nThen ?_
    refine WC.seq ?_
    refine WC.seq ?_
    refine WC.region ?_
    refine WL.x (X.move rfl) (by decide) ?_
    refine WL.condn (X.neq rfl rfl) (by decide) (fun h40 => ?_) (fun h40 => ?_)
    · refine WL.nil ?_
      refine WK.nThen ?_
      refine WC.condT rfl ?_
      refine WC.seq ?_
      refine WC.region ?_
      refine WL.x (X.move rfl) (by decide) ?_
      refine WL.x (X.assign rfl) (by decide) ?_
      refine WL.x (X.assign rfl) (by decide) ?_
      refine WL.nil ?_
      refine WK.nThen ?_
      refine WC.ret ?_
      refine WK.rThen ?_
      refine WK.ret2 rfl rfl rfl (fun w' hw' => Ret.mem hw' ?_)
      first | (exfalso; omega) | exact ⟨_, tup2 rfl (int_eq (by rw [with_col (by omega)])), by rw [with_col (by omega)]; exact .nil⟩ | exact ⟨_, tup2 rfl (int_eq (by rw [with_tick (by omega) (by omega)])), by rw [with_tick (by omega) (by omega)]; exact .nil⟩ | exact ⟨_, tup2 rfl (int_eq (by rw [with_tol (by omega) (by omega) (by omega)])), by rw [with_tol (by omega) (by omega) (by omega)]; exact .nil⟩ | exact ⟨_, tup2 rfl (int_eq (by rw [with_no hop hno])), by rw [with_no hop hno]; exact .nil⟩ | exact ⟨_, tup2 rfl (int_eq (by rw [with_yes hop hye.1])), by rw [with_yes hop hye.1, ← hye.2]; exact .nil⟩
    · refine WL.nil ?_
      refine WK.nThen ?_
      refine WC.condF rfl ?_
      refine WC.skip ?_
      refine WK.nThen ?_
      refine WC.seq ?_
      have hcz := col_zero (d := d) (m := m_) (a := column) (b := column) (by omega)
      have hok := hcz.1
      have hn_ := hok.n
      have hop := with_op (d := d) (m := m_) (c := column) (t := tick) (by omega) (by omega) (by omega)
      have hv := hok.val.one hcz.2.1 (t := tick) (by omega)
      have hle_ : ((m_ ++ [⟨column, ⟨tick, tick⟩⟩]) : List Mark).length ≤ 1000 := (by simp; omega)
      refine WC.draw (π := (.cons 0 (.cons 1 (.cons 2 (.cons 3 (.cons 4 (.cons 5 (.cons 6 (.cons 7 (.cons 8 (.cons 9 (.cons 10 (.cons 11 (.cons 12 (.cons 13 .done))))))))))))))) [7, 8] [] rfl (by kernel_rfl) ?_
      refine DW.x rfl rfl (X.loadBA (k := 0) Try.isAgg25 Try.sizeOf25 rfl rfl rfl) (by decide) ?_
      refine DW.x rfl rfl (X.move rfl) (by decide) ?_
      refine DW.x rfl rfl (X.move rfl) (by decide) ?_
      refine DW.x rfl rfl (X.move rfl) (by decide) ?_
      refine DW.x rfl rfl (X.move rfl) (by decide) ?_
      refine DW.x (V := Value.agg [.int .i64 (tick), .int .i64 (tick)].toArray) rfl rfl (X.build Try.zeroValue31 Try.runUnderlying31 (places31 _ Try.underlying31) rfl rfl) (by decide) ?_
      refine DW.x (V := Value.agg [.int .i64 (column), .int .i64 (tick), .int .i64 (tick)].toArray) rfl rfl (X.build Try.zeroValue33 Try.runUnderlying33 (places33 _ Try.underlying33) rfl rfl) (by decide) ?_
      refine DW.tm rfl rfl rfl (T.call Try.call90 rfl (with90 _ _ _ hm_ _ ((Mark.mk (column) ((Span.mk (tick) (tick))))) rfl (by omega))) (by decide) fun m41 r42 hle43 hR44 => ?_
      obtain ⟨v45, hv_, hs46⟩ := hR44
      rw [← hv_] at hs46
      clear hv_ v45
      replace hs2 := hs2.mono hle43
      replace hs4 := hs4.mono hle43
      replace hm_ := hm_.mono hle43
      have hl47 := hs46.le
      refine DW.tm rfl rfl rfl (T.call Try.call89 rfl (spans89 _ _ d ⟨_, _, rfl, hs2, hs4⟩ _ _ hs46 (by first | assumption | omega) (by first | assumption | omega))) (by decide) fun m48 r49 hle50 hR51 => ?_
      obtain ⟨v52, rfl, hs53⟩ := hR51
      replace hs2 := hs2.mono hle50
      replace hs4 := hs4.mono hle50
      replace hm_ := hm_.mono hle50
      replace hs46 := hs46.mono hle50
      have hl54 := hs53.le
      refine DW.x rfl rfl (X.move rfl) (by decide) ?_
      refine DW.x rfl rfl (X.extract rfl rfl) (by decide) ?_
      refine DW.x rfl rfl (X.extract rfl rfl) (by decide) ?_
      refine DW.x rfl rfl (X.assign rfl) (by decide) ?_
      refine DW.x rfl rfl (X.assign rfl) (by decide) ?_
      refine DW.nil ?_
      refine WK.nThen ?_
      refine WC.seq ?_
      refine WC.seq ?_
      refine WC.region ?_
      refine WL.x (X.move rfl) (by decide) ?_
      refine WL.condb (X.not rfl) (by decide) (fun h55 => ?_) (fun h55 => ?_)
      · refine WL.nil ?_
        refine WK.nThen ?_
        refine WC.condT rfl ?_
        refine WC.seq ?_
        have hno := spR_false (d := d) (m := (m_ ++ [⟨column, ⟨tick, tick⟩⟩])) (by simp_all)
        refine WC.region ?_
        refine WL.x (X.assign rfl) (by decide) ?_
        refine WL.x (X.assign rfl) (by decide) ?_
        refine WL.nil ?_
        refine WK.nThen ?_
        refine WC.ret ?_
        refine WK.rThen ?_
        refine WK.ret2 rfl rfl rfl (fun w' hw' => Ret.mem hw' ?_)
        first | (exfalso; omega) | exact ⟨_, tup2 rfl (int_eq (by rw [with_col (by omega)])), by rw [with_col (by omega)]; exact .nil⟩ | exact ⟨_, tup2 rfl (int_eq (by rw [with_tick (by omega) (by omega)])), by rw [with_tick (by omega) (by omega)]; exact .nil⟩ | exact ⟨_, tup2 rfl (int_eq (by rw [with_tol (by omega) (by omega) (by omega)])), by rw [with_tol (by omega) (by omega) (by omega)]; exact .nil⟩ | exact ⟨_, tup2 rfl (int_eq (by rw [with_no hop hno])), by rw [with_no hop hno]; exact .nil⟩ | exact ⟨_, tup2 rfl (int_eq (by rw [with_yes hop hye.1])), by rw [with_yes hop hye.1, ← hye.2]; exact .nil⟩
      · refine WL.nil ?_
        refine WK.nThen ?_
        refine WC.condF rfl ?_
        refine WC.skip ?_
        refine WK.nThen ?_
        refine WC.seq ?_
        have hye := spR_true (d := d) (m := (m_ ++ [⟨column, ⟨tick, tick⟩⟩])) (by simp_all)
        have htl_ : (spR d (m_ ++ [⟨column, ⟨tick, tick⟩⟩])).1.length = d.Rates.length + 1 := (by rw [hye.2, setD_len])
        have hd1 := hok.dr.1
        refine WC.region ?_
        refine WL.x (X.move rfl) (by decide) ?_
        refine WL.tm (T.call Try.call86 rfl (ends86 _ _ _ hs53 _ (by omega))) (by decide) fun m56 r57 hle58 hR59 => ?_
        obtain ⟨v60, hv_, hs61⟩ := hR59
        rw [← hv_] at hs61
        clear hv_ v60
        replace hs2 := hs2.mono hle58
        replace hs4 := hs4.mono hle58
        replace hm_ := hm_.mono hle58
        replace hs46 := hs46.mono hle58
        replace hs53 := hs53.mono hle58
        have hl62 := hs61.le
        refine WL.x (X.assign rfl) (by decide) ?_
        refine WL.x (X.assign rfl) (by decide) ?_
        refine WL.nil ?_
        refine WK.nThen ?_
        refine WC.ret ?_
        refine WK.ret2 rfl rfl rfl (fun w' hw' => Ret.mem hw' ?_)
        first | (exfalso; omega) | exact ⟨_, tup2 rfl (int_eq (by rw [with_col (by omega)])), by rw [with_col (by omega)]; exact hs61⟩ | exact ⟨_, tup2 rfl (int_eq (by rw [with_tick (by omega) (by omega)])), by rw [with_tick (by omega) (by omega)]; exact hs61⟩ | exact ⟨_, tup2 rfl (int_eq (by rw [with_tol (by omega) (by omega) (by omega)])), by rw [with_tol (by omega) (by omega) (by omega)]; exact hs61⟩ | exact ⟨_, tup2 rfl (int_eq (by rw [with_no hop hno])), by rw [with_no hop hno]; exact hs61⟩ | exact ⟨_, tup2 rfl (int_eq (by rw [with_yes hop hye.1])), by rw [with_yes hop hye.1, ← hye.2]; exact hs61⟩

set_option maxHeartbeats 1000000 in
theorem is120 (m : Mem) (cd : List Value) (d : Drum) (hd : Enc.rd m cd d) (vm_ : Value) (m_ : List Mark) (hm_ : Sl m vm_ m_) (vl : Value) (l : List Int) (hl : Sl m vl l)  (hok : Ok d m_) : Exact Try.prog 120 #[.agg cd.toArray, vm_, vl] m (.bool (decide (keepP d m_ l))) := by
  obtain ⟨v1, v3, rfl, hs2, hs4⟩ := hd
  have hl5 := hs2.le
  have hl6 := hs4.le
  have lm_ := hm_.le
  have ll := hl.le
  have hii := is_iff hok (l := l)
  have hd1 := hok.dr.1
  refine Exact.start Try.func120 rfl Try.ntmps120 rfl fun wld => ?_
  refine WC.seq ?_
  refine WC.region ?_
  refine WL.tn (T.boxB rfl rfl) (by decide) fun b7 => ?_
  refine WL.x (X.assign rfl) (by decide) ?_
  refine WL.nil ?_
  refine WK.nThen ?_
  refine WC.seq ?_
  refine WC.seq ?_
  refine WC.region ?_
  refine WL.x (X.move rfl) (by decide) ?_
  refine WL.x (X.len Try.runUnderlying29 rfl hl) (by decide) ?_
  refine WL.x (X.field Try.runUnderlying25 rfl Try.sizeOf22 rfl) (by decide) ?_
  refine WL.x (X.loadB (k := 0) Try.isAgg22 rfl rfl rfl) (by decide) ?_
  refine WL.x (X.len Try.runUnderlying22 rfl hs2) (by decide) ?_
  refine WL.x (X.add rfl rfl (by omega) (by omega)) (by decide) ?_
  refine WL.condn (X.neq rfl rfl) (by decide) (fun h8 => ?_) (fun h8 => ?_)
  · refine WL.nil ?_
    refine WK.nThen ?_
    refine WC.condT rfl ?_
    refine WC.seq ?_
    refine WC.region ?_
    refine WL.x (X.assign rfl) (by decide) ?_
    refine WL.nil ?_
    refine WK.nThen ?_
    refine WC.ret ?_
    refine WK.rThen ?_
    refine WK.ret1 rfl rfl (fun w' hw' => Ret.exact hw' ?_)
    first | exact bool_false (fun h_ => by have := (hii.1 h_).1; omega) | exact bool_false (fun h_ => by have := (hii.1 h_).2.1 k (by omega); unfold goodJ at this; omega) | exact bool_false (fun h_ => by have := (hii.1 h_).2.2 i (by omega); unfold markJ at this; omega) | exact bool_true (hii.2 ⟨by omega, fun j hj => hall j (by omega), fun j hj => hall2 j (by omega)⟩)
  · refine WL.nil ?_
    refine WK.nThen ?_
    refine WC.condF rfl ?_
    refine WC.skip ?_
    refine WK.nThen ?_
    refine WC.seq ?_
    refine WC.seq ?_
    refine WC.region ?_
    refine WL.x (X.assign rfl) (by decide) ?_
    refine WL.nil ?_
    refine WK.nThen ?_
    refine WC.block ?_
    refine WC.loop (G := Nat) (fun k => l.length - k) (fun k => m) (fun k => [blk b7 25 [v1, v3]]) (fun k => [(1, vm_), (2, vl), (3, .pointer (some ⟨b7, 0, none⟩)), (7, .int .i64 (↑k))]) (fun k => k ≤ l.length ∧ (∀ j, j < k → goodJ d l j)) 0 rfl (.refl _) (.cons rfl (.cons rfl (.cons rfl (.cons rfl .nil)))) ?_ ?_
    · exact ⟨Nat.zero_le _, fun j hj => absurd hj (Nat.not_lt_zero _)⟩
    · rintro k hF9
      show WK _ _ m [blk b7 25 [v1, v3]] [(1, vm_), (2, vl), (3, .pointer (some ⟨b7, 0, none⟩)), (7, .int .i64 (↑k))] _
      replace hF9 : k ≤ l.length ∧ (∀ j, j < k → goodJ d l j) := hF9
      obtain ⟨hk, hall⟩ := hF9
      refine WC.seq ?_
      refine WC.seq ?_
      refine WC.region ?_
      refine WL.x (X.move rfl) (by decide) ?_
      refine WL.x (X.move rfl) (by decide) ?_
      refine WL.x (X.len Try.runUnderlying29 rfl hl) (by decide) ?_
      refine WL.cond (X.lss rfl rfl) (by decide) (fun h10 => ?_) (fun h10 => ?_)
      · refine WL.nil ?_
        refine WK.nThen ?_
        refine WC.condT rfl ?_
        refine WC.skip ?_
        refine WK.nThen ?_
        refine WC.seq ?_
        refine WC.block ?_
        refine WC.seq ?_
        refine WC.seq ?_
        refine WC.region ?_
        refine WL.x (X.move rfl) (by decide) ?_
        refine WL.x (X.move rfl) (by decide) ?_
        refine WL.xe (E.idxN k Try.runUnderlying29 Try.sizeOf3 rfl rfl hl (by omega)) (by decide) (fun p11 hp12 => ?_)
        refine WL.x (X.loadInt Try.isAgg3 rfl hp12) (by decide) ?_
        refine WL.cond (X.call Try.call84 rfl (within84 _ _ _ _ )) (by decide) (fun h13 => ?_) (fun h13 => ?_)
        · refine WL.x (X.not rfl) (by decide) ?_
          refine WL.nil ?_
          refine WK.nThen ?_
          refine WC.condF rfl ?_
          refine WC.skip ?_
          refine WK.nThen ?_
          refine WC.seq ?_
          refine WC.region ?_
          refine WL.x (X.move rfl) (by decide) ?_
          refine WL.cond (X.gtr rfl rfl) (by decide) (fun h14 => ?_) (fun h14 => ?_)
          · refine WL.nil ?_
            refine WK.nThen ?_
            refine WC.condT rfl ?_
            refine WC.seq ?_
            have hgb := gapS_bd hok.dr (c := (↑k - 1 : Int).toNat) (by omega)
            have hpk := (hall (k - 1) (by omega)).1
            have hix : (↑k - 1 : Int).toNat = k - 1 := (by omega)
            have hgg : gapS d (↑k - 1 : Int).toNat = gapS d (k - 1) := (by rw [hix])
            have hg1 := congrArg Span.Lo hgg
            have hg2 := congrArg Span.Hi hgg
            refine WC.region ?_
            refine WL.x (X.loadBA (k := 0) Try.isAgg25 Try.sizeOf25 rfl rfl rfl) (by decide) ?_
            refine WL.x (X.move rfl) (by decide) ?_
            refine WL.x (X.sub rfl rfl (by omega) (by omega)) (by decide) ?_
            refine WL.x (X.call Try.call115 rfl (gap115 _ _ d ⟨_, _, rfl, hs2, hs4⟩ _ (by first | exact hok.dr | omega) (by first | exact hok.dr | omega))) (by decide) ?_
            refine WL.tn (T.alloc Try.zeroValue31 rfl) (by decide) fun b15 => ?_
            refine WL.ts (T.storeBA (k := 0) Try.sizeOf31 rfl rfl rfl (one_cons rfl (one_cons rfl one_nil)) rfl rfl) ?_
            refine WL.nil ?_
            refine WK.nThen ?_
            refine WC.seq ?_
            refine WC.draw (π := (.cons 0 (.cons 1 (.cons 2 (.cons 3 (.cons 4 (.cons 5 (.cons 6 (.cons 7 (.cons 8 (.cons 9 (.cons 10 (.cons 11 (.cons 12 (.cons 13 (.cons 14 (.cons 15 .done))))))))))))))))) [] [] rfl (by kernel_rfl) ?_
            refine DW.x rfl rfl (X.move rfl) (by decide) ?_
            refine DW.x rfl rfl (X.move rfl) (by decide) ?_
            refine DW.xe rfl rfl (E.idxN k Try.runUnderlying29 Try.sizeOf3 rfl rfl hl (by omega)) (by decide) (fun p16 hp17 => ?_)
            refine DW.x rfl rfl (X.loadInt Try.isAgg3 rfl hp17) (by decide) ?_
            refine DW.x rfl rfl (X.move rfl) (by decide) ?_
            refine DW.x rfl rfl (X.move rfl) (by decide) ?_
            refine DW.x rfl rfl (X.sub rfl rfl (by omega) (by omega)) (by decide) ?_
            refine DW.xe rfl rfl (E.idxE (k - 1) Try.runUnderlying29 Try.sizeOf3 rfl rfl hl (by omega) (by omega)) (by decide) (fun p18 hp19 => ?_)
            refine DW.x rfl rfl (X.loadInt Try.isAgg3 rfl hp19) (by decide) ?_
            refine DW.x rfl rfl (X.sub rfl rfl (by omega) (by omega)) (by decide) ?_
            refine DW.x rfl rfl (X.field Try.runUnderlying31 rfl Try.sizeOf3 rfl) (by decide) ?_
            refine DW.x rfl rfl (X.loadB (k := 0) Try.isAgg3 rfl rfl rfl) (by decide) ?_
            refine DW.x rfl rfl (X.field Try.runUnderlying31 rfl Try.sizeOf3 rfl) (by decide) ?_
            refine DW.x rfl rfl (X.loadB (k := 0) Try.isAgg3 rfl rfl rfl) (by decide) ?_
            refine DW.cond rfl rfl (X.call Try.call84 rfl (within84 _ _ _ _ )) (by decide) (fun h20 => ?_) (fun h20 => ?_)
            · refine DW.x rfl rfl (X.not rfl) (by decide) ?_
              refine DW.nil ?_
              refine WK.nThen ?_
              refine WC.condF rfl ?_
              refine WC.skip ?_
              refine WK.nBlock ?_
              refine WK.nThen ?_
              refine WC.region ?_
              refine WL.x (X.move rfl) (by decide) ?_
              refine WL.x (X.add rfl rfl (by omega) (by omega)) (by decide) ?_
              refine WL.x (X.assign rfl) (by decide) ?_
              refine WL.nil ?_
              refine WK.nThen ?_
              refine WK.next (k + 1) rfl (.cons _ (.cons_cons _ .slnil)) (.cons rfl (.cons rfl (.cons rfl (.cons rfl .nil)))) ?_ ?_
              · exact ⟨by omega, fun j hj => by rcases Nat.lt_succ_iff_lt_or_eq.1 hj with h | h; exact hall j h; subst h; (unfold goodJ; first | exact ⟨by omega, fun h0_ => absurd h0_ (by omega)⟩ | exact ⟨by omega, fun _ => by omega⟩)⟩
              · omega
            · refine DW.x rfl rfl (X.not rfl) (by decide) ?_
              refine DW.nil ?_
              refine WK.nThen ?_
              refine WC.condT rfl ?_
              refine WC.seq ?_
              refine WC.region ?_
              refine WL.x (X.assign rfl) (by decide) ?_
              refine WL.nil ?_
              refine WK.nThen ?_
              refine WC.ret ?_
              refine WK.rBlock ?_
              refine WK.rThen ?_
              refine WK.rThen ?_
              refine WK.rBlock ?_
              refine WK.rThen ?_
              refine WK.ret1 rfl rfl (fun w' hw' => Ret.exact hw' ?_)
              first | exact bool_false (fun h_ => by have := (hii.1 h_).1; omega) | exact bool_false (fun h_ => by have := (hii.1 h_).2.1 k (by omega); unfold goodJ at this; omega) | exact bool_false (fun h_ => by have := (hii.1 h_).2.2 i (by omega); unfold markJ at this; omega) | exact bool_true (hii.2 ⟨by omega, fun j hj => hall j (by omega), fun j hj => hall2 j (by omega)⟩)
          · refine WL.nil ?_
            refine WK.nThen ?_
            refine WC.condF rfl ?_
            refine WC.skip ?_
            refine WK.nBlock ?_
            refine WK.nThen ?_
            refine WC.region ?_
            refine WL.x (X.move rfl) (by decide) ?_
            refine WL.x (X.add rfl rfl (by omega) (by omega)) (by decide) ?_
            refine WL.x (X.assign rfl) (by decide) ?_
            refine WL.nil ?_
            refine WK.nThen ?_
            refine WK.next (k + 1) rfl (.refl _) (.cons rfl (.cons rfl (.cons rfl (.cons rfl .nil)))) ?_ ?_
            · exact ⟨by omega, fun j hj => by rcases Nat.lt_succ_iff_lt_or_eq.1 hj with h | h; exact hall j h; subst h; (unfold goodJ; first | exact ⟨by omega, fun h0_ => absurd h0_ (by omega)⟩ | exact ⟨by omega, fun _ => by omega⟩)⟩
            · omega
        · refine WL.x (X.not rfl) (by decide) ?_
          refine WL.nil ?_
          refine WK.nThen ?_
          refine WC.condT rfl ?_
          refine WC.seq ?_
          refine WC.region ?_
          refine WL.x (X.assign rfl) (by decide) ?_
          refine WL.nil ?_
          refine WK.nThen ?_
          refine WC.ret ?_
          refine WK.rThen ?_
          refine WK.rBlock ?_
          refine WK.rThen ?_
          refine WK.rThen ?_
          refine WK.rBlock ?_
          refine WK.rThen ?_
          refine WK.ret1 rfl rfl (fun w' hw' => Ret.exact hw' ?_)
          first | exact bool_false (fun h_ => by have := (hii.1 h_).1; omega) | exact bool_false (fun h_ => by have := (hii.1 h_).2.1 k (by omega); unfold goodJ at this; omega) | exact bool_false (fun h_ => by have := (hii.1 h_).2.2 i (by omega); unfold markJ at this; omega) | exact bool_true (hii.2 ⟨by omega, fun j hj => hall j (by omega), fun j hj => hall2 j (by omega)⟩)
      · refine WL.nil ?_
        refine WK.nThen ?_
        refine WC.condF rfl ?_
        refine WC.exit ?_
        refine WK.eThen ?_
        refine WK.eThen ?_
        refine WK.eHit ?_
        refine WK.nThen ?_
        refine WC.seq ?_
        refine WC.seq ?_
        refine WC.region ?_
        refine WL.x (X.assign rfl) (by decide) ?_
        refine WL.nil ?_
        refine WK.nThen ?_
        refine WC.block ?_
        refine WC.loop (G := Nat) (fun i => m_.length - i) (fun i => m) (fun i => [blk b7 25 [v1, v3]]) (fun i => [(1, vm_), (2, vl), (9, .int .i64 (↑i))]) (fun i => i ≤ m_.length ∧ (∀ j, j < i → markJ m_ l j)) 0 rfl (.refl _) (.cons rfl (.cons rfl (.cons rfl .nil))) ?_ ?_
        · exact ⟨Nat.zero_le _, fun j hj => absurd hj (Nat.not_lt_zero _)⟩
        · rintro i hF21
          show WK _ _ m [blk b7 25 [v1, v3]] [(1, vm_), (2, vl), (9, .int .i64 (↑i))] _
          replace hF21 : i ≤ m_.length ∧ (∀ j, j < i → markJ m_ l j) := hF21
          obtain ⟨hi, hall2⟩ := hF21
          refine WC.seq ?_
          refine WC.seq ?_
          refine WC.region ?_
          refine WL.x (X.move rfl) (by decide) ?_
          refine WL.x (X.move rfl) (by decide) ?_
          refine WL.x (X.len Try.runUnderlying26 rfl hm_) (by decide) ?_
          refine WL.cond (X.lss rfl rfl) (by decide) (fun h22 => ?_) (fun h22 => ?_)
          · refine WL.nil ?_
            refine WK.nThen ?_
            refine WC.condT rfl ?_
            refine WC.skip ?_
            refine WK.nThen ?_
            refine WC.seq ?_
            refine WC.block ?_
            refine WC.seq ?_
            have hco := hok.col (j := i) (by omega)
            have hco1 := hco.1
            refine WC.draw (π := (.cons 0 (.cons 1 (.cons 2 (.cons 3 (.cons 4 (.cons 5 (.cons 6 (.cons 7 (.cons 8 (.cons 9 (.cons 10 (.cons 11 (.cons 12 (.cons 13 (.cons 14 (.cons 15 (.cons 16 (.cons 17 (.cons 18 (.cons 19 (.cons 20 (.cons 21 .done))))))))))))))))))))))) [] [] rfl (by kernel_rfl) ?_
            refine DW.x rfl rfl (X.move rfl) (by decide) ?_
            refine DW.x rfl rfl (X.move rfl) (by decide) ?_
            refine DW.x rfl rfl (X.move rfl) (by decide) ?_
            refine DW.xe rfl rfl (E.idxN i Try.runUnderlying26 Try.sizeOf33 rfl rfl hm_ (by omega)) (by decide) (fun p23 hp24 => ?_)
            have hp25 := At.Mark_0 hp24
            refine DW.x rfl rfl (X.field Try.runUnderlying33 rfl Try.sizeOf3 rfl) (by decide) ?_
            refine DW.x rfl rfl (X.loadInt Try.isAgg3 rfl hp25) (by decide) ?_
            refine DW.xe rfl rfl (E.idx Try.runUnderlying29 Try.sizeOf3 rfl rfl hl (by omega) (by omega)) (by decide) (fun p26 hp27 => ?_)
            refine DW.x rfl rfl (X.loadInt Try.isAgg3 rfl hp27) (by decide) ?_
            refine DW.x rfl rfl (X.move rfl) (by decide) ?_
            refine DW.x rfl rfl (X.move rfl) (by decide) ?_
            refine DW.xe rfl rfl (E.idxN i Try.runUnderlying26 Try.sizeOf33 rfl rfl hm_ (by omega)) (by decide) (fun p28 hp29 => ?_)
            have hp30 := At.Mark_1 hp29
            refine DW.x rfl rfl (X.field Try.runUnderlying33 rfl Try.sizeOf31 rfl) (by decide) ?_
            have hp31 := At.Span_0 hp30
            refine DW.x rfl rfl (X.field Try.runUnderlying31 rfl Try.sizeOf3 rfl) (by decide) ?_
            refine DW.x rfl rfl (X.loadInt Try.isAgg3 rfl hp31) (by decide) ?_
            refine DW.x rfl rfl (X.move rfl) (by decide) ?_
            refine DW.x rfl rfl (X.move rfl) (by decide) ?_
            refine DW.xe rfl rfl (E.idxN i Try.runUnderlying26 Try.sizeOf33 rfl rfl hm_ (by omega)) (by decide) (fun p32 hp33 => ?_)
            have hp34 := At.Mark_1 hp33
            refine DW.x rfl rfl (X.field Try.runUnderlying33 rfl Try.sizeOf31 rfl) (by decide) ?_
            have hp35 := At.Span_1 hp34
            refine DW.x rfl rfl (X.field Try.runUnderlying31 rfl Try.sizeOf3 rfl) (by decide) ?_
            refine DW.x rfl rfl (X.loadInt Try.isAgg3 rfl hp35) (by decide) ?_
            refine DW.cond rfl rfl (X.call Try.call84 rfl (within84 _ _ _ _ )) (by decide) (fun h36 => ?_) (fun h36 => ?_)
            · refine DW.x rfl rfl (X.not rfl) (by decide) ?_
              refine DW.nil ?_
              refine WK.nThen ?_
              refine WC.condF rfl ?_
              refine WC.skip ?_
              refine WK.nBlock ?_
              refine WK.nThen ?_
              refine WC.region ?_
              refine WL.x (X.move rfl) (by decide) ?_
              refine WL.x (X.add rfl rfl (by omega) (by omega)) (by decide) ?_
              refine WL.x (X.assign rfl) (by decide) ?_
              refine WL.nil ?_
              refine WK.nThen ?_
              refine WK.next (i + 1) rfl (.refl _) (.cons rfl (.cons rfl (.cons rfl .nil))) ?_ ?_
              · exact ⟨by omega, fun j hj => by rcases Nat.lt_succ_iff_lt_or_eq.1 hj with h | h; exact hall2 j h; subst h; (unfold markJ; omega)⟩
              · omega
            · refine DW.x rfl rfl (X.not rfl) (by decide) ?_
              refine DW.nil ?_
              refine WK.nThen ?_
              refine WC.condT rfl ?_
              refine WC.seq ?_
              refine WC.region ?_
              refine WL.x (X.assign rfl) (by decide) ?_
              refine WL.nil ?_
              refine WK.nThen ?_
              refine WC.ret ?_
              refine WK.rBlock ?_
              refine WK.rThen ?_
              refine WK.rThen ?_
              refine WK.rBlock ?_
              refine WK.rThen ?_
              refine WK.ret1 rfl rfl (fun w' hw' => Ret.exact hw' ?_)
              first | exact bool_false (fun h_ => by have := (hii.1 h_).1; omega) | exact bool_false (fun h_ => by have := (hii.1 h_).2.1 k (by omega); unfold goodJ at this; omega) | exact bool_false (fun h_ => by have := (hii.1 h_).2.2 i (by omega); unfold markJ at this; omega) | exact bool_true (hii.2 ⟨by omega, fun j hj => hall j (by omega), fun j hj => hall2 j (by omega)⟩)
          · refine WL.nil ?_
            refine WK.nThen ?_
            refine WC.condF rfl ?_
            refine WC.exit ?_
            refine WK.eThen ?_
            refine WK.eThen ?_
            refine WK.eHit ?_
            refine WK.nThen ?_
            refine WC.seq ?_
            refine WC.region ?_
            refine WL.x (X.assign rfl) (by decide) ?_
            refine WL.nil ?_
            refine WK.nThen ?_
            refine WC.ret ?_
            refine WK.ret1 rfl rfl (fun w' hw' => Ret.exact hw' ?_)
            first | exact bool_false (fun h_ => by have := (hii.1 h_).1; omega) | exact bool_false (fun h_ => by have := (hii.1 h_).2.1 k (by omega); unfold goodJ at this; omega) | exact bool_false (fun h_ => by have := (hii.1 h_).2.2 i (by omega); unfold markJ at this; omega) | exact bool_true (hii.2 ⟨by omega, fun j hj => hall j (by omega), fun j hj => hall2 j (by omega)⟩)

theorem keeps68 (m : Mem) (cd : List Value) (d : Drum) (hd : Enc.rd m cd d) (vm_ : Value) (m_ : List Mark) (hm_ : Sl m vm_ m_) (vl : Value) (l : List Int) (hl : Sl m vl l)   : Exact Try.prog 68 #[.agg cd.toArray, vm_, vl] m (.int .i64 (keepE d m_ l)) := by
  obtain ⟨v1, v3, rfl, hs2, hs4⟩ := hd
  have hl5 := hs2.le
  have hl6 := hs4.le
  have lm_ := hm_.le
  have ll := hl.le
  refine Exact.start Try.func68 rfl Try.ntmps68 rfl fun wld => ?_
  refine WC.seq ?_
  refine WC.region ?_
  refine WL.tn (T.boxB rfl rfl) (by decide) fun b7 => ?_
  refine WL.x (X.assign rfl) (by decide) ?_
  refine WL.nil ?_
  refine WK.nThen ?_
  refine WC.seq ?_
  refine WC.region ?_
  refine WL.x (X.loadBA (k := 0) Try.isAgg25 Try.sizeOf25 rfl rfl rfl) (by decide) ?_
  refine WL.x (X.move rfl) (by decide) ?_
  refine WL.x (X.call Try.call83 rfl (asked83 _ _ d ⟨_, _, rfl, hs2, hs4⟩ _ _ hm_ )) (by decide) ?_
  refine WL.x (X.assign rfl) (by decide) ?_
  refine WL.nil ?_
  refine WK.nThen ?_
  refine WC.seq ?_
  refine WC.seq ?_
  refine WC.region ?_
  refine WL.x (X.move rfl) (by decide) ?_
  refine WL.cond (X.eql rfl rfl) (by decide) (fun h8 => ?_) (fun h8 => ?_)
  · refine WL.x (X.move rfl) (by decide) ?_
    refine WL.yes rfl rfl ?_
    refine WL.x (X.loadBA (k := 0) Try.isAgg25 Try.sizeOf25 rfl rfl rfl) (by decide) ?_
    refine WL.yes rfl rfl ?_
    refine WL.x (X.move rfl) (by decide) ?_
    refine WL.yes rfl rfl ?_
    refine WL.x (X.move rfl) (by decide) ?_
    refine WL.yes rfl rfl ?_
    refine WL.cond (X.call Try.call120 rfl (is120 _ _ d ⟨_, _, rfl, hs2, hs4⟩ _ _ hm_ _ _ hl (Ok.of (by omega)))) (by decide) (fun h9 => ?_) (fun h9 => ?_)
    · refine WL.yes rfl rfl ?_
      refine WL.x (X.not rfl) (by decide) ?_
      refine WL.x (X.pickT rfl rfl rfl) (by decide) ?_
      refine WL.nil ?_
      refine WK.nThen ?_
      refine WC.condF rfl ?_
      refine WC.skip ?_
      refine WK.nThen ?_
      refine WC.seq ?_
      refine WC.region ?_
      refine WL.x (X.move rfl) (by decide) ?_
      refine WL.x (X.assign rfl) (by decide) ?_
      refine WL.nil ?_
      refine WK.nThen ?_
      refine WC.ret ?_
      refine WK.ret1 rfl rfl (fun w' hw' => Ret.exact hw' ?_)
      first | exact int_eq (by unfold keepE; rw [if_pos (by omega)]) | exact int_eq (by unfold keepE; rw [if_neg (by omega), if_pos (by assumption)]; omega) | exact int_eq (by unfold keepE; rw [if_neg (by omega), if_neg (by assumption)])
    · refine WL.yes rfl rfl ?_
      refine WL.x (X.not rfl) (by decide) ?_
      refine WL.x (X.pickT rfl rfl rfl) (by decide) ?_
      refine WL.nil ?_
      refine WK.nThen ?_
      refine WC.condT rfl ?_
      refine WC.seq ?_
      refine WC.region ?_
      refine WL.x (X.assign rfl) (by decide) ?_
      refine WL.nil ?_
      refine WK.nThen ?_
      refine WC.ret ?_
      refine WK.rThen ?_
      refine WK.ret1 rfl rfl (fun w' hw' => Ret.exact hw' ?_)
      first | exact int_eq (by unfold keepE; rw [if_pos (by omega)]) | exact int_eq (by unfold keepE; rw [if_neg (by omega), if_pos (by assumption)]; omega) | exact int_eq (by unfold keepE; rw [if_neg (by omega), if_neg (by assumption)])
  · refine WL.x (X.move rfl) (by decide) ?_
    refine WL.no rfl rfl rfl (by decide) ?_
    refine WL.no rfl rfl rfl (by decide) ?_
    refine WL.no rfl rfl rfl (by decide) ?_
    refine WL.no rfl rfl rfl (by decide) ?_
    refine WL.no rfl rfl rfl (by decide) ?_
    refine WL.x (X.pickF rfl rfl rfl) (by decide) ?_
    refine WL.nil ?_
    refine WK.nThen ?_
    refine WC.condF rfl ?_
    refine WC.skip ?_
    refine WK.nThen ?_
    refine WC.seq ?_
    refine WC.region ?_
    refine WL.x (X.move rfl) (by decide) ?_
    refine WL.x (X.assign rfl) (by decide) ?_
    refine WL.nil ?_
    refine WK.nThen ?_
    refine WC.ret ?_
    refine WK.ret1 rfl rfl (fun w' hw' => Ret.exact hw' ?_)
    first | exact int_eq (by unfold keepE; rw [if_pos (by omega)]) | exact int_eq (by unfold keepE; rw [if_neg (by omega), if_pos (by assumption)]; omega) | exact int_eq (by unfold keepE; rw [if_neg (by omega), if_neg (by assumption)])

end Go.Proofs.C2
