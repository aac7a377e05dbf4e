import Derived.Test.YtmnipmbgdbdjeaaC2Spec2
import Derived.Test.YtmnipmbgdbdjeaaKxQ
/- Clocks: walks, by program. -/
namespace Go.Proofs.C2
open Go Go.Kx
set_option linter.unusedVariables false

theorem within92 (m : Mem) (n : Int) (lo : Int) (hi : Int)   : Exact Try.prog 92 #[.int .i64 (n), .int .i64 (lo), .int .i64 (hi)] m (.bool (decide (lo ≤ n ∧ n ≤ hi))) := by
  refine Exact.start Try.func92 rfl Try.ntmps92 rfl fun wld => ?_
  refine WC.seq ?_
  refine WC.region ?_
  refine WL.x (X.assign rfl) (by decide) ?_
  refine WL.nil ?_
  refine WK.nThen ?_
  refine WC.seq ?_
  refine WC.region ?_
  refine WL.x (X.move rfl) (by decide) ?_
  refine WL.x (X.move rfl) (by decide) ?_
  refine WL.cond (X.geq rfl rfl) (by decide) (fun h1 => ?_) (fun h1 => ?_)
  · refine WL.x (X.move rfl) (by decide) ?_
    refine WL.yes rfl rfl ?_
    refine WL.x (X.move rfl) (by decide) ?_
    refine WL.yes rfl rfl ?_
    refine WL.x (X.move rfl) (by decide) ?_
    refine WL.yes rfl rfl ?_
    refine WL.x (X.leq rfl rfl) (by decide) ?_
    refine WL.x (X.pickT rfl rfl rfl) (by decide) ?_
    refine WL.x (X.assign rfl) (by decide) ?_
    refine WL.nil ?_
    refine WK.nThen ?_
    refine WC.ret ?_
    refine WK.ret1 rfl rfl (fun w' hw' => Ret.exact hw' ?_)
    first | exact bool_true (by omega) | exact bool_false (by omega) | exact dec_eq (by omega)
  · refine WL.x (X.move rfl) (by decide) ?_
    refine WL.no rfl rfl rfl (by decide) ?_
    refine WL.no rfl rfl rfl (by decide) ?_
    refine WL.no rfl rfl rfl (by decide) ?_
    refine WL.x (X.pickF rfl rfl rfl) (by decide) ?_
    refine WL.x (X.assign rfl) (by decide) ?_
    refine WL.nil ?_
    refine WK.nThen ?_
    refine WC.ret ?_
    refine WK.ret1 rfl rfl (fun w' hw' => Ret.exact hw' ?_)
    first | exact bool_true (by omega) | exact bool_false (by omega) | exact dec_eq (by omega)

theorem within84 (m : Mem) (n : Int) (lo : Int) (hi : Int)   : Exact Try.prog 84 #[.int .i64 (n), .int .i64 (lo), .int .i64 (hi)] m (.bool (decide (lo ≤ n ∧ n ≤ hi))) := by
  refine Exact.start Try.func84 rfl Try.ntmps84 rfl fun wld => ?_
  refine WC.seq ?_
  refine WC.region ?_
  refine WL.x (X.assign rfl) (by decide) ?_
  refine WL.nil ?_
  refine WK.nThen ?_
  refine WC.seq ?_
  refine WC.region ?_
  refine WL.x (X.move rfl) (by decide) ?_
  refine WL.x (X.move rfl) (by decide) ?_
  refine WL.cond (X.leq rfl rfl) (by decide) (fun h1 => ?_) (fun h1 => ?_)
  · refine WL.x (X.move rfl) (by decide) ?_
    refine WL.yes rfl rfl ?_
    refine WL.x (X.move rfl) (by decide) ?_
    refine WL.yes rfl rfl ?_
    refine WL.x (X.move rfl) (by decide) ?_
    refine WL.yes rfl rfl ?_
    refine WL.x (X.leq rfl rfl) (by decide) ?_
    refine WL.x (X.pickT rfl rfl rfl) (by decide) ?_
    refine WL.x (X.assign rfl) (by decide) ?_
    refine WL.nil ?_
    refine WK.nThen ?_
    refine WC.ret ?_
    refine WK.ret1 rfl rfl (fun w' hw' => Ret.exact hw' ?_)
    first | exact bool_true (by omega) | exact bool_false (by omega) | exact dec_eq (by omega)
  · refine WL.x (X.move rfl) (by decide) ?_
    refine WL.no rfl rfl rfl (by decide) ?_
    refine WL.no rfl rfl rfl (by decide) ?_
    refine WL.no rfl rfl rfl (by decide) ?_
    refine WL.x (X.pickF rfl rfl rfl) (by decide) ?_
    refine WL.x (X.assign rfl) (by decide) ?_
    refine WL.nil ?_
    refine WK.nThen ?_
    refine WC.ret ?_
    refine WK.ret1 rfl rfl (fun w' hw' => Ret.exact hw' ?_)
    first | exact bool_true (by omega) | exact bool_false (by omega) | exact dec_eq (by omega)

theorem span107 (m : Mem) (cs : List Value) (s : Span) (hs : Enc.rd m cs s) (lo : Int) (hi : Int)   : Exact Try.prog 107 #[.agg cs.toArray, .int .i64 (lo), .int .i64 (hi)] m (.bool (decide (spOk s lo hi))) := by
  obtain rfl := hs
  refine Exact.start Try.func107 rfl Try.ntmps107 rfl fun wld => ?_
  refine WC.seq ?_
  refine WC.region ?_
  refine WL.tn (T.boxB rfl rfl) (by decide) fun b1 => ?_
  refine WL.x (X.assign rfl) (by decide) ?_
  refine WL.nil ?_
  refine WK.nThen ?_
  refine WC.seq ?_
  refine WC.region ?_
  refine WL.x (X.field Try.runUnderlying31 rfl Try.sizeOf3 rfl) (by decide) ?_
  refine WL.x (X.loadB (k := 0) Try.isAgg3 rfl rfl rfl) (by decide) ?_
  refine WL.x (X.move rfl) (by decide) ?_
  refine WL.x (X.field Try.runUnderlying31 rfl Try.sizeOf3 rfl) (by decide) ?_
  refine WL.x (X.loadB (k := 0) Try.isAgg3 rfl rfl rfl) (by decide) ?_
  refine WL.cond (X.call Try.call92 rfl (within92 _ _ _ _ )) (by decide) (fun h2 => ?_) (fun h2 => ?_)
  · refine WL.x (X.move rfl) (by decide) ?_
    refine WL.yes rfl rfl ?_
    refine WL.x (X.field Try.runUnderlying31 rfl Try.sizeOf3 rfl) (by decide) ?_
    refine WL.yes rfl rfl ?_
    refine WL.x (X.loadB (k := 0) Try.isAgg3 rfl rfl rfl) (by decide) ?_
    refine WL.yes rfl rfl ?_
    refine WL.x (X.move rfl) (by decide) ?_
    refine WL.yes rfl rfl ?_
    refine WL.x (X.leq rfl rfl) (by decide) ?_
    refine WL.x (X.pickT rfl rfl rfl) (by decide) ?_
    refine WL.x (X.assign rfl) (by decide) ?_
    refine WL.nil ?_
    refine WK.nThen ?_
    refine WC.ret ?_
    refine WK.ret1 rfl rfl (fun w' hw' => Ret.exact hw' ?_)
    first | exact bool_true (by unfold spOk; omega) | exact bool_false (by unfold spOk; omega) | exact dec_eq (by unfold spOk; omega)
  · refine WL.x (X.move rfl) (by decide) ?_
    refine WL.no rfl rfl rfl (by decide) ?_
    refine WL.no rfl rfl rfl (by decide) ?_
    refine WL.no rfl rfl rfl (by decide) ?_
    refine WL.no rfl rfl rfl (by decide) ?_
    refine WL.x (X.pickF rfl rfl rfl) (by decide) ?_
    refine WL.x (X.assign rfl) (by decide) ?_
    refine WL.nil ?_
    refine WK.nThen ?_
    refine WC.ret ?_
    refine WK.ret1 rfl rfl (fun w' hw' => Ret.exact hw' ?_)
    first | exact bool_true (by unfold spOk; omega) | exact bool_false (by unfold spOk; omega) | exact dec_eq (by unfold spOk; omega)

theorem rate106 (m : Mem) (cs : List Value) (s : Span) (hs : Enc.rd m cs s)   : Exact Try.prog 106 #[.agg cs.toArray] m (.bool (decide (¬ (spOk s 1 40)))) := by
  obtain rfl := hs
  refine Exact.start Try.func106 rfl Try.ntmps106 rfl fun wld => ?_
  refine WC.seq ?_
  refine WC.region ?_
  refine WL.tn (T.boxB rfl rfl) (by decide) fun b1 => ?_
  refine WL.x (X.assign rfl) (by decide) ?_
  refine WL.nil ?_
  refine WK.nThen ?_
  refine WC.seq ?_
  refine WC.region ?_
  refine WL.x (X.loadBA (k := 0) Try.isAgg31 Try.sizeOf31 rfl rfl rfl) (by decide) ?_
  refine WL.x (X.call Try.call107 rfl (span107 _ _ s rfl _ _ )) (by decide) ?_
  refine WL.x (X.notp rfl) (by decide) ?_
  refine WL.x (X.assign rfl) (by decide) ?_
  refine WL.nil ?_
  refine WK.nThen ?_
  refine WC.ret ?_
  refine WK.ret1 rfl rfl (fun w' hw' => Ret.exact hw' ?_)
  first | rfl | (simp [*]; done)

theorem stop108 (m : Mem) {cs : List Value} {s : Stop} (hs : Enc.rd m cs s) {pd : Addr} {d : Drum} (hpd : At m pd d) : Exact Try.prog 108 #[.agg cs.toArray, .pointer (some pd)] m (.bool (decide (¬ ((0 ≤ s.Column ∧ s.Column ≤ (d.Rates.length : Int) - 1) ∧ spOk s.Ticks 0 400)))) := by
  obtain rfl := hs
  refine Exact.start Try.func108 rfl Try.ntmps108 rfl fun wld => ?_
  refine WC.seq ?_
  refine WC.region ?_
  refine WL.tn (T.boxB rfl rfl) (by decide) fun b1 => ?_
  refine WL.x (X.assign rfl) (by decide) ?_
  refine WL.nil ?_
  refine WK.nThen ?_
  refine WC.seq ?_
  refine WC.region ?_
  refine WL.x (X.field Try.runUnderlying34 rfl Try.sizeOf3 rfl) (by decide) ?_
  refine WL.x (X.loadB (k := 0) Try.isAgg3 rfl rfl rfl) (by decide) ?_
  have hp2 := At.Drum_0 hpd
  refine WL.x (X.field Try.runUnderlying25 rfl Try.sizeOf22 rfl) (by decide) ?_
  refine WL.xe (E.loadSl Try.isAgg22 rfl hp2) (by decide) (fun v3 hs4 => ?_)
  have hl5 := hs4.le
  refine WL.x (X.len Try.runUnderlying22 rfl hs4) (by decide) ?_
  refine WL.x (X.sub rfl rfl (by omega) (by omega)) (by decide) ?_
  refine WL.cond (X.call Try.call92 rfl (within92 _ _ _ _ )) (by decide) (fun h6 => ?_) (fun h6 => ?_)
  · refine WL.x (X.not rfl) (by decide) ?_
    refine WL.x (X.move rfl) (by decide) ?_
    refine WL.yes rfl rfl ?_
    refine WL.x (X.field Try.runUnderlying34 rfl Try.sizeOf31 rfl) (by decide) ?_
    refine WL.yes rfl rfl ?_
    refine WL.x (X.loadBP (k := 0) (vs := [.int .i64 (s.Ticks.Lo), .int .i64 (s.Ticks.Hi)]) Try.isAgg31 Try.sizeOf31 rfl rfl rfl rfl) (by decide) ?_
    refine WL.yes rfl rfl ?_
    refine WL.x (X.call Try.call107 rfl (span107 _ _ s.Ticks rfl _ _ )) (by decide) ?_
    refine WL.yes rfl rfl ?_
    refine WL.x (X.notp rfl) (by decide) ?_
    refine WL.x (X.pickF rfl rfl rfl) (by decide) ?_
    refine WL.x (X.assign rfl) (by decide) ?_
    refine WL.nil ?_
    refine WK.nThen ?_
    refine WC.ret ?_
    refine WK.ret1 rfl rfl (fun w' hw' => Ret.exact hw' ?_)
    first | exact bool_true (by omega) | exact bool_false (by omega) | exact dec_eq (by omega) | exact bool_true (fun h => by have := h.1; omega) | exact bool_false (fun h => by have := h.1; omega) | exact dec_eq ⟨fun h h2 => h h2.2, fun h h2 => h ⟨by omega, h2⟩⟩ | exact dec_eq ⟨fun h => ⟨by omega, h⟩, fun h => h.2⟩
  · refine WL.x (X.not rfl) (by decide) ?_
    refine WL.x (X.move rfl) (by decide) ?_
    refine WL.no rfl rfl rfl (by decide) ?_
    refine WL.no rfl rfl rfl (by decide) ?_
    refine WL.no rfl rfl rfl (by decide) ?_
    refine WL.no rfl rfl rfl (by decide) ?_
    refine WL.x (X.pickT rfl rfl rfl) (by decide) ?_
    refine WL.x (X.assign rfl) (by decide) ?_
    refine WL.nil ?_
    refine WK.nThen ?_
    refine WC.ret ?_
    refine WK.ret1 rfl rfl (fun w' hw' => Ret.exact hw' ?_)
    first | exact bool_true (by omega) | exact bool_false (by omega) | exact dec_eq (by omega) | exact bool_true (fun h => by have := h.1; omega) | exact bool_false (fun h => by have := h.1; omega) | exact dec_eq ⟨fun h h2 => h h2.2, fun h h2 => h ⟨by omega, h2⟩⟩ | exact dec_eq ⟨fun h => ⟨by omega, h⟩, fun h => h.2⟩

theorem right113 (m : Mem) (cd : List Value) (d : Drum) (hd : Enc.rd m cd d) (cx : List Value) (x : Mark) (hx : Enc.rd m cx x)   : Exact Try.prog 113 #[.agg cd.toArray, .agg cx.toArray] m (.bool (decide ((0 ≤ x.Column ∧ x.Column ≤ (d.Rates.length : Int)) ∧ spOk x.Ticks 0 400))) := by
  obtain ⟨v1, v3, rfl, hs2, hs4⟩ := hd
  have hl5 := hs2.le
  have hl6 := hs4.le
  obtain rfl := hx
  refine Exact.start Try.func113 rfl Try.ntmps113 rfl fun wld => ?_
  refine WC.seq ?_
  refine WC.region ?_
  refine WL.tn (T.boxB rfl rfl) (by decide) fun b7 => ?_
  refine WL.tn (T.boxB rfl rfl) (by decide) fun b8 => ?_
  refine WL.x (X.assign rfl) (by decide) ?_
  refine WL.nil ?_
  refine WK.nThen ?_
  refine WC.seq ?_
  refine WC.region ?_
  refine WL.x (X.field Try.runUnderlying33 rfl Try.sizeOf3 rfl) (by decide) ?_
  refine WL.x (X.loadB (k := 0) Try.isAgg3 rfl rfl rfl) (by decide) ?_
  refine WL.x (X.field Try.runUnderlying25 rfl Try.sizeOf22 rfl) (by decide) ?_
  refine WL.x (X.loadB (k := 1) Try.isAgg22 rfl rfl rfl) (by decide) ?_
  refine WL.x (X.len Try.runUnderlying22 rfl hs2) (by decide) ?_
  refine WL.cond (X.call Try.call92 rfl (within92 _ _ _ _ )) (by decide) (fun h9 => ?_) (fun h9 => ?_)
  · refine WL.x (X.move rfl) (by decide) ?_
    refine WL.yes rfl rfl ?_
    refine WL.x (X.field Try.runUnderlying33 rfl Try.sizeOf31 rfl) (by decide) ?_
    refine WL.yes rfl rfl ?_
    refine WL.x (X.loadBP (k := 0) (vs := [.int .i64 (x.Ticks.Lo), .int .i64 (x.Ticks.Hi)]) Try.isAgg31 Try.sizeOf31 rfl rfl rfl rfl) (by decide) ?_
    refine WL.yes rfl rfl ?_
    refine WL.x (X.call Try.call107 rfl (span107 _ _ x.Ticks rfl _ _ )) (by decide) ?_
    refine WL.x (X.pickT rfl rfl rfl) (by decide) ?_
    refine WL.x (X.assign rfl) (by decide) ?_
    refine WL.nil ?_
    refine WK.nThen ?_
    refine WC.ret ?_
    refine WK.ret1 rfl rfl (fun w' hw' => Ret.exact hw' ?_)
    first | exact bool_true (by omega) | exact bool_false (by omega) | exact dec_eq (by omega) | exact bool_true (fun h => by have := h.1; omega) | exact bool_false (fun h => by have := h.1; omega) | exact dec_eq ⟨fun h h2 => h h2.2, fun h h2 => h ⟨by omega, h2⟩⟩ | exact dec_eq ⟨fun h => ⟨by omega, h⟩, fun h => h.2⟩
  · refine WL.x (X.move rfl) (by decide) ?_
    refine WL.no rfl rfl rfl (by decide) ?_
    refine WL.no rfl rfl rfl (by decide) ?_
    refine WL.no rfl rfl rfl (by decide) ?_
    refine WL.x (X.pickF rfl rfl rfl) (by decide) ?_
    refine WL.x (X.assign rfl) (by decide) ?_
    refine WL.nil ?_
    refine WK.nThen ?_
    refine WC.ret ?_
    refine WK.ret1 rfl rfl (fun w' hw' => Ret.exact hw' ?_)
    first | exact bool_true (by omega) | exact bool_false (by omega) | exact dec_eq (by omega) | exact bool_true (fun h => by have := h.1; omega) | exact bool_false (fun h => by have := h.1; omega) | exact dec_eq ⟨fun h h2 => h h2.2, fun h h2 => h ⟨by omega, h2⟩⟩ | exact dec_eq ⟨fun h => ⟨by omega, h⟩, fun h => h.2⟩

theorem right114 (m : Mem) (cd : List Value) (d : Drum) (hd : Enc.rd m cd d) (cx : List Value) (x : Mark) (hx : Enc.rd m cx x)   : Exact Try.prog 114 #[.agg cd.toArray, .agg cx.toArray] m (.bool (decide ((0 ≤ x.Column ∧ x.Column ≤ (d.Rates.length : Int)) ∧ spOk x.Ticks 0 400))) := by
  obtain ⟨v1, v3, rfl, hs2, hs4⟩ := hd
  have hl5 := hs2.le
  have hl6 := hs4.le
  obtain rfl := hx
  refine Exact.start Try.func114 rfl Try.ntmps114 rfl fun wld => ?_
  refine WC.seq ?_
  refine WC.region ?_
  refine WL.tn (T.boxB rfl rfl) (by decide) fun b7 => ?_
  refine WL.tn (T.boxB rfl rfl) (by decide) fun b8 => ?_
  refine WL.x (X.assign rfl) (by decide) ?_
  refine WL.nil ?_
  refine WK.nThen ?_
  refine WC.seq ?_
  refine WC.region ?_
  refine WL.x (X.field Try.runUnderlying33 rfl Try.sizeOf3 rfl) (by decide) ?_
  refine WL.x (X.loadB (k := 0) Try.isAgg3 rfl rfl rfl) (by decide) ?_
  refine WL.x (X.field Try.runUnderlying25 rfl Try.sizeOf22 rfl) (by decide) ?_
  refine WL.x (X.loadB (k := 1) Try.isAgg22 rfl rfl rfl) (by decide) ?_
  refine WL.x (X.len Try.runUnderlying22 rfl hs2) (by decide) ?_
  refine WL.cond (X.call Try.call84 rfl (within84 _ _ _ _ )) (by decide) (fun h9 => ?_) (fun h9 => ?_)
  · refine WL.x (X.move rfl) (by decide) ?_
    refine WL.yes rfl rfl ?_
    refine WL.x (X.field Try.runUnderlying33 rfl Try.sizeOf31 rfl) (by decide) ?_
    refine WL.yes rfl rfl ?_
    refine WL.x (X.field Try.runUnderlying31 rfl Try.sizeOf3 rfl) (by decide) ?_
    refine WL.yes rfl rfl ?_
    refine WL.x (X.loadB (k := 0) Try.isAgg3 rfl rfl rfl) (by decide) ?_
    refine WL.yes rfl rfl ?_
    refine WL.x (X.field Try.runUnderlying33 rfl Try.sizeOf31 rfl) (by decide) ?_
    refine WL.yes rfl rfl ?_
    refine WL.x (X.field Try.runUnderlying31 rfl Try.sizeOf3 rfl) (by decide) ?_
    refine WL.yes rfl rfl ?_
    refine WL.x (X.loadB (k := 0) Try.isAgg3 rfl rfl rfl) (by decide) ?_
    refine WL.yes rfl rfl ?_
    refine WL.cond (X.call Try.call84 rfl (within84 _ _ _ _ )) (by decide) (fun h10 => ?_) (fun h10 => ?_)
    · refine WL.x (X.pickT rfl rfl rfl) (by decide) ?_
      refine WL.x (X.move rfl) (by decide) ?_
      refine WL.yes rfl rfl ?_
      refine WL.x (X.field Try.runUnderlying33 rfl Try.sizeOf31 rfl) (by decide) ?_
      refine WL.yes rfl rfl ?_
      refine WL.x (X.field Try.runUnderlying31 rfl Try.sizeOf3 rfl) (by decide) ?_
      refine WL.yes rfl rfl ?_
      refine WL.x (X.loadB (k := 0) Try.isAgg3 rfl rfl rfl) (by decide) ?_
      refine WL.yes rfl rfl ?_
      refine WL.x (X.leq rfl rfl) (by decide) ?_
      refine WL.x (X.pickT rfl rfl rfl) (by decide) ?_
      refine WL.x (X.assign rfl) (by decide) ?_
      refine WL.nil ?_
      refine WK.nThen ?_
      refine WC.ret ?_
      refine WK.ret1 rfl rfl (fun w' hw' => Ret.exact hw' ?_)
      first | exact bool_true (by unfold spOk; omega) | exact bool_false (by unfold spOk; omega) | exact dec_eq (by unfold spOk; omega)
    · refine WL.x (X.pickT rfl rfl rfl) (by decide) ?_
      refine WL.x (X.move rfl) (by decide) ?_
      refine WL.no rfl rfl rfl (by decide) ?_
      refine WL.no rfl rfl rfl (by decide) ?_
      refine WL.no rfl rfl rfl (by decide) ?_
      refine WL.no rfl rfl rfl (by decide) ?_
      refine WL.x (X.pickF rfl rfl rfl) (by decide) ?_
      refine WL.x (X.assign rfl) (by decide) ?_
      refine WL.nil ?_
      refine WK.nThen ?_
      refine WC.ret ?_
      refine WK.ret1 rfl rfl (fun w' hw' => Ret.exact hw' ?_)
      first | exact bool_true (by unfold spOk; omega) | exact bool_false (by unfold spOk; omega) | exact dec_eq (by unfold spOk; omega)
  · refine WL.x (X.move rfl) (by decide) ?_
    refine WL.no rfl rfl rfl (by decide) ?_
    refine WL.no rfl rfl rfl (by decide) ?_
    refine WL.no rfl rfl rfl (by decide) ?_
    refine WL.no rfl rfl rfl (by decide) ?_
    refine WL.no rfl rfl rfl (by decide) ?_
    refine WL.no rfl rfl rfl (by decide) ?_
    refine WL.no rfl rfl rfl (by decide) ?_
    refine WL.x (X.pickF rfl rfl rfl) (by decide) ?_
    refine WL.x (X.move rfl) (by decide) ?_
    refine WL.no rfl rfl rfl (by decide) ?_
    refine WL.no rfl rfl rfl (by decide) ?_
    refine WL.no rfl rfl rfl (by decide) ?_
    refine WL.no rfl rfl rfl (by decide) ?_
    refine WL.x (X.pickF rfl rfl rfl) (by decide) ?_
    refine WL.x (X.assign rfl) (by decide) ?_
    refine WL.nil ?_
    refine WK.nThen ?_
    refine WC.ret ?_
    refine WK.ret1 rfl rfl (fun w' hw' => Ret.exact hw' ?_)
    first | exact bool_true (by unfold spOk; omega) | exact bool_false (by unfold spOk; omega) | exact dec_eq (by unfold spOk; omega)

theorem mark112 (m : Mem) {cx : List Value} {x : Mark} (hx : Enc.rd m cx x) {pd : Addr} {d : Drum} (hpd : At m pd d) : Exact Try.prog 112 #[.agg cx.toArray, .pointer (some pd)] m (.bool (decide (¬ ((0 ≤ x.Column ∧ x.Column ≤ (d.Rates.length : Int)) ∧ spOk x.Ticks 0 400)))) := by
  obtain rfl := hx
  refine Exact.start Try.func112 rfl Try.ntmps112 rfl fun wld => ?_
  refine WC.seq ?_
  refine WC.region ?_
  refine WL.tn (T.boxB rfl rfl) (by decide) fun b1 => ?_
  refine WL.x (X.assign rfl) (by decide) ?_
  refine WL.nil ?_
  refine WK.nThen ?_
  refine WC.seq ?_
  refine WC.region ?_
  refine WL.xe (E.loadAgg Try.isAgg25 Try.sizeOf25 rfl hpd) (by decide) (fun c2 hc3 => ?_)
  obtain ⟨v4, v6, rfl, hs5, hs7⟩ := hc3
  have hl8 := hs5.le
  have hl9 := hs7.le
  refine WL.x (X.loadBA (k := 0) Try.isAgg33 Try.sizeOf33 rfl rfl rfl) (by decide) ?_
  refine WL.x (X.call Try.call113 rfl (right113 _ _ d ⟨_, _, rfl, hs5, hs7⟩ _ x rfl )) (by decide) ?_
  refine WL.x (X.notp rfl) (by decide) ?_
  refine WL.x (X.assign rfl) (by decide) ?_
  refine WL.nil ?_
  refine WK.nThen ?_
  refine WC.ret ?_
  refine WK.ret1 rfl rfl (fun w' hw' => Ret.exact hw' ?_)
  first | rfl | (simp [*]; done)

theorem bad131 (m : Mem) (cs : List Value) (s : Span) (hs : Enc.rd m cs s)   : Exact Try.prog 131 #[.agg cs.toArray] m (.bool (decide (s.Hi < s.Lo))) := by
  obtain rfl := hs
  refine Exact.start Try.func131 rfl Try.ntmps131 rfl fun wld => ?_
  refine WC.seq ?_
  refine WC.region ?_
  refine WL.tn (T.boxB rfl rfl) (by decide) fun b1 => ?_
  refine WL.x (X.assign rfl) (by decide) ?_
  refine WL.nil ?_
  refine WK.nThen ?_
  refine WC.seq ?_
  refine WC.region ?_
  refine WL.x (X.field Try.runUnderlying31 rfl Try.sizeOf3 rfl) (by decide) ?_
  refine WL.x (X.loadB (k := 0) Try.isAgg3 rfl rfl rfl) (by decide) ?_
  refine WL.x (X.field Try.runUnderlying31 rfl Try.sizeOf3 rfl) (by decide) ?_
  refine WL.x (X.loadB (k := 0) Try.isAgg3 rfl rfl rfl) (by decide) ?_
  refine WL.x (X.gtr rfl rfl) (by decide) ?_
  refine WL.x (X.assign rfl) (by decide) ?_
  refine WL.nil ?_
  refine WK.nThen ?_
  refine WC.ret ?_
  refine WK.ret1 rfl rfl (fun w' hw' => Ret.exact hw' ?_)
  first | rfl | (simp [*]; done)

theorem tick125 (m : Mem) (n : Int)   : Exact Try.prog 125 #[.int .i64 (n)] m (.bool (decide (¬ (0 ≤ n ∧ n ≤ 400)))) := by
  refine Exact.start Try.func125 rfl Try.ntmps125 rfl fun wld => ?_
  refine WC.seq ?_
  refine WC.region ?_
  refine WL.x (X.assign rfl) (by decide) ?_
  refine WL.nil ?_
  refine WK.nThen ?_
  refine WC.seq ?_
  refine WC.region ?_
  refine WL.x (X.move rfl) (by decide) ?_
  refine WL.x (X.call Try.call92 rfl (within92 _ _ _ _ )) (by decide) ?_
  refine WL.x (X.notp rfl) (by decide) ?_
  refine WL.x (X.assign rfl) (by decide) ?_
  refine WL.nil ?_
  refine WK.nThen ?_
  refine WC.ret ?_
  refine WK.ret1 rfl rfl (fun w' hw' => Ret.exact hw' ?_)
  first | exact bool_true (by omega) | exact bool_false (by omega) | exact dec_eq (by omega)

theorem col124 (m : Mem) (n : Int) {pd : Addr} {d : Drum} (hpd : At m pd d) : Exact Try.prog 124 #[.int .i64 n, .pointer (some pd)] m (.bool (decide (¬ (0 ≤ n ∧ n ≤ (d.Rates.length : Int))))) := by
  refine Exact.start Try.func124 rfl Try.ntmps124 rfl fun wld => ?_
  refine WC.seq ?_
  refine WC.region ?_
  refine WL.x (X.assign rfl) (by decide) ?_
  refine WL.nil ?_
  refine WK.nThen ?_
  refine WC.seq ?_
  refine WC.region ?_
  refine WL.x (X.move rfl) (by decide) ?_
  have hp1 := At.Drum_0 hpd
  refine WL.x (X.field Try.runUnderlying25 rfl Try.sizeOf22 rfl) (by decide) ?_
  refine WL.xe (E.loadSl Try.isAgg22 rfl hp1) (by decide) (fun v2 hs3 => ?_)
  have hl4 := hs3.le
  refine WL.x (X.len Try.runUnderlying22 rfl hs3) (by decide) ?_
  refine WL.x (X.call Try.call92 rfl (within92 _ _ _ _ )) (by decide) ?_
  refine WL.x (X.notp rfl) (by decide) ?_
  refine WL.x (X.assign rfl) (by decide) ?_
  refine WL.nil ?_
  refine WK.nThen ?_
  refine WC.ret ?_
  refine WK.ret1 rfl rfl (fun w' hw' => Ret.exact hw' ?_)
  first | exact bool_true (by omega) | exact bool_false (by omega) | exact dec_eq (by omega)

theorem idx140 (m : Mem) {vl : Value} {l : List Span} (hl : Sl m vl l) {fn : Nat} {caps : List Value} {p : Nat → Prop} [DecidablePred p] (hE : Enters Try.prog fn) (hcl : (∀ i, i < l.length → Exact Try.prog fn (#[.agg (Flat.enc (gt l i)).toArray] ++ caps.toArray) m (.bool (decide (p i))))) : Exact Try.prog 140 #[vl, .func (.func fn) #[] caps.toArray] m (.int .i64 (idxF p l.length)) := by
  have hll := hl.le
  refine Exact.start Try.func140 rfl Try.ntmps140 rfl fun wld => ?_
  refine WC.seq ?_
  refine WC.region ?_
  refine WL.x (X.assign rfl) (by decide) ?_
  refine WL.nil ?_
  refine WK.nThen ?_
  refine WC.seq ?_
  refine WC.seq ?_
  refine WC.region ?_
  refine WL.x (X.move rfl) (by decide) ?_
  refine WL.x (X.len Try.runUnderlying22 rfl hl) (by decide) ?_
  refine WL.x (X.move rfl) (by decide) ?_
  refine WL.nil ?_
  refine WK.nThen ?_
  refine WC.block ?_
  refine WC.loop (G := Nat) (fun k => l.length - k) (fun k => m) (fun k => []) (fun k => [(0, vl), (1, .func (.func fn) #[] caps.toArray), (7, .int .i64 (↑l.length)), (8, .int .i64 (↑k))]) (fun k => k ≤ l.length ∧ (∀ j, j < k → ¬ p j)) 0 rfl (.refl _) (.cons rfl (.cons rfl (.cons rfl (.cons rfl .nil)))) ?_ ?_
  · exact ⟨Nat.zero_le _, fun j hj => absurd hj (Nat.not_lt_zero _)⟩
  · rintro k hF1
    show WK _ _ m [] [(0, vl), (1, .func (.func fn) #[] caps.toArray), (7, .int .i64 (↑l.length)), (8, .int .i64 (↑k))] _
    replace hF1 : k ≤ l.length ∧ (∀ j, j < k → ¬ p j) := hF1
    obtain ⟨hk, hall⟩ := hF1
    refine WC.seq ?_
    refine WC.region ?_
    refine WL.cond (X.lss rfl rfl) (by decide) (fun h2 => ?_) (fun h2 => ?_)
    · refine WL.nil ?_
      refine WK.nThen ?_
      refine WC.seq ?_
      refine WC.condT rfl ?_
      refine WC.skip ?_
      refine WK.nThen ?_
      refine WC.seq ?_
      refine WC.block ?_
      refine WC.seq ?_
      refine WC.region ?_
      refine WL.x (X.move rfl) (by decide) ?_
      refine WL.x (X.assign rfl) (by decide) ?_
      refine WL.nil ?_
      refine WK.nThen ?_
      refine WC.seq ?_
      refine WC.region ?_
      refine WL.x (X.move rfl) (by decide) ?_
      refine WL.x (X.move rfl) (by decide) ?_
      refine WL.x (X.move rfl) (by decide) ?_
      refine WL.xe (E.idxN k Try.runUnderlying22 Try.sizeOf31 rfl rfl hl (by omega)) (by decide) (fun p3 hp4 => ?_)
      refine WL.xe (E.loadAgg Try.isAgg31 Try.sizeOf31 rfl hp4) (by decide) (fun c5 hc6 => ?_)
      obtain rfl := hc6
      refine WL.cond (X.callc hE rfl rfl (hcl k (by omega))) (by decide) (fun h7 => ?_) (fun h7 => ?_)
      · refine WL.nil ?_
        refine WK.nThen ?_
        refine WC.condT rfl ?_
        refine WC.seq ?_
        refine WC.region ?_
        refine WL.x (X.move rfl) (by decide) ?_
        refine WL.x (X.assign rfl) (by decide) ?_
        refine WL.nil ?_
        refine WK.nThen ?_
        refine WC.ret ?_
        refine WK.rBlock ?_
        refine WK.rThen ?_
        refine WK.rThen ?_
        refine WK.rBlock ?_
        refine WK.rThen ?_
        refine WK.ret1 rfl rfl (fun w' hw' => Ret.exact hw' ?_)
        first | exact int_eq (idxF_yes (by omega) hall (by assumption)).symm | exact int_eq (idxF_no (fun j hj => hall j (by omega))).symm
      · refine WL.nil ?_
        refine WK.nThen ?_
        refine WC.condF rfl ?_
        refine WC.skip ?_
        refine WK.nBlock ?_
        refine WK.nThen ?_
        refine WC.region ?_
        refine WL.x (X.add rfl rfl (by omega) (by omega)) (by decide) ?_
        refine WL.x (X.move rfl) (by decide) ?_
        refine WL.nil ?_
        refine WK.nThen ?_
        refine WK.next (k + 1) rfl (.refl _) (.cons rfl (.cons rfl (.cons rfl (.cons rfl .nil)))) ?_ ?_
        · exact ⟨by omega, fun j hj => by rcases Nat.lt_succ_iff_lt_or_eq.1 hj with h | h; exact hall j h; subst h; assumption⟩
        · omega
    · refine WL.nil ?_
      refine WK.nThen ?_
      refine WC.seq ?_
      refine WC.condF rfl ?_
      refine WC.exit ?_
      refine WK.eThen ?_
      refine WK.eThen ?_
      refine WK.eHit ?_
      refine WK.nThen ?_
      refine WC.seq ?_
      refine WC.region ?_
      refine WL.x (X.assign rfl) (by decide) ?_
      refine WL.nil ?_
      refine WK.nThen ?_
      refine WC.ret ?_
      refine WK.ret1 rfl rfl (fun w' hw' => Ret.exact hw' ?_)
      first | exact int_eq (idxF_yes (by omega) hall (by assumption)).symm | exact int_eq (idxF_no (fun j hj => hall j (by omega))).symm

theorem cont109 (m : Mem) {vl : Value} {l : List Span} (hl : Sl m vl l) {fn : Nat} {caps : List Value} {p : Nat → Prop} [DecidablePred p] (hE : Enters Try.prog fn) (hcl : (∀ i, i < l.length → Exact Try.prog fn (#[.agg (Flat.enc (gt l i)).toArray] ++ caps.toArray) m (.bool (decide (p i))))) : Exact Try.prog 109 #[vl, .func (.func fn) #[] caps.toArray] m (.bool (decide (¬ ∀ i, i < l.length → ¬ p i))) := by
  have hll := hl.le
  refine Exact.start Try.func109 rfl Try.ntmps109 rfl fun wld => ?_
  refine WC.seq ?_
  refine WC.region ?_
  refine WL.x (X.assign rfl) (by decide) ?_
  refine WL.nil ?_
  refine WK.nThen ?_
  refine WC.seq ?_
  refine WC.region ?_
  refine WL.x (X.move rfl) (by decide) ?_
  refine WL.x (X.move rfl) (by decide) ?_
  refine WL.x (X.call Try.call140 rfl (idx140 _ hl hE hcl)) (by decide) ?_
  refine WL.x (X.geq rfl rfl) (by decide) ?_
  refine WL.x (X.assign rfl) (by decide) ?_
  refine WL.nil ?_
  refine WK.nThen ?_
  refine WC.ret ?_
  refine WK.ret1 rfl rfl (fun w' hw' => Ret.exact hw' ?_)
  exact dec_eq (idxF_nn p l.length)

theorem idx141 (m : Mem) {vl : Value} {l : List Stop} (hl : Sl m vl l) {fn : Nat} {caps : List Value} {p : Nat → Prop} [DecidablePred p] (hE : Enters Try.prog fn) (hcl : (∀ i, i < l.length → Exact Try.prog fn (#[.agg (Flat.enc (gt l i)).toArray] ++ caps.toArray) m (.bool (decide (p i))))) : Exact Try.prog 141 #[vl, .func (.func fn) #[] caps.toArray] m (.int .i64 (idxF p l.length)) := by
  have hll := hl.le
  refine Exact.start Try.func141 rfl Try.ntmps141 rfl fun wld => ?_
  refine WC.seq ?_
  refine WC.region ?_
  refine WL.x (X.assign rfl) (by decide) ?_
  refine WL.nil ?_
  refine WK.nThen ?_
  refine WC.seq ?_
  refine WC.seq ?_
  refine WC.region ?_
  refine WL.x (X.move rfl) (by decide) ?_
  refine WL.x (X.len Try.runUnderlying23 rfl hl) (by decide) ?_
  refine WL.x (X.move rfl) (by decide) ?_
  refine WL.nil ?_
  refine WK.nThen ?_
  refine WC.block ?_
  refine WC.loop (G := Nat) (fun k => l.length - k) (fun k => m) (fun k => []) (fun k => [(0, vl), (1, .func (.func fn) #[] caps.toArray), (7, .int .i64 (↑l.length)), (8, .int .i64 (↑k))]) (fun k => k ≤ l.length ∧ (∀ j, j < k → ¬ p j)) 0 rfl (.refl _) (.cons rfl (.cons rfl (.cons rfl (.cons rfl .nil)))) ?_ ?_
  · exact ⟨Nat.zero_le _, fun j hj => absurd hj (Nat.not_lt_zero _)⟩
  · rintro k hF1
    show WK _ _ m [] [(0, vl), (1, .func (.func fn) #[] caps.toArray), (7, .int .i64 (↑l.length)), (8, .int .i64 (↑k))] _
    replace hF1 : k ≤ l.length ∧ (∀ j, j < k → ¬ p j) := hF1
    obtain ⟨hk, hall⟩ := hF1
    refine WC.seq ?_
    refine WC.region ?_
    refine WL.cond (X.lss rfl rfl) (by decide) (fun h2 => ?_) (fun h2 => ?_)
    · refine WL.nil ?_
      refine WK.nThen ?_
      refine WC.seq ?_
      refine WC.condT rfl ?_
      refine WC.skip ?_
      refine WK.nThen ?_
      refine WC.seq ?_
      refine WC.block ?_
      refine WC.seq ?_
      refine WC.region ?_
      refine WL.x (X.move rfl) (by decide) ?_
      refine WL.x (X.assign rfl) (by decide) ?_
      refine WL.nil ?_
      refine WK.nThen ?_
      refine WC.seq ?_
      refine WC.region ?_
      refine WL.x (X.move rfl) (by decide) ?_
      refine WL.x (X.move rfl) (by decide) ?_
      refine WL.x (X.move rfl) (by decide) ?_
      refine WL.xe (E.idxN k Try.runUnderlying23 Try.sizeOf34 rfl rfl hl (by omega)) (by decide) (fun p3 hp4 => ?_)
      refine WL.xe (E.loadAgg Try.isAgg34 Try.sizeOf34 rfl hp4) (by decide) (fun c5 hc6 => ?_)
      obtain rfl := hc6
      refine WL.cond (X.callc hE rfl rfl (hcl k (by omega))) (by decide) (fun h7 => ?_) (fun h7 => ?_)
      · refine WL.nil ?_
        refine WK.nThen ?_
        refine WC.condT rfl ?_
        refine WC.seq ?_
        refine WC.region ?_
        refine WL.x (X.move rfl) (by decide) ?_
        refine WL.x (X.assign rfl) (by decide) ?_
        refine WL.nil ?_
        refine WK.nThen ?_
        refine WC.ret ?_
        refine WK.rBlock ?_
        refine WK.rThen ?_
        refine WK.rThen ?_
        refine WK.rBlock ?_
        refine WK.rThen ?_
        refine WK.ret1 rfl rfl (fun w' hw' => Ret.exact hw' ?_)
        first | exact int_eq (idxF_yes (by omega) hall (by assumption)).symm | exact int_eq (idxF_no (fun j hj => hall j (by omega))).symm
      · refine WL.nil ?_
        refine WK.nThen ?_
        refine WC.condF rfl ?_
        refine WC.skip ?_
        refine WK.nBlock ?_
        refine WK.nThen ?_
        refine WC.region ?_
        refine WL.x (X.add rfl rfl (by omega) (by omega)) (by decide) ?_
        refine WL.x (X.move rfl) (by decide) ?_
        refine WL.nil ?_
        refine WK.nThen ?_
        refine WK.next (k + 1) rfl (.refl _) (.cons rfl (.cons rfl (.cons rfl (.cons rfl .nil)))) ?_ ?_
        · exact ⟨by omega, fun j hj => by rcases Nat.lt_succ_iff_lt_or_eq.1 hj with h | h; exact hall j h; subst h; assumption⟩
        · omega
    · refine WL.nil ?_
      refine WK.nThen ?_
      refine WC.seq ?_
      refine WC.condF rfl ?_
      refine WC.exit ?_
      refine WK.eThen ?_
      refine WK.eThen ?_
      refine WK.eHit ?_
      refine WK.nThen ?_
      refine WC.seq ?_
      refine WC.region ?_
      refine WL.x (X.assign rfl) (by decide) ?_
      refine WL.nil ?_
      refine WK.nThen ?_
      refine WC.ret ?_
      refine WK.ret1 rfl rfl (fun w' hw' => Ret.exact hw' ?_)
      first | exact int_eq (idxF_yes (by omega) hall (by assumption)).symm | exact int_eq (idxF_no (fun j hj => hall j (by omega))).symm

theorem cont110 (m : Mem) {vl : Value} {l : List Stop} (hl : Sl m vl l) {fn : Nat} {caps : List Value} {p : Nat → Prop} [DecidablePred p] (hE : Enters Try.prog fn) (hcl : (∀ i, i < l.length → Exact Try.prog fn (#[.agg (Flat.enc (gt l i)).toArray] ++ caps.toArray) m (.bool (decide (p i))))) : Exact Try.prog 110 #[vl, .func (.func fn) #[] caps.toArray] m (.bool (decide (¬ ∀ i, i < l.length → ¬ p i))) := by
  have hll := hl.le
  refine Exact.start Try.func110 rfl Try.ntmps110 rfl fun wld => ?_
  refine WC.seq ?_
  refine WC.region ?_
  refine WL.x (X.assign rfl) (by decide) ?_
  refine WL.nil ?_
  refine WK.nThen ?_
  refine WC.seq ?_
  refine WC.region ?_
  refine WL.x (X.move rfl) (by decide) ?_
  refine WL.x (X.move rfl) (by decide) ?_
  refine WL.x (X.call Try.call141 rfl (idx141 _ hl hE hcl)) (by decide) ?_
  refine WL.x (X.geq rfl rfl) (by decide) ?_
  refine WL.x (X.assign rfl) (by decide) ?_
  refine WL.nil ?_
  refine WK.nThen ?_
  refine WC.ret ?_
  refine WK.ret1 rfl rfl (fun w' hw' => Ret.exact hw' ?_)
  exact dec_eq (idxF_nn p l.length)

theorem idx111 (m : Mem) {vl : Value} {l : List Mark} (hl : Sl m vl l) {fn : Nat} {caps : List Value} {p : Nat → Prop} [DecidablePred p] (hE : Enters Try.prog fn) (hcl : (∀ i, i < l.length → Exact Try.prog fn (#[.agg (Flat.enc (gt l i)).toArray] ++ caps.toArray) m (.bool (decide (p i))))) : Exact Try.prog 111 #[vl, .func (.func fn) #[] caps.toArray] m (.int .i64 (idxF p l.length)) := by
  have hll := hl.le
  refine Exact.start Try.func111 rfl Try.ntmps111 rfl fun wld => ?_
  refine WC.seq ?_
  refine WC.region ?_
  refine WL.x (X.assign rfl) (by decide) ?_
  refine WL.nil ?_
  refine WK.nThen ?_
  refine WC.seq ?_
  refine WC.seq ?_
  refine WC.region ?_
  refine WL.x (X.move rfl) (by decide) ?_
  refine WL.x (X.len Try.runUnderlying26 rfl hl) (by decide) ?_
  refine WL.x (X.move rfl) (by decide) ?_
  refine WL.nil ?_
  refine WK.nThen ?_
  refine WC.block ?_
  refine WC.loop (G := Nat) (fun k => l.length - k) (fun k => m) (fun k => []) (fun k => [(0, vl), (1, .func (.func fn) #[] caps.toArray), (7, .int .i64 (↑l.length)), (8, .int .i64 (↑k))]) (fun k => k ≤ l.length ∧ (∀ j, j < k → ¬ p j)) 0 rfl (.refl _) (.cons rfl (.cons rfl (.cons rfl (.cons rfl .nil)))) ?_ ?_
  · exact ⟨Nat.zero_le _, fun j hj => absurd hj (Nat.not_lt_zero _)⟩
  · rintro k hF1
    show WK _ _ m [] [(0, vl), (1, .func (.func fn) #[] caps.toArray), (7, .int .i64 (↑l.length)), (8, .int .i64 (↑k))] _
    replace hF1 : k ≤ l.length ∧ (∀ j, j < k → ¬ p j) := hF1
    obtain ⟨hk, hall⟩ := hF1
    refine WC.seq ?_
    refine WC.region ?_
    refine WL.cond (X.lss rfl rfl) (by decide) (fun h2 => ?_) (fun h2 => ?_)
    · refine WL.nil ?_
      refine WK.nThen ?_
      refine WC.seq ?_
      refine WC.condT rfl ?_
      refine WC.skip ?_
      refine WK.nThen ?_
      refine WC.seq ?_
      refine WC.block ?_
      refine WC.seq ?_
      refine WC.region ?_
      refine WL.x (X.move rfl) (by decide) ?_
      refine WL.x (X.assign rfl) (by decide) ?_
      refine WL.nil ?_
      refine WK.nThen ?_
      refine WC.seq ?_
      refine WC.region ?_
      refine WL.x (X.move rfl) (by decide) ?_
      refine WL.x (X.move rfl) (by decide) ?_
      refine WL.x (X.move rfl) (by decide) ?_
      refine WL.xe (E.idxN k Try.runUnderlying26 Try.sizeOf33 rfl rfl hl (by omega)) (by decide) (fun p3 hp4 => ?_)
      refine WL.xe (E.loadAgg Try.isAgg33 Try.sizeOf33 rfl hp4) (by decide) (fun c5 hc6 => ?_)
      obtain rfl := hc6
      refine WL.cond (X.callc hE rfl rfl (hcl k (by omega))) (by decide) (fun h7 => ?_) (fun h7 => ?_)
      · refine WL.nil ?_
        refine WK.nThen ?_
        refine WC.condT rfl ?_
        refine WC.seq ?_
        refine WC.region ?_
        refine WL.x (X.move rfl) (by decide) ?_
        refine WL.x (X.assign rfl) (by decide) ?_
        refine WL.nil ?_
        refine WK.nThen ?_
        refine WC.ret ?_
        refine WK.rBlock ?_
        refine WK.rThen ?_
        refine WK.rThen ?_
        refine WK.rBlock ?_
        refine WK.rThen ?_
        refine WK.ret1 rfl rfl (fun w' hw' => Ret.exact hw' ?_)
        first | exact int_eq (idxF_yes (by omega) hall (by assumption)).symm | exact int_eq (idxF_no (fun j hj => hall j (by omega))).symm
      · refine WL.nil ?_
        refine WK.nThen ?_
        refine WC.condF rfl ?_
        refine WC.skip ?_
        refine WK.nBlock ?_
        refine WK.nThen ?_
        refine WC.region ?_
        refine WL.x (X.add rfl rfl (by omega) (by omega)) (by decide) ?_
        refine WL.x (X.move rfl) (by decide) ?_
        refine WL.nil ?_
        refine WK.nThen ?_
        refine WK.next (k + 1) rfl (.refl _) (.cons rfl (.cons rfl (.cons rfl (.cons rfl .nil)))) ?_ ?_
        · exact ⟨by omega, fun j hj => by rcases Nat.lt_succ_iff_lt_or_eq.1 hj with h | h; exact hall j h; subst h; assumption⟩
        · omega
    · refine WL.nil ?_
      refine WK.nThen ?_
      refine WC.seq ?_
      refine WC.condF rfl ?_
      refine WC.exit ?_
      refine WK.eThen ?_
      refine WK.eThen ?_
      refine WK.eHit ?_
      refine WK.nThen ?_
      refine WC.seq ?_
      refine WC.region ?_
      refine WL.x (X.assign rfl) (by decide) ?_
      refine WL.nil ?_
      refine WK.nThen ?_
      refine WC.ret ?_
      refine WK.ret1 rfl rfl (fun w' hw' => Ret.exact hw' ?_)
      first | exact int_eq (idxF_yes (by omega) hall (by assumption)).symm | exact int_eq (idxF_no (fun j hj => hall j (by omega))).symm

theorem idx137 (m : Mem) {vl : Value} {l : List Int} (hl : Sl m vl l) {fn : Nat} {caps : List Value} {p : Nat → Prop} [DecidablePred p] (hE : Enters Try.prog fn) (hcl : (∀ i, i < l.length → Exact Try.prog fn (#[.int .i64 (gt l i)] ++ caps.toArray) m (.bool (decide (p i))))) : Exact Try.prog 137 #[vl, .func (.func fn) #[] caps.toArray] m (.int .i64 (idxF p l.length)) := by
  have hll := hl.le
  refine Exact.start Try.func137 rfl Try.ntmps137 rfl fun wld => ?_
  refine WC.seq ?_
  refine WC.region ?_
  refine WL.x (X.assign rfl) (by decide) ?_
  refine WL.nil ?_
  refine WK.nThen ?_
  refine WC.seq ?_
  refine WC.seq ?_
  refine WC.region ?_
  refine WL.x (X.move rfl) (by decide) ?_
  refine WL.x (X.len Try.runUnderlying29 rfl hl) (by decide) ?_
  refine WL.x (X.move rfl) (by decide) ?_
  refine WL.nil ?_
  refine WK.nThen ?_
  refine WC.block ?_
  refine WC.loop (G := Nat) (fun k => l.length - k) (fun k => m) (fun k => []) (fun k => [(0, vl), (1, .func (.func fn) #[] caps.toArray), (7, .int .i64 (↑l.length)), (8, .int .i64 (↑k))]) (fun k => k ≤ l.length ∧ (∀ j, j < k → ¬ p j)) 0 rfl (.refl _) (.cons rfl (.cons rfl (.cons rfl (.cons rfl .nil)))) ?_ ?_
  · exact ⟨Nat.zero_le _, fun j hj => absurd hj (Nat.not_lt_zero _)⟩
  · rintro k hF1
    show WK _ _ m [] [(0, vl), (1, .func (.func fn) #[] caps.toArray), (7, .int .i64 (↑l.length)), (8, .int .i64 (↑k))] _
    replace hF1 : k ≤ l.length ∧ (∀ j, j < k → ¬ p j) := hF1
    obtain ⟨hk, hall⟩ := hF1
    refine WC.seq ?_
    refine WC.region ?_
    refine WL.cond (X.lss rfl rfl) (by decide) (fun h2 => ?_) (fun h2 => ?_)
    · refine WL.nil ?_
      refine WK.nThen ?_
      refine WC.seq ?_
      refine WC.condT rfl ?_
      refine WC.skip ?_
      refine WK.nThen ?_
      refine WC.seq ?_
      refine WC.block ?_
      refine WC.seq ?_
      refine WC.region ?_
      refine WL.x (X.move rfl) (by decide) ?_
      refine WL.x (X.assign rfl) (by decide) ?_
      refine WL.nil ?_
      refine WK.nThen ?_
      refine WC.seq ?_
      refine WC.region ?_
      refine WL.x (X.move rfl) (by decide) ?_
      refine WL.x (X.move rfl) (by decide) ?_
      refine WL.x (X.move rfl) (by decide) ?_
      refine WL.xe (E.idxN k Try.runUnderlying29 Try.sizeOf3 rfl rfl hl (by omega)) (by decide) (fun p3 hp4 => ?_)
      refine WL.x (X.loadInt Try.isAgg3 rfl hp4) (by decide) ?_
      refine WL.cond (X.callc hE rfl rfl (hcl k (by omega))) (by decide) (fun h5 => ?_) (fun h5 => ?_)
      · refine WL.nil ?_
        refine WK.nThen ?_
        refine WC.condT rfl ?_
        refine WC.seq ?_
        refine WC.region ?_
        refine WL.x (X.move rfl) (by decide) ?_
        refine WL.x (X.assign rfl) (by decide) ?_
        refine WL.nil ?_
        refine WK.nThen ?_
        refine WC.ret ?_
        refine WK.rBlock ?_
        refine WK.rThen ?_
        refine WK.rThen ?_
        refine WK.rBlock ?_
        refine WK.rThen ?_
        refine WK.ret1 rfl rfl (fun w' hw' => Ret.exact hw' ?_)
        first | exact int_eq (idxF_yes (by omega) hall (by assumption)).symm | exact int_eq (idxF_no (fun j hj => hall j (by omega))).symm
      · refine WL.nil ?_
        refine WK.nThen ?_
        refine WC.condF rfl ?_
        refine WC.skip ?_
        refine WK.nBlock ?_
        refine WK.nThen ?_
        refine WC.region ?_
        refine WL.x (X.add rfl rfl (by omega) (by omega)) (by decide) ?_
        refine WL.x (X.move rfl) (by decide) ?_
        refine WL.nil ?_
        refine WK.nThen ?_
        refine WK.next (k + 1) rfl (.refl _) (.cons rfl (.cons rfl (.cons rfl (.cons rfl .nil)))) ?_ ?_
        · exact ⟨by omega, fun j hj => by rcases Nat.lt_succ_iff_lt_or_eq.1 hj with h | h; exact hall j h; subst h; assumption⟩
        · omega
    · refine WL.nil ?_
      refine WK.nThen ?_
      refine WC.seq ?_
      refine WC.condF rfl ?_
      refine WC.exit ?_
      refine WK.eThen ?_
      refine WK.eThen ?_
      refine WK.eHit ?_
      refine WK.nThen ?_
      refine WC.seq ?_
      refine WC.region ?_
      refine WL.x (X.assign rfl) (by decide) ?_
      refine WL.nil ?_
      refine WK.nThen ?_
      refine WC.ret ?_
      refine WK.ret1 rfl rfl (fun w' hw' => Ret.exact hw' ?_)
      first | exact int_eq (idxF_yes (by omega) hall (by assumption)).symm | exact int_eq (idxF_no (fun j hj => hall j (by omega))).symm

theorem cont101 (m : Mem) {vl : Value} {l : List Int} (hl : Sl m vl l) {fn : Nat} {caps : List Value} {p : Nat → Prop} [DecidablePred p] (hE : Enters Try.prog fn) (hcl : (∀ i, i < l.length → Exact Try.prog fn (#[.int .i64 (gt l i)] ++ caps.toArray) m (.bool (decide (p i))))) : Exact Try.prog 101 #[vl, .func (.func fn) #[] caps.toArray] m (.bool (decide (¬ ∀ i, i < l.length → ¬ p i))) := by
  have hll := hl.le
  refine Exact.start Try.func101 rfl Try.ntmps101 rfl fun wld => ?_
  refine WC.seq ?_
  refine WC.region ?_
  refine WL.x (X.assign rfl) (by decide) ?_
  refine WL.nil ?_
  refine WK.nThen ?_
  refine WC.seq ?_
  refine WC.region ?_
  refine WL.x (X.move rfl) (by decide) ?_
  refine WL.x (X.move rfl) (by decide) ?_
  refine WL.x (X.call Try.call137 rfl (idx137 _ hl hE hcl)) (by decide) ?_
  refine WL.x (X.geq rfl rfl) (by decide) ?_
  refine WL.x (X.assign rfl) (by decide) ?_
  refine WL.nil ?_
  refine WK.nThen ?_
  refine WC.ret ?_
  refine WK.ret1 rfl rfl (fun w' hw' => Ret.exact hw' ?_)
  exact dec_eq (idxF_nn p l.length)

theorem idx139 (m : Mem) {vl : Value} {l : List (List Int)} (hl : Sl m vl l) {fn : Nat} {caps : List Value} {p : Nat → Prop} [DecidablePred p] (hE : Enters Try.prog fn) (hcl : (∀ i, i < l.length → ∀ v, Sl m v (gt l i) → Exact Try.prog fn (#[v] ++ caps.toArray) m (.bool (decide (p i))))) : Exact Try.prog 139 #[vl, .func (.func fn) #[] caps.toArray] m (.int .i64 (idxF p l.length)) := by
  have hll := hl.le
  refine Exact.start Try.func139 rfl Try.ntmps139 rfl fun wld => ?_
  refine WC.seq ?_
  refine WC.region ?_
  refine WL.x (X.assign rfl) (by decide) ?_
  refine WL.nil ?_
  refine WK.nThen ?_
  refine WC.seq ?_
  refine WC.seq ?_
  refine WC.region ?_
  refine WL.x (X.move rfl) (by decide) ?_
  refine WL.x (X.len Try.runUnderlying52 rfl hl) (by decide) ?_
  refine WL.x (X.move rfl) (by decide) ?_
  refine WL.nil ?_
  refine WK.nThen ?_
  refine WC.block ?_
  refine WC.loop (G := Nat) (fun k => l.length - k) (fun k => m) (fun k => []) (fun k => [(0, vl), (1, .func (.func fn) #[] caps.toArray), (7, .int .i64 (↑l.length)), (8, .int .i64 (↑k))]) (fun k => k ≤ l.length ∧ (∀ j, j < k → ¬ p j)) 0 rfl (.refl _) (.cons rfl (.cons rfl (.cons rfl (.cons rfl .nil)))) ?_ ?_
  · exact ⟨Nat.zero_le _, fun j hj => absurd hj (Nat.not_lt_zero _)⟩
  · rintro k hF1
    show WK _ _ m [] [(0, vl), (1, .func (.func fn) #[] caps.toArray), (7, .int .i64 (↑l.length)), (8, .int .i64 (↑k))] _
    replace hF1 : k ≤ l.length ∧ (∀ j, j < k → ¬ p j) := hF1
    obtain ⟨hk, hall⟩ := hF1
    refine WC.seq ?_
    refine WC.region ?_
    refine WL.cond (X.lss rfl rfl) (by decide) (fun h2 => ?_) (fun h2 => ?_)
    · refine WL.nil ?_
      refine WK.nThen ?_
      refine WC.seq ?_
      refine WC.condT rfl ?_
      refine WC.skip ?_
      refine WK.nThen ?_
      refine WC.seq ?_
      refine WC.block ?_
      refine WC.seq ?_
      refine WC.region ?_
      refine WL.x (X.move rfl) (by decide) ?_
      refine WL.x (X.assign rfl) (by decide) ?_
      refine WL.nil ?_
      refine WK.nThen ?_
      refine WC.seq ?_
      refine WC.region ?_
      refine WL.x (X.move rfl) (by decide) ?_
      refine WL.x (X.move rfl) (by decide) ?_
      refine WL.x (X.move rfl) (by decide) ?_
      refine WL.xe (E.idxN k Try.runUnderlying52 Try.sizeOf29 rfl rfl hl (by omega)) (by decide) (fun p3 hp4 => ?_)
      refine WL.xe (E.loadSl Try.isAgg29 rfl hp4) (by decide) (fun v5 hs6 => ?_)
      have hl7 := hs6.le
      refine WL.cond (X.callc hE rfl rfl (hcl k (by omega) _ hs6)) (by decide) (fun h8 => ?_) (fun h8 => ?_)
      · refine WL.nil ?_
        refine WK.nThen ?_
        refine WC.condT rfl ?_
        refine WC.seq ?_
        refine WC.region ?_
        refine WL.x (X.move rfl) (by decide) ?_
        refine WL.x (X.assign rfl) (by decide) ?_
        refine WL.nil ?_
        refine WK.nThen ?_
        refine WC.ret ?_
        refine WK.rBlock ?_
        refine WK.rThen ?_
        refine WK.rThen ?_
        refine WK.rBlock ?_
        refine WK.rThen ?_
        refine WK.ret1 rfl rfl (fun w' hw' => Ret.exact hw' ?_)
        first | exact int_eq (idxF_yes (by omega) hall (by assumption)).symm | exact int_eq (idxF_no (fun j hj => hall j (by omega))).symm
      · refine WL.nil ?_
        refine WK.nThen ?_
        refine WC.condF rfl ?_
        refine WC.skip ?_
        refine WK.nBlock ?_
        refine WK.nThen ?_
        refine WC.region ?_
        refine WL.x (X.add rfl rfl (by omega) (by omega)) (by decide) ?_
        refine WL.x (X.move rfl) (by decide) ?_
        refine WL.nil ?_
        refine WK.nThen ?_
        refine WK.next (k + 1) rfl (.refl _) (.cons rfl (.cons rfl (.cons rfl (.cons rfl .nil)))) ?_ ?_
        · exact ⟨by omega, fun j hj => by rcases Nat.lt_succ_iff_lt_or_eq.1 hj with h | h; exact hall j h; subst h; assumption⟩
        · omega
    · refine WL.nil ?_
      refine WK.nThen ?_
      refine WC.seq ?_
      refine WC.condF rfl ?_
      refine WC.exit ?_
      refine WK.eThen ?_
      refine WK.eThen ?_
      refine WK.eHit ?_
      refine WK.nThen ?_
      refine WC.seq ?_
      refine WC.region ?_
      refine WL.x (X.assign rfl) (by decide) ?_
      refine WL.nil ?_
      refine WK.nThen ?_
      refine WC.ret ?_
      refine WK.ret1 rfl rfl (fun w' hw' => Ret.exact hw' ?_)
      first | exact int_eq (idxF_yes (by omega) hall (by assumption)).symm | exact int_eq (idxF_no (fun j hj => hall j (by omega))).symm

theorem cont104 (m : Mem) {vl : Value} {l : List (List Int)} (hl : Sl m vl l) {fn : Nat} {caps : List Value} {p : Nat → Prop} [DecidablePred p] (hE : Enters Try.prog fn) (hcl : (∀ i, i < l.length → ∀ v, Sl m v (gt l i) → Exact Try.prog fn (#[v] ++ caps.toArray) m (.bool (decide (p i))))) : Exact Try.prog 104 #[vl, .func (.func fn) #[] caps.toArray] m (.bool (decide (¬ ∀ i, i < l.length → ¬ p i))) := by
  have hll := hl.le
  refine Exact.start Try.func104 rfl Try.ntmps104 rfl fun wld => ?_
  refine WC.seq ?_
  refine WC.region ?_
  refine WL.x (X.assign rfl) (by decide) ?_
  refine WL.nil ?_
  refine WK.nThen ?_
  refine WC.seq ?_
  refine WC.region ?_
  refine WL.x (X.move rfl) (by decide) ?_
  refine WL.x (X.move rfl) (by decide) ?_
  refine WL.x (X.call Try.call139 rfl (idx139 _ hl hE hcl)) (by decide) ?_
  refine WL.x (X.geq rfl rfl) (by decide) ?_
  refine WL.x (X.assign rfl) (by decide) ?_
  refine WL.nil ?_
  refine WK.nThen ?_
  refine WC.ret ?_
  refine WK.ret1 rfl rfl (fun w' hw' => Ret.exact hw' ?_)
  exact dec_eq (idxF_nn p l.length)

theorem check43 (m : Mem) (cd : List Value) (d : Drum) (hd : Enc.rd m cd d)   : Exact Try.prog 43 #[.agg cd.toArray] m (.int .i64 (drumE d)) := by
  obtain ⟨v1, v3, rfl, hs2, hs4⟩ := hd
  have hl5 := hs2.le
  have hl6 := hs4.le
  refine Exact.start Try.func43 rfl Try.ntmps43 rfl fun wld => ?_
  refine WC.seq ?_
  refine WC.region ?_
  refine WL.tn (T.boxB rfl rfl) (by decide) fun b7 => ?_
  refine WL.x (X.assign rfl) (by decide) ?_
  refine WL.nil ?_
  refine WK.nThen ?_
  refine WC.seq ?_
  refine WC.region ?_
  refine WL.x (X.assign rfl) (by decide) ?_
  refine WL.nil ?_
  refine WK.nThen ?_
  refine WC.seq ?_
  refine WK.freezeS (α := Drum) (x := d) 0 rfl rfl (show Enc.rd (α := Drum) m [v1, v3] d from ⟨_, _, rfl, hs2, hs4⟩) (fun m8 hle9 hp10 => ?_)
  replace hs2 := hs2.mono hle9
  replace hs4 := hs4.mono hle9
  refine WC.region ?_
  refine WL.x (X.makeFunc (by intro x hx; simp at hx; subst hx; all_goals exact ⟨_, rfl⟩) rfl) (by decide) ?_
  refine WL.x (X.assign rfl) (by decide) ?_
  refine WL.nil ?_
  refine WK.nThen ?_
  refine WC.seq ?_
  refine WC.seq ?_
  refine WC.region ?_
  have hp11 := At.Drum_0 hp10
  refine WL.x (X.field Try.runUnderlying25 rfl Try.sizeOf22 rfl) (by decide) ?_
  refine WL.xe (E.loadSl Try.isAgg22 rfl hp11) (by decide) (fun v12 hs13 => ?_)
  have hl14 := hs13.le
  refine WL.x (X.len Try.runUnderlying22 rfl hs13) (by decide) ?_
  refine WL.cond (X.call Try.call92 rfl (within92 _ _ _ _ )) (by decide) (fun h15 => ?_) (fun h15 => ?_)
  · refine WL.x (X.not rfl) (by decide) ?_
    refine WL.x (X.move rfl) (by decide) ?_
    refine WL.yes rfl rfl ?_
    have hp16 := At.Drum_1 hp10
    refine WL.x (X.field Try.runUnderlying25 rfl Try.sizeOf23 rfl) (by decide) ?_
    refine WL.yes rfl rfl ?_
    refine WL.xe (E.loadSl Try.isAgg23 rfl hp16) (by decide) (fun v17 hs18 => ?_)
    have hl19 := hs18.le
    refine WL.yes rfl rfl ?_
    refine WL.x (X.len Try.runUnderlying23 rfl hs18) (by decide) ?_
    refine WL.yes rfl rfl ?_
    refine WL.cond (X.gtr rfl rfl) (by decide) (fun h20 => ?_) (fun h20 => ?_)
    · refine WL.x (X.pickF rfl rfl rfl) (by decide) ?_
      refine WL.x (X.move rfl) (by decide) ?_
      refine WL.no rfl rfl rfl (by decide) ?_
      refine WL.no rfl rfl rfl (by decide) ?_
      refine WL.no rfl rfl rfl (by decide) ?_
      refine WL.no rfl rfl rfl (by decide) ?_
      refine WL.x (X.pickT rfl rfl rfl) (by decide) ?_
      refine WL.x (X.move rfl) (by decide) ?_
      refine WL.no rfl rfl rfl (by decide) ?_
      refine WL.no rfl rfl rfl (by decide) ?_
      refine WL.no rfl rfl rfl (by decide) ?_
      refine WL.no rfl rfl rfl (by decide) ?_
      refine WL.x (X.pickT rfl rfl rfl) (by decide) ?_
      refine WL.nil ?_
      refine WK.nThen ?_
      refine WC.condT rfl ?_
      refine WC.seq ?_
      refine WC.region ?_
      refine WL.x (X.assign rfl) (by decide) ?_
      refine WL.nil ?_
      refine WK.nThen ?_
      refine WC.ret ?_
      refine WK.rThen ?_
      refine WK.ret1 rfl rfl (fun w' hw' => Ret.exact hw' ?_)
      first | exact int_eq (drumE_bad (fun h => by have h1 := h.1; have h2 := h.2.1; have h3 := h.2.2; first | omega | contradiction)).symm | exact int_eq (drumE_ok ⟨by omega, Classical.byContradiction (fun h => by contradiction), Classical.byContradiction (fun h => by contradiction)⟩).symm
    · refine WL.x (X.pickF rfl rfl rfl) (by decide) ?_
      refine WL.x (X.move rfl) (by decide) ?_
      refine WL.yes rfl rfl ?_
      have hp21 := At.Drum_0 hp10
      refine WL.x (X.field Try.runUnderlying25 rfl Try.sizeOf22 rfl) (by decide) ?_
      refine WL.yes rfl rfl ?_
      refine WL.xe (E.loadSl Try.isAgg22 rfl hp21) (by decide) (fun v22 hs23 => ?_)
      have hl24 := hs23.le
      refine WL.yes rfl rfl ?_
      refine WL.x (X.move rfl) (by decide) ?_
      refine WL.yes rfl rfl ?_
      refine WL.cond (X.call Try.call109 rfl (cont109 (p := fun i => ¬ spOk (gt d.Rates i) 1 40) _ hs23 (caps := []) Try.call106 (fun i _ => rate106 _ _ (gt d.Rates i) rfl))) (by decide) (fun h25 => ?_) (fun h25 => ?_)
      · refine WL.x (X.pickF rfl rfl rfl) (by decide) ?_
        refine WL.x (X.move rfl) (by decide) ?_
        refine WL.no rfl rfl rfl (by decide) ?_
        refine WL.no rfl rfl rfl (by decide) ?_
        refine WL.no rfl rfl rfl (by decide) ?_
        refine WL.no rfl rfl rfl (by decide) ?_
        refine WL.x (X.pickT rfl rfl rfl) (by decide) ?_
        refine WL.nil ?_
        refine WK.nThen ?_
        refine WC.condT rfl ?_
        refine WC.seq ?_
        refine WC.region ?_
        refine WL.x (X.assign rfl) (by decide) ?_
        refine WL.nil ?_
        refine WK.nThen ?_
        refine WC.ret ?_
        refine WK.rThen ?_
        refine WK.ret1 rfl rfl (fun w' hw' => Ret.exact hw' ?_)
        first | exact int_eq (drumE_bad (fun h => by have h1 := h.1; have h2 := h.2.1; have h3 := h.2.2; first | omega | contradiction)).symm | exact int_eq (drumE_ok ⟨by omega, Classical.byContradiction (fun h => by contradiction), Classical.byContradiction (fun h => by contradiction)⟩).symm
      · refine WL.x (X.pickF rfl rfl rfl) (by decide) ?_
        refine WL.x (X.move rfl) (by decide) ?_
        refine WL.yes rfl rfl ?_
        have hp26 := At.Drum_1 hp10
        refine WL.x (X.field Try.runUnderlying25 rfl Try.sizeOf23 rfl) (by decide) ?_
        refine WL.yes rfl rfl ?_
        refine WL.xe (E.loadSl Try.isAgg23 rfl hp26) (by decide) (fun v27 hs28 => ?_)
        have hl29 := hs28.le
        refine WL.yes rfl rfl ?_
        refine WL.x (X.move rfl) (by decide) ?_
        refine WL.yes rfl rfl ?_
        refine WL.cond (X.call Try.call110 rfl (cont110 (p := fun i => ¬ ((0 ≤ (gt d.Stops i).Column ∧ (gt d.Stops i).Column ≤ (d.Rates.length : Int) - 1) ∧ spOk (gt d.Stops i).Ticks 0 400)) _ hs28 (caps := [.pointer (some (⟨b7, 0, none⟩))]) Try.call108 (fun i _ => stop108 _ (s := gt d.Stops i) rfl hp10))) (by decide) (fun h30 => ?_) (fun h30 => ?_)
        · refine WL.x (X.pickF rfl rfl rfl) (by decide) ?_
          refine WL.nil ?_
          refine WK.nThen ?_
          refine WC.condT rfl ?_
          refine WC.seq ?_
          refine WC.region ?_
          refine WL.x (X.assign rfl) (by decide) ?_
          refine WL.nil ?_
          refine WK.nThen ?_
          refine WC.ret ?_
          refine WK.rThen ?_
          refine WK.ret1 rfl rfl (fun w' hw' => Ret.exact hw' ?_)
          first | exact int_eq (drumE_bad (fun h => by have h1 := h.1; have h2 := h.2.1; have h3 := h.2.2; first | omega | contradiction)).symm | exact int_eq (drumE_ok ⟨by omega, Classical.byContradiction (fun h => by contradiction), Classical.byContradiction (fun h => by contradiction)⟩).symm
        · refine WL.x (X.pickF rfl rfl rfl) (by decide) ?_
          refine WL.nil ?_
          refine WK.nThen ?_
          refine WC.condF rfl ?_
          refine WC.skip ?_
          refine WK.nThen ?_
          refine WC.seq ?_
          refine WC.region ?_
          refine WL.x (X.assign rfl) (by decide) ?_
          refine WL.nil ?_
          refine WK.nThen ?_
          refine WC.ret ?_
          refine WK.ret1 rfl rfl (fun w' hw' => Ret.exact hw' ?_)
          first | exact int_eq (drumE_bad (fun h => by have h1 := h.1; have h2 := h.2.1; have h3 := h.2.2; first | omega | contradiction)).symm | exact int_eq (drumE_ok ⟨by omega, Classical.byContradiction (fun h => by contradiction), Classical.byContradiction (fun h => by contradiction)⟩).symm
  · refine WL.x (X.not rfl) (by decide) ?_
    refine WL.x (X.move rfl) (by decide) ?_
    refine WL.no rfl rfl rfl (by decide) ?_
    refine WL.no rfl rfl rfl (by decide) ?_
    refine WL.no rfl rfl rfl (by decide) ?_
    refine WL.no rfl rfl rfl (by decide) ?_
    refine WL.x (X.pickT rfl rfl rfl) (by decide) ?_
    refine WL.x (X.move rfl) (by decide) ?_
    refine WL.no rfl rfl rfl (by decide) ?_
    refine WL.no rfl rfl rfl (by decide) ?_
    refine WL.no rfl rfl rfl (by decide) ?_
    refine WL.no rfl rfl rfl (by decide) ?_
    refine WL.x (X.pickT rfl rfl rfl) (by decide) ?_
    refine WL.x (X.move rfl) (by decide) ?_
    refine WL.no rfl rfl rfl (by decide) ?_
    refine WL.no rfl rfl rfl (by decide) ?_
    refine WL.no rfl rfl rfl (by decide) ?_
    refine WL.no rfl rfl rfl (by decide) ?_
    refine WL.x (X.pickT rfl rfl rfl) (by decide) ?_
    refine WL.nil ?_
    refine WK.nThen ?_
    refine WC.condT rfl ?_
    refine WC.seq ?_
    refine WC.region ?_
    refine WL.x (X.assign rfl) (by decide) ?_
    refine WL.nil ?_
    refine WK.nThen ?_
    refine WC.ret ?_
    refine WK.rThen ?_
    refine WK.ret1 rfl rfl (fun w' hw' => Ret.exact hw' ?_)
    first | exact int_eq (drumE_bad (fun h => by have h1 := h.1; have h2 := h.2.1; have h3 := h.2.2; first | omega | contradiction)).symm | exact int_eq (drumE_ok ⟨by omega, Classical.byContradiction (fun h => by contradiction), Classical.byContradiction (fun h => by contradiction)⟩).symm

theorem marks44 (m : Mem) (cd : List Value) (d : Drum) (hd : Enc.rd m cd d) (vm_ : Value) (m_ : List Mark) (hm_ : Sl m vm_ m_)   : Exact Try.prog 44 #[.agg cd.toArray, vm_] m (.tuple #[.int .i64 ((marksR d m_).1), .int .i64 ((marksR d m_).2)]) := by
  obtain ⟨v1, v3, rfl, hs2, hs4⟩ := hd
  have hl5 := hs2.le
  have hl6 := hs4.le
  have lm_ := hm_.le
  refine Exact.start Try.func44 rfl Try.ntmps44 rfl fun wld => ?_
  refine WC.seq ?_
  refine WC.region ?_
  refine WL.tn (T.boxB rfl rfl) (by decide) fun b7 => ?_
  refine WL.x (X.assign rfl) (by decide) ?_
  refine WL.x (X.assign rfl) (by decide) ?_
  refine WL.nil ?_
  refine WK.nThen ?_
  refine WC.seq ?_
  refine WC.block ?_
  refine WC.seq ?_
  refine WC.region ?_
  refine WL.x (X.loadBA (k := 0) Try.isAgg25 Try.sizeOf25 rfl rfl rfl) (by decide) ?_
  refine WL.x (X.call Try.call43 rfl (check43 _ _ d ⟨_, _, rfl, hs2, hs4⟩ )) (by decide) ?_
  refine WL.condn (X.neq rfl rfl) (by decide) (fun h8 => ?_) (fun h8 => ?_)
  · refine WL.x (X.assign rfl) (by decide) ?_
    refine WL.nil ?_
    refine WK.nThen ?_
    refine WC.condT rfl ?_
    refine WC.seq ?_
    refine WC.region ?_
    refine WL.x (X.assign rfl) (by decide) ?_
    refine WL.x (X.assign rfl) (by decide) ?_
    refine WL.nil ?_
    refine WK.nThen ?_
    refine WC.ret ?_
    refine WK.rBlock ?_
    refine WK.rThen ?_
    refine WK.ret2 rfl rfl rfl (fun w' hw' => Ret.exact hw' ?_)
    first | exact tup2 (int_eq (by rw [marksR_drum (by omega)])) (int_eq (by rw [marksR_drum (by omega)])) | exact tup2 (int_eq (by rw [marksR_big (by omega) (by omega)])) (int_eq (by rw [marksR_big (by omega) (by omega)])) | exact tup2 (int_eq (by rw [marksR_ok (by omega) (by omega) (idxF_neg (by omega))])) (int_eq (by rw [marksR_ok (by omega) (by omega) (idxF_neg (by omega))])) | exact tup2 (int_eq (by rw [marksR_idx (by omega) (by omega) (by omega)])) (int_eq (by rw [marksR_idx (by omega) (by omega) (by omega)]))
  · refine WL.x (X.assign rfl) (by decide) ?_
    refine WL.nil ?_
    refine WK.nThen ?_
    refine WC.condF rfl ?_
    refine WC.seq ?_
    refine WC.region ?_
    refine WL.x (X.move rfl) (by decide) ?_
    refine WL.x (X.len Try.runUnderlying26 rfl hm_) (by decide) ?_
    refine WL.cond (X.gtr rfl rfl) (by decide) (fun h9 => ?_) (fun h9 => ?_)
    · refine WL.x (X.assign rfl) (by decide) ?_
      refine WL.nil ?_
      refine WK.nThen ?_
      refine WC.condT rfl ?_
      refine WC.seq ?_
      refine WC.region ?_
      refine WL.x (X.assign rfl) (by decide) ?_
      refine WL.x (X.assign rfl) (by decide) ?_
      refine WL.nil ?_
      refine WK.nThen ?_
      refine WC.ret ?_
      refine WK.rBlock ?_
      refine WK.rThen ?_
      refine WK.ret2 rfl rfl rfl (fun w' hw' => Ret.exact hw' ?_)
      first | exact tup2 (int_eq (by rw [marksR_drum (by omega)])) (int_eq (by rw [marksR_drum (by omega)])) | exact tup2 (int_eq (by rw [marksR_big (by omega) (by omega)])) (int_eq (by rw [marksR_big (by omega) (by omega)])) | exact tup2 (int_eq (by rw [marksR_ok (by omega) (by omega) (idxF_neg (by omega))])) (int_eq (by rw [marksR_ok (by omega) (by omega) (idxF_neg (by omega))])) | exact tup2 (int_eq (by rw [marksR_idx (by omega) (by omega) (by omega)])) (int_eq (by rw [marksR_idx (by omega) (by omega) (by omega)]))
    · refine WL.x (X.assign rfl) (by decide) ?_
      refine WL.nil ?_
      refine WK.nThen ?_
      refine WC.condF rfl ?_
      refine WC.skip ?_
      refine WK.nBlock ?_
      refine WK.nThen ?_
      refine WC.seq ?_
      refine WC.seq ?_
      refine WK.freezeS (α := Drum) (x := d) 0 rfl rfl (show Enc.rd (α := Drum) m [v1, v3] d from ⟨_, _, rfl, hs2, hs4⟩) (fun m10 hle11 hp12 => ?_)
      replace hs2 := hs2.mono hle11
      replace hs4 := hs4.mono hle11
      replace hm_ := hm_.mono hle11
      refine WC.region ?_
      refine WL.x (X.move rfl) (by decide) ?_
      refine WL.x (X.makeFunc (by intro x hx; simp at hx; subst hx; all_goals exact ⟨_, rfl⟩) rfl) (by decide) ?_
      refine WL.x (X.call Try.call111 rfl (idx111 (p := markB d m_) _ hm_ (caps := [.pointer (some (⟨b7, 0, none⟩))]) Try.call112 (fun i _ => mark112 _ (x := gt m_ i) rfl hp12))) (by decide) ?_
      refine WL.x (X.assign rfl) (by decide) ?_
      refine WL.nil ?_
      refine WK.nThen ?_
      refine WC.seq ?_
      refine WC.region ?_
      refine WL.x (X.move rfl) (by decide) ?_
      refine WL.cond (X.geq rfl rfl) (by decide) (fun h13 => ?_) (fun h13 => ?_)
      · refine WL.nil ?_
        refine WK.nThen ?_
        refine WC.condT rfl ?_
        refine WC.seq ?_
        refine WC.region ?_
        refine WL.x (X.move rfl) (by decide) ?_
        refine WL.x (X.assign rfl) (by decide) ?_
        refine WL.x (X.assign rfl) (by decide) ?_
        refine WL.nil ?_
        refine WK.nThen ?_
        refine WC.ret ?_
        refine WK.rThen ?_
        refine WK.ret2 rfl rfl rfl (fun w' hw' => Ret.exact hw' ?_)
        first | exact tup2 (int_eq (by rw [marksR_drum (by omega)])) (int_eq (by rw [marksR_drum (by omega)])) | exact tup2 (int_eq (by rw [marksR_big (by omega) (by omega)])) (int_eq (by rw [marksR_big (by omega) (by omega)])) | exact tup2 (int_eq (by rw [marksR_ok (by omega) (by omega) (idxF_neg (by omega))])) (int_eq (by rw [marksR_ok (by omega) (by omega) (idxF_neg (by omega))])) | exact tup2 (int_eq (by rw [marksR_idx (by omega) (by omega) (by omega)])) (int_eq (by rw [marksR_idx (by omega) (by omega) (by omega)]))
      · refine WL.nil ?_
        refine WK.nThen ?_
        refine WC.condF rfl ?_
        refine WC.skip ?_
        refine WK.nThen ?_
        refine WC.seq ?_
        refine WC.region ?_
        refine WL.x (X.assign rfl) (by decide) ?_
        refine WL.x (X.assign rfl) (by decide) ?_
        refine WL.nil ?_
        refine WK.nThen ?_
        refine WC.ret ?_
        refine WK.ret2 rfl rfl rfl (fun w' hw' => Ret.exact hw' ?_)
        first | exact tup2 (int_eq (by rw [marksR_drum (by omega)])) (int_eq (by rw [marksR_drum (by omega)])) | exact tup2 (int_eq (by rw [marksR_big (by omega) (by omega)])) (int_eq (by rw [marksR_big (by omega) (by omega)])) | exact tup2 (int_eq (by rw [marksR_ok (by omega) (by omega) (idxF_neg (by omega))])) (int_eq (by rw [marksR_ok (by omega) (by omega) (idxF_neg (by omega))])) | exact tup2 (int_eq (by rw [marksR_idx (by omega) (by omega) (by omega)])) (int_eq (by rw [marksR_idx (by omega) (by omega) (by omega)]))

theorem checked91 (m : Mem) (cd : List Value) (d : Drum) (hd : Enc.rd m cd d) (vm_ : Value) (m_ : List Mark) (hm_ : Sl m vm_ m_)   : Exact Try.prog 91 #[.agg cd.toArray, vm_] m (.int .i64 (chkE d m_)) := by
  obtain ⟨v1, v3, rfl, hs2, hs4⟩ := hd
  have hl5 := hs2.le
  have hl6 := hs4.le
  have lm_ := hm_.le
  refine Exact.start Try.func91 rfl Try.ntmps91 rfl fun wld => ?_
  refine WC.seq ?_
  refine WC.region ?_
  refine WL.tn (T.boxB rfl rfl) (by decide) fun b7 => ?_
  refine WL.x (X.assign rfl) (by decide) ?_
  refine WL.nil ?_
  refine WK.nThen ?_
  refine WC.seq ?_
  refine WC.region ?_
  refine WL.x (X.loadBA (k := 0) Try.isAgg25 Try.sizeOf25 rfl rfl rfl) (by decide) ?_
  refine WL.x (X.move rfl) (by decide) ?_
  refine WL.x (X.call Try.call44 rfl (marks44 _ _ d ⟨_, _, rfl, hs2, hs4⟩ _ _ hm_ )) (by decide) ?_
  refine WL.x (X.move rfl) (by decide) ?_
  refine WL.x (X.extract rfl rfl) (by decide) ?_
  refine WL.x (X.extract rfl rfl) (by decide) ?_
  refine WL.x (X.assign rfl) (by decide) ?_
  refine WL.x (X.assign rfl) (by decide) ?_
  refine WL.nil ?_
  refine WK.nThen ?_
  refine WC.seq ?_
  refine WC.seq ?_
  refine WC.region ?_
  refine WL.x (X.move rfl) (by decide) ?_
  refine WL.cond (X.eql rfl rfl) (by decide) (fun h8 => ?_) (fun h8 => ?_)
  · refine WL.nil ?_
    refine WK.nThen ?_
    refine WC.condT rfl ?_
    refine WC.seq ?_
    refine WC.region ?_
    refine WL.x (X.assign rfl) (by decide) ?_
    refine WL.nil ?_
    refine WK.nThen ?_
    refine WC.ret ?_
    refine WK.rThen ?_
    refine WK.ret1 rfl rfl (fun w' hw' => Ret.exact hw' ?_)
    first | exact int_eq (by unfold chkE; rw [if_pos (by assumption)]) | exact int_eq (by unfold chkE; rw [if_neg (by assumption)])
  · refine WL.nil ?_
    refine WK.nThen ?_
    refine WC.condF rfl ?_
    refine WC.skip ?_
    refine WK.nThen ?_
    refine WC.seq ?_
    refine WC.region ?_
    refine WL.x (X.move rfl) (by decide) ?_
    refine WL.x (X.assign rfl) (by decide) ?_
    refine WL.nil ?_
    refine WK.nThen ?_
    refine WC.ret ?_
    refine WK.ret1 rfl rfl (fun w' hw' => Ret.exact hw' ?_)
    first | exact int_eq (by unfold chkE; rw [if_pos (by assumption)]) | exact int_eq (by unfold chkE; rw [if_neg (by assumption)])

theorem check54 (m : Mem) (cd : List Value) (d : Drum) (hd : Enc.rd m cd d)   : Exact Try.prog 54 #[.agg cd.toArray] m (.int .i64 (drumE d)) := by
  obtain ⟨v1, v3, rfl, hs2, hs4⟩ := hd
  have hl5 := hs2.le
  have hl6 := hs4.le
  refine Exact.start Try.func54 rfl Try.ntmps54 rfl fun wld => ?_
  refine WC.seq ?_
  refine WC.region ?_
  refine WL.tn (T.boxB rfl rfl) (by decide) fun b7 => ?_
  refine WL.x (X.assign rfl) (by decide) ?_
  refine WL.nil ?_
  refine WK.nThen ?_
  refine WC.seq ?_
  refine WC.seq ?_
  refine WC.region ?_
  refine WL.x (X.field Try.runUnderlying25 rfl Try.sizeOf22 rfl) (by decide) ?_
  refine WL.x (X.loadB (k := 0) Try.isAgg22 rfl rfl rfl) (by decide) ?_
  refine WL.x (X.len Try.runUnderlying22 rfl hs2) (by decide) ?_
  refine WL.cond (X.call Try.call84 rfl (within84 _ _ _ _ )) (by decide) (fun h8 => ?_) (fun h8 => ?_)
  · refine WL.x (X.not rfl) (by decide) ?_
    refine WL.x (X.move rfl) (by decide) ?_
    refine WL.yes rfl rfl ?_
    refine WL.x (X.field Try.runUnderlying25 rfl Try.sizeOf23 rfl) (by decide) ?_
    refine WL.yes rfl rfl ?_
    refine WL.x (X.loadB (k := 0) Try.isAgg23 rfl rfl rfl) (by decide) ?_
    refine WL.yes rfl rfl ?_
    refine WL.x (X.len Try.runUnderlying23 rfl hs4) (by decide) ?_
    refine WL.yes rfl rfl ?_
    refine WL.cond (X.gtr rfl rfl) (by decide) (fun h9 => ?_) (fun h9 => ?_)
    · refine WL.x (X.pickF rfl rfl rfl) (by decide) ?_
      refine WL.nil ?_
      refine WK.nThen ?_
      refine WC.condT rfl ?_
      refine WC.seq ?_
      refine WC.region ?_
      refine WL.x (X.assign rfl) (by decide) ?_
      refine WL.nil ?_
      refine WK.nThen ?_
      refine WC.ret ?_
      refine WK.rThen ?_
      refine WK.ret1 rfl rfl (fun w' hw' => Ret.exact hw' ?_)
      first | exact int_eq (drumE_bad (fun h => by have h1 := h.1; omega)).symm | exact int_eq (drumE_bad (fun h => h.2.1 k (by omega) (by unfold rateB spOk; omega))).symm | exact int_eq (drumE_bad (fun h => h.2.2 i (by omega) (by unfold stopB spOk; omega))).symm | exact int_eq (drumE_ok ⟨by omega, hV, fun j hj => hall2 j (by omega)⟩).symm
    · refine WL.x (X.pickF rfl rfl rfl) (by decide) ?_
      refine WL.nil ?_
      refine WK.nThen ?_
      refine WC.condF rfl ?_
      refine WC.skip ?_
      refine WK.nThen ?_
      refine WC.seq ?_
      refine WC.seq ?_
      refine WC.region ?_
      refine WL.x (X.assign rfl) (by decide) ?_
      refine WL.nil ?_
      refine WK.nThen ?_
      refine WC.block ?_
      refine WC.loop (G := Nat) (fun k => d.Rates.length - k) (fun k => m) (fun k => [blk b7 25 [v1, v3]]) (fun k => [(1, .pointer (some ⟨b7, 0, none⟩)), (3, .int .i64 (↑k))]) (fun k => k ≤ d.Rates.length ∧ (∀ j, j < k → ¬ rateB d j)) 0 rfl (.refl _) (.cons rfl (.cons rfl .nil)) ?_ ?_
      · exact ⟨Nat.zero_le _, fun j hj => absurd hj (Nat.not_lt_zero _)⟩
      · rintro k hF10
        show WK _ _ m [blk b7 25 [v1, v3]] [(1, .pointer (some ⟨b7, 0, none⟩)), (3, .int .i64 (↑k))] _
        replace hF10 : k ≤ d.Rates.length ∧ (∀ j, j < k → ¬ rateB d j) := hF10
        obtain ⟨hk, hall⟩ := hF10
        refine WC.seq ?_
        refine WC.seq ?_
        refine WC.region ?_
        refine WL.x (X.move rfl) (by decide) ?_
        refine WL.x (X.field Try.runUnderlying25 rfl Try.sizeOf22 rfl) (by decide) ?_
        refine WL.x (X.loadB (k := 0) Try.isAgg22 rfl rfl rfl) (by decide) ?_
        refine WL.x (X.len Try.runUnderlying22 rfl hs2) (by decide) ?_
        refine WL.cond (X.lss rfl rfl) (by decide) (fun h11 => ?_) (fun h11 => ?_)
        · refine WL.nil ?_
          refine WK.nThen ?_
          refine WC.condT rfl ?_
          refine WC.skip ?_
          refine WK.nThen ?_
          refine WC.seq ?_
          refine WC.block ?_
          refine WC.seq ?_
          refine WC.draw (π := (.cons 0 (.cons 1 (.cons 2 (.cons 3 (.cons 4 (.cons 5 (.cons 6 (.cons 7 (.cons 8 (.cons 9 (.cons 10 (.cons 11 (.cons 12 (.cons 13 (.cons 14 (.cons 15 (.cons 16 (.cons 17 (.cons 18 (.cons 19 (.cons 20 (.cons 21 (.cons 22 .done)))))))))))))))))))))))) [] [] rfl (by kernel_rfl) ?_
          refine DW.x rfl rfl (X.field Try.runUnderlying25 rfl Try.sizeOf22 rfl) (by decide) ?_
          refine DW.x rfl rfl (X.loadB (k := 0) Try.isAgg22 rfl rfl rfl) (by decide) ?_
          refine DW.x rfl rfl (X.move rfl) (by decide) ?_
          refine DW.xe rfl rfl (E.idxN k Try.runUnderlying22 Try.sizeOf31 rfl rfl hs2 (by omega)) (by decide) (fun p12 hp13 => ?_)
          have hp14 := At.Span_0 hp13
          refine DW.x rfl rfl (X.field Try.runUnderlying31 rfl Try.sizeOf3 rfl) (by decide) ?_
          refine DW.x rfl rfl (X.loadInt Try.isAgg3 rfl hp14) (by decide) ?_
          refine DW.x rfl rfl (X.field Try.runUnderlying25 rfl Try.sizeOf22 rfl) (by decide) ?_
          refine DW.x rfl rfl (X.loadB (k := 0) Try.isAgg22 rfl rfl rfl) (by decide) ?_
          refine DW.x rfl rfl (X.move rfl) (by decide) ?_
          refine DW.xe rfl rfl (E.idxN k Try.runUnderlying22 Try.sizeOf31 rfl rfl hs2 (by omega)) (by decide) (fun p15 hp16 => ?_)
          have hp17 := At.Span_1 hp16
          refine DW.x rfl rfl (X.field Try.runUnderlying31 rfl Try.sizeOf3 rfl) (by decide) ?_
          refine DW.x rfl rfl (X.loadInt Try.isAgg3 rfl hp17) (by decide) ?_
          refine DW.cond rfl rfl (X.call Try.call84 rfl (within84 _ _ _ _ )) (by decide) (fun h18 => ?_) (fun h18 => ?_)
          · refine DW.x rfl rfl (X.not rfl) (by decide) ?_
            refine DW.x rfl rfl (X.move rfl) (by decide) ?_
            refine DW.x rfl rfl (X.field Try.runUnderlying25 rfl Try.sizeOf22 rfl) (by decide) ?_
            refine DW.x rfl rfl (X.loadB (k := 0) Try.isAgg22 rfl rfl rfl) (by decide) ?_
            refine DW.x rfl rfl (X.move rfl) (by decide) ?_
            refine DW.xe rfl rfl (E.idxN k Try.runUnderlying22 Try.sizeOf31 rfl rfl hs2 (by omega)) (by decide) (fun p19 hp20 => ?_)
            have hp21 := At.Span_1 hp20
            refine DW.x rfl rfl (X.field Try.runUnderlying31 rfl Try.sizeOf3 rfl) (by decide) ?_
            refine DW.x rfl rfl (X.loadInt Try.isAgg3 rfl hp21) (by decide) ?_
            refine DW.cond rfl rfl (X.gtr rfl rfl) (by decide) (fun h22 => ?_) (fun h22 => ?_)
            · refine DW.x rfl rfl (X.pickF rfl rfl rfl) (by decide) ?_
              refine DW.nil ?_
              refine WK.nThen ?_
              refine WC.condT rfl ?_
              refine WC.seq ?_
              refine WC.region ?_
              refine WL.x (X.assign rfl) (by decide) ?_
              refine WL.nil ?_
              refine WK.nThen ?_
              refine WC.ret ?_
              refine WK.rBlock ?_
              refine WK.rThen ?_
              refine WK.rThen ?_
              refine WK.rBlock ?_
              refine WK.rThen ?_
              refine WK.ret1 rfl rfl (fun w' hw' => Ret.exact hw' ?_)
              first | exact int_eq (drumE_bad (fun h => by have h1 := h.1; omega)).symm | exact int_eq (drumE_bad (fun h => h.2.1 k (by omega) (by unfold rateB spOk; omega))).symm | exact int_eq (drumE_bad (fun h => h.2.2 i (by omega) (by unfold stopB spOk; omega))).symm | exact int_eq (drumE_ok ⟨by omega, hV, fun j hj => hall2 j (by omega)⟩).symm
            · refine DW.x rfl rfl (X.pickF rfl rfl rfl) (by decide) ?_
              refine DW.nil ?_
              refine WK.nThen ?_
              refine WC.condF rfl ?_
              refine WC.skip ?_
              refine WK.nBlock ?_
              refine WK.nThen ?_
              refine WC.region ?_
              refine WL.x (X.move rfl) (by decide) ?_
              refine WL.x (X.add rfl rfl (by omega) (by omega)) (by decide) ?_
              refine WL.x (X.assign rfl) (by decide) ?_
              refine WL.nil ?_
              refine WK.nThen ?_
              refine WK.next (k + 1) rfl (.refl _) (.cons rfl (.cons rfl .nil)) ?_ ?_
              · exact ⟨by omega, fun j hj => by rcases Nat.lt_succ_iff_lt_or_eq.1 hj with h | h; exact hall j h; subst h; (unfold rateB spOk; omega)⟩
              · omega
          · refine DW.x rfl rfl (X.not rfl) (by decide) ?_
            refine DW.x rfl rfl (X.move rfl) (by decide) ?_
            refine DW.no rfl rfl (by decide) ?_
            refine DW.no rfl rfl (by decide) ?_
            refine DW.no rfl rfl (by decide) ?_
            refine DW.no rfl rfl (by decide) ?_
            refine DW.no rfl rfl (by decide) ?_
            refine DW.no rfl rfl (by decide) ?_
            refine DW.no rfl rfl (by decide) ?_
            refine DW.x rfl rfl (X.pickT rfl rfl rfl) (by decide) ?_
            refine DW.nil ?_
            refine WK.nThen ?_
            refine WC.condT rfl ?_
            refine WC.seq ?_
            refine WC.region ?_
            refine WL.x (X.assign rfl) (by decide) ?_
            refine WL.nil ?_
            refine WK.nThen ?_
            refine WC.ret ?_
            refine WK.rBlock ?_
            refine WK.rThen ?_
            refine WK.rThen ?_
            refine WK.rBlock ?_
            refine WK.rThen ?_
            refine WK.ret1 rfl rfl (fun w' hw' => Ret.exact hw' ?_)
            first | exact int_eq (drumE_bad (fun h => by have h1 := h.1; omega)).symm | exact int_eq (drumE_bad (fun h => h.2.1 k (by omega) (by unfold rateB spOk; omega))).symm | exact int_eq (drumE_bad (fun h => h.2.2 i (by omega) (by unfold stopB spOk; omega))).symm | exact int_eq (drumE_ok ⟨by omega, hV, fun j hj => hall2 j (by omega)⟩).symm
        · refine WL.nil ?_
          refine WK.nThen ?_
          refine WC.condF rfl ?_
          refine WC.exit ?_
          refine WK.eThen ?_
          refine WK.eThen ?_
          refine WK.eHit ?_
          refine WK.nThen ?_
          refine WC.seq ?_
          refine WC.seq ?_
          refine WC.region ?_
          refine WL.x (X.assign rfl) (by decide) ?_
          refine WL.nil ?_
          refine WK.nThen ?_
          refine WC.block ?_
          have hV : ∀ j, j < d.Rates.length → ¬ rateB d j := fun j hj => hall j (by omega)
          refine WC.loop (G := Nat) (fun i => d.Stops.length - i) (fun i => m) (fun i => [blk b7 25 [v1, v3]]) (fun i => [(1, .pointer (some ⟨b7, 0, none⟩)), (4, .int .i64 (↑i))]) (fun i => i ≤ d.Stops.length ∧ (∀ j, j < i → ¬ stopB d j)) 0 rfl (.refl _) (.cons rfl (.cons rfl .nil)) ?_ ?_
          · exact ⟨Nat.zero_le _, fun j hj => absurd hj (Nat.not_lt_zero _)⟩
          · rintro i hF23
            show WK _ _ m [blk b7 25 [v1, v3]] [(1, .pointer (some ⟨b7, 0, none⟩)), (4, .int .i64 (↑i))] _
            replace hF23 : i ≤ d.Stops.length ∧ (∀ j, j < i → ¬ stopB d j) := hF23
            obtain ⟨hi, hall2⟩ := hF23
            refine WC.seq ?_
            refine WC.seq ?_
            refine WC.region ?_
            refine WL.x (X.move rfl) (by decide) ?_
            refine WL.x (X.field Try.runUnderlying25 rfl Try.sizeOf23 rfl) (by decide) ?_
            refine WL.x (X.loadB (k := 0) Try.isAgg23 rfl rfl rfl) (by decide) ?_
            refine WL.x (X.len Try.runUnderlying23 rfl hs4) (by decide) ?_
            refine WL.cond (X.lss rfl rfl) (by decide) (fun h24 => ?_) (fun h24 => ?_)
            · refine WL.nil ?_
              refine WK.nThen ?_
              refine WC.condT rfl ?_
              refine WC.skip ?_
              refine WK.nThen ?_
              refine WC.seq ?_
              refine WC.block ?_
              refine WC.seq ?_
              refine WC.region ?_
              refine WL.x (X.field Try.runUnderlying25 rfl Try.sizeOf23 rfl) (by decide) ?_
              refine WL.x (X.loadB (k := 0) Try.isAgg23 rfl rfl rfl) (by decide) ?_
              refine WL.x (X.move rfl) (by decide) ?_
              refine WL.xe (E.idxN i Try.runUnderlying23 Try.sizeOf34 rfl rfl hs4 (by omega)) (by decide) (fun p25 hp26 => ?_)
              refine WL.xe (E.loadAgg Try.isAgg34 Try.sizeOf34 rfl hp26) (by decide) (fun c27 hc28 => ?_)
              obtain rfl := hc28
              refine WL.tn (T.alloc Try.zeroValue34 rfl) (by decide) fun b29 => ?_
              refine WL.ts (T.storeBA (k := 0) Try.sizeOf34 rfl rfl rfl (one_cons rfl (one_cons rfl (one_cons rfl one_nil))) rfl rfl) ?_
              refine WL.nil ?_
              refine WK.nThen ?_
              refine WC.seq ?_
              refine WC.region ?_
              refine WL.x (X.field Try.runUnderlying34 rfl Try.sizeOf3 rfl) (by decide) ?_
              refine WL.x (X.loadB (k := 0) Try.isAgg3 rfl rfl rfl) (by decide) ?_
              refine WL.x (X.field Try.runUnderlying25 rfl Try.sizeOf22 rfl) (by decide) ?_
              refine WL.x (X.loadB (k := 1) Try.isAgg22 rfl rfl rfl) (by decide) ?_
              refine WL.x (X.len Try.runUnderlying22 rfl hs2) (by decide) ?_
              refine WL.x (X.sub rfl rfl (by omega) (by omega)) (by decide) ?_
              refine WL.cond (X.call Try.call84 rfl (within84 _ _ _ _ )) (by decide) (fun h30 => ?_) (fun h30 => ?_)
              · refine WL.x (X.not rfl) (by decide) ?_
                refine WL.x (X.move rfl) (by decide) ?_
                refine WL.yes rfl rfl ?_
                refine WL.x (X.field Try.runUnderlying34 rfl Try.sizeOf31 rfl) (by decide) ?_
                refine WL.yes rfl rfl ?_
                refine WL.x (X.field Try.runUnderlying31 rfl Try.sizeOf3 rfl) (by decide) ?_
                refine WL.yes rfl rfl ?_
                refine WL.x (X.loadB (k := 0) Try.isAgg3 rfl rfl rfl) (by decide) ?_
                refine WL.yes rfl rfl ?_
                refine WL.x (X.field Try.runUnderlying34 rfl Try.sizeOf31 rfl) (by decide) ?_
                refine WL.yes rfl rfl ?_
                refine WL.x (X.field Try.runUnderlying31 rfl Try.sizeOf3 rfl) (by decide) ?_
                refine WL.yes rfl rfl ?_
                refine WL.x (X.loadB (k := 0) Try.isAgg3 rfl rfl rfl) (by decide) ?_
                refine WL.yes rfl rfl ?_
                refine WL.cond (X.call Try.call84 rfl (within84 _ _ _ _ )) (by decide) (fun h31 => ?_) (fun h31 => ?_)
                · refine WL.yes rfl rfl ?_
                  refine WL.x (X.not rfl) (by decide) ?_
                  refine WL.x (X.pickF rfl rfl rfl) (by decide) ?_
                  refine WL.x (X.move rfl) (by decide) ?_
                  refine WL.yes rfl rfl ?_
                  refine WL.x (X.field Try.runUnderlying34 rfl Try.sizeOf31 rfl) (by decide) ?_
                  refine WL.yes rfl rfl ?_
                  refine WL.x (X.field Try.runUnderlying31 rfl Try.sizeOf3 rfl) (by decide) ?_
                  refine WL.yes rfl rfl ?_
                  refine WL.x (X.loadB (k := 0) Try.isAgg3 rfl rfl rfl) (by decide) ?_
                  refine WL.yes rfl rfl ?_
                  refine WL.cond (X.gtr rfl rfl) (by decide) (fun h32 => ?_) (fun h32 => ?_)
                  · refine WL.x (X.pickF rfl rfl rfl) (by decide) ?_
                    refine WL.nil ?_
                    refine WK.nThen ?_
                    refine WC.condT rfl ?_
                    refine WC.seq ?_
                    refine WC.region ?_
                    refine WL.x (X.assign rfl) (by decide) ?_
                    refine WL.nil ?_
                    refine WK.nThen ?_
                    refine WC.ret ?_
                    refine WK.rBlock ?_
                    refine WK.rThen ?_
                    refine WK.rThen ?_
                    refine WK.rBlock ?_
                    refine WK.rThen ?_
                    refine WK.ret1 rfl rfl (fun w' hw' => Ret.exact hw' ?_)
                    first | exact int_eq (drumE_bad (fun h => by have h1 := h.1; omega)).symm | exact int_eq (drumE_bad (fun h => h.2.1 k (by omega) (by unfold rateB spOk; omega))).symm | exact int_eq (drumE_bad (fun h => h.2.2 i (by omega) (by unfold stopB spOk; omega))).symm | exact int_eq (drumE_ok ⟨by omega, hV, fun j hj => hall2 j (by omega)⟩).symm
                  · refine WL.x (X.pickF rfl rfl rfl) (by decide) ?_
                    refine WL.nil ?_
                    refine WK.nThen ?_
                    refine WC.condF rfl ?_
                    refine WC.skip ?_
                    refine WK.nBlock ?_
                    refine WK.nThen ?_
                    refine WC.region ?_
                    refine WL.x (X.move rfl) (by decide) ?_
                    refine WL.x (X.add rfl rfl (by omega) (by omega)) (by decide) ?_
                    refine WL.x (X.assign rfl) (by decide) ?_
                    refine WL.nil ?_
                    refine WK.nThen ?_
                    refine WK.next (i + 1) rfl (.cons _ (.cons_cons _ .slnil)) (.cons rfl (.cons rfl .nil)) ?_ ?_
                    · exact ⟨by omega, fun j hj => by rcases Nat.lt_succ_iff_lt_or_eq.1 hj with h | h; exact hall2 j h; subst h; (unfold stopB spOk; omega)⟩
                    · omega
                · refine WL.yes rfl rfl ?_
                  refine WL.x (X.not rfl) (by decide) ?_
                  refine WL.x (X.pickF rfl rfl rfl) (by decide) ?_
                  refine WL.x (X.move rfl) (by decide) ?_
                  refine WL.no rfl rfl rfl (by decide) ?_
                  refine WL.no rfl rfl rfl (by decide) ?_
                  refine WL.no rfl rfl rfl (by decide) ?_
                  refine WL.no rfl rfl rfl (by decide) ?_
                  refine WL.x (X.pickT rfl rfl rfl) (by decide) ?_
                  refine WL.nil ?_
                  refine WK.nThen ?_
                  refine WC.condT rfl ?_
                  refine WC.seq ?_
                  refine WC.region ?_
                  refine WL.x (X.assign rfl) (by decide) ?_
                  refine WL.nil ?_
                  refine WK.nThen ?_
                  refine WC.ret ?_
                  refine WK.rBlock ?_
                  refine WK.rThen ?_
                  refine WK.rThen ?_
                  refine WK.rBlock ?_
                  refine WK.rThen ?_
                  refine WK.ret1 rfl rfl (fun w' hw' => Ret.exact hw' ?_)
                  first | exact int_eq (drumE_bad (fun h => by have h1 := h.1; omega)).symm | exact int_eq (drumE_bad (fun h => h.2.1 k (by omega) (by unfold rateB spOk; omega))).symm | exact int_eq (drumE_bad (fun h => h.2.2 i (by omega) (by unfold stopB spOk; omega))).symm | exact int_eq (drumE_ok ⟨by omega, hV, fun j hj => hall2 j (by omega)⟩).symm
              · refine WL.x (X.not rfl) (by decide) ?_
                refine WL.x (X.move rfl) (by decide) ?_
                refine WL.no rfl rfl rfl (by decide) ?_
                refine WL.no rfl rfl rfl (by decide) ?_
                refine WL.no rfl rfl rfl (by decide) ?_
                refine WL.no rfl rfl rfl (by decide) ?_
                refine WL.no rfl rfl rfl (by decide) ?_
                refine WL.no rfl rfl rfl (by decide) ?_
                refine WL.no rfl rfl rfl (by decide) ?_
                refine WL.no rfl rfl rfl (by decide) ?_
                refine WL.x (X.pickT rfl rfl rfl) (by decide) ?_
                refine WL.x (X.move rfl) (by decide) ?_
                refine WL.no rfl rfl rfl (by decide) ?_
                refine WL.no rfl rfl rfl (by decide) ?_
                refine WL.no rfl rfl rfl (by decide) ?_
                refine WL.no rfl rfl rfl (by decide) ?_
                refine WL.x (X.pickT rfl rfl rfl) (by decide) ?_
                refine WL.nil ?_
                refine WK.nThen ?_
                refine WC.condT rfl ?_
                refine WC.seq ?_
                refine WC.region ?_
                refine WL.x (X.assign rfl) (by decide) ?_
                refine WL.nil ?_
                refine WK.nThen ?_
                refine WC.ret ?_
                refine WK.rBlock ?_
                refine WK.rThen ?_
                refine WK.rThen ?_
                refine WK.rBlock ?_
                refine WK.rThen ?_
                refine WK.ret1 rfl rfl (fun w' hw' => Ret.exact hw' ?_)
                first | exact int_eq (drumE_bad (fun h => by have h1 := h.1; omega)).symm | exact int_eq (drumE_bad (fun h => h.2.1 k (by omega) (by unfold rateB spOk; omega))).symm | exact int_eq (drumE_bad (fun h => h.2.2 i (by omega) (by unfold stopB spOk; omega))).symm | exact int_eq (drumE_ok ⟨by omega, hV, fun j hj => hall2 j (by omega)⟩).symm
            · refine WL.nil ?_
              refine WK.nThen ?_
              refine WC.condF rfl ?_
              refine WC.exit ?_
              refine WK.eThen ?_
              refine WK.eThen ?_
              refine WK.eHit ?_
              refine WK.nThen ?_
              refine WC.seq ?_
              refine WC.region ?_
              refine WL.x (X.assign rfl) (by decide) ?_
              refine WL.nil ?_
              refine WK.nThen ?_
              refine WC.ret ?_
              refine WK.ret1 rfl rfl (fun w' hw' => Ret.exact hw' ?_)
              first | exact int_eq (drumE_bad (fun h => by have h1 := h.1; omega)).symm | exact int_eq (drumE_bad (fun h => h.2.1 k (by omega) (by unfold rateB spOk; omega))).symm | exact int_eq (drumE_bad (fun h => h.2.2 i (by omega) (by unfold stopB spOk; omega))).symm | exact int_eq (drumE_ok ⟨by omega, hV, fun j hj => hall2 j (by omega)⟩).symm
  · refine WL.x (X.not rfl) (by decide) ?_
    refine WL.x (X.move rfl) (by decide) ?_
    refine WL.no rfl rfl rfl (by decide) ?_
    refine WL.no rfl rfl rfl (by decide) ?_
    refine WL.no rfl rfl rfl (by decide) ?_
    refine WL.no rfl rfl rfl (by decide) ?_
    refine WL.x (X.pickT rfl rfl rfl) (by decide) ?_
    refine WL.nil ?_
    refine WK.nThen ?_
    refine WC.condT rfl ?_
    refine WC.seq ?_
    refine WC.region ?_
    refine WL.x (X.assign rfl) (by decide) ?_
    refine WL.nil ?_
    refine WK.nThen ?_
    refine WC.ret ?_
    refine WK.rThen ?_
    refine WK.ret1 rfl rfl (fun w' hw' => Ret.exact hw' ?_)
    first | exact int_eq (drumE_bad (fun h => by have h1 := h.1; omega)).symm | exact int_eq (drumE_bad (fun h => h.2.1 k (by omega) (by unfold rateB spOk; omega))).symm | exact int_eq (drumE_bad (fun h => h.2.2 i (by omega) (by unfold stopB spOk; omega))).symm | exact int_eq (drumE_ok ⟨by omega, hV, fun j hj => hall2 j (by omega)⟩).symm

theorem marks52 (m : Mem) (cd : List Value) (d : Drum) (hd : Enc.rd m cd d) (vm_ : Value) (m_ : List Mark) (hm_ : Sl m vm_ m_)   : Exact Try.prog 52 #[.agg cd.toArray, vm_] m (.tuple #[.int .i64 ((marksR d m_).1), .int .i64 ((marksR d m_).2)]) := by
  obtain ⟨v1, v3, rfl, hs2, hs4⟩ := hd
  have hl5 := hs2.le
  have hl6 := hs4.le
  have lm_ := hm_.le
  refine Exact.start Try.func52 rfl Try.ntmps52 rfl fun wld => ?_
  refine WC.seq ?_
  refine WC.region ?_
  refine WL.tn (T.boxB rfl rfl) (by decide) fun b7 => ?_
  refine WL.x (X.assign rfl) (by decide) ?_
  refine WL.x (X.assign rfl) (by decide) ?_
  refine WL.nil ?_
  refine WK.nThen ?_
  refine WC.seq ?_
  refine WC.seq ?_
  refine WC.region ?_
  refine WL.x (X.loadBA (k := 0) Try.isAgg25 Try.sizeOf25 rfl rfl rfl) (by decide) ?_
  refine WL.x (X.call Try.call54 rfl (check54 _ _ d ⟨_, _, rfl, hs2, hs4⟩ )) (by decide) ?_
  refine WL.condn (X.neq rfl rfl) (by decide) (fun h8 => ?_) (fun h8 => ?_)
  · refine WL.nil ?_
    refine WK.nThen ?_
    refine WC.condT rfl ?_
    refine WC.seq ?_
    refine WC.region ?_
    refine WL.x (X.assign rfl) (by decide) ?_
    refine WL.x (X.assign rfl) (by decide) ?_
    refine WL.nil ?_
    refine WK.nThen ?_
    refine WC.ret ?_
    refine WK.rThen ?_
    refine WK.ret2 rfl rfl rfl (fun w' hw' => Ret.exact hw' ?_)
    first | exact tup2 (int_eq (by rw [marksR_drum (by omega)])) (int_eq (by rw [marksR_drum (by omega)])) | exact tup2 (int_eq (by rw [marksR_big (by omega) (by omega)])) (int_eq (by rw [marksR_big (by omega) (by omega)])) | exact tup2 (int_eq (by rw [marksR_bad (by omega) (by omega) (by omega) hall (by unfold markB; assumption)])) (int_eq (by rw [marksR_bad (by omega) (by omega) (by omega) hall (by unfold markB; assumption)])) | exact tup2 (int_eq (by rw [marksR_ok (by omega) (by omega) (fun j hj => hall j (by omega))])) (int_eq (by rw [marksR_ok (by omega) (by omega) (fun j hj => hall j (by omega))]))
  · refine WL.nil ?_
    refine WK.nThen ?_
    refine WC.condF rfl ?_
    refine WC.skip ?_
    refine WK.nThen ?_
    refine WC.seq ?_
    refine WC.seq ?_
    refine WC.region ?_
    refine WL.x (X.move rfl) (by decide) ?_
    refine WL.x (X.len Try.runUnderlying26 rfl hm_) (by decide) ?_
    refine WL.cond (X.gtr rfl rfl) (by decide) (fun h9 => ?_) (fun h9 => ?_)
    · refine WL.nil ?_
      refine WK.nThen ?_
      refine WC.condT rfl ?_
      refine WC.seq ?_
      refine WC.region ?_
      refine WL.x (X.assign rfl) (by decide) ?_
      refine WL.x (X.assign rfl) (by decide) ?_
      refine WL.nil ?_
      refine WK.nThen ?_
      refine WC.ret ?_
      refine WK.rThen ?_
      refine WK.ret2 rfl rfl rfl (fun w' hw' => Ret.exact hw' ?_)
      first | exact tup2 (int_eq (by rw [marksR_drum (by omega)])) (int_eq (by rw [marksR_drum (by omega)])) | exact tup2 (int_eq (by rw [marksR_big (by omega) (by omega)])) (int_eq (by rw [marksR_big (by omega) (by omega)])) | exact tup2 (int_eq (by rw [marksR_bad (by omega) (by omega) (by omega) hall (by unfold markB; assumption)])) (int_eq (by rw [marksR_bad (by omega) (by omega) (by omega) hall (by unfold markB; assumption)])) | exact tup2 (int_eq (by rw [marksR_ok (by omega) (by omega) (fun j hj => hall j (by omega))])) (int_eq (by rw [marksR_ok (by omega) (by omega) (fun j hj => hall j (by omega))]))
    · refine WL.nil ?_
      refine WK.nThen ?_
      refine WC.condF rfl ?_
      refine WC.skip ?_
      refine WK.nThen ?_
      refine WC.seq ?_
      refine WC.seq ?_
      refine WC.region ?_
      refine WL.x (X.assign rfl) (by decide) ?_
      refine WL.nil ?_
      refine WK.nThen ?_
      refine WC.block ?_
      refine WC.loop (G := Nat) (fun k => m_.length - k) (fun k => m) (fun k => [blk b7 25 [v1, v3]]) (fun k => [(1, vm_), (2, .pointer (some ⟨b7, 0, none⟩)), (6, .int .i64 (↑k))]) (fun k => k ≤ m_.length ∧ (∀ j, j < k → ¬ markB d m_ j)) 0 rfl (.refl _) (.cons rfl (.cons rfl (.cons rfl .nil))) ?_ ?_
      · exact ⟨Nat.zero_le _, fun j hj => absurd hj (Nat.not_lt_zero _)⟩
      · rintro k hF10
        show WK _ _ m [blk b7 25 [v1, v3]] [(1, vm_), (2, .pointer (some ⟨b7, 0, none⟩)), (6, .int .i64 (↑k))] _
        replace hF10 : k ≤ m_.length ∧ (∀ j, j < k → ¬ markB d m_ j) := hF10
        obtain ⟨hk, hall⟩ := hF10
        refine WC.seq ?_
        refine WC.seq ?_
        refine WC.region ?_
        refine WL.x (X.move rfl) (by decide) ?_
        refine WL.x (X.move rfl) (by decide) ?_
        refine WL.x (X.len Try.runUnderlying26 rfl hm_) (by decide) ?_
        refine WL.cond (X.lss rfl rfl) (by decide) (fun h11 => ?_) (fun h11 => ?_)
        · refine WL.nil ?_
          refine WK.nThen ?_
          refine WC.condT rfl ?_
          refine WC.skip ?_
          refine WK.nThen ?_
          refine WC.seq ?_
          refine WC.block ?_
          refine WC.seq ?_
          refine WC.draw (π := (.cons 0 (.cons 1 (.cons 2 (.cons 3 (.cons 4 (.cons 5 (.cons 6 .done)))))))) [] [] rfl (by kernel_rfl) ?_
          refine DW.x rfl rfl (X.loadBA (k := 0) Try.isAgg25 Try.sizeOf25 rfl rfl rfl) (by decide) ?_
          refine DW.x rfl rfl (X.move rfl) (by decide) ?_
          refine DW.x rfl rfl (X.move rfl) (by decide) ?_
          refine DW.xe rfl rfl (E.idxN k Try.runUnderlying26 Try.sizeOf33 rfl rfl hm_ (by omega)) (by decide) (fun p12 hp13 => ?_)
          refine DW.xe rfl rfl (E.loadAgg Try.isAgg33 Try.sizeOf33 rfl hp13) (by decide) (fun c14 hc15 => ?_)
          obtain rfl := hc15
          refine DW.cond rfl rfl (X.call Try.call114 rfl (right114 _ _ d ⟨_, _, rfl, hs2, hs4⟩ _ (gt m_ k) rfl )) (by decide) (fun h16 => ?_) (fun h16 => ?_)
          · refine DW.x rfl rfl (X.not rfl) (by decide) ?_
            refine DW.nil ?_
            refine WK.nThen ?_
            refine WC.condF rfl ?_
            refine WC.skip ?_
            refine WK.nBlock ?_
            refine WK.nThen ?_
            refine WC.region ?_
            refine WL.x (X.move rfl) (by decide) ?_
            refine WL.x (X.add rfl rfl (by omega) (by omega)) (by decide) ?_
            refine WL.x (X.assign rfl) (by decide) ?_
            refine WL.nil ?_
            refine WK.nThen ?_
            refine WK.next (k + 1) rfl (.refl _) (.cons rfl (.cons rfl (.cons rfl .nil))) ?_ ?_
            · exact ⟨by omega, fun j hj => by rcases Nat.lt_succ_iff_lt_or_eq.1 hj with h | h; exact hall j h; subst h; (unfold markB; exact fun hn_ => hn_ (by assumption))⟩
            · omega
          · refine DW.x rfl rfl (X.not rfl) (by decide) ?_
            refine DW.nil ?_
            refine WK.nThen ?_
            refine WC.condT rfl ?_
            refine WC.seq ?_
            refine WC.region ?_
            refine WL.x (X.move rfl) (by decide) ?_
            refine WL.x (X.assign rfl) (by decide) ?_
            refine WL.x (X.assign rfl) (by decide) ?_
            refine WL.nil ?_
            refine WK.nThen ?_
            refine WC.ret ?_
            refine WK.rBlock ?_
            refine WK.rThen ?_
            refine WK.rThen ?_
            refine WK.rBlock ?_
            refine WK.rThen ?_
            refine WK.ret2 rfl rfl rfl (fun w' hw' => Ret.exact hw' ?_)
            first | exact tup2 (int_eq (by rw [marksR_drum (by omega)])) (int_eq (by rw [marksR_drum (by omega)])) | exact tup2 (int_eq (by rw [marksR_big (by omega) (by omega)])) (int_eq (by rw [marksR_big (by omega) (by omega)])) | exact tup2 (int_eq (by rw [marksR_bad (by omega) (by omega) (by omega) hall (by unfold markB; assumption)])) (int_eq (by rw [marksR_bad (by omega) (by omega) (by omega) hall (by unfold markB; assumption)])) | exact tup2 (int_eq (by rw [marksR_ok (by omega) (by omega) (fun j hj => hall j (by omega))])) (int_eq (by rw [marksR_ok (by omega) (by omega) (fun j hj => hall j (by omega))]))
        · refine WL.nil ?_
          refine WK.nThen ?_
          refine WC.condF rfl ?_
          refine WC.exit ?_
          refine WK.eThen ?_
          refine WK.eThen ?_
          refine WK.eHit ?_
          refine WK.nThen ?_
          refine WC.seq ?_
          refine WC.region ?_
          refine WL.x (X.assign rfl) (by decide) ?_
          refine WL.x (X.assign rfl) (by decide) ?_
          refine WL.nil ?_
          refine WK.nThen ?_
          refine WC.ret ?_
          refine WK.ret2 rfl rfl rfl (fun w' hw' => Ret.exact hw' ?_)
          first | exact tup2 (int_eq (by rw [marksR_drum (by omega)])) (int_eq (by rw [marksR_drum (by omega)])) | exact tup2 (int_eq (by rw [marksR_big (by omega) (by omega)])) (int_eq (by rw [marksR_big (by omega) (by omega)])) | exact tup2 (int_eq (by rw [marksR_bad (by omega) (by omega) (by omega) hall (by unfold markB; assumption)])) (int_eq (by rw [marksR_bad (by omega) (by omega) (by omega) hall (by unfold markB; assumption)])) | exact tup2 (int_eq (by rw [marksR_ok (by omega) (by omega) (fun j hj => hall j (by omega))])) (int_eq (by rw [marksR_ok (by omega) (by omega) (fun j hj => hall j (by omega))]))

theorem asked83 (m : Mem) (cd : List Value) (d : Drum) (hd : Enc.rd m cd d) (vm_ : Value) (m_ : List Mark) (hm_ : Sl m vm_ m_)   : Exact Try.prog 83 #[.agg cd.toArray, vm_] m (.int .i64 (chkE d m_)) := by
  obtain ⟨v1, v3, rfl, hs2, hs4⟩ := hd
  have hl5 := hs2.le
  have hl6 := hs4.le
  have lm_ := hm_.le
  have hmc := marksR_cases d m_
  refine Exact.start Try.func83 rfl Try.ntmps83 rfl fun wld => ?_
  refine WC.seq ?_
  refine WC.region ?_
  refine WL.tn (T.boxB rfl rfl) (by decide) fun b7 => ?_
  refine WL.x (X.assign rfl) (by decide) ?_
  refine WL.nil ?_
  refine WK.nThen ?_
  refine WC.seq ?_
  refine WC.region ?_
  refine WL.x (X.loadBA (k := 0) Try.isAgg25 Try.sizeOf25 rfl rfl rfl) (by decide) ?_
  refine WL.x (X.move rfl) (by decide) ?_
  refine WL.x (X.call Try.call52 rfl (marks52 _ _ d ⟨_, _, rfl, hs2, hs4⟩ _ _ hm_ )) (by decide) ?_
  refine WL.x (X.move rfl) (by decide) ?_
  refine WL.x (X.extract rfl rfl) (by decide) ?_
  refine WL.x (X.extract rfl rfl) (by decide) ?_
  refine WL.x (X.assign rfl) (by decide) ?_
  refine WL.x (X.assign rfl) (by decide) ?_
  refine WL.nil ?_
  refine WK.nThen ?_
  refine WC.seq ?_
  refine WC.seq ?_
  refine WC.region ?_
  refine WL.x (X.move rfl) (by decide) ?_
  refine WL.cond (X.eql rfl rfl) (by decide) (fun h8 => ?_) (fun h8 => ?_)
  · refine WL.x (X.move rfl) (by decide) ?_
    refine WL.no rfl rfl rfl (by decide) ?_
    refine WL.no rfl rfl rfl (by decide) ?_
    refine WL.x (X.pickT rfl rfl rfl) (by decide) ?_
    refine WL.nil ?_
    refine WK.nThen ?_
    refine WC.condT rfl ?_
    refine WC.seq ?_
    refine WC.region ?_
    refine WL.x (X.move rfl) (by decide) ?_
    refine WL.x (X.assign rfl) (by decide) ?_
    refine WL.nil ?_
    refine WK.nThen ?_
    refine WC.ret ?_
    refine WK.rThen ?_
    refine WK.ret1 rfl rfl (fun w' hw' => Ret.exact hw' ?_)
    first | exact int_eq (by unfold chkE; split <;> omega)
  · refine WL.x (X.move rfl) (by decide) ?_
    refine WL.yes rfl rfl ?_
    refine WL.x (X.move rfl) (by decide) ?_
    refine WL.yes rfl rfl ?_
    refine WL.cond (X.eql rfl rfl) (by decide) (fun h9 => ?_) (fun h9 => ?_)
    · refine WL.x (X.pickF rfl rfl rfl) (by decide) ?_
      refine WL.nil ?_
      refine WK.nThen ?_
      refine WC.condT rfl ?_
      refine WC.seq ?_
      refine WC.region ?_
      refine WL.x (X.move rfl) (by decide) ?_
      refine WL.x (X.assign rfl) (by decide) ?_
      refine WL.nil ?_
      refine WK.nThen ?_
      refine WC.ret ?_
      refine WK.rThen ?_
      refine WK.ret1 rfl rfl (fun w' hw' => Ret.exact hw' ?_)
      first | exact int_eq (by unfold chkE; split <;> omega)
    · refine WL.x (X.pickF rfl rfl rfl) (by decide) ?_
      refine WL.nil ?_
      refine WK.nThen ?_
      refine WC.condF rfl ?_
      refine WC.skip ?_
      refine WK.nThen ?_
      refine WC.seq ?_
      refine WC.region ?_
      refine WL.x (X.assign rfl) (by decide) ?_
      refine WL.nil ?_
      refine WK.nThen ?_
      refine WC.ret ?_
      refine WK.ret1 rfl rfl (fun w' hw' => Ret.exact hw' ?_)
      first | exact int_eq (by unfold chkE; split <;> omega)

end Go.Proofs.C2
