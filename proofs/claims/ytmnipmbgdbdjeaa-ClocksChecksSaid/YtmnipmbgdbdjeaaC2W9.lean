import Derived.Test.YtmnipmbgdbdjeaaC2W8
import Derived.Test.YtmnipmbgdbdjeaaC2Aw
/- Clocks: walks, ninth part, by program. -/
namespace Go.Proofs.C2
open Go Go.Kx
set_option linter.unusedVariables false

theorem few20 (m : Mem) (cx : List Value) (x : Clk) (hx : Enc.rd m cx x)   : Exact Try.prog 20 #[.agg cx.toArray] m (.bool (decide (fewC x))) := by
  obtain ⟨v1, v3, v5, rfl, hs2, hs4, hs6⟩ := hx
  have hl7 := hs2.le
  have hl8 := hs4.le
  have hl9 := hs6.le
  refine Exact.start Try.func20 rfl Try.ntmps20 rfl fun wld => ?_
  refine WC.seq ?_
  refine WC.region ?_
  refine WL.tn (T.boxB rfl rfl) (by decide) fun b10 => ?_
  refine WL.x (X.assign rfl) (by decide) ?_
  refine WL.nil ?_
  refine WK.nThen ?_
  refine WC.seq ?_
  refine WC.region ?_
  refine WL.x (X.field Try.runUnderlying28 rfl Try.sizeOf25 rfl) (by decide) ?_
  refine WL.x (X.field Try.runUnderlying25 rfl Try.sizeOf22 rfl) (by decide) ?_
  refine WL.x (X.loadB (k := 0) Try.isAgg22 rfl rfl rfl) (by decide) ?_
  refine WL.x (X.len Try.runUnderlying22 rfl hs2) (by decide) ?_
  refine WL.cond (X.leq rfl rfl) (by decide) (fun h11 => ?_) (fun h11 => ?_)
  · refine WL.x (X.move rfl) (by decide) ?_
    refine WL.no rfl rfl rfl (by decide) ?_
    refine WL.no rfl rfl rfl (by decide) ?_
    refine WL.no rfl rfl rfl (by decide) ?_
    refine WL.no rfl rfl rfl (by decide) ?_
    refine WL.no rfl rfl rfl (by decide) ?_
    refine WL.no rfl rfl rfl (by decide) ?_
    refine WL.noU rfl rfl (by decide) ?_
    refine WL.noU rfl rfl (by decide) ?_
    refine WL.noU rfl rfl (by decide) ?_
    refine WL.noU rfl rfl (by decide) ?_
    refine WL.noU rfl rfl (by decide) ?_
    refine WL.no rfl rfl rfl (by decide) ?_
    refine WL.x (X.pickT rfl rfl rfl) (by decide) ?_
    refine WL.x (X.move rfl) (by decide) ?_
    refine WL.yes rfl rfl ?_
    refine WL.x (X.field Try.runUnderlying28 rfl Try.sizeOf25 rfl) (by decide) ?_
    refine WL.yes rfl rfl ?_
    refine WL.x (X.field Try.runUnderlying25 rfl Try.sizeOf23 rfl) (by decide) ?_
    refine WL.yes rfl rfl ?_
    refine WL.x (X.loadB (k := 0) Try.isAgg23 rfl rfl rfl) (by decide) ?_
    refine WL.yes rfl rfl ?_
    refine WL.x (X.len Try.runUnderlying23 rfl hs4) (by decide) ?_
    refine WL.yes rfl rfl ?_
    refine WL.cond (X.leq rfl rfl) (by decide) (fun h12 => ?_) (fun h12 => ?_)
    · refine WL.x (X.pickT rfl rfl rfl) (by decide) ?_
      refine WL.x (X.move rfl) (by decide) ?_
      refine WL.yes rfl rfl ?_
      refine WL.x (X.field Try.runUnderlying28 rfl Try.sizeOf26 rfl) (by decide) ?_
      refine WL.yes rfl rfl ?_
      refine WL.x (X.loadB (k := 0) Try.isAgg26 rfl rfl rfl) (by decide) ?_
      refine WL.yes rfl rfl ?_
      refine WL.x (X.len Try.runUnderlying26 rfl hs6) (by decide) ?_
      refine WL.yes rfl rfl ?_
      refine WL.cond (X.leq rfl rfl) (by decide) (fun h13 => ?_) (fun h13 => ?_)
      · refine WL.yes rfl rfl ?_
        refine WL.x (X.move rfl) (by decide) ?_
        refine WL.no rfl rfl rfl (by decide) ?_
        refine WL.no rfl rfl rfl (by decide) ?_
        refine WL.no rfl rfl rfl (by decide) ?_
        refine WL.no rfl rfl rfl (by decide) ?_
        refine WL.no rfl rfl rfl (by decide) ?_
        refine WL.noU rfl rfl (by decide) ?_
        refine WL.noU rfl rfl (by decide) ?_
        refine WL.noU rfl rfl (by decide) ?_
        refine WL.noU rfl rfl (by decide) ?_
        refine WL.no rfl rfl rfl (by decide) ?_
        refine WL.yes rfl rfl ?_
        refine WL.x (X.pickT rfl rfl rfl) (by decide) ?_
        refine WL.x (X.pickT rfl rfl rfl) (by decide) ?_
        refine WL.x (X.assign rfl) (by decide) ?_
        refine WL.nil ?_
        refine WK.nThen ?_
        refine WC.ret ?_
        refine WK.ret1 rfl rfl (fun w' hw' => Ret.exact hw' ?_)
        first | exact bool_true (by unfold fewC; omega) | exact bool_false (by unfold fewC; omega) | exact dec_eq (by unfold fewC; omega)
      · refine WL.yes rfl rfl ?_
        refine WL.x (X.move rfl) (by decide) ?_
        refine WL.yes rfl rfl ?_
        refine WL.x (X.field Try.runUnderlying28 rfl Try.sizeOf26 rfl) (by decide) ?_
        refine WL.yes rfl rfl ?_
        refine WL.x (X.loadB (k := 0) Try.isAgg26 rfl rfl rfl) (by decide) ?_
        refine WL.yes rfl rfl ?_
        refine WL.x (X.len Try.runUnderlying26 rfl hs6) (by decide) ?_
        refine WL.yes rfl rfl ?_
        refine WL.cond (X.gtr rfl rfl) (by decide) (fun h14 => ?_) (fun h14 => ?_)
        · refine WL.yes rfl rfl ?_
          refine WL.x (X.move rfl) (by decide) ?_
          refine WL.yes rfl rfl ?_
          refine WL.x (X.field Try.runUnderlying28 rfl Try.sizeOf26 rfl) (by decide) ?_
          refine WL.yes rfl rfl ?_
          refine WL.x (X.loadB (k := 0) Try.isAgg26 rfl rfl rfl) (by decide) ?_
          refine WL.yes rfl rfl ?_
          refine WL.x (X.len Try.runUnderlying26 rfl hs6) (by decide) ?_
          refine WL.yes rfl rfl ?_
          refine WL.x (X.leq rfl rfl) (by decide) ?_
          refine WL.yes rfl rfl ?_
          refine WL.x (X.pickT rfl rfl rfl) (by decide) ?_
          refine WL.yes rfl rfl ?_
          refine WL.x (X.pickF rfl rfl rfl) (by decide) ?_
          refine WL.x (X.pickT rfl rfl rfl) (by decide) ?_
          refine WL.x (X.assign rfl) (by decide) ?_
          refine WL.nil ?_
          refine WK.nThen ?_
          refine WC.ret ?_
          refine WK.ret1 rfl rfl (fun w' hw' => Ret.exact hw' ?_)
          first | exact bool_true (by unfold fewC; omega) | exact bool_false (by unfold fewC; omega) | exact dec_eq (by unfold fewC; omega)
        · refine WL.yes rfl rfl ?_
          refine WL.x (X.move rfl) (by decide) ?_
          refine WL.no rfl rfl rfl (by decide) ?_
          refine WL.no rfl rfl rfl (by decide) ?_
          refine WL.no rfl rfl rfl (by decide) ?_
          refine WL.no rfl rfl rfl (by decide) ?_
          refine WL.yes rfl rfl ?_
          refine WL.x (X.pickF rfl rfl rfl) (by decide) ?_
          refine WL.yes rfl rfl ?_
          refine WL.x (X.pickF rfl rfl rfl) (by decide) ?_
          refine WL.x (X.pickT rfl rfl rfl) (by decide) ?_
          refine WL.x (X.assign rfl) (by decide) ?_
          refine WL.nil ?_
          refine WK.nThen ?_
          refine WC.ret ?_
          refine WK.ret1 rfl rfl (fun w' hw' => Ret.exact hw' ?_)
          first | exact bool_true (by unfold fewC; omega) | exact bool_false (by unfold fewC; omega) | exact dec_eq (by unfold fewC; omega)
    · refine WL.x (X.pickT rfl rfl rfl) (by decide) ?_
      refine WL.x (X.move rfl) (by decide) ?_
      refine WL.no rfl rfl rfl (by decide) ?_
      refine WL.no rfl rfl rfl (by decide) ?_
      refine WL.no rfl rfl rfl (by decide) ?_
      refine WL.no rfl rfl rfl (by decide) ?_
      refine WL.no rfl rfl rfl (by decide) ?_
      refine WL.noU rfl rfl (by decide) ?_
      refine WL.noU rfl rfl (by decide) ?_
      refine WL.noU rfl rfl (by decide) ?_
      refine WL.noU rfl rfl (by decide) ?_
      refine WL.noU rfl rfl (by decide) ?_
      refine WL.noU rfl rfl (by decide) ?_
      refine WL.noU rfl rfl (by decide) ?_
      refine WL.noU rfl rfl (by decide) ?_
      refine WL.noU rfl rfl (by decide) ?_
      refine WL.noU rfl rfl (by decide) ?_
      refine WL.no rfl rfl rfl (by decide) ?_
      refine WL.x (X.pickF rfl rfl rfl) (by decide) ?_
      refine WL.x (X.assign rfl) (by decide) ?_
      refine WL.nil ?_
      refine WK.nThen ?_
      refine WC.ret ?_
      refine WK.ret1 rfl rfl (fun w' hw' => Ret.exact hw' ?_)
      first | exact bool_true (by unfold fewC; omega) | exact bool_false (by unfold fewC; omega) | exact dec_eq (by unfold fewC; omega)
  · refine WL.x (X.move rfl) (by decide) ?_
    refine WL.yes rfl rfl ?_
    refine WL.x (X.field Try.runUnderlying28 rfl Try.sizeOf25 rfl) (by decide) ?_
    refine WL.yes rfl rfl ?_
    refine WL.x (X.field Try.runUnderlying25 rfl Try.sizeOf22 rfl) (by decide) ?_
    refine WL.yes rfl rfl ?_
    refine WL.x (X.loadB (k := 0) Try.isAgg22 rfl rfl rfl) (by decide) ?_
    refine WL.yes rfl rfl ?_
    refine WL.x (X.len Try.runUnderlying22 rfl hs2) (by decide) ?_
    refine WL.yes rfl rfl ?_
    refine WL.cond (X.geq rfl rfl) (by decide) (fun h15 => ?_) (fun h15 => ?_)
    · refine WL.yes rfl rfl ?_
      refine WL.x (X.move rfl) (by decide) ?_
      refine WL.yes rfl rfl ?_
      refine WL.x (X.field Try.runUnderlying28 rfl Try.sizeOf25 rfl) (by decide) ?_
      refine WL.yes rfl rfl ?_
      refine WL.x (X.field Try.runUnderlying25 rfl Try.sizeOf22 rfl) (by decide) ?_
      refine WL.yes rfl rfl ?_
      refine WL.x (X.loadB (k := 0) Try.isAgg22 rfl rfl rfl) (by decide) ?_
      refine WL.yes rfl rfl ?_
      refine WL.x (X.len Try.runUnderlying22 rfl hs2) (by decide) ?_
      refine WL.yes rfl rfl ?_
      refine WL.cond (X.leq rfl rfl) (by decide) (fun h16 => ?_) (fun h16 => ?_)
      · refine WL.yes rfl rfl ?_
        refine WL.x (X.pickT rfl rfl rfl) (by decide) ?_
        refine WL.x (X.pickF rfl rfl rfl) (by decide) ?_
        refine WL.x (X.move rfl) (by decide) ?_
        refine WL.yes rfl rfl ?_
        refine WL.x (X.field Try.runUnderlying28 rfl Try.sizeOf25 rfl) (by decide) ?_
        refine WL.yes rfl rfl ?_
        refine WL.x (X.field Try.runUnderlying25 rfl Try.sizeOf23 rfl) (by decide) ?_
        refine WL.yes rfl rfl ?_
        refine WL.x (X.loadB (k := 0) Try.isAgg23 rfl rfl rfl) (by decide) ?_
        refine WL.yes rfl rfl ?_
        refine WL.x (X.len Try.runUnderlying23 rfl hs4) (by decide) ?_
        refine WL.yes rfl rfl ?_
        refine WL.cond (X.leq rfl rfl) (by decide) (fun h17 => ?_) (fun h17 => ?_)
        · refine WL.x (X.pickT rfl rfl rfl) (by decide) ?_
          refine WL.x (X.move rfl) (by decide) ?_
          refine WL.yes rfl rfl ?_
          refine WL.x (X.field Try.runUnderlying28 rfl Try.sizeOf26 rfl) (by decide) ?_
          refine WL.yes rfl rfl ?_
          refine WL.x (X.loadB (k := 0) Try.isAgg26 rfl rfl rfl) (by decide) ?_
          refine WL.yes rfl rfl ?_
          refine WL.x (X.len Try.runUnderlying26 rfl hs6) (by decide) ?_
          refine WL.yes rfl rfl ?_
          refine WL.cond (X.leq rfl rfl) (by decide) (fun h18 => ?_) (fun h18 => ?_)
          · refine WL.yes rfl rfl ?_
            refine WL.x (X.move rfl) (by decide) ?_
            refine WL.no rfl rfl rfl (by decide) ?_
            refine WL.no rfl rfl rfl (by decide) ?_
            refine WL.no rfl rfl rfl (by decide) ?_
            refine WL.no rfl rfl rfl (by decide) ?_
            refine WL.no rfl rfl rfl (by decide) ?_
            refine WL.noU rfl rfl (by decide) ?_
            refine WL.noU rfl rfl (by decide) ?_
            refine WL.noU rfl rfl (by decide) ?_
            refine WL.noU rfl rfl (by decide) ?_
            refine WL.no rfl rfl rfl (by decide) ?_
            refine WL.yes rfl rfl ?_
            refine WL.x (X.pickT rfl rfl rfl) (by decide) ?_
            refine WL.x (X.pickT rfl rfl rfl) (by decide) ?_
            refine WL.x (X.assign rfl) (by decide) ?_
            refine WL.nil ?_
            refine WK.nThen ?_
            refine WC.ret ?_
            refine WK.ret1 rfl rfl (fun w' hw' => Ret.exact hw' ?_)
            first | exact bool_true (by unfold fewC; omega) | exact bool_false (by unfold fewC; omega) | exact dec_eq (by unfold fewC; omega)
          · refine WL.yes rfl rfl ?_
            refine WL.x (X.move rfl) (by decide) ?_
            refine WL.yes rfl rfl ?_
            refine WL.x (X.field Try.runUnderlying28 rfl Try.sizeOf26 rfl) (by decide) ?_
            refine WL.yes rfl rfl ?_
            refine WL.x (X.loadB (k := 0) Try.isAgg26 rfl rfl rfl) (by decide) ?_
            refine WL.yes rfl rfl ?_
            refine WL.x (X.len Try.runUnderlying26 rfl hs6) (by decide) ?_
            refine WL.yes rfl rfl ?_
            refine WL.cond (X.gtr rfl rfl) (by decide) (fun h19 => ?_) (fun h19 => ?_)
            · refine WL.yes rfl rfl ?_
              refine WL.x (X.move rfl) (by decide) ?_
              refine WL.yes rfl rfl ?_
              refine WL.x (X.field Try.runUnderlying28 rfl Try.sizeOf26 rfl) (by decide) ?_
              refine WL.yes rfl rfl ?_
              refine WL.x (X.loadB (k := 0) Try.isAgg26 rfl rfl rfl) (by decide) ?_
              refine WL.yes rfl rfl ?_
              refine WL.x (X.len Try.runUnderlying26 rfl hs6) (by decide) ?_
              refine WL.yes rfl rfl ?_
              refine WL.x (X.leq rfl rfl) (by decide) ?_
              refine WL.yes rfl rfl ?_
              refine WL.x (X.pickT rfl rfl rfl) (by decide) ?_
              refine WL.yes rfl rfl ?_
              refine WL.x (X.pickF rfl rfl rfl) (by decide) ?_
              refine WL.x (X.pickT rfl rfl rfl) (by decide) ?_
              refine WL.x (X.assign rfl) (by decide) ?_
              refine WL.nil ?_
              refine WK.nThen ?_
              refine WC.ret ?_
              refine WK.ret1 rfl rfl (fun w' hw' => Ret.exact hw' ?_)
              first | exact bool_true (by unfold fewC; omega) | exact bool_false (by unfold fewC; omega) | exact dec_eq (by unfold fewC; omega)
            · refine WL.yes rfl rfl ?_
              refine WL.x (X.move rfl) (by decide) ?_
              refine WL.no rfl rfl rfl (by decide) ?_
              refine WL.no rfl rfl rfl (by decide) ?_
              refine WL.no rfl rfl rfl (by decide) ?_
              refine WL.no rfl rfl rfl (by decide) ?_
              refine WL.yes rfl rfl ?_
              refine WL.x (X.pickF rfl rfl rfl) (by decide) ?_
              refine WL.yes rfl rfl ?_
              refine WL.x (X.pickF rfl rfl rfl) (by decide) ?_
              refine WL.x (X.pickT rfl rfl rfl) (by decide) ?_
              refine WL.x (X.assign rfl) (by decide) ?_
              refine WL.nil ?_
              refine WK.nThen ?_
              refine WC.ret ?_
              refine WK.ret1 rfl rfl (fun w' hw' => Ret.exact hw' ?_)
              first | exact bool_true (by unfold fewC; omega) | exact bool_false (by unfold fewC; omega) | exact dec_eq (by unfold fewC; omega)
        · refine WL.x (X.pickT rfl rfl rfl) (by decide) ?_
          refine WL.x (X.move rfl) (by decide) ?_
          refine WL.no rfl rfl rfl (by decide) ?_
          refine WL.no rfl rfl rfl (by decide) ?_
          refine WL.no rfl rfl rfl (by decide) ?_
          refine WL.no rfl rfl rfl (by decide) ?_
          refine WL.no rfl rfl rfl (by decide) ?_
          refine WL.noU rfl rfl (by decide) ?_
          refine WL.noU rfl rfl (by decide) ?_
          refine WL.noU rfl rfl (by decide) ?_
          refine WL.noU rfl rfl (by decide) ?_
          refine WL.noU rfl rfl (by decide) ?_
          refine WL.noU rfl rfl (by decide) ?_
          refine WL.noU rfl rfl (by decide) ?_
          refine WL.noU rfl rfl (by decide) ?_
          refine WL.noU rfl rfl (by decide) ?_
          refine WL.noU rfl rfl (by decide) ?_
          refine WL.no rfl rfl rfl (by decide) ?_
          refine WL.x (X.pickF rfl rfl rfl) (by decide) ?_
          refine WL.x (X.assign rfl) (by decide) ?_
          refine WL.nil ?_
          refine WK.nThen ?_
          refine WC.ret ?_
          refine WK.ret1 rfl rfl (fun w' hw' => Ret.exact hw' ?_)
          first | exact bool_true (by unfold fewC; omega) | exact bool_false (by unfold fewC; omega) | exact dec_eq (by unfold fewC; omega)
      · refine WL.yes rfl rfl ?_
        refine WL.x (X.pickT rfl rfl rfl) (by decide) ?_
        refine WL.x (X.pickF rfl rfl rfl) (by decide) ?_
        refine WL.x (X.move rfl) (by decide) ?_
        refine WL.no rfl rfl rfl (by decide) ?_
        refine WL.no rfl rfl rfl (by decide) ?_
        refine WL.no rfl rfl rfl (by decide) ?_
        refine WL.no rfl rfl rfl (by decide) ?_
        refine WL.no rfl rfl rfl (by decide) ?_
        refine WL.x (X.pickF rfl rfl rfl) (by decide) ?_
        refine WL.x (X.move rfl) (by decide) ?_
        refine WL.no rfl rfl rfl (by decide) ?_
        refine WL.no rfl rfl rfl (by decide) ?_
        refine WL.no rfl rfl rfl (by decide) ?_
        refine WL.no rfl rfl rfl (by decide) ?_
        refine WL.no rfl rfl rfl (by decide) ?_
        refine WL.noU rfl rfl (by decide) ?_
        refine WL.noU rfl rfl (by decide) ?_
        refine WL.noU rfl rfl (by decide) ?_
        refine WL.noU rfl rfl (by decide) ?_
        refine WL.noU rfl rfl (by decide) ?_
        refine WL.noU rfl rfl (by decide) ?_
        refine WL.noU rfl rfl (by decide) ?_
        refine WL.noU rfl rfl (by decide) ?_
        refine WL.noU rfl rfl (by decide) ?_
        refine WL.noU rfl rfl (by decide) ?_
        refine WL.no rfl rfl rfl (by decide) ?_
        refine WL.x (X.pickF rfl rfl rfl) (by decide) ?_
        refine WL.x (X.assign rfl) (by decide) ?_
        refine WL.nil ?_
        refine WK.nThen ?_
        refine WC.ret ?_
        refine WK.ret1 rfl rfl (fun w' hw' => Ret.exact hw' ?_)
        first | exact bool_true (by unfold fewC; omega) | exact bool_false (by unfold fewC; omega) | exact dec_eq (by unfold fewC; omega)
    · refine WL.yes rfl rfl ?_
      refine WL.x (X.move rfl) (by decide) ?_
      refine WL.no rfl rfl rfl (by decide) ?_
      refine WL.no rfl rfl rfl (by decide) ?_
      refine WL.no rfl rfl rfl (by decide) ?_
      refine WL.no rfl rfl rfl (by decide) ?_
      refine WL.no rfl rfl rfl (by decide) ?_
      refine WL.yes rfl rfl ?_
      refine WL.x (X.pickF rfl rfl rfl) (by decide) ?_
      refine WL.x (X.pickF rfl rfl rfl) (by decide) ?_
      refine WL.x (X.move rfl) (by decide) ?_
      refine WL.no rfl rfl rfl (by decide) ?_
      refine WL.no rfl rfl rfl (by decide) ?_
      refine WL.no rfl rfl rfl (by decide) ?_
      refine WL.no rfl rfl rfl (by decide) ?_
      refine WL.no rfl rfl rfl (by decide) ?_
      refine WL.x (X.pickF rfl rfl rfl) (by decide) ?_
      refine WL.x (X.move rfl) (by decide) ?_
      refine WL.no rfl rfl rfl (by decide) ?_
      refine WL.no rfl rfl rfl (by decide) ?_
      refine WL.no rfl rfl rfl (by decide) ?_
      refine WL.no rfl rfl rfl (by decide) ?_
      refine WL.no rfl rfl rfl (by decide) ?_
      refine WL.noU rfl rfl (by decide) ?_
      refine WL.noU rfl rfl (by decide) ?_
      refine WL.noU rfl rfl (by decide) ?_
      refine WL.noU rfl rfl (by decide) ?_
      refine WL.noU rfl rfl (by decide) ?_
      refine WL.noU rfl rfl (by decide) ?_
      refine WL.noU rfl rfl (by decide) ?_
      refine WL.noU rfl rfl (by decide) ?_
      refine WL.noU rfl rfl (by decide) ?_
      refine WL.noU rfl rfl (by decide) ?_
      refine WL.no rfl rfl rfl (by decide) ?_
      refine WL.x (X.pickF rfl rfl rfl) (by decide) ?_
      refine WL.x (X.assign rfl) (by decide) ?_
      refine WL.nil ?_
      refine WK.nThen ?_
      refine WC.ret ?_
      refine WK.ret1 rfl rfl (fun w' hw' => Ret.exact hw' ?_)
      first | exact bool_true (by unfold fewC; omega) | exact bool_false (by unfold fewC; omega) | exact dec_eq (by unfold fewC; omega)

theorem sameInts50 (m : Mem) (va : Value) (a : List Int) (ha : Sl m va a) (vb : Value) (b : List Int) (hb : Sl m vb b)   : Exact Try.prog 50 #[va, vb] m (.bool (decide (a = b))) := by
  have la := ha.le
  have lb := hb.le
  refine Exact.start Try.func50 rfl Try.ntmps50 rfl fun wld => ?_
  refine WC.seq ?_
  refine WC.region ?_
  refine WL.x (X.assign rfl) (by decide) ?_
  refine WL.nil ?_
  refine WK.nThen ?_
  refine WC.seq ?_
  refine WC.seq ?_
  refine WC.region ?_
  refine WL.x (X.move rfl) (by decide) ?_
  refine WL.x (X.len Try.runUnderlying29 rfl ha) (by decide) ?_
  refine WL.x (X.move rfl) (by decide) ?_
  refine WL.x (X.len Try.runUnderlying29 rfl hb) (by decide) ?_
  refine WL.condn (X.neq rfl rfl) (by decide) (fun h1 => ?_) (fun h1 => ?_)
  · refine WL.nil ?_
    refine WK.nThen ?_
    refine WC.condT rfl ?_
    refine WC.seq ?_
    refine WC.region ?_
    refine WL.x (X.assign rfl) (by decide) ?_
    refine WL.nil ?_
    refine WK.nThen ?_
    refine WC.ret ?_
    refine WK.rThen ?_
    refine WK.ret1 rfl rfl (fun w' hw' => Ret.exact hw' ?_)
    first | exact bool_false (fun e => by subst e; omega) | exact bool_false (fun e => by subst e; contradiction) | exact bool_true (ext_gt (by omega) (fun j hj => hall j (by omega)))
  · refine WL.nil ?_
    refine WK.nThen ?_
    refine WC.condF rfl ?_
    refine WC.skip ?_
    refine WK.nThen ?_
    refine WC.seq ?_
    refine WC.seq ?_
    refine WC.region ?_
    refine WL.x (X.assign rfl) (by decide) ?_
    refine WL.nil ?_
    refine WK.nThen ?_
    refine WC.block ?_
    refine WC.loop (G := Nat) (fun k => a.length - k) (fun k => m) (fun k => []) (fun k => [(0, va), (1, vb), (5, .int .i64 (↑k))]) (fun k => k ≤ a.length ∧ (∀ j, j < k → gt a j = gt b j)) 0 rfl (.refl _) (.cons rfl (.cons rfl (.cons rfl .nil))) ?_ ?_
    · exact ⟨Nat.zero_le _, fun j hj => absurd hj (Nat.not_lt_zero _)⟩
    · rintro k hF2
      show WK _ _ m [] [(0, va), (1, vb), (5, .int .i64 (↑k))] _
      replace hF2 : k ≤ a.length ∧ (∀ j, j < k → gt a j = gt b j) := hF2
      obtain ⟨hk, hall⟩ := hF2
      refine WC.seq ?_
      refine WC.seq ?_
      refine WC.region ?_
      refine WL.x (X.move rfl) (by decide) ?_
      refine WL.x (X.move rfl) (by decide) ?_
      refine WL.x (X.len Try.runUnderlying29 rfl ha) (by decide) ?_
      refine WL.cond (X.lss rfl rfl) (by decide) (fun h3 => ?_) (fun h3 => ?_)
      · refine WL.nil ?_
        refine WK.nThen ?_
        refine WC.condT rfl ?_
        refine WC.skip ?_
        refine WK.nThen ?_
        refine WC.seq ?_
        refine WC.block ?_
        refine WC.seq ?_
        refine WC.draw (π := (.cons 0 (.cons 1 (.cons 2 (.cons 3 (.cons 4 (.cons 5 (.cons 6 (.cons 7 (.cons 8 .done)))))))))) [] [] rfl (by kernel_rfl) ?_
        refine DW.x rfl rfl (X.move rfl) (by decide) ?_
        refine DW.x rfl rfl (X.move rfl) (by decide) ?_
        refine DW.xe rfl rfl (E.idxN k Try.runUnderlying29 Try.sizeOf3 rfl rfl ha (by omega)) (by decide) (fun p4 hp5 => ?_)
        refine DW.x rfl rfl (X.loadInt Try.isAgg3 rfl hp5) (by decide) ?_
        refine DW.x rfl rfl (X.move rfl) (by decide) ?_
        refine DW.x rfl rfl (X.move rfl) (by decide) ?_
        refine DW.xe rfl rfl (E.idxN k Try.runUnderlying29 Try.sizeOf3 rfl rfl hb (by omega)) (by decide) (fun p6 hp7 => ?_)
        refine DW.x rfl rfl (X.loadInt Try.isAgg3 rfl hp7) (by decide) ?_
        refine DW.condn rfl rfl (X.neq rfl rfl) (by decide) (fun h8 => ?_) (fun h8 => ?_)
        · refine DW.nil ?_
          refine WK.nThen ?_
          refine WC.condT rfl ?_
          refine WC.seq ?_
          refine WC.region ?_
          refine WL.x (X.assign rfl) (by decide) ?_
          refine WL.nil ?_
          refine WK.nThen ?_
          refine WC.ret ?_
          refine WK.rBlock ?_
          refine WK.rThen ?_
          refine WK.rThen ?_
          refine WK.rBlock ?_
          refine WK.rThen ?_
          refine WK.ret1 rfl rfl (fun w' hw' => Ret.exact hw' ?_)
          first | exact bool_false (fun e => by subst e; omega) | exact bool_false (fun e => by subst e; contradiction) | exact bool_true (ext_gt (by omega) (fun j hj => hall j (by omega)))
        · refine DW.nil ?_
          refine WK.nThen ?_
          refine WC.condF rfl ?_
          refine WC.skip ?_
          refine WK.nBlock ?_
          refine WK.nThen ?_
          refine WC.region ?_
          refine WL.x (X.move rfl) (by decide) ?_
          refine WL.x (X.add rfl rfl (by omega) (by omega)) (by decide) ?_
          refine WL.x (X.assign rfl) (by decide) ?_
          refine WL.nil ?_
          refine WK.nThen ?_
          refine WK.next (k + 1) rfl (.refl _) (.cons rfl (.cons rfl (.cons rfl .nil))) ?_ ?_
          · exact ⟨by omega, fun j hj => by rcases Nat.lt_succ_iff_lt_or_eq.1 hj with h | h; exact hall j h; subst h; assumption⟩
          · omega
      · refine WL.nil ?_
        refine WK.nThen ?_
        refine WC.condF rfl ?_
        refine WC.exit ?_
        refine WK.eThen ?_
        refine WK.eThen ?_
        refine WK.eHit ?_
        refine WK.nThen ?_
        refine WC.seq ?_
        refine WC.region ?_
        refine WL.x (X.assign rfl) (by decide) ?_
        refine WL.nil ?_
        refine WK.nThen ?_
        refine WC.ret ?_
        refine WK.ret1 rfl rfl (fun w' hw' => Ret.exact hw' ?_)
        first | exact bool_false (fun e => by subst e; omega) | exact bool_false (fun e => by subst e; contradiction) | exact bool_true (ext_gt (by omega) (fun j hj => hall j (by omega)))

theorem sameSpans29 (m : Mem) (va : Value) (a : List Span) (ha : Sl m va a) (vb : Value) (b : List Span) (hb : Sl m vb b)   : Exact Try.prog 29 #[va, vb] m (.bool (decide (a = b))) := by
  have la := ha.le
  have lb := hb.le
  refine Exact.start Try.func29 rfl Try.ntmps29 rfl fun wld => ?_
  refine WC.seq ?_
  refine WC.region ?_
  refine WL.x (X.assign rfl) (by decide) ?_
  refine WL.nil ?_
  refine WK.nThen ?_
  refine WC.seq ?_
  refine WC.seq ?_
  refine WC.region ?_
  refine WL.x (X.move rfl) (by decide) ?_
  refine WL.x (X.len Try.runUnderlying22 rfl ha) (by decide) ?_
  refine WL.x (X.move rfl) (by decide) ?_
  refine WL.x (X.len Try.runUnderlying22 rfl hb) (by decide) ?_
  refine WL.condn (X.neq rfl rfl) (by decide) (fun h1 => ?_) (fun h1 => ?_)
  · refine WL.nil ?_
    refine WK.nThen ?_
    refine WC.condT rfl ?_
    refine WC.seq ?_
    refine WC.region ?_
    refine WL.x (X.assign rfl) (by decide) ?_
    refine WL.nil ?_
    refine WK.nThen ?_
    refine WC.ret ?_
    refine WK.rThen ?_
    refine WK.ret1 rfl rfl (fun w' hw' => Ret.exact hw' ?_)
    first | exact bool_false (fun e => by subst e; omega) | exact bool_false (fun e => by subst e; contradiction) | exact bool_true (ext_gt (by omega) (fun j hj => hall j (by omega)))
  · refine WL.nil ?_
    refine WK.nThen ?_
    refine WC.condF rfl ?_
    refine WC.skip ?_
    refine WK.nThen ?_
    refine WC.seq ?_
    refine WC.seq ?_
    refine WC.region ?_
    refine WL.x (X.assign rfl) (by decide) ?_
    refine WL.nil ?_
    refine WK.nThen ?_
    refine WC.block ?_
    refine WC.loop (G := Nat) (fun k => a.length - k) (fun k => m) (fun k => []) (fun k => [(0, va), (1, vb), (5, .int .i64 (↑k))]) (fun k => k ≤ a.length ∧ (∀ j, j < k → gt a j = gt b j)) 0 rfl (.refl _) (.cons rfl (.cons rfl (.cons rfl .nil))) ?_ ?_
    · exact ⟨Nat.zero_le _, fun j hj => absurd hj (Nat.not_lt_zero _)⟩
    · rintro k hF2
      show WK _ _ m [] [(0, va), (1, vb), (5, .int .i64 (↑k))] _
      replace hF2 : k ≤ a.length ∧ (∀ j, j < k → gt a j = gt b j) := hF2
      obtain ⟨hk, hall⟩ := hF2
      refine WC.seq ?_
      refine WC.seq ?_
      refine WC.region ?_
      refine WL.x (X.move rfl) (by decide) ?_
      refine WL.x (X.move rfl) (by decide) ?_
      refine WL.x (X.len Try.runUnderlying22 rfl ha) (by decide) ?_
      refine WL.cond (X.lss rfl rfl) (by decide) (fun h3 => ?_) (fun h3 => ?_)
      · refine WL.nil ?_
        refine WK.nThen ?_
        refine WC.condT rfl ?_
        refine WC.skip ?_
        refine WK.nThen ?_
        refine WC.seq ?_
        refine WC.block ?_
        refine WC.seq ?_
        refine WC.draw (π := (.cons 0 (.cons 1 (.cons 2 (.cons 3 (.cons 4 (.cons 5 (.cons 6 (.cons 7 (.cons 8 .done)))))))))) [] [] rfl (by kernel_rfl) ?_
        refine DW.x rfl rfl (X.move rfl) (by decide) ?_
        refine DW.x rfl rfl (X.move rfl) (by decide) ?_
        refine DW.xe rfl rfl (E.idxN k Try.runUnderlying22 Try.sizeOf31 rfl rfl ha (by omega)) (by decide) (fun p4 hp5 => ?_)
        refine DW.xe rfl rfl (E.loadAgg Try.isAgg31 Try.sizeOf31 rfl hp5) (by decide) (fun c6 hc7 => ?_)
        obtain rfl := hc7
        refine DW.x rfl rfl (X.move rfl) (by decide) ?_
        refine DW.x rfl rfl (X.move rfl) (by decide) ?_
        refine DW.xe rfl rfl (E.idxN k Try.runUnderlying22 Try.sizeOf31 rfl rfl hb (by omega)) (by decide) (fun p8 hp9 => ?_)
        refine DW.xe rfl rfl (E.loadAgg Try.isAgg31 Try.sizeOf31 rfl hp9) (by decide) (fun c10 hc11 => ?_)
        obtain rfl := hc11
        refine DW.condn rfl rfl (X.neqS (a := gt a k) (b := gt b k) gd31 (fun w => eqS31 9998 _ _ w) rfl rfl) (by decide) (fun h12 => ?_) (fun h12 => ?_)
        · refine DW.nil ?_
          refine WK.nThen ?_
          refine WC.condT rfl ?_
          refine WC.seq ?_
          refine WC.region ?_
          refine WL.x (X.assign rfl) (by decide) ?_
          refine WL.nil ?_
          refine WK.nThen ?_
          refine WC.ret ?_
          refine WK.rBlock ?_
          refine WK.rThen ?_
          refine WK.rThen ?_
          refine WK.rBlock ?_
          refine WK.rThen ?_
          refine WK.ret1 rfl rfl (fun w' hw' => Ret.exact hw' ?_)
          first | exact bool_false (fun e => by subst e; omega) | exact bool_false (fun e => by subst e; contradiction) | exact bool_true (ext_gt (by omega) (fun j hj => hall j (by omega)))
        · refine DW.nil ?_
          refine WK.nThen ?_
          refine WC.condF rfl ?_
          refine WC.skip ?_
          refine WK.nBlock ?_
          refine WK.nThen ?_
          refine WC.region ?_
          refine WL.x (X.move rfl) (by decide) ?_
          refine WL.x (X.add rfl rfl (by omega) (by omega)) (by decide) ?_
          refine WL.x (X.assign rfl) (by decide) ?_
          refine WL.nil ?_
          refine WK.nThen ?_
          refine WK.next (k + 1) rfl (.refl _) (.cons rfl (.cons rfl (.cons rfl .nil))) ?_ ?_
          · exact ⟨by omega, fun j hj => by rcases Nat.lt_succ_iff_lt_or_eq.1 hj with h | h; exact hall j h; subst h; assumption⟩
          · omega
      · refine WL.nil ?_
        refine WK.nThen ?_
        refine WC.condF rfl ?_
        refine WC.exit ?_
        refine WK.eThen ?_
        refine WK.eThen ?_
        refine WK.eHit ?_
        refine WK.nThen ?_
        refine WC.seq ?_
        refine WC.region ?_
        refine WL.x (X.assign rfl) (by decide) ?_
        refine WL.nil ?_
        refine WK.nThen ?_
        refine WC.ret ?_
        refine WK.ret1 rfl rfl (fun w' hw' => Ret.exact hw' ?_)
        first | exact bool_false (fun e => by subst e; omega) | exact bool_false (fun e => by subst e; contradiction) | exact bool_true (ext_gt (by omega) (fun j hj => hall j (by omega)))

theorem sameLists65 (m : Mem) (va : Value) (a : List (List Int)) (ha : Sl m va a) (vb : Value) (b : List (List Int)) (hb : Sl m vb b)   : Exact Try.prog 65 #[va, vb] m (.bool (decide (a = b))) := by
  have la := ha.le
  have lb := hb.le
  refine Exact.start Try.func65 rfl Try.ntmps65 rfl fun wld => ?_
  refine WC.seq ?_
  refine WC.region ?_
  refine WL.x (X.assign rfl) (by decide) ?_
  refine WL.nil ?_
  refine WK.nThen ?_
  refine WC.seq ?_
  refine WC.seq ?_
  refine WC.region ?_
  refine WL.x (X.move rfl) (by decide) ?_
  refine WL.x (X.len Try.runUnderlying52 rfl ha) (by decide) ?_
  refine WL.x (X.move rfl) (by decide) ?_
  refine WL.x (X.len Try.runUnderlying52 rfl hb) (by decide) ?_
  refine WL.condn (X.neq rfl rfl) (by decide) (fun h1 => ?_) (fun h1 => ?_)
  · refine WL.nil ?_
    refine WK.nThen ?_
    refine WC.condT rfl ?_
    refine WC.seq ?_
    refine WC.region ?_
    refine WL.x (X.assign rfl) (by decide) ?_
    refine WL.nil ?_
    refine WK.nThen ?_
    refine WC.ret ?_
    refine WK.rThen ?_
    refine WK.ret1 rfl rfl (fun w' hw' => Ret.exact hw' ?_)
    first | exact bool_false (fun e => by subst e; omega) | exact bool_false (fun e => by subst e; contradiction) | exact bool_true (ext_gt (by omega) (fun j hj => hall j (by omega)))
  · refine WL.nil ?_
    refine WK.nThen ?_
    refine WC.condF rfl ?_
    refine WC.skip ?_
    refine WK.nThen ?_
    refine WC.seq ?_
    refine WC.seq ?_
    refine WC.region ?_
    refine WL.x (X.assign rfl) (by decide) ?_
    refine WL.nil ?_
    refine WK.nThen ?_
    refine WC.block ?_
    refine WC.loop (G := Nat) (fun k => a.length - k) (fun k => m) (fun k => []) (fun k => [(0, va), (1, vb), (5, .int .i64 (↑k))]) (fun k => k ≤ a.length ∧ (∀ j, j < k → gt a j = gt b j)) 0 rfl (.refl _) (.cons rfl (.cons rfl (.cons rfl .nil))) ?_ ?_
    · exact ⟨Nat.zero_le _, fun j hj => absurd hj (Nat.not_lt_zero _)⟩
    · rintro k hF2
      show WK _ _ m [] [(0, va), (1, vb), (5, .int .i64 (↑k))] _
      replace hF2 : k ≤ a.length ∧ (∀ j, j < k → gt a j = gt b j) := hF2
      obtain ⟨hk, hall⟩ := hF2
      refine WC.seq ?_
      refine WC.seq ?_
      refine WC.region ?_
      refine WL.x (X.move rfl) (by decide) ?_
      refine WL.x (X.move rfl) (by decide) ?_
      refine WL.x (X.len Try.runUnderlying52 rfl ha) (by decide) ?_
      refine WL.cond (X.lss rfl rfl) (by decide) (fun h3 => ?_) (fun h3 => ?_)
      · refine WL.nil ?_
        refine WK.nThen ?_
        refine WC.condT rfl ?_
        refine WC.skip ?_
        refine WK.nThen ?_
        refine WC.seq ?_
        refine WC.block ?_
        refine WC.seq ?_
        refine WC.draw (π := (.cons 0 (.cons 1 (.cons 2 (.cons 3 (.cons 4 (.cons 5 (.cons 6 (.cons 7 (.cons 8 (.cons 9 .done))))))))))) [] [] rfl (by kernel_rfl) ?_
        refine DW.x rfl rfl (X.move rfl) (by decide) ?_
        refine DW.x rfl rfl (X.move rfl) (by decide) ?_
        refine DW.xe rfl rfl (E.idxN k Try.runUnderlying52 Try.sizeOf29 rfl rfl ha (by omega)) (by decide) (fun p4 hp5 => ?_)
        refine DW.xe rfl rfl (E.loadSl Try.isAgg29 rfl hp5) (by decide) (fun v6 hs7 => ?_)
        have hl8 := hs7.le
        refine DW.x rfl rfl (X.move rfl) (by decide) ?_
        refine DW.x rfl rfl (X.move rfl) (by decide) ?_
        refine DW.xe rfl rfl (E.idxN k Try.runUnderlying52 Try.sizeOf29 rfl rfl hb (by omega)) (by decide) (fun p9 hp10 => ?_)
        refine DW.xe rfl rfl (E.loadSl Try.isAgg29 rfl hp10) (by decide) (fun v11 hs12 => ?_)
        have hl13 := hs12.le
        refine DW.cond rfl rfl (X.call Try.call50 rfl (sameInts50 _ _ _ hs7 _ _ hs12 )) (by decide) (fun h14 => ?_) (fun h14 => ?_)
        · refine DW.x rfl rfl (X.not rfl) (by decide) ?_
          refine DW.nil ?_
          refine WK.nThen ?_
          refine WC.condF rfl ?_
          refine WC.skip ?_
          refine WK.nBlock ?_
          refine WK.nThen ?_
          refine WC.region ?_
          refine WL.x (X.move rfl) (by decide) ?_
          refine WL.x (X.add rfl rfl (by omega) (by omega)) (by decide) ?_
          refine WL.x (X.assign rfl) (by decide) ?_
          refine WL.nil ?_
          refine WK.nThen ?_
          refine WK.next (k + 1) rfl (.refl _) (.cons rfl (.cons rfl (.cons rfl .nil))) ?_ ?_
          · exact ⟨by omega, fun j hj => by rcases Nat.lt_succ_iff_lt_or_eq.1 hj with h | h; exact hall j h; subst h; assumption⟩
          · omega
        · refine DW.x rfl rfl (X.not rfl) (by decide) ?_
          refine DW.nil ?_
          refine WK.nThen ?_
          refine WC.condT rfl ?_
          refine WC.seq ?_
          refine WC.region ?_
          refine WL.x (X.assign rfl) (by decide) ?_
          refine WL.nil ?_
          refine WK.nThen ?_
          refine WC.ret ?_
          refine WK.rBlock ?_
          refine WK.rThen ?_
          refine WK.rThen ?_
          refine WK.rBlock ?_
          refine WK.rThen ?_
          refine WK.ret1 rfl rfl (fun w' hw' => Ret.exact hw' ?_)
          first | exact bool_false (fun e => by subst e; omega) | exact bool_false (fun e => by subst e; contradiction) | exact bool_true (ext_gt (by omega) (fun j hj => hall j (by omega)))
      · refine WL.nil ?_
        refine WK.nThen ?_
        refine WC.condF rfl ?_
        refine WC.exit ?_
        refine WK.eThen ?_
        refine WK.eThen ?_
        refine WK.eHit ?_
        refine WK.nThen ?_
        refine WC.seq ?_
        refine WC.region ?_
        refine WL.x (X.assign rfl) (by decide) ?_
        refine WL.nil ?_
        refine WK.nThen ?_
        refine WC.ret ?_
        refine WK.ret1 rfl rfl (fun w' hw' => Ret.exact hw' ?_)
        first | exact bool_false (fun e => by subst e; omega) | exact bool_false (fun e => by subst e; contradiction) | exact bool_true (ext_gt (by omega) (fun j hj => hall j (by omega)))

theorem sample74 (m : Mem)  : Pure Try.prog 74 #[] m (fun m' v => ∃ (c : List Value) (v2 : Value) (b : Option Addr), v = .tuple #[.agg c.toArray, v2] ∧ Enc.rd m' c sampD ∧ Sl m' v2 sampM ∧ v2 = .slice b 2 2) := by
  refine Pure.start Try.func74 rfl Try.ntmps74 rfl fun wld => ?_
  refine WC.seq ?_
  refine WC.region ?_
  refine WL.tn (T.alloc Try.zeroValue25 rfl) (by decide) fun b1 => ?_
  refine WL.x (X.assign rfl) (by decide) ?_
  refine WL.nil ?_
  refine WK.nThen ?_
  refine WC.seq ?_
  refine WC.region ?_
  refine WL.x (V := Value.agg [.int .i64 (2), .int .i64 (3)].toArray) (X.build Try.zeroValue31 Try.runUnderlying31 (places31 _ Try.underlying31) rfl rfl) (by decide) ?_
  refine WL.x (V := Value.agg [.int .i64 (2), .int .i64 (3)].toArray) (X.build Try.zeroValue31 Try.runUnderlying31 (places31 _ Try.underlying31) rfl rfl) (by decide) ?_
  refine WL.x (V := Value.agg [.int .i64 (1), .int .i64 (4)].toArray) (X.build Try.zeroValue31 Try.runUnderlying31 (places31 _ Try.underlying31) rfl rfl) (by decide) ?_
  refine WL.tm (T.litMF (α := Span) (vals := [.agg [.int .i64 (2), .int .i64 (3)].toArray, .agg [.int .i64 (2), .int .i64 (3)].toArray, .agg [.int .i64 (1), .int .i64 (4)].toArray]) (L := [(Span.mk (2) (3)), (Span.mk (2) (3)), (Span.mk (1) (4))]) sl22 rfl (.cons rfl rfl (.cons rfl rfl (.cons rfl rfl .nil))) rfl rfl) (by decide) (fun m2 v3 hle4 ⟨⟨b7, hfu6⟩, hs5⟩ => ?_)
  refine WL.x (V := Value.agg [.int .i64 (0), .int .i64 (5)].toArray) (X.build Try.zeroValue31 Try.runUnderlying31 (places31 _ Try.underlying31) rfl rfl) (by decide) ?_
  refine WL.x (V := Value.agg [.int .i64 (1), .int .i64 (0), .int .i64 (5)].toArray) (X.build Try.zeroValue34 Try.runUnderlying34 (places34 _ Try.underlying34) rfl rfl) (by decide) ?_
  refine WL.tm (T.litMF (α := Stop) (vals := [.agg [.int .i64 (1), .int .i64 (0), .int .i64 (5)].toArray]) (L := [(Stop.mk (1) ((Span.mk (0) (5))))]) sl23 rfl (.cons rfl rfl .nil) rfl rfl) (by decide) (fun m8 v9 hle10 ⟨⟨b13, hfu12⟩, hs11⟩ => ?_)
  replace hs5 := hs5.mono hle10
  refine WL.x (V := Value.agg [v3, v9].toArray) (X.build Try.zeroValue25 Try.runUnderlying25 (places25 _ Try.underlying25) rfl (by simp only [Instr.fill, one_cells hs5.one, one_cells hs11.one]; rfl)) (by decide) ?_
  refine WL.tn (T.alloc Try.zeroValue25 rfl) (by decide) fun b14 => ?_
  refine WL.ts (T.storeBA (k := 0) Try.sizeOf25 rfl rfl rfl (one_cons hs5.one (one_cons hs11.one one_nil)) rfl rfl) ?_
  refine WL.nil ?_
  refine WK.nThen ?_
  refine WC.seq ?_
  refine WC.region ?_
  refine WL.x (X.loadBA (k := 0) Try.isAgg25 Try.sizeOf25 rfl rfl rfl) (by decide) ?_
  refine WL.x (V := Value.agg [.int .i64 (10), .int .i64 (12)].toArray) (X.build Try.zeroValue31 Try.runUnderlying31 (places31 _ Try.underlying31) rfl rfl) (by decide) ?_
  refine WL.x (V := Value.agg [.int .i64 (0), .int .i64 (10), .int .i64 (12)].toArray) (X.build Try.zeroValue33 Try.runUnderlying33 (places33 _ Try.underlying33) rfl rfl) (by decide) ?_
  refine WL.x (V := Value.agg [.int .i64 (20), .int .i64 (22)].toArray) (X.build Try.zeroValue31 Try.runUnderlying31 (places31 _ Try.underlying31) rfl rfl) (by decide) ?_
  refine WL.x (V := Value.agg [.int .i64 (3), .int .i64 (20), .int .i64 (22)].toArray) (X.build Try.zeroValue33 Try.runUnderlying33 (places33 _ Try.underlying33) rfl rfl) (by decide) ?_
  refine WL.tm (T.litMF (α := Mark) (vals := [.agg [.int .i64 (0), .int .i64 (10), .int .i64 (12)].toArray, .agg [.int .i64 (3), .int .i64 (20), .int .i64 (22)].toArray]) (L := [(Mark.mk (0) ((Span.mk (10) (12)))), (Mark.mk (3) ((Span.mk (20) (22))))]) sl26 rfl (.cons rfl rfl (.cons rfl rfl .nil)) rfl rfl) (by decide) (fun m15 v16 hle17 ⟨⟨b20, hfu19⟩, hs18⟩ => ?_)
  replace hs5 := hs5.mono hle17
  replace hs11 := hs11.mono hle17
  refine WL.ts (T.storeBA (k := 1) Try.sizeOf25 rfl rfl rfl (one_cons hs5.one (one_cons hs11.one one_nil)) rfl rfl) ?_
  refine WL.x (X.assign rfl) (by decide) ?_
  refine WL.nil ?_
  refine WK.nThen ?_
  refine WC.ret ?_
  refine WK.retC2 1 rfl rfl rfl rfl Try.isAgg25 Try.sizeOf25 (fun w' hw' => Ret.mem hw' ?_)
  exact ⟨_, _, _, rfl, ⟨_, _, rfl, hs5, hs11⟩, hs18, hfu19⟩

theorem awake19 (m : Mem)    : Exact Try.prog 19 #[] m (.bool true) := by
  have hsm : sampM.length = 2 := rfl
  have hrl := aw_run.2.1
  refine Exact.start Try.func19 rfl Try.ntmps19 rfl fun wld => ?_
  refine WC.seq ?_
  refine WC.region ?_
  refine WL.x (X.assign rfl) (by decide) ?_
  refine WL.nil ?_
  refine WK.nThen ?_
  refine WC.seq ?_
  refine WC.region ?_
  refine WL.tm (T.call Try.call74 rfl (sample74 _)) (by decide) (fun m1 r2 hle3 hR_ => ?_)
  obtain ⟨c4, v5, b6, rfl, hc7, hs8, hfu9⟩ := hR_
  obtain ⟨v10, v12, rfl, hs11, hs13⟩ := hc7
  have hl14 := hs11.le
  have hl15 := hs13.le
  refine WL.x (X.move rfl) (by decide) ?_
  refine WL.x (X.extract rfl rfl) (by decide) ?_
  refine WL.x (X.extract rfl rfl) (by decide) ?_
  refine WL.tn (T.alloc Try.zeroValue25 rfl) (by decide) fun b16 => ?_
  refine WL.ts (T.storeBA (k := 0) Try.sizeOf25 rfl rfl rfl (one_cons hs11.one (one_cons hs13.one one_nil)) rfl rfl) ?_
  refine WL.x (X.assign rfl) (by decide) ?_
  refine WL.nil ?_
  refine WK.nThen ?_
  refine WC.seq ?_
  refine WC.region ?_
  refine WL.x (X.loadBA (k := 0) Try.isAgg25 Try.sizeOf25 rfl rfl rfl) (by decide) ?_
  refine WL.x (X.move rfl) (by decide) ?_
  refine WL.tm (T.call Try.call47 rfl (earliest47 _ _ sampD ⟨_, _, rfl, hs11, hs13⟩ _ _ hs8 )) (by decide) fun m17 r18 hle19 hR20 => ?_
  obtain ⟨v21, rfl, hs22⟩ := hR20
  replace hs11 := hs11.mono hle19
  replace hs13 := hs13.mono hle19
  replace hs8 := hs8.mono hle19
  have hl23 := hs22.le
  refine WL.x (X.move rfl) (by decide) ?_
  refine WL.x (X.extract rfl rfl) (by decide) ?_
  refine WL.x (X.extract rfl rfl) (by decide) ?_
  refine WL.x (X.assign rfl) (by decide) ?_
  refine WL.x (X.assign rfl) (by decide) ?_
  refine WL.nil ?_
  refine WK.nThen ?_
  refine WC.seq ?_
  rw [aw_ear2]
  rw [aw_ear1] at hs22
  refine WC.region ?_
  refine WL.x (X.loadBA (k := 0) Try.isAgg25 Try.sizeOf25 rfl rfl rfl) (by decide) ?_
  refine WL.x (X.move rfl) (by decide) ?_
  refine WL.tm (T.call Try.call46 rfl (latest46 _ _ sampD ⟨_, _, rfl, hs11, hs13⟩ _ _ hs8 )) (by decide) fun m24 r25 hle26 hR27 => ?_
  obtain ⟨v28, rfl, hs29⟩ := hR27
  replace hs11 := hs11.mono hle26
  replace hs13 := hs13.mono hle26
  replace hs8 := hs8.mono hle26
  replace hs22 := hs22.mono hle26
  have hl30 := hs29.le
  refine WL.x (X.move rfl) (by decide) ?_
  refine WL.x (X.extract rfl rfl) (by decide) ?_
  refine WL.x (X.extract rfl rfl) (by decide) ?_
  refine WL.x (X.assign rfl) (by decide) ?_
  refine WL.x (X.assign rfl) (by decide) ?_
  refine WL.nil ?_
  refine WK.nThen ?_
  refine WC.seq ?_
  rw [aw_lat2]
  rw [aw_lat1] at hs29
  refine WC.region ?_
  refine WL.x (X.loadBA (k := 0) Try.isAgg25 Try.sizeOf25 rfl rfl rfl) (by decide) ?_
  refine WL.x (X.move rfl) (by decide) ?_
  refine WL.x (X.call Try.call21 rfl (between21 _ _ sampD ⟨_, _, rfl, hs11, hs13⟩ _ _ hs8 _ _ )) (by decide) ?_
  refine WL.x (X.move rfl) (by decide) ?_
  refine WL.x (X.extract rfl rfl) (by decide) ?_
  refine WL.x (X.extract rfl rfl) (by decide) ?_
  refine WL.tn (T.alloc Try.zeroValue31 rfl) (by decide) fun b31 => ?_
  refine WL.ts (T.storeBA (k := 0) Try.sizeOf31 rfl rfl rfl (one_cons rfl (one_cons rfl one_nil)) rfl rfl) ?_
  refine WL.x (X.assign rfl) (by decide) ?_
  refine WL.nil ?_
  refine WK.nThen ?_
  refine WC.seq ?_
  rw [aw_bet1]
  rw [aw_bet2]
  rw [aw_bet3]
  refine WC.region ?_
  refine WL.x (X.loadBA (k := 1) Try.isAgg25 Try.sizeOf25 rfl rfl rfl) (by decide) ?_
  refine WL.x (X.move rfl) (by decide) ?_
  refine WL.x (X.call Try.call23 rfl (at23 _ _ sampD ⟨_, _, rfl, hs11, hs13⟩ _ _ hs8 _ )) (by decide) ?_
  refine WL.x (X.move rfl) (by decide) ?_
  refine WL.x (X.extract rfl rfl) (by decide) ?_
  refine WL.x (X.extract rfl rfl) (by decide) ?_
  refine WL.tn (T.alloc Try.zeroValue31 rfl) (by decide) fun b32 => ?_
  refine WL.ts (T.storeBA (k := 0) Try.sizeOf31 rfl rfl rfl (one_cons rfl (one_cons rfl one_nil)) rfl rfl) ?_
  refine WL.x (X.assign rfl) (by decide) ?_
  refine WL.nil ?_
  refine WK.nThen ?_
  refine WC.seq ?_
  rw [aw_at1]
  rw [aw_at2]
  rw [aw_at3]
  refine WC.region ?_
  refine WL.x (X.loadBA (k := 2) Try.isAgg25 Try.sizeOf25 rfl rfl rfl) (by decide) ?_
  refine WL.x (X.move rfl) (by decide) ?_
  refine WL.tm (T.call Try.call25 rfl (run25 _ _ sampD ⟨_, _, rfl, hs11, hs13⟩ _ _ hs8 _ )) (by decide) fun m33 r34 hle35 hR36 => ?_
  obtain ⟨v37, rfl, hs38⟩ := hR36
  replace hs11 := hs11.mono hle35
  replace hs13 := hs13.mono hle35
  replace hs8 := hs8.mono hle35
  replace hs22 := hs22.mono hle35
  replace hs29 := hs29.mono hle35
  have hl39 := hs38.le
  refine WL.x (X.move rfl) (by decide) ?_
  refine WL.x (X.extract rfl rfl) (by decide) ?_
  refine WL.x (X.extract rfl rfl) (by decide) ?_
  refine WL.x (X.assign rfl) (by decide) ?_
  refine WL.x (X.assign rfl) (by decide) ?_
  refine WL.nil ?_
  refine WK.nThen ?_
  refine WC.seq ?_
  rw [aw_run2]
  refine WC.region ?_
  refine WL.x (X.loadBA (k := 2) Try.isAgg25 Try.sizeOf25 rfl rfl rfl) (by decide) ?_
  refine WL.x (X.move rfl) (by decide) ?_
  refine WL.x (X.call Try.call27 rfl (drift27 _ _ sampD ⟨_, _, rfl, hs11, hs13⟩ _ _ hs8 _ _ )) (by decide) ?_
  refine WL.x (X.move rfl) (by decide) ?_
  refine WL.x (X.extract rfl rfl) (by decide) ?_
  refine WL.x (X.extract rfl rfl) (by decide) ?_
  refine WL.x (X.extract rfl rfl) (by decide) ?_
  refine WL.tn (T.alloc Try.zeroValue46 rfl) (by decide) fun b40 => ?_
  refine WL.tn (T.alloc Try.zeroValue46 rfl) (by decide) fun b41 => ?_
  refine WL.ts (T.storeBA (k := 1) Try.sizeOf46 rfl rfl rfl (one_cons rfl (one_cons rfl one_nil)) rfl rfl) ?_
  refine WL.ts (T.storeBA (k := 0) Try.sizeOf46 rfl rfl rfl (one_cons rfl (one_cons rfl one_nil)) rfl rfl) ?_
  refine WL.x (X.assign rfl) (by decide) ?_
  refine WL.nil ?_
  refine WK.nThen ?_
  refine WC.seq ?_
  rw [aw_drf5]
  rw [aw_drf3]
  rw [aw_drf4]
  rw [aw_drf1]
  rw [aw_drf2]
  refine WC.region ?_
  refine WL.x (X.move rfl) (by decide) ?_
  refine WL.x (V := Value.agg [.int .i64 (10), .int .i64 (13)].toArray) (X.build Try.zeroValue31 Try.runUnderlying31 (places31 _ Try.underlying31) rfl rfl) (by decide) ?_
  refine WL.x (V := Value.agg [.int .i64 (2), .int .i64 (10), .int .i64 (13)].toArray) (X.build Try.zeroValue33 Try.runUnderlying33 (places33 _ Try.underlying33) rfl rfl) (by decide) ?_
  refine WL.tl (T.lit1 sl26 rfl rfl rfl (by decide)) (by decide) fun b42 => ?_
  refine WL.tm (T.appendFullM (k := 0) (fun _ _ h => rd_flat (fun _ _ h_ => h_) h) (a := (Mark.mk (2) ((Span.mk (10) (13))))) sl26 rfl rfl rfl hs8 hfu9 (by first | omega | (simp; omega)) (by decide)) (by decide) (fun m44 v43 hle45 hs46 => ?_)
  replace hs11 := hs11.mono hle45
  replace hs13 := hs13.mono hle45
  replace hs8 := hs8.mono hle45
  replace hs22 := hs22.mono hle45
  replace hs29 := hs29.mono hle45
  replace hs38 := hs38.mono hle45
  refine WL.x (X.assign rfl) (by decide) ?_
  refine WL.nil ?_
  refine WK.nThen ?_
  refine WC.seq ?_
  have hbm_ : Sl m44 v43 badM := hs46
  refine WC.region ?_
  refine WL.x (X.loadBA (k := 5) Try.isAgg25 Try.sizeOf25 rfl rfl rfl) (by decide) ?_
  refine WL.x (X.move rfl) (by decide) ?_
  refine WL.tm (T.call Try.call31 rfl (pairs31 _ _ sampD ⟨_, _, rfl, hs11, hs13⟩ _ _ hbm_ )) (by decide) fun m47 r48 hle49 hR50 => ?_
  obtain ⟨v51, rfl, hs52⟩ := hR50
  replace hs11 := hs11.mono hle49
  replace hs13 := hs13.mono hle49
  replace hs8 := hs8.mono hle49
  replace hs22 := hs22.mono hle49
  replace hs29 := hs29.mono hle49
  replace hs38 := hs38.mono hle49
  replace hs46 := hs46.mono hle49
  replace hbm_ := hbm_.mono hle49
  have hl53 := hs52.le
  refine WL.x (X.move rfl) (by decide) ?_
  refine WL.x (X.extract rfl rfl) (by decide) ?_
  refine WL.x (X.extract rfl rfl) (by decide) ?_
  refine WL.x (X.assign rfl) (by decide) ?_
  refine WL.x (X.assign rfl) (by decide) ?_
  refine WL.nil ?_
  refine WK.nThen ?_
  refine WC.seq ?_
  rw [aw_prs2]
  rw [aw_prs1] at hs52
  refine WC.region ?_
  refine WL.x (X.loadBA (k := 5) Try.isAgg25 Try.sizeOf25 rfl rfl rfl) (by decide) ?_
  refine WL.x (X.move rfl) (by decide) ?_
  refine WL.tm (T.call Try.call35 rfl (drops35 _ _ sampD ⟨_, _, rfl, hs11, hs13⟩ _ _ hbm_ )) (by decide) fun m54 r55 hle56 hR57 => ?_
  obtain ⟨v58, rfl, hs59⟩ := hR57
  replace hs11 := hs11.mono hle56
  replace hs13 := hs13.mono hle56
  replace hs8 := hs8.mono hle56
  replace hs22 := hs22.mono hle56
  replace hs29 := hs29.mono hle56
  replace hs38 := hs38.mono hle56
  replace hs46 := hs46.mono hle56
  replace hbm_ := hbm_.mono hle56
  replace hs52 := hs52.mono hle56
  have hl60 := hs59.le
  refine WL.x (X.move rfl) (by decide) ?_
  refine WL.x (X.extract rfl rfl) (by decide) ?_
  refine WL.x (X.extract rfl rfl) (by decide) ?_
  refine WL.x (X.assign rfl) (by decide) ?_
  refine WL.x (X.assign rfl) (by decide) ?_
  refine WL.nil ?_
  refine WK.nThen ?_
  refine WC.seq ?_
  refine WC.seq ?_
  rw [aw_drp2]
  rw [aw_drp1] at hs59
  refine WC.region ?_
  refine WL.x (X.move rfl) (by decide) ?_
  refine WL.x (X.neq rfl rfl) (by decide) ?_
  refine WL.x (X.move rfl) (by decide) ?_
  refine WL.yes rfl rfl ?_
  refine WL.x (X.move rfl) (by decide) ?_
  refine WL.yes rfl rfl ?_
  refine WL.x (X.neq rfl rfl) (by decide) ?_
  refine WL.x (X.pickF rfl rfl rfl) (by decide) ?_
  refine WL.x (X.move rfl) (by decide) ?_
  refine WL.yes rfl rfl ?_
  refine WL.x (X.move rfl) (by decide) ?_
  refine WL.yes rfl rfl ?_
  refine WL.x (X.neq rfl rfl) (by decide) ?_
  refine WL.x (X.pickF rfl rfl rfl) (by decide) ?_
  refine WL.x (X.move rfl) (by decide) ?_
  refine WL.yes rfl rfl ?_
  refine WL.x (X.move rfl) (by decide) ?_
  refine WL.yes rfl rfl ?_
  refine WL.x (X.neq rfl rfl) (by decide) ?_
  refine WL.x (X.pickF rfl rfl rfl) (by decide) ?_
  refine WL.x (X.move rfl) (by decide) ?_
  refine WL.yes rfl rfl ?_
  refine WL.x (X.move rfl) (by decide) ?_
  refine WL.yes rfl rfl ?_
  refine WL.x (X.neq rfl rfl) (by decide) ?_
  refine WL.x (X.pickF rfl rfl rfl) (by decide) ?_
  refine WL.x (X.move rfl) (by decide) ?_
  refine WL.yes rfl rfl ?_
  refine WL.x (X.move rfl) (by decide) ?_
  refine WL.yes rfl rfl ?_
  refine WL.x (X.neq rfl rfl) (by decide) ?_
  refine WL.x (X.pickF rfl rfl rfl) (by decide) ?_
  refine WL.x (X.move rfl) (by decide) ?_
  refine WL.yes rfl rfl ?_
  refine WL.x (X.move rfl) (by decide) ?_
  refine WL.yes rfl rfl ?_
  refine WL.x (X.neq rfl rfl) (by decide) ?_
  refine WL.x (X.pickF rfl rfl rfl) (by decide) ?_
  refine WL.x (X.move rfl) (by decide) ?_
  refine WL.yes rfl rfl ?_
  refine WL.x (X.move rfl) (by decide) ?_
  refine WL.yes rfl rfl ?_
  refine WL.x (X.neq rfl rfl) (by decide) ?_
  refine WL.x (X.pickF rfl rfl rfl) (by decide) ?_
  refine WL.x (X.move rfl) (by decide) ?_
  refine WL.yes rfl rfl ?_
  refine WL.x (X.move rfl) (by decide) ?_
  refine WL.yes rfl rfl ?_
  refine WL.x (X.len Try.runUnderlying22 rfl hs38) (by decide) ?_
  rw [aw_run3]
  refine WL.yes rfl rfl ?_
  refine WL.x (X.neq rfl rfl) (by decide) ?_
  refine WL.x (X.pickF rfl rfl rfl) (by decide) ?_
  refine WL.nil ?_
  refine WK.nThen ?_
  refine WC.condF rfl ?_
  refine WC.skip ?_
  refine WK.nThen ?_
  refine WC.seq ?_
  refine WC.region ?_
  refine WL.x (X.move rfl) (by decide) ?_
  refine WL.tm (T.litM (α := Int) (vals := [.int .i64 (10), .int .i64 (12), .int .i64 (16), .int .i64 (20)]) (L := [10, 12, 16, 20]) sl29 rfl (.cons rfl rfl (.cons rfl rfl (.cons rfl rfl (.cons rfl rfl .nil)))) rfl rfl) (by decide) (fun m61 v62 hle63 hs64 => ?_)
  replace hs11 := hs11.mono hle63
  replace hs13 := hs13.mono hle63
  replace hs8 := hs8.mono hle63
  replace hs22 := hs22.mono hle63
  replace hs29 := hs29.mono hle63
  replace hs38 := hs38.mono hle63
  replace hs46 := hs46.mono hle63
  replace hbm_ := hbm_.mono hle63
  replace hs52 := hs52.mono hle63
  replace hs59 := hs59.mono hle63
  refine WL.x (OpX.t (X.call Try.call50 rfl (sameInts50 _ _ _ hs22 _ _ hs64 )) rfl) (by decide) ?_
  refine WL.x (X.move rfl) (by decide) ?_
  refine WL.yes rfl rfl ?_
  refine WL.x (X.move rfl) (by decide) ?_
  refine WL.yes rfl rfl ?_
  refine WL.tm (T.litM (α := Int) (vals := [.int .i64 (12), .int .i64 (15), .int .i64 (21), .int .i64 (22)]) (L := [12, 15, 21, 22]) sl29 rfl (.cons rfl rfl (.cons rfl rfl (.cons rfl rfl (.cons rfl rfl .nil)))) rfl rfl) (by decide) (fun m65 v66 hle67 hs68 => ?_)
  replace hs11 := hs11.mono hle67
  replace hs13 := hs13.mono hle67
  replace hs8 := hs8.mono hle67
  replace hs22 := hs22.mono hle67
  replace hs29 := hs29.mono hle67
  replace hs38 := hs38.mono hle67
  replace hs46 := hs46.mono hle67
  replace hbm_ := hbm_.mono hle67
  replace hs52 := hs52.mono hle67
  replace hs59 := hs59.mono hle67
  replace hs64 := hs64.mono hle67
  refine WL.yes rfl rfl ?_
  refine WL.x (OpX.t (X.call Try.call50 rfl (sameInts50 _ _ _ hs29 _ _ hs68 )) rfl) (by decide) ?_
  refine WL.x (X.pickT rfl rfl rfl) (by decide) ?_
  refine WL.x (X.move rfl) (by decide) ?_
  refine WL.yes rfl rfl ?_
  refine WL.x (X.loadBA (k := 4) Try.isAgg31 Try.sizeOf31 rfl rfl rfl) (by decide) ?_
  refine WL.yes rfl rfl ?_
  refine WL.x (V := Value.agg [.int .i64 (5), .int .i64 (10)].toArray) (X.build Try.zeroValue31 Try.runUnderlying31 (places31 _ Try.underlying31) rfl rfl) (by decide) ?_
  refine WL.yes rfl rfl ?_
  refine WL.x (OpX.t (X.eqlS (a := (Span.mk (5) (10))) (b := (Span.mk (5) (10))) gd31 (fun w => eqS31 9998 _ _ w) rfl rfl) rfl) (by decide) ?_
  refine WL.x (X.pickT rfl rfl rfl) (by decide) ?_
  refine WL.x (X.move rfl) (by decide) ?_
  refine WL.yes rfl rfl ?_
  refine WL.x (X.loadBA (k := 3) Try.isAgg31 Try.sizeOf31 rfl rfl rfl) (by decide) ?_
  refine WL.yes rfl rfl ?_
  refine WL.x (V := Value.agg [.int .i64 (1), .int .i64 (2)].toArray) (X.build Try.zeroValue31 Try.runUnderlying31 (places31 _ Try.underlying31) rfl rfl) (by decide) ?_
  refine WL.yes rfl rfl ?_
  refine WL.x (OpX.t (X.eqlS (a := (Span.mk (1) (2))) (b := (Span.mk (1) (2))) gd31 (fun w => eqS31 9998 _ _ w) rfl rfl) rfl) (by decide) ?_
  refine WL.x (X.pickT rfl rfl rfl) (by decide) ?_
  refine WL.x (X.move rfl) (by decide) ?_
  refine WL.yes rfl rfl ?_
  refine WL.x (X.move rfl) (by decide) ?_
  refine WL.yes rfl rfl ?_
  refine WL.xe (E.idxN 2 Try.runUnderlying22 Try.sizeOf31 rfl rfl hs38 (by omega)) (by decide) (fun p69 hp70 => ?_)
  rw [aw_run.2.2] at hp70
  refine WL.yes rfl rfl ?_
  refine WL.xe (E.loadAgg Try.isAgg31 Try.sizeOf31 rfl hp70) (by decide) (fun c71 hc72 => ?_)
  obtain rfl := hc72
  refine WL.yes rfl rfl ?_
  refine WL.x (V := Value.agg [.int .i64 (16), .int .i64 (21)].toArray) (X.build Try.zeroValue31 Try.runUnderlying31 (places31 _ Try.underlying31) rfl rfl) (by decide) ?_
  refine WL.yes rfl rfl ?_
  refine WL.x (OpX.t (X.eqlS (a := Span.mk (16) (21)) (b := (Span.mk (16) (21))) gd31 (fun w => eqS31 9998 _ _ w) rfl rfl) rfl) (by decide) ?_
  refine WL.x (X.pickT rfl rfl rfl) (by decide) ?_
  refine WL.x (X.move rfl) (by decide) ?_
  refine WL.yes rfl rfl ?_
  refine WL.x (X.loadBA (k := 2) Try.isAgg46 Try.sizeOf46 rfl rfl rfl) (by decide) ?_
  refine WL.yes rfl rfl ?_
  refine WL.x (V := Value.agg [.int .i64 (5), .int .i64 (2)].toArray) (X.build Try.zeroValue46 Try.runUnderlying46 (places46 _ Try.underlying46) rfl rfl) (by decide) ?_
  refine WL.yes rfl rfl ?_
  refine WL.x (OpX.t (X.eqlS (a := (Ratio.mk (5) (2))) (b := (Ratio.mk (5) (2))) gd46 (fun w => eqS46 9998 _ _ w) rfl rfl) rfl) (by decide) ?_
  refine WL.x (X.pickT rfl rfl rfl) (by decide) ?_
  refine WL.x (X.move rfl) (by decide) ?_
  refine WL.yes rfl rfl ?_
  refine WL.x (X.loadBA (k := 1) Try.isAgg46 Try.sizeOf46 rfl rfl rfl) (by decide) ?_
  refine WL.yes rfl rfl ?_
  refine WL.x (V := Value.agg [.int .i64 (5), .int .i64 (1)].toArray) (X.build Try.zeroValue46 Try.runUnderlying46 (places46 _ Try.underlying46) rfl rfl) (by decide) ?_
  refine WL.yes rfl rfl ?_
  refine WL.x (OpX.t (X.eqlS (a := (Ratio.mk (5) (1))) (b := (Ratio.mk (5) (1))) gd46 (fun w => eqS46 9998 _ _ w) rfl rfl) rfl) (by decide) ?_
  refine WL.x (X.pickT rfl rfl rfl) (by decide) ?_
  refine WL.x (X.move rfl) (by decide) ?_
  refine WL.yes rfl rfl ?_
  refine WL.x (X.move rfl) (by decide) ?_
  refine WL.yes rfl rfl ?_
  refine WL.tm (T.litM (α := Int) (vals := [.int .i64 (0), .int .i64 (2)]) (L := [0, 2]) sl29 rfl (.cons rfl rfl (.cons rfl rfl .nil)) rfl rfl) (by decide) (fun m73 v74 hle75 hs76 => ?_)
  replace hs11 := hs11.mono hle75
  replace hs13 := hs13.mono hle75
  replace hs8 := hs8.mono hle75
  replace hs22 := hs22.mono hle75
  replace hs29 := hs29.mono hle75
  replace hs38 := hs38.mono hle75
  replace hs46 := hs46.mono hle75
  replace hbm_ := hbm_.mono hle75
  replace hs52 := hs52.mono hle75
  replace hs59 := hs59.mono hle75
  replace hs64 := hs64.mono hle75
  replace hs68 := hs68.mono hle75
  replace hp70 := hp70.mono hle75
  refine WL.yes rfl rfl ?_
  refine WL.tm (T.litM (α := Int) (vals := [.int .i64 (1), .int .i64 (2)]) (L := [1, 2]) sl29 rfl (.cons rfl rfl (.cons rfl rfl .nil)) rfl rfl) (by decide) (fun m77 v78 hle79 hs80 => ?_)
  replace hs11 := hs11.mono hle79
  replace hs13 := hs13.mono hle79
  replace hs8 := hs8.mono hle79
  replace hs22 := hs22.mono hle79
  replace hs29 := hs29.mono hle79
  replace hs38 := hs38.mono hle79
  replace hs46 := hs46.mono hle79
  replace hbm_ := hbm_.mono hle79
  replace hs52 := hs52.mono hle79
  replace hs59 := hs59.mono hle79
  replace hs64 := hs64.mono hle79
  replace hs68 := hs68.mono hle79
  replace hp70 := hp70.mono hle79
  replace hs76 := hs76.mono hle79
  refine WL.yes rfl rfl ?_
  refine WL.tm (T.litM (α := List Int) (vals := [v74, v78]) (L := [[0, 2], [1, 2]]) sl52 rfl (.cons (one_cells hs76.one) ⟨_, rfl, hs76⟩ (.cons (one_cells hs80.one) ⟨_, rfl, hs80⟩ .nil)) rfl rfl) (by decide) (fun m81 v82 hle83 hs84 => ?_)
  replace hs11 := hs11.mono hle83
  replace hs13 := hs13.mono hle83
  replace hs8 := hs8.mono hle83
  replace hs22 := hs22.mono hle83
  replace hs29 := hs29.mono hle83
  replace hs38 := hs38.mono hle83
  replace hs46 := hs46.mono hle83
  replace hbm_ := hbm_.mono hle83
  replace hs52 := hs52.mono hle83
  replace hs59 := hs59.mono hle83
  replace hs64 := hs64.mono hle83
  replace hs68 := hs68.mono hle83
  replace hp70 := hp70.mono hle83
  replace hs76 := hs76.mono hle83
  replace hs80 := hs80.mono hle83
  refine WL.yes rfl rfl ?_
  refine WL.x (OpX.t (X.call Try.call65 rfl (sameLists65 _ _ _ hs52 _ _ hs84 )) rfl) (by decide) ?_
  refine WL.x (X.pickT rfl rfl rfl) (by decide) ?_
  refine WL.x (X.move rfl) (by decide) ?_
  refine WL.yes rfl rfl ?_
  refine WL.x (X.move rfl) (by decide) ?_
  refine WL.yes rfl rfl ?_
  refine WL.tm (T.litM (α := Int) (vals := [.int .i64 (2)]) (L := [2]) sl29 rfl (.cons rfl rfl .nil) rfl rfl) (by decide) (fun m85 v86 hle87 hs88 => ?_)
  replace hs11 := hs11.mono hle87
  replace hs13 := hs13.mono hle87
  replace hs8 := hs8.mono hle87
  replace hs22 := hs22.mono hle87
  replace hs29 := hs29.mono hle87
  replace hs38 := hs38.mono hle87
  replace hs46 := hs46.mono hle87
  replace hbm_ := hbm_.mono hle87
  replace hs52 := hs52.mono hle87
  replace hs59 := hs59.mono hle87
  replace hs64 := hs64.mono hle87
  replace hs68 := hs68.mono hle87
  replace hp70 := hp70.mono hle87
  replace hs76 := hs76.mono hle87
  replace hs80 := hs80.mono hle87
  replace hs84 := hs84.mono hle87
  refine WL.yes rfl rfl ?_
  refine WL.tm (T.litM (α := List Int) (vals := [v86]) (L := [[2]]) sl52 rfl (.cons (one_cells hs88.one) ⟨_, rfl, hs88⟩ .nil) rfl rfl) (by decide) (fun m89 v90 hle91 hs92 => ?_)
  replace hs11 := hs11.mono hle91
  replace hs13 := hs13.mono hle91
  replace hs8 := hs8.mono hle91
  replace hs22 := hs22.mono hle91
  replace hs29 := hs29.mono hle91
  replace hs38 := hs38.mono hle91
  replace hs46 := hs46.mono hle91
  replace hbm_ := hbm_.mono hle91
  replace hs52 := hs52.mono hle91
  replace hs59 := hs59.mono hle91
  replace hs64 := hs64.mono hle91
  replace hs68 := hs68.mono hle91
  replace hp70 := hp70.mono hle91
  replace hs76 := hs76.mono hle91
  replace hs80 := hs80.mono hle91
  replace hs84 := hs84.mono hle91
  replace hs88 := hs88.mono hle91
  refine WL.yes rfl rfl ?_
  refine WL.x (OpX.t (X.call Try.call65 rfl (sameLists65 _ _ _ hs59 _ _ hs92 )) rfl) (by decide) ?_
  refine WL.x (X.pickT rfl rfl rfl) (by decide) ?_
  refine WL.x (X.assign rfl) (by decide) ?_
  refine WL.nil ?_
  refine WK.nThen ?_
  refine WC.ret ?_
  refine WK.ret1 rfl rfl (fun w' hw' => Ret.exact hw' ?_)
  first | rfl | (simp [*]; done)

end Go.Proofs.C2
