/- Century: walks, ninth part, by program. -/
import Derived.Test.YtednficclnjmjaaC8Law
import Derived.Test.YtednficclnjmjaaC8W8
namespace Go.Proofs.C8
open Go Go.Kx
set_option linter.unusedSimpArgs false

theorem few22 (m : Mem) (cs : List Value) (s : Ser) (hs : Enc.rd m cs s)   : Exact Try.prog 22 #[.agg cs.toArray] m (.bool (decide (fewP s))) := by
 obtain ⟨v1, v3, rfl, hs2, hs4⟩ := hs
 have hl5 := hs2.le
 have hl6 := hs4.le
 refine Exact.start Try.func22 rfl Try.ntmps22 rfl fun wld => ?_
 refine WC.seq ?_
 refine WC.region ?_
 refine WL.tn (T.boxB rfl rfl) (by decide) fun b7 => ?_
 refine WL.x (X.assign rfl) (by decide) ?_
 refine WL.nil ?_
 refine WK.nThen ?_
 refine WC.seq ?_
 refine WC.region ?_
 refine WL.x (X.field Try.runUnderlying25 rfl Try.sizeOf22 rfl) (by decide) ?_
 refine WL.x (X.loadB (k := 0) Try.isAgg22 rfl rfl rfl) (by decide) ?_
 refine WL.x (X.len Try.runUnderlying22 rfl hs2) (by decide) ?_
 refine WL.cond (X.leq rfl rfl) (by decide) (fun h8 => ?_) (fun h8 => ?_)
 ·refine WL.x (X.move rfl) (by decide) ?_
  refine WL.no rfl rfl rfl (by decide) ?_
  refine WL.no rfl rfl rfl (by decide) ?_
  refine WL.no rfl rfl rfl (by decide) ?_
  refine WL.no rfl rfl rfl (by decide) ?_
  refine WL.no rfl rfl rfl (by decide) ?_
  refine WL.noU rfl rfl (by decide) ?_
  refine WL.noU rfl rfl (by decide) ?_
  refine WL.noU rfl rfl (by decide) ?_
  refine WL.noU rfl rfl (by decide) ?_
  refine WL.no rfl rfl rfl (by decide) ?_
  refine WL.x (X.pickT rfl rfl rfl) (by decide) ?_
  refine WL.x (X.move rfl) (by decide) ?_
  refine WL.yes rfl rfl ?_
  refine WL.x (X.field Try.runUnderlying25 rfl Try.sizeOf23 rfl) (by decide) ?_
  refine WL.yes rfl rfl ?_
  refine WL.x (X.loadB (k := 0) Try.isAgg23 rfl rfl rfl) (by decide) ?_
  refine WL.yes rfl rfl ?_
  refine WL.x (X.len Try.runUnderlying23 rfl hs4) (by decide) ?_
  refine WL.yes rfl rfl ?_
  refine WL.cond (X.leq rfl rfl) (by decide) (fun h9 => ?_) (fun h9 => ?_)
  ·refine WL.yes rfl rfl ?_
   refine WL.x (X.move rfl) (by decide) ?_
   refine WL.no rfl rfl rfl (by decide) ?_
   refine WL.no rfl rfl rfl (by decide) ?_
   refine WL.no rfl rfl rfl (by decide) ?_
   refine WL.no rfl rfl rfl (by decide) ?_
   refine WL.no rfl rfl rfl (by decide) ?_
   refine WL.noU rfl rfl (by decide) ?_
   refine WL.noU rfl rfl (by decide) ?_
   refine WL.noU rfl rfl (by decide) ?_
   refine WL.noU rfl rfl (by decide) ?_
   refine WL.no rfl rfl rfl (by decide) ?_
   refine WL.yes rfl rfl ?_
   refine WL.x (X.pickT rfl rfl rfl) (by decide) ?_
   refine WL.x (X.pickT rfl rfl rfl) (by decide) ?_
   refine WL.x (X.assign rfl) (by decide) ?_
   refine WL.nil ?_
   refine WK.nThen ?_
   refine WC.ret ?_
   refine WK.ret1 rfl rfl (fun w' hw' => Ret.exact hw' ?_)
   first | exact bool_true (by unfold fewP; omega) | exact bool_false (by unfold fewP; omega) | exact dec_eq (by unfold fewP; omega)
  ·refine WL.yes rfl rfl ?_
   refine WL.x (X.move rfl) (by decide) ?_
   refine WL.yes rfl rfl ?_
   refine WL.x (X.field Try.runUnderlying25 rfl Try.sizeOf23 rfl) (by decide) ?_
   refine WL.yes rfl rfl ?_
   refine WL.x (X.loadB (k := 0) Try.isAgg23 rfl rfl rfl) (by decide) ?_
   refine WL.yes rfl rfl ?_
   refine WL.x (X.len Try.runUnderlying23 rfl hs4) (by decide) ?_
   refine WL.yes rfl rfl ?_
   refine WL.cond (X.gtr rfl rfl) (by decide) (fun h10 => ?_) (fun h10 => ?_)
   ·refine WL.yes rfl rfl ?_
    refine WL.x (X.move rfl) (by decide) ?_
    refine WL.yes rfl rfl ?_
    refine WL.x (X.field Try.runUnderlying25 rfl Try.sizeOf23 rfl) (by decide) ?_
    refine WL.yes rfl rfl ?_
    refine WL.x (X.loadB (k := 0) Try.isAgg23 rfl rfl rfl) (by decide) ?_
    refine WL.yes rfl rfl ?_
    refine WL.x (X.len Try.runUnderlying23 rfl hs4) (by decide) ?_
    refine WL.yes rfl rfl ?_
    refine WL.x (X.leq rfl rfl) (by decide) ?_
    refine WL.yes rfl rfl ?_
    refine WL.x (X.pickT rfl rfl rfl) (by decide) ?_
    refine WL.yes rfl rfl ?_
    refine WL.x (X.pickF rfl rfl rfl) (by decide) ?_
    refine WL.x (X.pickT rfl rfl rfl) (by decide) ?_
    refine WL.x (X.assign rfl) (by decide) ?_
    refine WL.nil ?_
    refine WK.nThen ?_
    refine WC.ret ?_
    refine WK.ret1 rfl rfl (fun w' hw' => Ret.exact hw' ?_)
    first | exact bool_true (by unfold fewP; omega) | exact bool_false (by unfold fewP; omega) | exact dec_eq (by unfold fewP; omega)
   ·refine WL.yes rfl rfl ?_
    refine WL.x (X.move rfl) (by decide) ?_
    refine WL.no rfl rfl rfl (by decide) ?_
    refine WL.no rfl rfl rfl (by decide) ?_
    refine WL.no rfl rfl rfl (by decide) ?_
    refine WL.no rfl rfl rfl (by decide) ?_
    refine WL.yes rfl rfl ?_
    refine WL.x (X.pickF rfl rfl rfl) (by decide) ?_
    refine WL.yes rfl rfl ?_
    refine WL.x (X.pickF rfl rfl rfl) (by decide) ?_
    refine WL.x (X.pickT rfl rfl rfl) (by decide) ?_
    refine WL.x (X.assign rfl) (by decide) ?_
    refine WL.nil ?_
    refine WK.nThen ?_
    refine WC.ret ?_
    refine WK.ret1 rfl rfl (fun w' hw' => Ret.exact hw' ?_)
    first | exact bool_true (by unfold fewP; omega) | exact bool_false (by unfold fewP; omega) | exact dec_eq (by unfold fewP; omega)
 ·refine WL.x (X.move rfl) (by decide) ?_
  refine WL.yes rfl rfl ?_
  refine WL.x (X.field Try.runUnderlying25 rfl Try.sizeOf22 rfl) (by decide) ?_
  refine WL.yes rfl rfl ?_
  refine WL.x (X.loadB (k := 0) Try.isAgg22 rfl rfl rfl) (by decide) ?_
  refine WL.yes rfl rfl ?_
  refine WL.x (X.len Try.runUnderlying22 rfl hs2) (by decide) ?_
  refine WL.yes rfl rfl ?_
  refine WL.cond (X.gtr rfl rfl) (by decide) (fun h11 => ?_) (fun h11 => ?_)
  ·refine WL.yes rfl rfl ?_
   refine WL.x (X.move rfl) (by decide) ?_
   refine WL.yes rfl rfl ?_
   refine WL.x (X.field Try.runUnderlying25 rfl Try.sizeOf22 rfl) (by decide) ?_
   refine WL.yes rfl rfl ?_
   refine WL.x (X.loadB (k := 0) Try.isAgg22 rfl rfl rfl) (by decide) ?_
   refine WL.yes rfl rfl ?_
   refine WL.x (X.len Try.runUnderlying22 rfl hs2) (by decide) ?_
   refine WL.yes rfl rfl ?_
   refine WL.cond (X.leq rfl rfl) (by decide) (fun h12 => ?_) (fun h12 => ?_)
   ·refine WL.yes rfl rfl ?_
    refine WL.x (X.pickT rfl rfl rfl) (by decide) ?_
    refine WL.x (X.pickF rfl rfl rfl) (by decide) ?_
    refine WL.x (X.move rfl) (by decide) ?_
    refine WL.yes rfl rfl ?_
    refine WL.x (X.field Try.runUnderlying25 rfl Try.sizeOf23 rfl) (by decide) ?_
    refine WL.yes rfl rfl ?_
    refine WL.x (X.loadB (k := 0) Try.isAgg23 rfl rfl rfl) (by decide) ?_
    refine WL.yes rfl rfl ?_
    refine WL.x (X.len Try.runUnderlying23 rfl hs4) (by decide) ?_
    refine WL.yes rfl rfl ?_
    refine WL.cond (X.leq rfl rfl) (by decide) (fun h13 => ?_) (fun h13 => ?_)
    ·refine WL.yes rfl rfl ?_
     refine WL.x (X.move rfl) (by decide) ?_
     refine WL.no rfl rfl rfl (by decide) ?_
     refine WL.no rfl rfl rfl (by decide) ?_
     refine WL.no rfl rfl rfl (by decide) ?_
     refine WL.no rfl rfl rfl (by decide) ?_
     refine WL.no rfl rfl rfl (by decide) ?_
     refine WL.noU rfl rfl (by decide) ?_
     refine WL.noU rfl rfl (by decide) ?_
     refine WL.noU rfl rfl (by decide) ?_
     refine WL.noU rfl rfl (by decide) ?_
     refine WL.no rfl rfl rfl (by decide) ?_
     refine WL.yes rfl rfl ?_
     refine WL.x (X.pickT rfl rfl rfl) (by decide) ?_
     refine WL.x (X.pickT rfl rfl rfl) (by decide) ?_
     refine WL.x (X.assign rfl) (by decide) ?_
     refine WL.nil ?_
     refine WK.nThen ?_
     refine WC.ret ?_
     refine WK.ret1 rfl rfl (fun w' hw' => Ret.exact hw' ?_)
     first | exact bool_true (by unfold fewP; omega) | exact bool_false (by unfold fewP; omega) | exact dec_eq (by unfold fewP; omega)
    ·refine WL.yes rfl rfl ?_
     refine WL.x (X.move rfl) (by decide) ?_
     refine WL.yes rfl rfl ?_
     refine WL.x (X.field Try.runUnderlying25 rfl Try.sizeOf23 rfl) (by decide) ?_
     refine WL.yes rfl rfl ?_
     refine WL.x (X.loadB (k := 0) Try.isAgg23 rfl rfl rfl) (by decide) ?_
     refine WL.yes rfl rfl ?_
     refine WL.x (X.len Try.runUnderlying23 rfl hs4) (by decide) ?_
     refine WL.yes rfl rfl ?_
     refine WL.cond (X.gtr rfl rfl) (by decide) (fun h14 => ?_) (fun h14 => ?_)
     ·refine WL.yes rfl rfl ?_
      refine WL.x (X.move rfl) (by decide) ?_
      refine WL.yes rfl rfl ?_
      refine WL.x (X.field Try.runUnderlying25 rfl Try.sizeOf23 rfl) (by decide) ?_
      refine WL.yes rfl rfl ?_
      refine WL.x (X.loadB (k := 0) Try.isAgg23 rfl rfl rfl) (by decide) ?_
      refine WL.yes rfl rfl ?_
      refine WL.x (X.len Try.runUnderlying23 rfl hs4) (by decide) ?_
      refine WL.yes rfl rfl ?_
      refine WL.x (X.leq rfl rfl) (by decide) ?_
      refine WL.yes rfl rfl ?_
      refine WL.x (X.pickT rfl rfl rfl) (by decide) ?_
      refine WL.yes rfl rfl ?_
      refine WL.x (X.pickF rfl rfl rfl) (by decide) ?_
      refine WL.x (X.pickT rfl rfl rfl) (by decide) ?_
      refine WL.x (X.assign rfl) (by decide) ?_
      refine WL.nil ?_
      refine WK.nThen ?_
      refine WC.ret ?_
      refine WK.ret1 rfl rfl (fun w' hw' => Ret.exact hw' ?_)
      first | exact bool_true (by unfold fewP; omega) | exact bool_false (by unfold fewP; omega) | exact dec_eq (by unfold fewP; omega)
     ·refine WL.yes rfl rfl ?_
      refine WL.x (X.move rfl) (by decide) ?_
      refine WL.no rfl rfl rfl (by decide) ?_
      refine WL.no rfl rfl rfl (by decide) ?_
      refine WL.no rfl rfl rfl (by decide) ?_
      refine WL.no rfl rfl rfl (by decide) ?_
      refine WL.yes rfl rfl ?_
      refine WL.x (X.pickF rfl rfl rfl) (by decide) ?_
      refine WL.yes rfl rfl ?_
      refine WL.x (X.pickF rfl rfl rfl) (by decide) ?_
      refine WL.x (X.pickT rfl rfl rfl) (by decide) ?_
      refine WL.x (X.assign rfl) (by decide) ?_
      refine WL.nil ?_
      refine WK.nThen ?_
      refine WC.ret ?_
      refine WK.ret1 rfl rfl (fun w' hw' => Ret.exact hw' ?_)
      first | exact bool_true (by unfold fewP; omega) | exact bool_false (by unfold fewP; omega) | exact dec_eq (by unfold fewP; omega)
   ·refine WL.yes rfl rfl ?_
    refine WL.x (X.pickT rfl rfl rfl) (by decide) ?_
    refine WL.x (X.pickF rfl rfl rfl) (by decide) ?_
    refine WL.x (X.move rfl) (by decide) ?_
    refine WL.no rfl rfl rfl (by decide) ?_
    refine WL.no rfl rfl rfl (by decide) ?_
    refine WL.no rfl rfl rfl (by decide) ?_
    refine WL.no rfl rfl rfl (by decide) ?_
    refine WL.no rfl rfl rfl (by decide) ?_
    refine WL.noU rfl rfl (by decide) ?_
    refine WL.noU rfl rfl (by decide) ?_
    refine WL.noU rfl rfl (by decide) ?_
    refine WL.noU rfl rfl (by decide) ?_
    refine WL.noU rfl rfl (by decide) ?_
    refine WL.noU rfl rfl (by decide) ?_
    refine WL.noU rfl rfl (by decide) ?_
    refine WL.noU rfl rfl (by decide) ?_
    refine WL.noU rfl rfl (by decide) ?_
    refine WL.noU rfl rfl (by decide) ?_
    refine WL.no rfl rfl rfl (by decide) ?_
    refine WL.x (X.pickF rfl rfl rfl) (by decide) ?_
    refine WL.x (X.assign rfl) (by decide) ?_
    refine WL.nil ?_
    refine WK.nThen ?_
    refine WC.ret ?_
    refine WK.ret1 rfl rfl (fun w' hw' => Ret.exact hw' ?_)
    first | exact bool_true (by unfold fewP; omega) | exact bool_false (by unfold fewP; omega) | exact dec_eq (by unfold fewP; omega)
  ·refine WL.yes rfl rfl ?_
   refine WL.x (X.move rfl) (by decide) ?_
   refine WL.no rfl rfl rfl (by decide) ?_
   refine WL.no rfl rfl rfl (by decide) ?_
   refine WL.no rfl rfl rfl (by decide) ?_
   refine WL.no rfl rfl rfl (by decide) ?_
   refine WL.yes rfl rfl ?_
   refine WL.x (X.pickF rfl rfl rfl) (by decide) ?_
   refine WL.x (X.pickF rfl rfl rfl) (by decide) ?_
   refine WL.x (X.move rfl) (by decide) ?_
   refine WL.no rfl rfl rfl (by decide) ?_
   refine WL.no rfl rfl rfl (by decide) ?_
   refine WL.no rfl rfl rfl (by decide) ?_
   refine WL.no rfl rfl rfl (by decide) ?_
   refine WL.no rfl rfl rfl (by decide) ?_
   refine WL.noU rfl rfl (by decide) ?_
   refine WL.noU rfl rfl (by decide) ?_
   refine WL.noU rfl rfl (by decide) ?_
   refine WL.noU rfl rfl (by decide) ?_
   refine WL.noU rfl rfl (by decide) ?_
   refine WL.noU rfl rfl (by decide) ?_
   refine WL.noU rfl rfl (by decide) ?_
   refine WL.noU rfl rfl (by decide) ?_
   refine WL.noU rfl rfl (by decide) ?_
   refine WL.noU rfl rfl (by decide) ?_
   refine WL.no rfl rfl rfl (by decide) ?_
   refine WL.x (X.pickF rfl rfl rfl) (by decide) ?_
   refine WL.x (X.assign rfl) (by decide) ?_
   refine WL.nil ?_
   refine WK.nThen ?_
   refine WC.ret ?_
   refine WK.ret1 rfl rfl (fun w' hw' => Ret.exact hw' ?_)
   first | exact bool_true (by unfold fewP; omega) | exact bool_false (by unfold fewP; omega) | exact dec_eq (by unfold fewP; omega)

theorem light38 (m : Mem) (cx : List Value) (x : Rl) (hx : Enc.rd m cx x)   : Exact Try.prog 38 #[.agg cx.toArray] m (.bool (decide (lightP x))) := by
 obtain ⟨v1, v3, rfl, hs2, hs4⟩ := hx
 have hl5 := hs2.le
 have hl6 := hs4.le
 refine Exact.start Try.func38 rfl Try.ntmps38 rfl fun wld => ?_
 refine WC.seq ?_
 refine WC.region ?_
 refine WL.tn (T.boxB rfl rfl) (by decide) fun b7 => ?_
 refine WL.x (X.assign rfl) (by decide) ?_
 refine WL.nil ?_
 refine WK.nThen ?_
 refine WC.seq ?_
 refine WC.region ?_
 refine WL.x (X.field Try.runUnderlying52 rfl Try.sizeOf28 rfl) (by decide) ?_
 refine WL.x (X.loadB (k := 0) Try.isAgg28 rfl rfl rfl) (by decide) ?_
 refine WL.x (X.len Try.runUnderlying28 rfl hs2) (by decide) ?_
 refine WL.cond (X.leq rfl rfl) (by decide) (fun h8 => ?_) (fun h8 => ?_)
 ·refine WL.x (X.move rfl) (by decide) ?_
  refine WL.yes rfl rfl ?_
  refine WL.x (X.field Try.runUnderlying52 rfl Try.sizeOf28 rfl) (by decide) ?_
  refine WL.yes rfl rfl ?_
  refine WL.x (X.loadB (k := 0) Try.isAgg28 rfl rfl rfl) (by decide) ?_
  refine WL.yes rfl rfl ?_
  refine WL.x (X.len Try.runUnderlying28 rfl hs4) (by decide) ?_
  refine WL.yes rfl rfl ?_
  refine WL.x (X.leq rfl rfl) (by decide) ?_
  refine WL.x (X.pickT rfl rfl rfl) (by decide) ?_
  refine WL.x (X.assign rfl) (by decide) ?_
  refine WL.nil ?_
  refine WK.nThen ?_
  refine WC.ret ?_
  refine WK.ret1 rfl rfl (fun w' hw' => Ret.exact hw' ?_)
  first | exact bool_true (by unfold lightP; omega) | exact bool_false (by unfold lightP; omega) | exact dec_eq (by unfold lightP; omega)
 ·refine WL.x (X.move rfl) (by decide) ?_
  refine WL.no rfl rfl rfl (by decide) ?_
  refine WL.no rfl rfl rfl (by decide) ?_
  refine WL.no rfl rfl rfl (by decide) ?_
  refine WL.no rfl rfl rfl (by decide) ?_
  refine WL.x (X.pickF rfl rfl rfl) (by decide) ?_
  refine WL.x (X.assign rfl) (by decide) ?_
  refine WL.nil ?_
  refine WK.nThen ?_
  refine WC.ret ?_
  refine WK.ret1 rfl rfl (fun w' hw' => Ret.exact hw' ?_)
  first | exact bool_true (by unfold lightP; omega) | exact bool_false (by unfold lightP; omega) | exact dec_eq (by unfold lightP; omega)

theorem in41 (m : Mem) (cs : List Value) (s : Span) (hs : Enc.rd m cs s) (n : Int)   : Exact Try.prog 41 #[.agg cs.toArray, .int .i64 (n)] m (.bool (decide (inT s n))) := by
 obtain rfl := hs
 refine Exact.start Try.func41 rfl Try.ntmps41 rfl fun wld => ?_
 refine WC.seq ?_
 refine WC.region ?_
 refine WL.tn (T.boxB rfl rfl) (by decide) fun b1 => ?_
 refine WL.x (X.assign rfl) (by decide) ?_
 refine WL.nil ?_
 refine WK.nThen ?_
 refine WC.seq ?_
 refine WC.region ?_
 refine WL.x (X.field Try.runUnderlying33 rfl Try.sizeOf3 rfl) (by decide) ?_
 refine WL.x (X.loadB (k := 0) Try.isAgg3 rfl rfl rfl) (by decide) ?_
 refine WL.x (X.move rfl) (by decide) ?_
 refine WL.cond (X.leq rfl rfl) (by decide) (fun h2 => ?_) (fun h2 => ?_)
 ·refine WL.x (X.move rfl) (by decide) ?_
  refine WL.yes rfl rfl ?_
  refine WL.x (X.move rfl) (by decide) ?_
  refine WL.yes rfl rfl ?_
  refine WL.x (X.field Try.runUnderlying33 rfl Try.sizeOf3 rfl) (by decide) ?_
  refine WL.yes rfl rfl ?_
  refine WL.x (X.loadB (k := 0) Try.isAgg3 rfl rfl rfl) (by decide) ?_
  refine WL.yes rfl rfl ?_
  refine WL.x (X.leq rfl rfl) (by decide) ?_
  refine WL.x (X.pickT rfl rfl rfl) (by decide) ?_
  refine WL.x (X.assign rfl) (by decide) ?_
  refine WL.nil ?_
  refine WK.nThen ?_
  refine WC.ret ?_
  refine WK.ret1 rfl rfl (fun w' hw' => Ret.exact hw' ?_)
  first | exact bool_true (by unfold inT; omega) | exact bool_false (by unfold inT; omega) | exact dec_eq (by unfold inT; omega)
 ·refine WL.x (X.move rfl) (by decide) ?_
  refine WL.no rfl rfl rfl (by decide) ?_
  refine WL.no rfl rfl rfl (by decide) ?_
  refine WL.no rfl rfl rfl (by decide) ?_
  refine WL.no rfl rfl rfl (by decide) ?_
  refine WL.x (X.pickF rfl rfl rfl) (by decide) ?_
  refine WL.x (X.assign rfl) (by decide) ?_
  refine WL.nil ?_
  refine WK.nThen ?_
  refine WC.ret ?_
  refine WK.ret1 rfl rfl (fun w' hw' => Ret.exact hw' ?_)
  first | exact bool_true (by unfold inT; omega) | exact bool_false (by unfold inT; omega) | exact dec_eq (by unfold inT; omega)

theorem mean40 (m : Mem) (cs : List Value) (s : Ser) (hs : Enc.rd m cs s) (vl : Value) (l : List Int) (hl : Sl m vl l) (cx : List Value) (x : Span) (hx : Enc.rd m cx x)  (hln : l.length ≤ 1000) (hlb : ∀ i, i < l.length → -1000000 ≤ gt l i ∧ gt l i ≤ 1000000) : Exact Try.prog 40 #[.agg cs.toArray, vl, .agg cx.toArray] m (.tuple #[.agg [.int .i64 ((meanR s l x).1.Num), .int .i64 ((meanR s l x).1.Den)].toArray, .agg [.int .i64 ((meanR s l x).2.1.Lo), .int .i64 ((meanR s l x).2.1.Hi)].toArray, .bool (decide (0 < (meanR s l x).1.Den))]) := by
 obtain ⟨v1, v3, rfl, hs2, hs4⟩ := hs
 have hl5 := hs2.le
 have hl6 := hs4.le
 have ll := hl.le
 obtain rfl := hx
 refine Exact.start Try.func40 rfl Try.ntmps40 rfl fun wld => ?_
 refine WC.seq ?_
 refine WC.region ?_
 refine WL.tn (T.boxB rfl rfl) (by decide) fun b7 => ?_
 refine WL.tn (T.boxB rfl rfl) (by decide) fun b8 => ?_
 refine WL.tn (T.alloc Try.zeroValue45 rfl) (by decide) fun b9 => ?_
 refine WL.tn (T.alloc Try.zeroValue33 rfl) (by decide) fun b10 => ?_
 refine WL.x (X.assign rfl) (by decide) ?_
 refine WL.nil ?_
 refine WK.nThen ?_
 refine WC.seq ?_
 refine WC.region ?_
 refine WL.tn (T.alloc Try.zeroValue45 rfl) (by decide) fun b11 => ?_
 refine WL.nil ?_
 refine WK.nThen ?_
 refine WC.seq ?_
 refine WC.region ?_
 refine WL.x (V := Value.agg [.int .i64 (1099511627776), .int .i64 (-1099511627776)].toArray) (X.build Try.zeroValue33 Try.runUnderlying33 (places33 _ Try.underlying33) rfl rfl) (by decide) ?_
 refine WL.tn (T.alloc Try.zeroValue33 rfl) (by decide) fun b12 => ?_
 refine WL.ts (T.storeBA (k := 0) Try.sizeOf33 rfl rfl rfl (one_cons rfl (one_cons rfl one_nil)) rfl rfl) ?_
 refine WL.nil ?_
 refine WK.nThen ?_
 refine WC.seq ?_
 refine WC.seq ?_
 refine WC.region ?_
 refine WL.x (X.assign rfl) (by decide) ?_
 refine WL.nil ?_
 refine WK.nThen ?_
 refine WC.block ?_
 have hz1 : mnN s l x 0 = 0 := rfl
 have hz2 : mnD s x 0 = 0 := rfl
 have hz3 : (mnE s l x 0).Lo = 1099511627776 := rfl
 have hz4 : (mnE s l x 0).Hi = -1099511627776 := rfl
 refine WC.loop (G := Nat) (fun k => l.length - k) (fun k => m) (fun k => [blk b12 33 [.int .i64 ((mnE s l x k).Lo), .int .i64 ((mnE s l x k).Hi)], blk b11 45 [.int .i64 (mnN s l x k), .int .i64 (mnD s x k)], blk b10 33 [.int .i64 (0), .int .i64 (0)], blk b9 45 [.int .i64 (0), .int .i64 (0)], blk b8 33 [.int .i64 (x.Lo), .int .i64 (x.Hi)], blk b7 25 [v1, v3]]) (fun k => [(1, vl), (3, .pointer (some ⟨b7, 0, none⟩)), (5, .pointer (some ⟨b8, 0, none⟩)), (6, .pointer (some ⟨b9, 0, none⟩)), (7, .pointer (some ⟨b10, 0, none⟩)), (9, .pointer (some ⟨b11, 0, none⟩)), (10, .pointer (some ⟨b12, 0, none⟩)), (11, .int .i64 (↑k))]) (fun k => k ≤ l.length ∧ k ≤ s.Values.length) 0 rfl (.refl _) (.cons rfl (.cons rfl (.cons rfl (.cons rfl (.cons rfl (.cons rfl (.cons rfl (.cons rfl .nil)))))))) ?_ ?_
 ·exact ⟨Nat.zero_le _, Nat.zero_le _⟩
 ·rintro k hF13
  show WK _ _ m [blk b12 33 [.int .i64 ((mnE s l x k).Lo), .int .i64 ((mnE s l x k).Hi)], blk b11 45 [.int .i64 (mnN s l x k), .int .i64 (mnD s x k)], blk b10 33 [.int .i64 (0), .int .i64 (0)], blk b9 45 [.int .i64 (0), .int .i64 (0)], blk b8 33 [.int .i64 (x.Lo), .int .i64 (x.Hi)], blk b7 25 [v1, v3]] [(1, vl), (3, .pointer (some ⟨b7, 0, none⟩)), (5, .pointer (some ⟨b8, 0, none⟩)), (6, .pointer (some ⟨b9, 0, none⟩)), (7, .pointer (some ⟨b10, 0, none⟩)), (9, .pointer (some ⟨b11, 0, none⟩)), (10, .pointer (some ⟨b12, 0, none⟩)), (11, .int .i64 (↑k))] _
  replace hF13 : k ≤ l.length ∧ k ≤ s.Values.length := hF13
  obtain ⟨hk, hk2⟩ := hF13
  have hnb := mnN_bd (s := s) (l := l) (x := x) (n := k) (fun i hi => hlb i (by omega))
  have hdb := mnD_bd s x k
  have hlk := fun h => hlb k h
  refine WC.seq ?_
  refine WC.seq ?_
  refine WC.region ?_
  refine WL.x (X.move rfl) (by decide) ?_
  refine WL.x (X.move rfl) (by decide) ?_
  refine WL.x (X.len Try.runUnderlying28 rfl hl) (by decide) ?_
  refine WL.cond (X.lss rfl rfl) (by decide) (fun h14 => ?_) (fun h14 => ?_)
  ·refine WL.x (X.move rfl) (by decide) ?_
   refine WL.yes rfl rfl ?_
   refine WL.x (X.move rfl) (by decide) ?_
   refine WL.yes rfl rfl ?_
   refine WL.x (X.field Try.runUnderlying25 rfl Try.sizeOf22 rfl) (by decide) ?_
   refine WL.yes rfl rfl ?_
   refine WL.x (X.loadB (k := 5) Try.isAgg22 rfl rfl rfl) (by decide) ?_
   refine WL.yes rfl rfl ?_
   refine WL.x (X.len Try.runUnderlying22 rfl hs2) (by decide) ?_
   refine WL.yes rfl rfl ?_
   refine WL.cond (X.lss rfl rfl) (by decide) (fun h15 => ?_) (fun h15 => ?_)
   ·refine WL.x (X.pickT rfl rfl rfl) (by decide) ?_
    refine WL.nil ?_
    refine WK.nThen ?_
    refine WC.condT rfl ?_
    refine WC.skip ?_
    refine WK.nThen ?_
    refine WC.seq ?_
    refine WC.block ?_
    refine WC.seq ?_
    refine WC.draw (π := (.cons 0 (.cons 1 (.cons 2 (.cons 3 (.cons 4 (.cons 5 (.cons 6 (.cons 7 .done))))))))) [] [] rfl (by kernel_rfl) ?_
    refine DW.x rfl rfl (X.loadBA (k := 4) Try.isAgg33 Try.sizeOf33 rfl rfl rfl) (by decide) ?_
    refine DW.x rfl rfl (X.field Try.runUnderlying25 rfl Try.sizeOf22 rfl) (by decide) ?_
    refine DW.x rfl rfl (X.loadB (k := 5) Try.isAgg22 rfl rfl rfl) (by decide) ?_
    refine DW.x rfl rfl (X.move rfl) (by decide) ?_
    refine DW.xe rfl rfl (E.idxN k Try.runUnderlying22 Try.sizeOf62 rfl rfl hs2 (by omega)) (by decide) (fun p16 hp17 => ?_)
    have hp18 := At.Val_0 hp17
    refine DW.x rfl rfl (X.field Try.runUnderlying62 rfl Try.sizeOf3 rfl) (by decide) ?_
    refine DW.x rfl rfl (X.loadInt Try.isAgg3 rfl hp18) (by decide) ?_
    refine DW.cond rfl rfl (X.call Try.call41 rfl (in41 _ _ x rfl _ )) (by decide) (fun h19 => ?_) (fun h19 => ?_)
    ·refine DW.nil ?_
     refine WK.nThen ?_
     refine WC.condT rfl ?_
     refine WC.seq ?_
     refine WC.draw (π := (.cons 0 (.cons 1 (.cons 2 (.cons 3 (.cons 4 (.cons 5 (.cons 6 (.cons 7 (.cons 8 .done)))))))))) [8] [8] rfl (by kernel_rfl) ?_
     refine DW.x rfl rfl (X.field Try.runUnderlying45 rfl Try.sizeOf3 rfl) (by decide) ?_
     refine DW.x rfl rfl (X.loadB (k := 1) Try.isAgg3 rfl rfl rfl) (by decide) ?_
     refine DW.x rfl rfl (X.move rfl) (by decide) ?_
     refine DW.x rfl rfl (X.move rfl) (by decide) ?_
     refine DW.xe rfl rfl (E.idxN k Try.runUnderlying28 Try.sizeOf3 rfl rfl hl (by omega)) (by decide) (fun p20 hp21 => ?_)
     refine DW.x rfl rfl (X.loadInt Try.isAgg3 rfl hp21) (by decide) ?_
     refine DW.x rfl rfl (X.add rfl rfl (by omega) (by omega)) (by decide) ?_
     refine DW.x rfl rfl (X.field Try.runUnderlying45 rfl Try.sizeOf3 rfl) (by decide) ?_
     refine DW.ts rfl rfl rfl rfl (T.storeB (k := 1) Try.sizeOf3 rfl rfl rfl rfl (Nat.le_of_ble_eq_true rfl)) ?_
     refine DW.nil ?_
     refine WK.nThen ?_
     refine WC.seq ?_
     refine WC.region ?_
     refine WL.x (X.field Try.runUnderlying45 rfl Try.sizeOf3 rfl) (by decide) ?_
     refine WL.x (X.loadB (k := 1) Try.isAgg3 rfl rfl rfl) (by decide) ?_
     refine WL.x (X.add rfl rfl (by omega) (by omega)) (by decide) ?_
     refine WL.x (X.field Try.runUnderlying45 rfl Try.sizeOf3 rfl) (by decide) ?_
     refine WL.ts (T.storeB (k := 1) Try.sizeOf3 rfl rfl rfl rfl (Nat.le_of_ble_eq_true rfl)) ?_
     refine WL.nil ?_
     refine WK.nThen ?_
     refine WC.draw (π := (.cons 0 (.cons 1 (.cons 2 (.cons 3 (.cons 4 (.cons 5 (.cons 6 (.cons 7 (.cons 8 (.cons 9 (.cons 10 (.cons 11 (.cons 12 (.cons 13 (.cons 14 (.cons 15 .done))))))))))))))))) [15] [15] rfl (by kernel_rfl) ?_
     refine DW.x rfl rfl (X.field Try.runUnderlying33 rfl Try.sizeOf3 rfl) (by decide) ?_
     refine DW.x rfl rfl (X.loadB (k := 0) Try.isAgg3 rfl rfl rfl) (by decide) ?_
     refine DW.x rfl rfl (X.move rfl) (by decide) ?_
     refine DW.x rfl rfl (X.move rfl) (by decide) ?_
     refine DW.xe rfl rfl (E.idxN k Try.runUnderlying28 Try.sizeOf3 rfl rfl hl (by omega)) (by decide) (fun p22 hp23 => ?_)
     refine DW.x rfl rfl (X.loadInt Try.isAgg3 rfl hp23) (by decide) ?_
     refine DW.x rfl rfl (X.mn rfl rfl) (by decide) ?_
     refine DW.x rfl rfl (X.field Try.runUnderlying33 rfl Try.sizeOf3 rfl) (by decide) ?_
     refine DW.x rfl rfl (X.loadB (k := 0) Try.isAgg3 rfl rfl rfl) (by decide) ?_
     refine DW.x rfl rfl (X.move rfl) (by decide) ?_
     refine DW.x rfl rfl (X.move rfl) (by decide) ?_
     refine DW.xe rfl rfl (E.idxN k Try.runUnderlying28 Try.sizeOf3 rfl rfl hl (by omega)) (by decide) (fun p24 hp25 => ?_)
     refine DW.x rfl rfl (X.loadInt Try.isAgg3 rfl hp25) (by decide) ?_
     refine DW.x rfl rfl (X.mx rfl rfl) (by decide) ?_
     refine DW.x (V := Value.agg [.int .i64 (min ((mnE s l x k).Lo) (gt l k)), .int .i64 (max ((mnE s l x k).Hi) (gt l k))].toArray) rfl rfl (X.build Try.zeroValue33 Try.runUnderlying33 (places33 _ Try.underlying33) rfl rfl) (by decide) ?_
     refine DW.ts rfl rfl rfl rfl (T.storeBA (k := 0) Try.sizeOf33 rfl rfl rfl (one_cons rfl (one_cons rfl one_nil)) rfl rfl) ?_
     refine DW.nil ?_
     refine WK.nBlock ?_
     refine WK.nThen ?_
     refine WC.region ?_
     refine WL.x (X.move rfl) (by decide) ?_
     refine WL.x (X.add rfl rfl (by omega) (by omega)) (by decide) ?_
     refine WL.x (X.assign rfl) (by decide) ?_
     refine WL.nil ?_
     refine WK.nThen ?_
     have hq1 : mnN s l x (k + 1) = mnN s l x k + gt l k := (by simp only [mnN, sumN]; rw [if_pos (by assumption)])
     have hq2 : mnD s x (k + 1) = mnD s x k + 1 := (by rw [mnD, if_pos (by assumption)])
     have hq3 : mnE s l x (k + 1) = ⟨min (mnE s l x k).Lo (gt l k), max (mnE s l x k).Hi (gt l k)⟩ := (by rw [mnE, if_pos (by assumption)])
     have hq4 : (mnE s l x (k + 1)).Lo = min (mnE s l x k).Lo (gt l k) := (by rw [hq3])
     have hq5 : (mnE s l x (k + 1)).Hi = max (mnE s l x k).Hi (gt l k) := (by rw [hq3])
     rw [← hq1, ← hq2, ← hq4, ← hq5]
     refine WK.next (k + 1) rfl (.refl _) (.cons rfl (.cons rfl (.cons rfl (.cons rfl (.cons rfl (.cons rfl (.cons rfl (.cons rfl .nil)))))))) ?_ ?_
     ·omega
     ·omega
    ·refine DW.nil ?_
     refine WK.nThen ?_
     refine WC.condF rfl ?_
     refine WC.skip ?_
     refine WK.nBlock ?_
     refine WK.nThen ?_
     refine WC.region ?_
     refine WL.x (X.move rfl) (by decide) ?_
     refine WL.x (X.add rfl rfl (by omega) (by omega)) (by decide) ?_
     refine WL.x (X.assign rfl) (by decide) ?_
     refine WL.nil ?_
     refine WK.nThen ?_
     have hq1 : mnN s l x (k + 1) = mnN s l x k := (by simp only [mnN, sumN]; rw [if_neg (by assumption)]; omega)
     have hq2 : mnD s x (k + 1) = mnD s x k := (by rw [mnD, if_neg (by assumption)]; omega)
     have hq3 : mnE s l x (k + 1) = mnE s l x k := (by rw [mnE, if_neg (by assumption)])
     have hq4 : (mnE s l x (k + 1)).Lo = (mnE s l x k).Lo := (by rw [hq3])
     have hq5 : (mnE s l x (k + 1)).Hi = (mnE s l x k).Hi := (by rw [hq3])
     rw [show mnN s l x k = mnN s l x (k + 1) from hq1.symm, show mnD s x k = mnD s x (k + 1) from hq2.symm, show (mnE s l x k).Lo = (mnE s l x (k + 1)).Lo from hq4.symm, show (mnE s l x k).Hi = (mnE s l x (k + 1)).Hi from hq5.symm]
     refine WK.next (k + 1) rfl (.refl _) (.cons rfl (.cons rfl (.cons rfl (.cons rfl (.cons rfl (.cons rfl (.cons rfl (.cons rfl .nil)))))))) ?_ ?_
     ·omega
     ·omega
   ·refine WL.x (X.pickT rfl rfl rfl) (by decide) ?_
    refine WL.nil ?_
    refine WK.nThen ?_
    refine WC.condF rfl ?_
    refine WC.exit ?_
    refine WK.eThen ?_
    refine WK.eThen ?_
    refine WK.eHit ?_
    refine WK.nThen ?_
    have hkm : k = mnC s l := (by unfold mnC; omega)
    refine WC.cut (G := Mem) (fun m26 => m26) (fun m26 => [blk b12 33 [.int .i64 ((mnE s l x k).Lo), .int .i64 ((mnE s l x k).Hi)], blk b11 45 [.int .i64 (mnN s l x k), .int .i64 (mnD s x k)], blk b10 33 [.int .i64 ((mnE s l x k).Lo), .int .i64 ((mnE s l x k).Hi)], blk b9 45 [.int .i64 (mnN s l x k), .int .i64 (mnD s x k)], blk b8 33 [.int .i64 (x.Lo), .int .i64 (x.Hi)], blk b7 25 [v1, v3]]) (fun m26 => [(6, .pointer (some ⟨b9, 0, none⟩)), (7, .pointer (some ⟨b10, 0, none⟩)), (8, .bool (decide (0 < (mnD s x k))))]) (fun m26 => m.le m26 ∧ Sl (α := Val) m26 v1 s.Values ∧ Sl (α := Shf) m26 v3 s.Shifts) ?_ ?_
    ·refine WC.draw (π := (.cons 0 (.cons 2 (.fork (.cons 1 (.fork (.cons 3 (.cons 4 (.cons 5 (.cons 6 (.cons 7 .done))))) (.cons 5 (.fork (.cons 3 (.cons 4 (.cons 6 (.cons 7 .done)))) (.cons 6 (.cons 3 (.cons 4 (.cons 7 .done)))))))) (.fork (.cons 3 (.cons 4 (.fork (.cons 1 (.cons 5 (.cons 6 (.cons 7 .done)))) (.cons 5 (.cons 1 (.cons 6 (.cons 7 .done))))))) (.cons 5 (.fork (.cons 1 (.fork (.cons 3 (.cons 4 (.cons 6 (.cons 7 .done)))) (.cons 6 (.cons 3 (.cons 4 (.cons 7 .done)))))) (.cons 3 (.cons 4 (.cons 1 (.cons 6 (.cons 7 .done)))))))))))) [1, 3, 5, 6] [5, 6, 100002, 100004] rfl (by kernel_rfl) ?_
     refine DW.x rfl rfl (X.loadBA (k := 1) Try.isAgg45 Try.sizeOf45 rfl rfl rfl) (by decide) ?_
     refine DW.xf rfl rfl rfl (fun _ _ hle_ => (X.field Try.runUnderlying45 rfl Try.sizeOf3 rfl)) (by decide) ?_
     refine DW.fork (List.cons_ne_nil _ _) ?_ ?_
     ·refine DW.xp rfl rfl rfl (fun _ => (X.loadBA (k := 0) Try.isAgg33 Try.sizeOf33 rfl rfl rfl)) (by decide) ?_
      refine DW.fork (List.cons_ne_nil _ _) ?_ ?_
      ·refine DW.xp rfl rfl rfl (fun _ => (X.loadB (k := 1) Try.isAgg3 rfl rfl rfl)) (by decide) ?_
       refine DW.xf rfl rfl rfl (fun _ _ hle_ => (X.gtr rfl rfl)) (by decide) ?_
       refine DW.ts rfl rfl rfl rfl (T.storeBA (k := 3) Try.sizeOf45 rfl rfl rfl (one_cons rfl (one_cons rfl one_nil)) rfl rfl) ?_
       refine DW.ts rfl rfl rfl rfl (T.storeBA (k := 2) Try.sizeOf33 rfl rfl rfl (one_cons rfl (one_cons rfl one_nil)) rfl rfl) ?_
       refine DW.x rfl rfl (X.assign rfl) (by decide) ?_
       refine DW.nil ?_
       refine WK.nThen ?_
       exact WK.meet m rfl (.refl _) (.cons rfl (.cons rfl (.cons rfl .nil))) ⟨(Mem.le_refl _), hs2, hs4⟩
      ·refine DW.ts rfl rfl rfl rfl (T.storeBA (k := 3) Try.sizeOf45 rfl rfl rfl (one_cons rfl (one_cons rfl one_nil)) rfl rfl) ?_
       refine DW.fork (List.cons_ne_nil _ _) ?_ ?_
       ·refine DW.xp rfl rfl rfl (fun _ => (X.loadB (k := 1) Try.isAgg3 rfl rfl rfl)) (by decide) ?_
        refine DW.xf rfl rfl rfl (fun _ _ hle_ => (X.gtr rfl rfl)) (by decide) ?_
        refine DW.ts rfl rfl rfl rfl (T.storeBA (k := 2) Try.sizeOf33 rfl rfl rfl (one_cons rfl (one_cons rfl one_nil)) rfl rfl) ?_
        refine DW.x rfl rfl (X.assign rfl) (by decide) ?_
        refine DW.nil ?_
        refine WK.nThen ?_
        exact WK.meet m rfl (.refl _) (.cons rfl (.cons rfl (.cons rfl .nil))) ⟨(Mem.le_refl _), hs2, hs4⟩
       ·refine DW.ts rfl rfl rfl rfl (T.storeBA (k := 2) Try.sizeOf33 rfl rfl rfl (one_cons rfl (one_cons rfl one_nil)) rfl rfl) ?_
        refine DW.xp rfl rfl rfl (fun _ => (X.loadB (k := 1) Try.isAgg3 rfl rfl rfl)) (by decide) ?_
        refine DW.xf rfl rfl rfl (fun _ _ hle_ => (X.gtr rfl rfl)) (by decide) ?_
        refine DW.x rfl rfl (X.assign rfl) (by decide) ?_
        refine DW.nil ?_
        refine WK.nThen ?_
        exact WK.meet m rfl (.refl _) (.cons rfl (.cons rfl (.cons rfl .nil))) ⟨(Mem.le_refl _), hs2, hs4⟩
     ·refine DW.fork (List.cons_ne_nil _ _) ?_ ?_
      ·refine DW.xp rfl rfl rfl (fun _ => (X.loadB (k := 1) Try.isAgg3 rfl rfl rfl)) (by decide) ?_
       refine DW.xf rfl rfl rfl (fun _ _ hle_ => (X.gtr rfl rfl)) (by decide) ?_
       refine DW.fork (List.cons_ne_nil _ _) ?_ ?_
       ·refine DW.xp rfl rfl rfl (fun _ => (X.loadBA (k := 0) Try.isAgg33 Try.sizeOf33 rfl rfl rfl)) (by decide) ?_
        refine DW.ts rfl rfl rfl rfl (T.storeBA (k := 3) Try.sizeOf45 rfl rfl rfl (one_cons rfl (one_cons rfl one_nil)) rfl rfl) ?_
        refine DW.ts rfl rfl rfl rfl (T.storeBA (k := 2) Try.sizeOf33 rfl rfl rfl (one_cons rfl (one_cons rfl one_nil)) rfl rfl) ?_
        refine DW.x rfl rfl (X.assign rfl) (by decide) ?_
        refine DW.nil ?_
        refine WK.nThen ?_
        exact WK.meet m rfl (.refl _) (.cons rfl (.cons rfl (.cons rfl .nil))) ⟨(Mem.le_refl _), hs2, hs4⟩
       ·refine DW.ts rfl rfl rfl rfl (T.storeBA (k := 3) Try.sizeOf45 rfl rfl rfl (one_cons rfl (one_cons rfl one_nil)) rfl rfl) ?_
        refine DW.xp rfl rfl rfl (fun _ => (X.loadBA (k := 0) Try.isAgg33 Try.sizeOf33 rfl rfl rfl)) (by decide) ?_
        refine DW.ts rfl rfl rfl rfl (T.storeBA (k := 2) Try.sizeOf33 rfl rfl rfl (one_cons rfl (one_cons rfl one_nil)) rfl rfl) ?_
        refine DW.x rfl rfl (X.assign rfl) (by decide) ?_
        refine DW.nil ?_
        refine WK.nThen ?_
        exact WK.meet m rfl (.refl _) (.cons rfl (.cons rfl (.cons rfl .nil))) ⟨(Mem.le_refl _), hs2, hs4⟩
      ·refine DW.ts rfl rfl rfl rfl (T.storeBA (k := 3) Try.sizeOf45 rfl rfl rfl (one_cons rfl (one_cons rfl one_nil)) rfl rfl) ?_
       refine DW.fork (List.cons_ne_nil _ _) ?_ ?_
       ·refine DW.xp rfl rfl rfl (fun _ => (X.loadBA (k := 0) Try.isAgg33 Try.sizeOf33 rfl rfl rfl)) (by decide) ?_
        refine DW.fork (List.cons_ne_nil _ _) ?_ ?_
        ·refine DW.xp rfl rfl rfl (fun _ => (X.loadB (k := 1) Try.isAgg3 rfl rfl rfl)) (by decide) ?_
         refine DW.xf rfl rfl rfl (fun _ _ hle_ => (X.gtr rfl rfl)) (by decide) ?_
         refine DW.ts rfl rfl rfl rfl (T.storeBA (k := 2) Try.sizeOf33 rfl rfl rfl (one_cons rfl (one_cons rfl one_nil)) rfl rfl) ?_
         refine DW.x rfl rfl (X.assign rfl) (by decide) ?_
         refine DW.nil ?_
         refine WK.nThen ?_
         exact WK.meet m rfl (.refl _) (.cons rfl (.cons rfl (.cons rfl .nil))) ⟨(Mem.le_refl _), hs2, hs4⟩
        ·refine DW.ts rfl rfl rfl rfl (T.storeBA (k := 2) Try.sizeOf33 rfl rfl rfl (one_cons rfl (one_cons rfl one_nil)) rfl rfl) ?_
         refine DW.xp rfl rfl rfl (fun _ => (X.loadB (k := 1) Try.isAgg3 rfl rfl rfl)) (by decide) ?_
         refine DW.xf rfl rfl rfl (fun _ _ hle_ => (X.gtr rfl rfl)) (by decide) ?_
         refine DW.x rfl rfl (X.assign rfl) (by decide) ?_
         refine DW.nil ?_
         refine WK.nThen ?_
         exact WK.meet m rfl (.refl _) (.cons rfl (.cons rfl (.cons rfl .nil))) ⟨(Mem.le_refl _), hs2, hs4⟩
       ·refine DW.xp rfl rfl rfl (fun _ => (X.loadB (k := 1) Try.isAgg3 rfl rfl rfl)) (by decide) ?_
        refine DW.xf rfl rfl rfl (fun _ _ hle_ => (X.gtr rfl rfl)) (by decide) ?_
        refine DW.xp rfl rfl rfl (fun _ => (X.loadBA (k := 0) Try.isAgg33 Try.sizeOf33 rfl rfl rfl)) (by decide) ?_
        refine DW.ts rfl rfl rfl rfl (T.storeBA (k := 2) Try.sizeOf33 rfl rfl rfl (one_cons rfl (one_cons rfl one_nil)) rfl rfl) ?_
        refine DW.x rfl rfl (X.assign rfl) (by decide) ?_
        refine DW.nil ?_
        refine WK.nThen ?_
        exact WK.meet m rfl (.refl _) (.cons rfl (.cons rfl (.cons rfl .nil))) ⟨(Mem.le_refl _), hs2, hs4⟩
    ·rintro m26 ⟨hle27, hs28, hs29⟩
     show WK _ _ m26 [blk b12 33 [.int .i64 ((mnE s l x k).Lo), .int .i64 ((mnE s l x k).Hi)], blk b11 45 [.int .i64 (mnN s l x k), .int .i64 (mnD s x k)], blk b10 33 [.int .i64 ((mnE s l x k).Lo), .int .i64 ((mnE s l x k).Hi)], blk b9 45 [.int .i64 (mnN s l x k), .int .i64 (mnD s x k)], blk b8 33 [.int .i64 (x.Lo), .int .i64 (x.Hi)], blk b7 25 [v1, v3]] [(6, .pointer (some ⟨b9, 0, none⟩)), (7, .pointer (some ⟨b10, 0, none⟩)), (8, .bool (decide (0 < (mnD s x k))))] _
     replace hs2 := hs2.mono hle27
     replace hs4 := hs4.mono hle27
     replace hl := hl.mono hle27
     have hl30 := hs28.le
     have hl31 := hs29.le
     refine WC.ret ?_
     refine WK.retC3 3 2 rfl rfl rfl rfl rfl rfl Try.isAgg45 Try.sizeOf45 Try.isAgg33 Try.sizeOf33 (fun w' hw' => Ret.exact hw' ?_)
     subst hkm
     first | rfl | exact tup3 rfl rfl (bool_true (by assumption)) | exact tup3 rfl rfl (bool_false (by assumption))
  ·refine WL.x (X.move rfl) (by decide) ?_
   refine WL.no rfl rfl rfl (by decide) ?_
   refine WL.no rfl rfl rfl (by decide) ?_
   refine WL.no rfl rfl rfl (by decide) ?_
   refine WL.no rfl rfl rfl (by decide) ?_
   refine WL.no rfl rfl rfl (by decide) ?_
   refine WL.x (X.pickF rfl rfl rfl) (by decide) ?_
   refine WL.nil ?_
   refine WK.nThen ?_
   refine WC.condF rfl ?_
   refine WC.exit ?_
   refine WK.eThen ?_
   refine WK.eThen ?_
   refine WK.eHit ?_
   refine WK.nThen ?_
   have hkm : k = mnC s l := (by unfold mnC; omega)
   refine WC.cut (G := Mem) (fun m32 => m32) (fun m32 => [blk b12 33 [.int .i64 ((mnE s l x k).Lo), .int .i64 ((mnE s l x k).Hi)], blk b11 45 [.int .i64 (mnN s l x k), .int .i64 (mnD s x k)], blk b10 33 [.int .i64 ((mnE s l x k).Lo), .int .i64 ((mnE s l x k).Hi)], blk b9 45 [.int .i64 (mnN s l x k), .int .i64 (mnD s x k)], blk b8 33 [.int .i64 (x.Lo), .int .i64 (x.Hi)], blk b7 25 [v1, v3]]) (fun m32 => [(6, .pointer (some ⟨b9, 0, none⟩)), (7, .pointer (some ⟨b10, 0, none⟩)), (8, .bool (decide (0 < (mnD s x k))))]) (fun m32 => m.le m32 ∧ Sl (α := Val) m32 v1 s.Values ∧ Sl (α := Shf) m32 v3 s.Shifts) ?_ ?_
   ·refine WC.draw (π := (.cons 0 (.cons 2 (.fork (.cons 1 (.fork (.cons 3 (.cons 4 (.cons 5 (.cons 6 (.cons 7 .done))))) (.cons 5 (.fork (.cons 3 (.cons 4 (.cons 6 (.cons 7 .done)))) (.cons 6 (.cons 3 (.cons 4 (.cons 7 .done)))))))) (.fork (.cons 3 (.cons 4 (.fork (.cons 1 (.cons 5 (.cons 6 (.cons 7 .done)))) (.cons 5 (.cons 1 (.cons 6 (.cons 7 .done))))))) (.cons 5 (.fork (.cons 1 (.fork (.cons 3 (.cons 4 (.cons 6 (.cons 7 .done)))) (.cons 6 (.cons 3 (.cons 4 (.cons 7 .done)))))) (.cons 3 (.cons 4 (.cons 1 (.cons 6 (.cons 7 .done)))))))))))) [1, 3, 5, 6] [5, 6, 100002, 100004] rfl (by kernel_rfl) ?_
    refine DW.x rfl rfl (X.loadBA (k := 1) Try.isAgg45 Try.sizeOf45 rfl rfl rfl) (by decide) ?_
    refine DW.xf rfl rfl rfl (fun _ _ hle_ => (X.field Try.runUnderlying45 rfl Try.sizeOf3 rfl)) (by decide) ?_
    refine DW.fork (List.cons_ne_nil _ _) ?_ ?_
    ·refine DW.xp rfl rfl rfl (fun _ => (X.loadBA (k := 0) Try.isAgg33 Try.sizeOf33 rfl rfl rfl)) (by decide) ?_
     refine DW.fork (List.cons_ne_nil _ _) ?_ ?_
     ·refine DW.xp rfl rfl rfl (fun _ => (X.loadB (k := 1) Try.isAgg3 rfl rfl rfl)) (by decide) ?_
      refine DW.xf rfl rfl rfl (fun _ _ hle_ => (X.gtr rfl rfl)) (by decide) ?_
      refine DW.ts rfl rfl rfl rfl (T.storeBA (k := 3) Try.sizeOf45 rfl rfl rfl (one_cons rfl (one_cons rfl one_nil)) rfl rfl) ?_
      refine DW.ts rfl rfl rfl rfl (T.storeBA (k := 2) Try.sizeOf33 rfl rfl rfl (one_cons rfl (one_cons rfl one_nil)) rfl rfl) ?_
      refine DW.x rfl rfl (X.assign rfl) (by decide) ?_
      refine DW.nil ?_
      refine WK.nThen ?_
      exact WK.meet m rfl (.refl _) (.cons rfl (.cons rfl (.cons rfl .nil))) ⟨(Mem.le_refl _), hs2, hs4⟩
     ·refine DW.ts rfl rfl rfl rfl (T.storeBA (k := 3) Try.sizeOf45 rfl rfl rfl (one_cons rfl (one_cons rfl one_nil)) rfl rfl) ?_
      refine DW.fork (List.cons_ne_nil _ _) ?_ ?_
      ·refine DW.xp rfl rfl rfl (fun _ => (X.loadB (k := 1) Try.isAgg3 rfl rfl rfl)) (by decide) ?_
       refine DW.xf rfl rfl rfl (fun _ _ hle_ => (X.gtr rfl rfl)) (by decide) ?_
       refine DW.ts rfl rfl rfl rfl (T.storeBA (k := 2) Try.sizeOf33 rfl rfl rfl (one_cons rfl (one_cons rfl one_nil)) rfl rfl) ?_
       refine DW.x rfl rfl (X.assign rfl) (by decide) ?_
       refine DW.nil ?_
       refine WK.nThen ?_
       exact WK.meet m rfl (.refl _) (.cons rfl (.cons rfl (.cons rfl .nil))) ⟨(Mem.le_refl _), hs2, hs4⟩
      ·refine DW.ts rfl rfl rfl rfl (T.storeBA (k := 2) Try.sizeOf33 rfl rfl rfl (one_cons rfl (one_cons rfl one_nil)) rfl rfl) ?_
       refine DW.xp rfl rfl rfl (fun _ => (X.loadB (k := 1) Try.isAgg3 rfl rfl rfl)) (by decide) ?_
       refine DW.xf rfl rfl rfl (fun _ _ hle_ => (X.gtr rfl rfl)) (by decide) ?_
       refine DW.x rfl rfl (X.assign rfl) (by decide) ?_
       refine DW.nil ?_
       refine WK.nThen ?_
       exact WK.meet m rfl (.refl _) (.cons rfl (.cons rfl (.cons rfl .nil))) ⟨(Mem.le_refl _), hs2, hs4⟩
    ·refine DW.fork (List.cons_ne_nil _ _) ?_ ?_
     ·refine DW.xp rfl rfl rfl (fun _ => (X.loadB (k := 1) Try.isAgg3 rfl rfl rfl)) (by decide) ?_
      refine DW.xf rfl rfl rfl (fun _ _ hle_ => (X.gtr rfl rfl)) (by decide) ?_
      refine DW.fork (List.cons_ne_nil _ _) ?_ ?_
      ·refine DW.xp rfl rfl rfl (fun _ => (X.loadBA (k := 0) Try.isAgg33 Try.sizeOf33 rfl rfl rfl)) (by decide) ?_
       refine DW.ts rfl rfl rfl rfl (T.storeBA (k := 3) Try.sizeOf45 rfl rfl rfl (one_cons rfl (one_cons rfl one_nil)) rfl rfl) ?_
       refine DW.ts rfl rfl rfl rfl (T.storeBA (k := 2) Try.sizeOf33 rfl rfl rfl (one_cons rfl (one_cons rfl one_nil)) rfl rfl) ?_
       refine DW.x rfl rfl (X.assign rfl) (by decide) ?_
       refine DW.nil ?_
       refine WK.nThen ?_
       exact WK.meet m rfl (.refl _) (.cons rfl (.cons rfl (.cons rfl .nil))) ⟨(Mem.le_refl _), hs2, hs4⟩
      ·refine DW.ts rfl rfl rfl rfl (T.storeBA (k := 3) Try.sizeOf45 rfl rfl rfl (one_cons rfl (one_cons rfl one_nil)) rfl rfl) ?_
       refine DW.xp rfl rfl rfl (fun _ => (X.loadBA (k := 0) Try.isAgg33 Try.sizeOf33 rfl rfl rfl)) (by decide) ?_
       refine DW.ts rfl rfl rfl rfl (T.storeBA (k := 2) Try.sizeOf33 rfl rfl rfl (one_cons rfl (one_cons rfl one_nil)) rfl rfl) ?_
       refine DW.x rfl rfl (X.assign rfl) (by decide) ?_
       refine DW.nil ?_
       refine WK.nThen ?_
       exact WK.meet m rfl (.refl _) (.cons rfl (.cons rfl (.cons rfl .nil))) ⟨(Mem.le_refl _), hs2, hs4⟩
     ·refine DW.ts rfl rfl rfl rfl (T.storeBA (k := 3) Try.sizeOf45 rfl rfl rfl (one_cons rfl (one_cons rfl one_nil)) rfl rfl) ?_
      refine DW.fork (List.cons_ne_nil _ _) ?_ ?_
      ·refine DW.xp rfl rfl rfl (fun _ => (X.loadBA (k := 0) Try.isAgg33 Try.sizeOf33 rfl rfl rfl)) (by decide) ?_
       refine DW.fork (List.cons_ne_nil _ _) ?_ ?_
       ·refine DW.xp rfl rfl rfl (fun _ => (X.loadB (k := 1) Try.isAgg3 rfl rfl rfl)) (by decide) ?_
        refine DW.xf rfl rfl rfl (fun _ _ hle_ => (X.gtr rfl rfl)) (by decide) ?_
        refine DW.ts rfl rfl rfl rfl (T.storeBA (k := 2) Try.sizeOf33 rfl rfl rfl (one_cons rfl (one_cons rfl one_nil)) rfl rfl) ?_
        refine DW.x rfl rfl (X.assign rfl) (by decide) ?_
        refine DW.nil ?_
        refine WK.nThen ?_
        exact WK.meet m rfl (.refl _) (.cons rfl (.cons rfl (.cons rfl .nil))) ⟨(Mem.le_refl _), hs2, hs4⟩
       ·refine DW.ts rfl rfl rfl rfl (T.storeBA (k := 2) Try.sizeOf33 rfl rfl rfl (one_cons rfl (one_cons rfl one_nil)) rfl rfl) ?_
        refine DW.xp rfl rfl rfl (fun _ => (X.loadB (k := 1) Try.isAgg3 rfl rfl rfl)) (by decide) ?_
        refine DW.xf rfl rfl rfl (fun _ _ hle_ => (X.gtr rfl rfl)) (by decide) ?_
        refine DW.x rfl rfl (X.assign rfl) (by decide) ?_
        refine DW.nil ?_
        refine WK.nThen ?_
        exact WK.meet m rfl (.refl _) (.cons rfl (.cons rfl (.cons rfl .nil))) ⟨(Mem.le_refl _), hs2, hs4⟩
      ·refine DW.xp rfl rfl rfl (fun _ => (X.loadB (k := 1) Try.isAgg3 rfl rfl rfl)) (by decide) ?_
       refine DW.xf rfl rfl rfl (fun _ _ hle_ => (X.gtr rfl rfl)) (by decide) ?_
       refine DW.xp rfl rfl rfl (fun _ => (X.loadBA (k := 0) Try.isAgg33 Try.sizeOf33 rfl rfl rfl)) (by decide) ?_
       refine DW.ts rfl rfl rfl rfl (T.storeBA (k := 2) Try.sizeOf33 rfl rfl rfl (one_cons rfl (one_cons rfl one_nil)) rfl rfl) ?_
       refine DW.x rfl rfl (X.assign rfl) (by decide) ?_
       refine DW.nil ?_
       refine WK.nThen ?_
       exact WK.meet m rfl (.refl _) (.cons rfl (.cons rfl (.cons rfl .nil))) ⟨(Mem.le_refl _), hs2, hs4⟩
   ·rintro m32 ⟨hle33, hs34, hs35⟩
    show WK _ _ m32 [blk b12 33 [.int .i64 ((mnE s l x k).Lo), .int .i64 ((mnE s l x k).Hi)], blk b11 45 [.int .i64 (mnN s l x k), .int .i64 (mnD s x k)], blk b10 33 [.int .i64 ((mnE s l x k).Lo), .int .i64 ((mnE s l x k).Hi)], blk b9 45 [.int .i64 (mnN s l x k), .int .i64 (mnD s x k)], blk b8 33 [.int .i64 (x.Lo), .int .i64 (x.Hi)], blk b7 25 [v1, v3]] [(6, .pointer (some ⟨b9, 0, none⟩)), (7, .pointer (some ⟨b10, 0, none⟩)), (8, .bool (decide (0 < (mnD s x k))))] _
    replace hs2 := hs2.mono hle33
    replace hs4 := hs4.mono hle33
    replace hl := hl.mono hle33
    have hl36 := hs34.le
    have hl37 := hs35.le
    refine WC.ret ?_
    refine WK.retC3 3 2 rfl rfl rfl rfl rfl rfl Try.isAgg45 Try.sizeOf45 Try.isAgg33 Try.sizeOf33 (fun w' hw' => Ret.exact hw' ?_)
    subst hkm
    first | rfl | exact tup3 rfl rfl (bool_true (by assumption)) | exact tup3 rfl rfl (bool_false (by assumption))

theorem parts58 (m : Mem) (vl : Value) (l : List Int) (hl : Sl m vl l) (most : Int)  (hm : 0 ≤ most ∧ most ≤ 1000000) (hlb : ∀ i, i < l.length → -1000000 ≤ gt l i ∧ gt l i ≤ 1000000) : Exact Try.prog 58 #[vl, .int .i64 (most)] m (.int .i64 (ptN l most)) := by
 have ll := hl.le
 refine Exact.start Try.func58 rfl Try.ntmps58 rfl fun wld => ?_
 refine WC.seq ?_
 refine WC.region ?_
 refine WL.x (X.assign rfl) (by decide) ?_
 refine WL.nil ?_
 refine WK.nThen ?_
 refine WC.seq ?_
 refine WC.region ?_
 refine WL.x (X.assign rfl) (by decide) ?_
 refine WL.nil ?_
 refine WK.nThen ?_
 refine WC.seq ?_
 refine WC.seq ?_
 refine WC.region ?_
 refine WL.x (X.assign rfl) (by decide) ?_
 refine WL.nil ?_
 refine WK.nThen ?_
 refine WC.block ?_
 refine WC.loop (G := Nat × Int) (fun (a, n) => l.length - a) (fun (a, n) => m) (fun (a, n) => []) (fun (a, n) => [(0, vl), (1, .int .i64 (most)), (5, .int .i64 (n)), (6, .int .i64 (↑a))]) (fun (a, n) => (a ≤ l.length ∧ 0 ≤ n ∧ n ≤ a) ∧ n + ptF l most (l.length - a) a = ptN l most) ((0, 0)) rfl (.refl _) (.cons rfl (.cons rfl (.cons rfl (.cons rfl .nil)))) ?_ ?_
 ·exact ⟨by omega, by simp [ptN]⟩
 ·rintro ⟨a, n⟩ hF1
  show WK _ _ m [] [(0, vl), (1, .int .i64 (most)), (5, .int .i64 (n)), (6, .int .i64 (↑a))] _
  replace hF1 : (a ≤ l.length ∧ 0 ≤ n ∧ n ≤ a) ∧ n + ptF l most (l.length - a) a = ptN l most := hF1
  obtain ⟨ha, hn⟩ := hF1
  refine WC.seq ?_
  refine WC.seq ?_
  refine WC.region ?_
  refine WL.x (X.move rfl) (by decide) ?_
  refine WL.x (X.move rfl) (by decide) ?_
  refine WL.x (X.len Try.runUnderlying28 rfl hl) (by decide) ?_
  refine WL.cond (X.lss rfl rfl) (by decide) (fun h2 => ?_) (fun h2 => ?_)
  ·refine WL.nil ?_
   refine WK.nThen ?_
   refine WC.condT rfl ?_
   refine WC.skip ?_
   refine WK.nThen ?_
   refine WC.block ?_
   refine WC.seq ?_
   refine WC.region ?_
   refine WL.x (X.move rfl) (by decide) ?_
   refine WL.x (X.add rfl rfl (by omega) (by omega)) (by decide) ?_
   refine WL.x (X.assign rfl) (by decide) ?_
   refine WL.nil ?_
   refine WK.nThen ?_
   refine WC.seq ?_
   refine WC.region ?_
   refine WL.x (X.move rfl) (by decide) ?_
   refine WL.x (X.move rfl) (by decide) ?_
   refine WL.xe (E.idxN a Try.runUnderlying28 Try.sizeOf3 rfl rfl hl (by omega)) (by decide) (fun p3 hp4 => ?_)
   refine WL.x (X.loadInt Try.isAgg3 rfl hp4) (by decide) ?_
   refine WL.x (X.assign rfl) (by decide) ?_
   refine WL.nil ?_
   refine WK.nThen ?_
   refine WC.seq ?_
   refine WC.region ?_
   refine WL.x (X.move rfl) (by decide) ?_
   refine WL.x (X.move rfl) (by decide) ?_
   refine WL.xe (E.idxN a Try.runUnderlying28 Try.sizeOf3 rfl rfl hl (by omega)) (by decide) (fun p5 hp6 => ?_)
   refine WL.x (X.loadInt Try.isAgg3 rfl hp6) (by decide) ?_
   refine WL.x (X.assign rfl) (by decide) ?_
   refine WL.nil ?_
   refine WK.nThen ?_
   refine WC.block ?_
   refine WC.loop (G := Nat) (fun j => l.length - j) (fun j => m) (fun j => []) (fun j => [(0, vl), (1, .int .i64 (most)), (5, .int .i64 (n + 1)), (6, .int .i64 (↑(a + j))), (7, .int .i64 (miL l a j)), (8, .int .i64 (mxL l a j))]) (fun j => (a + j ≤ l.length) ∧ (∀ q, q < j → ¬ ptP l most a q)) 0 rfl (.refl _) (.cons rfl (.cons rfl (.cons rfl (.cons rfl (.cons rfl (.cons rfl .nil)))))) ?_ ?_
   ·exact ⟨by omega, fun q hq => absurd hq (Nat.not_lt_zero _)⟩
   ·rintro j hF7
    show WK _ _ m [] [(0, vl), (1, .int .i64 (most)), (5, .int .i64 (n + 1)), (6, .int .i64 (↑(a + j))), (7, .int .i64 (miL l a j)), (8, .int .i64 (mxL l a j))] _
    replace hF7 : (a + j ≤ l.length) ∧ (∀ q, q < j → ¬ ptP l most a q) := hF7
    obtain ⟨hj, hall⟩ := hF7
    have hb := ml_bd (a := a) hlb j (by omega) hj
    have hlk := fun h => hlb (a + j) h
    have e1 : miL l a (j + 1) = min (miL l a j) (gt l (a + j)) := rfl
    have e2 : mxL l a (j + 1) = max (mxL l a j) (gt l (a + j)) := rfl
    refine WC.seq ?_
    refine WC.seq ?_
    refine WC.draw (π := (.cons 0 (.cons 1 (.cons 2 (.cons 3 (.cons 4 (.cons 5 (.cons 6 (.cons 7 (.cons 8 (.cons 9 (.cons 10 (.cons 11 (.cons 12 (.cons 13 (.cons 14 (.cons 15 (.cons 16 (.cons 17 (.cons 18 (.cons 19 (.cons 20 .done)))))))))))))))))))))) [] [] rfl (by kernel_rfl) ?_
    refine DW.x rfl rfl (X.move rfl) (by decide) ?_
    refine DW.x rfl rfl (X.move rfl) (by decide) ?_
    refine DW.x rfl rfl (X.len Try.runUnderlying28 rfl hl) (by decide) ?_
    refine DW.cond rfl rfl (X.lss rfl rfl) (by decide) (fun h8 => ?_) (fun h8 => ?_)
    ·refine DW.x rfl rfl (X.move rfl) (by decide) ?_
     refine DW.x rfl rfl (X.move rfl) (by decide) ?_
     refine DW.x rfl rfl (X.move rfl) (by decide) ?_
     refine DW.x rfl rfl (X.move rfl) (by decide) ?_
     refine DW.xe rfl rfl (E.idxE ((a + j)) Try.runUnderlying28 Try.sizeOf3 rfl rfl hl (by omega) (by omega)) (by decide) (fun p9 hp10 => ?_)
     refine DW.x rfl rfl (X.loadInt Try.isAgg3 rfl hp10) (by decide) ?_
     refine DW.x rfl rfl (X.mx rfl rfl) (by decide) ?_
     refine DW.x rfl rfl (X.move rfl) (by decide) ?_
     refine DW.x rfl rfl (X.move rfl) (by decide) ?_
     refine DW.x rfl rfl (X.move rfl) (by decide) ?_
     refine DW.xe rfl rfl (E.idxE ((a + j)) Try.runUnderlying28 Try.sizeOf3 rfl rfl hl (by omega) (by omega)) (by decide) (fun p11 hp12 => ?_)
     refine DW.x rfl rfl (X.loadInt Try.isAgg3 rfl hp12) (by decide) ?_
     refine DW.x rfl rfl (X.mn rfl rfl) (by decide) ?_
     refine DW.x rfl rfl (X.sub rfl rfl (by omega) (by omega)) (by decide) ?_
     refine DW.x rfl rfl (X.move rfl) (by decide) ?_
     refine DW.cond rfl rfl (X.leq rfl rfl) (by decide) (fun h13 => ?_) (fun h13 => ?_)
     ·refine DW.x rfl rfl (X.pickT rfl rfl rfl) (by decide) ?_
      refine DW.nil ?_
      refine WK.nThen ?_
      refine WC.condT rfl ?_
      refine WC.skip ?_
      refine WK.nThen ?_
      refine WC.block ?_
      refine WC.seq ?_
      refine WC.region ?_
      refine WL.x (X.move rfl) (by decide) ?_
      refine WL.x (X.move rfl) (by decide) ?_
      refine WL.x (X.move rfl) (by decide) ?_
      refine WL.xe (E.idxE ((a + j)) Try.runUnderlying28 Try.sizeOf3 rfl rfl hl (by omega) (by omega)) (by decide) (fun p14 hp15 => ?_)
      refine WL.x (X.loadInt Try.isAgg3 rfl hp15) (by decide) ?_
      refine WL.x (X.mn rfl rfl) (by decide) ?_
      refine WL.x (X.assign rfl) (by decide) ?_
      refine WL.nil ?_
      refine WK.nThen ?_
      refine WC.seq ?_
      refine WC.region ?_
      refine WL.x (X.move rfl) (by decide) ?_
      refine WL.x (X.move rfl) (by decide) ?_
      refine WL.x (X.move rfl) (by decide) ?_
      refine WL.xe (E.idxE ((a + j)) Try.runUnderlying28 Try.sizeOf3 rfl rfl hl (by omega) (by omega)) (by decide) (fun p16 hp17 => ?_)
      refine WL.x (X.loadInt Try.isAgg3 rfl hp17) (by decide) ?_
      refine WL.x (X.mx rfl rfl) (by decide) ?_
      refine WL.x (X.assign rfl) (by decide) ?_
      refine WL.nil ?_
      refine WK.nThen ?_
      refine WC.region ?_
      refine WL.x (X.move rfl) (by decide) ?_
      refine WL.x (X.add rfl rfl (by omega) (by omega)) (by decide) ?_
      refine WL.x (X.assign rfl) (by decide) ?_
      refine WL.nil ?_
      refine WK.nBlock ?_
      refine WK.nThen ?_
      refine WK.next (j + 1) rfl (.refl _) (.cons rfl (.cons rfl (.cons rfl (.cons rfl (.cons rfl (.cons rfl .nil)))))) ?_ ?_
      ·exact ⟨by omega, fun q hq => by rcases Nat.lt_succ_iff_lt_or_eq.1 hq with h | h; exact hall q h; subst h; unfold ptP; omega⟩
      ·omega
     ·refine DW.x rfl rfl (X.pickT rfl rfl rfl) (by decide) ?_
      refine DW.nil ?_
      refine WK.nThen ?_
      refine WC.condF rfl ?_
      refine WC.exit ?_
      refine WK.eThen ?_
      refine WK.eThen ?_
      refine WK.eHit ?_
      refine WK.nBlock ?_
      refine WK.nThen ?_
      have hpe : ptE l most a = a + j := ptE_yes (by omega) hj (fun q hq => hall q (by omega)) (by first | exact .inl (by omega) | exact .inr (by rw [Nat.add_sub_cancel_left]; unfold ptP; omega))
      have hpg := ptE_gt (l := l) (a := a) hm.1 (by omega)
      refine WK.next ((a + j, n + 1)) rfl (.refl _) (.cons rfl (.cons rfl (.cons rfl (.cons rfl .nil)))) ?_ ?_
      ·exact ⟨by omega, by rw [← hn, ptF_step (a := a) hm.1 (by omega), hpe]; omega⟩
      ·(dsimp only; omega)
    ·refine DW.x rfl rfl (X.move rfl) (by decide) ?_
     refine DW.no rfl rfl (by decide) ?_
     refine DW.no rfl rfl (by decide) ?_
     refine DW.no rfl rfl (by decide) ?_
     refine DW.no rfl rfl (by decide) ?_
     refine DW.no rfl rfl (by decide) ?_
     refine DW.no rfl rfl (by decide) ?_
     refine DW.no rfl rfl (by decide) ?_
     refine DW.no rfl rfl (by decide) ?_
     refine DW.no rfl rfl (by decide) ?_
     refine DW.no rfl rfl (by decide) ?_
     refine DW.no rfl rfl (by decide) ?_
     refine DW.no rfl rfl (by decide) ?_
     refine DW.no rfl rfl (by decide) ?_
     refine DW.no rfl rfl (by decide) ?_
     refine DW.no rfl rfl (by decide) ?_
     refine DW.x rfl rfl (X.pickF rfl rfl rfl) (by decide) ?_
     refine DW.nil ?_
     refine WK.nThen ?_
     refine WC.condF rfl ?_
     refine WC.exit ?_
     refine WK.eThen ?_
     refine WK.eThen ?_
     refine WK.eHit ?_
     refine WK.nBlock ?_
     refine WK.nThen ?_
     have hpe : ptE l most a = a + j := ptE_yes (by omega) hj (fun q hq => hall q (by omega)) (by first | exact .inl (by omega) | exact .inr (by rw [Nat.add_sub_cancel_left]; unfold ptP; omega))
     have hpg := ptE_gt (l := l) (a := a) hm.1 (by omega)
     refine WK.next ((a + j, n + 1)) rfl (.refl _) (.cons rfl (.cons rfl (.cons rfl (.cons rfl .nil)))) ?_ ?_
     ·exact ⟨by omega, by rw [← hn, ptF_step (a := a) hm.1 (by omega), hpe]; omega⟩
     ·(dsimp only; omega)
  ·refine WL.nil ?_
   refine WK.nThen ?_
   refine WC.condF rfl ?_
   refine WC.exit ?_
   refine WK.eThen ?_
   refine WK.eThen ?_
   refine WK.eHit ?_
   refine WK.nThen ?_
   refine WC.seq ?_
   refine WC.region ?_
   refine WL.x (X.move rfl) (by decide) ?_
   refine WL.x (X.assign rfl) (by decide) ?_
   refine WL.nil ?_
   refine WK.nThen ?_
   refine WC.ret ?_
   refine WK.ret1 rfl rfl (fun w' hw' => Ret.exact hw' ?_)
   exact int_eq (by rw [← hn, show l.length - a = 0 by omega]; simp [ptF])

theorem told65 (m : Mem) (cs : List Value) (s : Ser) (hs : Enc.rd m cs s) (cx : List Value) (x : Rl) (hx : Enc.rd m cx x)   : Pure Try.prog 65 #[.agg cs.toArray, .agg cx.toArray] m (fun m' v => ∃ r0, v = .tuple #[.agg r0.toArray, .bool ((toldR s x).2)] ∧ Enc.rd m' r0 ((toldR s x).1)) := by
 obtain ⟨v1, v3, rfl, hs2, hs4⟩ := hs
 have hl5 := hs2.le
 have hl6 := hs4.le
 obtain ⟨v7, v9, rfl, hs8, hs10⟩ := hx
 have hl11 := hs8.le
 have hl12 := hs10.le
 refine Pure.start Try.func65 rfl Try.ntmps65 rfl fun wld => ?_
 refine WC.seq ?_
 refine WC.region ?_
 refine WL.tn (T.boxB rfl rfl) (by decide) fun b13 => ?_
 refine WL.tn (T.boxB rfl rfl) (by decide) fun b14 => ?_
 refine WL.tn (T.alloc Try.zeroValue25 rfl) (by decide) fun b15 => ?_
 refine WL.x (X.assign rfl) (by decide) ?_
 refine WL.nil ?_
 refine WK.nThen ?_
 refine WC.seq ?_
 refine WC.region ?_
 refine WL.tn (T.alloc Try.zeroValue25 rfl) (by decide) fun b16 => ?_
 refine WL.nil ?_
 refine WK.nThen ?_
 refine WC.seq ?_
 refine WC.seq ?_
 refine WK.ownF Val 62 ?_
 refine WK.ownF Shf 72 ?_
 refine WC.region ?_
 refine WL.x (X.loadBA (k := 5) Try.isAgg25 Try.sizeOf25 rfl rfl rfl) (by decide) ?_
 refine WL.x (X.field Try.runUnderlying52 rfl Try.sizeOf28 rfl) (by decide) ?_
 refine WL.x (X.loadB (k := 4) Try.isAgg28 rfl rfl rfl) (by decide) ?_
 refine WL.x (X.field Try.runUnderlying52 rfl Try.sizeOf28 rfl) (by decide) ?_
 refine WL.x (X.loadB (k := 4) Try.isAgg28 rfl rfl rfl) (by decide) ?_
 refine WL.x (X.call Try.call52 rfl (keeps52 _ _ s ⟨_, _, rfl, hs2, hs4⟩ _ _ hs8 _ _ hs10 )) (by decide) ?_
 refine WL.condn (X.neq rfl rfl) (by decide) (fun h17 => ?_) (fun h17 => ?_)
 ·refine WL.nil ?_
  refine WK.nThen ?_
  refine WC.condT rfl ?_
  refine WC.seq ?_
  refine WC.region ?_
  refine WL.x (X.loadBA (k := 2) Try.isAgg25 Try.sizeOf25 rfl rfl rfl) (by decide) ?_
  refine WL.own1 (k := 1) rfl (fun ho18 => ?_)
  refine WL.own1 (k := 0) rfl (fun ho19 => ?_)
  refine WL.ts (T.storeBA (k := 3) Try.sizeOf25 rfl rfl rfl (one_cons ho18 (one_cons ho19 one_nil)) rfl rfl) ?_
  refine WL.x (X.assign rfl) (by decide) ?_
  refine WL.nil ?_
  refine WK.nThen ?_
  refine WC.ret ?_
  refine WK.rThen ?_
  refine WK.freezeF 1 rfl rfl (by first | (simp [lenB]; omega) | (simp [lenB]; done)) (fun m20 hle21 hs22 => ?_)
  replace hs2 := hs2.mono hle21
  replace hs4 := hs4.mono hle21
  replace hs8 := hs8.mono hle21
  replace hs10 := hs10.mono hle21
  refine WK.freezeF 0 rfl rfl (by first | (simp [lenB]; omega) | (simp [lenB]; done)) (fun m23 hle24 hs25 => ?_)
  replace hs2 := hs2.mono hle24
  replace hs4 := hs4.mono hle24
  replace hs8 := hs8.mono hle24
  replace hs10 := hs10.mono hle24
  replace hs22 := hs22.mono hle24
  refine WK.retC2 1 rfl rfl rfl rfl Try.isAgg25 Try.sizeOf25 (fun w' hw' => Ret.mem hw' ?_)
  exact ⟨_, tup2 rfl (bool_eq (by rw [toldR, if_pos (by omega)])), by rw [toldR, if_pos (by omega)]; exact ⟨_, _, rfl, hs22, hs25⟩⟩
 ·refine WL.nil ?_
  refine WK.nThen ?_
  refine WC.condF rfl ?_
  refine WC.skip ?_
  refine WK.nThen ?_
  refine WC.seq ?_
  refine WC.seq ?_
  have hkz := keepsE_zero (s := s) (lv := x.Levels) (sh := x.Shifts) (by omega)
  have hok := hkz.1
  have hag := hkz.2.1
  have hnV := hok.nV
  have hnX := hok.nX
  refine WC.region ?_
  refine WL.x (X.assign rfl) (by decide) ?_
  refine WL.nil ?_
  refine WK.nThen ?_
  refine WC.block ?_
  refine WC.loop (G := Nat × Value) (fun (k, va) => s.Values.length - k) (fun (k, va) => m) (fun (k, va) => [rowF ((.slice none 0 0)) 72 (([] : List Shf)), rowF (va) 62 ((List.range k).map (fun i => (⟨(gt s.Values i).Time, ⟨gt x.Levels i, gt x.Levels i⟩⟩ : Val))), blk b16 25 [va, (.slice none 0 0)], blk b15 25 [.slice none 0 0, .slice none 0 0], blk b14 52 [v7, v9], blk b13 25 [v1, v3]]) (fun (k, va) => [(2, .pointer (some ⟨b13, 0, none⟩)), (3, .pointer (some ⟨b14, 0, none⟩)), (4, .pointer (some ⟨b15, 0, none⟩)), (6, .pointer (some ⟨b16, 0, none⟩)), (7, .int .i64 (↑k))]) (fun (k, va) => k ≤ s.Values.length) ((0, Value.slice none 0 0)) rfl (.refl _) (.cons rfl (.cons rfl (.cons rfl (.cons rfl (.cons rfl .nil))))) ?_ ?_
  ·exact Nat.zero_le _
  ·rintro ⟨k, va⟩ hF26
   show WK _ _ m [rowF ((.slice none 0 0)) 72 (([] : List Shf)), rowF (va) 62 ((List.range k).map (fun i => (⟨(gt s.Values i).Time, ⟨gt x.Levels i, gt x.Levels i⟩⟩ : Val))), blk b16 25 [va, (.slice none 0 0)], blk b15 25 [.slice none 0 0, .slice none 0 0], blk b14 52 [v7, v9], blk b13 25 [v1, v3]] [(2, .pointer (some ⟨b13, 0, none⟩)), (3, .pointer (some ⟨b14, 0, none⟩)), (4, .pointer (some ⟨b15, 0, none⟩)), (6, .pointer (some ⟨b16, 0, none⟩)), (7, .int .i64 (↑k))] _
   replace hF26 : k ≤ s.Values.length := hF26
   have hk := hF26
   refine WC.seq ?_
   refine WC.seq ?_
   refine WC.region ?_
   refine WL.x (X.move rfl) (by decide) ?_
   refine WL.x (X.field Try.runUnderlying25 rfl Try.sizeOf22 rfl) (by decide) ?_
   refine WL.x (X.loadB (k := 5) Try.isAgg22 rfl rfl rfl) (by decide) ?_
   refine WL.x (X.len Try.runUnderlying22 rfl hs2) (by decide) ?_
   refine WL.cond (X.lss rfl rfl) (by decide) (fun h27 => ?_) (fun h27 => ?_)
   ·refine WL.nil ?_
    refine WK.nThen ?_
    refine WC.condT rfl ?_
    refine WC.skip ?_
    refine WK.nThen ?_
    refine WC.seq ?_
    refine WC.block ?_
    refine WC.draw (π := (.cons 0 (.cons 1 (.cons 2 (.cons 3 (.cons 4 (.cons 5 (.cons 6 (.cons 7 (.cons 8 (.cons 9 (.cons 10 (.cons 11 (.cons 12 (.cons 13 (.cons 14 (.cons 15 (.cons 16 (.cons 17 (.cons 18 (.cons 19 (.cons 20 (.cons 21 (.cons 22 (.cons 23 .done))))))))))))))))))))))))) [20, 21, 23] [21, 23] rfl (by kernel_rfl) ?_
    refine DW.x rfl rfl (X.field Try.runUnderlying25 rfl Try.sizeOf22 rfl) (by decide) ?_
    refine DW.x rfl rfl (X.loadB (k := 2) Try.isAgg22 rfl rfl rfl) (by decide) ?_
    refine DW.x rfl rfl (X.field Try.runUnderlying25 rfl Try.sizeOf22 rfl) (by decide) ?_
    refine DW.x rfl rfl (X.loadB (k := 5) Try.isAgg22 rfl rfl rfl) (by decide) ?_
    refine DW.x rfl rfl (X.move rfl) (by decide) ?_
    refine DW.xe rfl rfl (E.idxN k Try.runUnderlying22 Try.sizeOf62 rfl rfl hs2 (by omega)) (by decide) (fun p28 hp29 => ?_)
    have hp30 := At.Val_0 hp29
    refine DW.x rfl rfl (X.field Try.runUnderlying62 rfl Try.sizeOf3 rfl) (by decide) ?_
    refine DW.x rfl rfl (X.loadInt Try.isAgg3 rfl hp30) (by decide) ?_
    refine DW.x rfl rfl (X.field Try.runUnderlying52 rfl Try.sizeOf28 rfl) (by decide) ?_
    refine DW.x rfl rfl (X.loadB (k := 4) Try.isAgg28 rfl rfl rfl) (by decide) ?_
    refine DW.x rfl rfl (X.move rfl) (by decide) ?_
    refine DW.xe rfl rfl (E.idxN k Try.runUnderlying28 Try.sizeOf3 rfl rfl hs8 (by omega)) (by decide) (fun p31 hp32 => ?_)
    refine DW.x rfl rfl (X.loadInt Try.isAgg3 rfl hp32) (by decide) ?_
    refine DW.x rfl rfl (X.field Try.runUnderlying52 rfl Try.sizeOf28 rfl) (by decide) ?_
    refine DW.x rfl rfl (X.loadB (k := 4) Try.isAgg28 rfl rfl rfl) (by decide) ?_
    refine DW.x rfl rfl (X.move rfl) (by decide) ?_
    refine DW.xe rfl rfl (E.idxN k Try.runUnderlying28 Try.sizeOf3 rfl rfl hs8 (by omega)) (by decide) (fun p33 hp34 => ?_)
    refine DW.x rfl rfl (X.loadInt Try.isAgg3 rfl hp34) (by decide) ?_
    refine DW.x (V := Value.agg [.int .i64 (gt x.Levels k), .int .i64 (gt x.Levels k)].toArray) rfl rfl (X.build Try.zeroValue33 Try.runUnderlying33 (places33 _ Try.underlying33) rfl rfl) (by decide) ?_
    refine DW.x (V := Value.agg [.int .i64 ((gt s.Values k).Time), .int .i64 (gt x.Levels k), .int .i64 (gt x.Levels k)].toArray) rfl rfl (X.build Try.zeroValue62 Try.runUnderlying62 (places62 _ Try.underlying62) rfl rfl) (by decide) ?_
    refine DW.tl rfl rfl rfl (T.lit1 sl22 rfl rfl rfl (by decide)) (by decide) fun b35 => ?_
    refine DW.ta rfl rfl rfl rfl (T.appendF (k := 1) (a := (Val.mk ((gt s.Values k).Time) ((Span.mk (gt x.Levels k) (gt x.Levels k))))) sl22 rfl rfl rfl rfl (by first | omega | (simp; omega)) (by decide)) (by decide) (fun v36 => ?_)
    refine DW.x rfl rfl (X.field Try.runUnderlying25 rfl Try.sizeOf22 rfl) (by decide) ?_
    refine DW.ts rfl rfl rfl rfl (OpTo.own1 (k := 1) rfl trivial (defd2 rfl rfl rfl) fun ho37 => T.storeB (k := 2) Try.sizeOf22 rfl rfl rfl ho37 (Nat.le_of_ble_eq_true rfl)) ?_
    refine DW.nil ?_
    refine WK.nBlock ?_
    refine WK.nThen ?_
    refine WC.region ?_
    refine WL.x (X.move rfl) (by decide) ?_
    refine WL.x (X.add rfl rfl (by omega) (by omega)) (by decide) ?_
    refine WL.x (X.assign rfl) (by decide) ?_
    refine WL.nil ?_
    refine WK.nThen ?_
    have he38 : (((List.range k).map (fun i => (⟨(gt s.Values i).Time, ⟨gt x.Levels i, gt x.Levels i⟩⟩ : Val))) ++ [(Val.mk ((gt s.Values k).Time) ((Span.mk (gt x.Levels k) (gt x.Levels k))))]) = ((List.range (k + 1)).map (fun i => (⟨(gt s.Values i).Time, ⟨gt x.Levels i, gt x.Levels i⟩⟩ : Val))) := map_succ _ _
    rw [he38]
    refine WK.next ((k + 1, v36)) rfl (.refl _) (.cons rfl (.cons rfl (.cons rfl (.cons rfl (.cons rfl .nil))))) ?_ ?_
    ·omega
    ·(dsimp only; omega)
   ·refine WL.nil ?_
    refine WK.nThen ?_
    refine WC.condF rfl ?_
    refine WC.exit ?_
    refine WK.eThen ?_
    refine WK.eThen ?_
    refine WK.eHit ?_
    refine WK.nThen ?_
    refine WC.seq ?_
    refine WC.seq ?_
    refine WC.region ?_
    refine WL.x (X.assign rfl) (by decide) ?_
    refine WL.nil ?_
    refine WK.nThen ?_
    refine WC.block ?_
    refine WC.loop (G := Nat × Value) (fun (i, vb) => s.Shifts.length - i) (fun (i, vb) => m) (fun (i, vb) => [rowF (vb) 72 ((List.range i).map (fun i => (⟨(gt s.Shifts i).Time, ⟨gt x.Shifts i, gt x.Shifts i⟩⟩ : Shf))), rowF (va) 62 ((List.range k).map (fun i => (⟨(gt s.Values i).Time, ⟨gt x.Levels i, gt x.Levels i⟩⟩ : Val))), blk b16 25 [va, vb], blk b15 25 [.slice none 0 0, .slice none 0 0], blk b14 52 [v7, v9], blk b13 25 [v1, v3]]) (fun (i, vb) => [(2, .pointer (some ⟨b13, 0, none⟩)), (3, .pointer (some ⟨b14, 0, none⟩)), (4, .pointer (some ⟨b15, 0, none⟩)), (6, .pointer (some ⟨b16, 0, none⟩)), (8, .int .i64 (↑i))]) (fun (i, vb) => i ≤ s.Shifts.length) ((0, (Value.slice none 0 0))) rfl (.refl _) (.cons rfl (.cons rfl (.cons rfl (.cons rfl (.cons rfl .nil))))) ?_ ?_
    ·exact Nat.zero_le _
    ·rintro ⟨i, vb⟩ hF39
     show WK _ _ m [rowF (vb) 72 ((List.range i).map (fun i => (⟨(gt s.Shifts i).Time, ⟨gt x.Shifts i, gt x.Shifts i⟩⟩ : Shf))), rowF (va) 62 ((List.range k).map (fun i => (⟨(gt s.Values i).Time, ⟨gt x.Levels i, gt x.Levels i⟩⟩ : Val))), blk b16 25 [va, vb], blk b15 25 [.slice none 0 0, .slice none 0 0], blk b14 52 [v7, v9], blk b13 25 [v1, v3]] [(2, .pointer (some ⟨b13, 0, none⟩)), (3, .pointer (some ⟨b14, 0, none⟩)), (4, .pointer (some ⟨b15, 0, none⟩)), (6, .pointer (some ⟨b16, 0, none⟩)), (8, .int .i64 (↑i))] _
     replace hF39 : i ≤ s.Shifts.length := hF39
     have hi := hF39
     refine WC.seq ?_
     refine WC.seq ?_
     refine WC.region ?_
     refine WL.x (X.move rfl) (by decide) ?_
     refine WL.x (X.field Try.runUnderlying25 rfl Try.sizeOf23 rfl) (by decide) ?_
     refine WL.x (X.loadB (k := 5) Try.isAgg23 rfl rfl rfl) (by decide) ?_
     refine WL.x (X.len Try.runUnderlying23 rfl hs4) (by decide) ?_
     refine WL.cond (X.lss rfl rfl) (by decide) (fun h40 => ?_) (fun h40 => ?_)
     ·refine WL.nil ?_
      refine WK.nThen ?_
      refine WC.condT rfl ?_
      refine WC.skip ?_
      refine WK.nThen ?_
      refine WC.seq ?_
      refine WC.block ?_
      refine WC.draw (π := (.cons 0 (.cons 1 (.cons 2 (.cons 3 (.cons 4 (.cons 5 (.cons 6 (.cons 7 (.cons 8 (.cons 9 (.cons 10 (.cons 11 (.cons 12 (.cons 13 (.cons 14 (.cons 15 (.cons 16 (.cons 17 (.cons 18 (.cons 19 (.cons 20 (.cons 21 (.cons 22 (.cons 23 .done))))))))))))))))))))))))) [20, 21, 23] [21, 23] rfl (by kernel_rfl) ?_
      refine DW.x rfl rfl (X.field Try.runUnderlying25 rfl Try.sizeOf23 rfl) (by decide) ?_
      refine DW.x rfl rfl (X.loadB (k := 2) Try.isAgg23 rfl rfl rfl) (by decide) ?_
      refine DW.x rfl rfl (X.field Try.runUnderlying25 rfl Try.sizeOf23 rfl) (by decide) ?_
      refine DW.x rfl rfl (X.loadB (k := 5) Try.isAgg23 rfl rfl rfl) (by decide) ?_
      refine DW.x rfl rfl (X.move rfl) (by decide) ?_
      refine DW.xe rfl rfl (E.idxN i Try.runUnderlying23 Try.sizeOf72 rfl rfl hs4 (by omega)) (by decide) (fun p41 hp42 => ?_)
      have hp43 := At.Shf_0 hp42
      refine DW.x rfl rfl (X.field Try.runUnderlying72 rfl Try.sizeOf3 rfl) (by decide) ?_
      refine DW.x rfl rfl (X.loadInt Try.isAgg3 rfl hp43) (by decide) ?_
      refine DW.x rfl rfl (X.field Try.runUnderlying52 rfl Try.sizeOf28 rfl) (by decide) ?_
      refine DW.x rfl rfl (X.loadB (k := 4) Try.isAgg28 rfl rfl rfl) (by decide) ?_
      refine DW.x rfl rfl (X.move rfl) (by decide) ?_
      refine DW.xe rfl rfl (E.idxN i Try.runUnderlying28 Try.sizeOf3 rfl rfl hs10 (by omega)) (by decide) (fun p44 hp45 => ?_)
      refine DW.x rfl rfl (X.loadInt Try.isAgg3 rfl hp45) (by decide) ?_
      refine DW.x rfl rfl (X.field Try.runUnderlying52 rfl Try.sizeOf28 rfl) (by decide) ?_
      refine DW.x rfl rfl (X.loadB (k := 4) Try.isAgg28 rfl rfl rfl) (by decide) ?_
      refine DW.x rfl rfl (X.move rfl) (by decide) ?_
      refine DW.xe rfl rfl (E.idxN i Try.runUnderlying28 Try.sizeOf3 rfl rfl hs10 (by omega)) (by decide) (fun p46 hp47 => ?_)
      refine DW.x rfl rfl (X.loadInt Try.isAgg3 rfl hp47) (by decide) ?_
      refine DW.x (V := Value.agg [.int .i64 (gt x.Shifts i), .int .i64 (gt x.Shifts i)].toArray) rfl rfl (X.build Try.zeroValue33 Try.runUnderlying33 (places33 _ Try.underlying33) rfl rfl) (by decide) ?_
      refine DW.x (V := Value.agg [.int .i64 ((gt s.Shifts i).Time), .int .i64 (gt x.Shifts i), .int .i64 (gt x.Shifts i)].toArray) rfl rfl (X.build Try.zeroValue72 Try.runUnderlying72 (places72 _ Try.underlying72) rfl rfl) (by decide) ?_
      refine DW.tl rfl rfl rfl (T.lit1 sl23 rfl rfl rfl (by decide)) (by decide) fun b48 => ?_
      refine DW.ta rfl rfl rfl rfl (T.appendF (k := 0) (a := (Shf.mk ((gt s.Shifts i).Time) ((Span.mk (gt x.Shifts i) (gt x.Shifts i))))) sl23 rfl rfl rfl rfl (by first | omega | (simp; omega)) (by decide)) (by decide) (fun v49 => ?_)
      refine DW.x rfl rfl (X.field Try.runUnderlying25 rfl Try.sizeOf23 rfl) (by decide) ?_
      refine DW.ts rfl rfl rfl rfl (OpTo.own1 (k := 0) rfl trivial (defd2 rfl rfl rfl) fun ho50 => T.storeB (k := 2) Try.sizeOf23 rfl rfl rfl ho50 (Nat.le_of_ble_eq_true rfl)) ?_
      refine DW.nil ?_
      refine WK.nBlock ?_
      refine WK.nThen ?_
      refine WC.region ?_
      refine WL.x (X.move rfl) (by decide) ?_
      refine WL.x (X.add rfl rfl (by omega) (by omega)) (by decide) ?_
      refine WL.x (X.assign rfl) (by decide) ?_
      refine WL.nil ?_
      refine WK.nThen ?_
      have he51 : (((List.range i).map (fun i => (⟨(gt s.Shifts i).Time, ⟨gt x.Shifts i, gt x.Shifts i⟩⟩ : Shf))) ++ [(Shf.mk ((gt s.Shifts i).Time) ((Span.mk (gt x.Shifts i) (gt x.Shifts i))))]) = ((List.range (i + 1)).map (fun i => (⟨(gt s.Shifts i).Time, ⟨gt x.Shifts i, gt x.Shifts i⟩⟩ : Shf))) := map_succ _ _
      rw [he51]
      refine WK.next ((i + 1, v49)) rfl (.refl _) (.cons rfl (.cons rfl (.cons rfl (.cons rfl (.cons rfl .nil))))) ?_ ?_
      ·omega
      ·(dsimp only; omega)
     ·refine WL.nil ?_
      refine WK.nThen ?_
      refine WC.condF rfl ?_
      refine WC.exit ?_
      refine WK.eThen ?_
      refine WK.eThen ?_
      refine WK.eHit ?_
      refine WK.nThen ?_
      refine WC.seq ?_
      obtain rfl : k = s.Values.length := (by omega)
      obtain rfl : i = s.Shifts.length := (by omega)
      refine WC.region ?_
      refine WL.x (X.loadBA (k := 2) Try.isAgg25 Try.sizeOf25 rfl rfl rfl) (by decide) ?_
      refine WL.own1 (k := 1) rfl (fun ho52 => ?_)
      refine WL.own1 (k := 0) rfl (fun ho53 => ?_)
      refine WL.ts (T.storeBA (k := 3) Try.sizeOf25 rfl rfl rfl (one_cons ho52 (one_cons ho53 one_nil)) rfl rfl) ?_
      refine WL.x (X.assign rfl) (by decide) ?_
      refine WL.nil ?_
      refine WK.nThen ?_
      refine WC.ret ?_
      refine WK.freezeF 1 rfl rfl (by first | (simp [lenB]; omega) | (simp [lenB]; done)) (fun m54 hle55 hs56 => ?_)
      replace hs2 := hs2.mono hle55
      replace hs4 := hs4.mono hle55
      replace hs8 := hs8.mono hle55
      replace hs10 := hs10.mono hle55
      refine WK.freezeF 0 rfl rfl (by first | (simp [lenB]; omega) | (simp [lenB]; done)) (fun m57 hle58 hs59 => ?_)
      replace hs2 := hs2.mono hle58
      replace hs4 := hs4.mono hle58
      replace hs8 := hs8.mono hle58
      replace hs10 := hs10.mono hle58
      replace hs56 := hs56.mono hle58
      refine WK.retC2 1 rfl rfl rfl rfl Try.isAgg25 Try.sizeOf25 (fun w' hw' => Ret.mem hw' ?_)
      exact ⟨_, tup2 rfl (bool_eq (by rw [toldR, if_neg (by omega)])), by rw [toldR, if_neg (by omega)]; exact ⟨_, _, rfl, hs56, hs59⟩⟩

end Go.Proofs.C8
