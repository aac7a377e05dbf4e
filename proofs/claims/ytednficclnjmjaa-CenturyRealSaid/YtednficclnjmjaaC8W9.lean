/- Century: walks, ninth part, by program. -/
import Derived.Test.YtednficclnjmjaaC8Law
import Derived.Test.YtednficclnjmjaaC8W8
namespace Go.Proofs.C8
open Go Go.Kx
set_option linter.unusedSimpArgs false

theorem few22 (m : Mem) (cs : List Value) (s : Ser) (hs : Enc.rd m cs s)   : Exact Try.prog 22 #[.agg cs.toArray] m (.bool (decide (fewP s))) := by
 obtain ⟨v1, v3, rfl, hs2, hs4⟩ := hs
 have hl5 := hs2.le
 have hl6 := hs4.le
 refine Exact.start Try.func22 rfl Try.ntmps22 rfl fun wld => ?_
 refine WC.seq ?_
 refine WC.region ?_
 refine WL.tn (T.boxB rfl rfl) (by decide) fun b7 => ?_
 refine WL.x (X.assign rfl) (by decide) ?_
 refine WL.nil ?_
 refine WK.nThen ?_
 refine WC.seq ?_
 refine WC.region ?_
 refine WL.x (X.field Try.runUnderlying25 rfl Try.sizeOf22 rfl) (by decide) ?_
 refine WL.x (X.loadB (k := 0) Try.isAgg22 rfl rfl rfl) (by decide) ?_
 refine WL.x (X.len Try.runUnderlying22 rfl hs2) (by decide) ?_
 refine WL.cond (X.leq rfl rfl) (by decide) (fun h8 => ?_) (fun h8 => ?_)
 ·refine WL.x (X.move rfl) (by decide) ?_
  refine WL.no rfl rfl rfl (by decide) ?_
  refine WL.no rfl rfl rfl (by decide) ?_
  refine WL.no rfl rfl rfl (by decide) ?_
  refine WL.no rfl rfl rfl (by decide) ?_
  refine WL.no rfl rfl rfl (by decide) ?_
  refine WL.noU rfl rfl (by decide) ?_
  refine WL.noU rfl rfl (by decide) ?_
  refine WL.noU rfl rfl (by decide) ?_
  refine WL.noU rfl rfl (by decide) ?_
  refine WL.no rfl rfl rfl (by decide) ?_
  refine WL.x (X.pickT rfl rfl rfl) (by decide) ?_
  refine WL.x (X.move rfl) (by decide) ?_
  refine WL.yes rfl rfl ?_
  refine WL.x (X.field Try.runUnderlying25 rfl Try.sizeOf23 rfl) (by decide) ?_
  refine WL.yes rfl rfl ?_
  refine WL.x (X.loadB (k := 0) Try.isAgg23 rfl rfl rfl) (by decide) ?_
  refine WL.yes rfl rfl ?_
  refine WL.x (X.len Try.runUnderlying23 rfl hs4) (by decide) ?_
  refine WL.yes rfl rfl ?_
  refine WL.cond (X.leq rfl rfl) (by decide) (fun h9 => ?_) (fun h9 => ?_)
  ·refine WL.yes rfl rfl ?_
   refine WL.x (X.move rfl) (by decide) ?_
   refine WL.no rfl rfl rfl (by decide) ?_
   refine WL.no rfl rfl rfl (by decide) ?_
   refine WL.no rfl rfl rfl (by decide) ?_
   refine WL.no rfl rfl rfl (by decide) ?_
   refine WL.no rfl rfl rfl (by decide) ?_
   refine WL.noU rfl rfl (by decide) ?_
   refine WL.noU rfl rfl (by decide) ?_
   refine WL.noU rfl rfl (by decide) ?_
   refine WL.noU rfl rfl (by decide) ?_
   refine WL.no rfl rfl rfl (by decide) ?_
   refine WL.yes rfl rfl ?_
   refine WL.x (X.pickT rfl rfl rfl) (by decide) ?_
   refine WL.x (X.pickT rfl rfl rfl) (by decide) ?_
   refine WL.x (X.assign rfl) (by decide) ?_
   refine WL.nil ?_
   refine WK.nThen ?_
   refine WC.ret ?_
   refine WK.ret1 rfl rfl (fun w' hw' => Ret.exact hw' ?_)
   first | exact bool_true (by unfold fewP; omega) | exact bool_false (by unfold fewP; omega) | exact dec_eq (by unfold fewP; omega)
  ·refine WL.yes rfl rfl ?_
   refine WL.x (X.move rfl) (by decide) ?_
   refine WL.yes rfl rfl ?_
   refine WL.x (X.field Try.runUnderlying25 rfl Try.sizeOf23 rfl) (by decide) ?_
   refine WL.yes rfl rfl ?_
   refine WL.x (X.loadB (k := 0) Try.isAgg23 rfl rfl rfl) (by decide) ?_
   refine WL.yes rfl rfl ?_
   refine WL.x (X.len Try.runUnderlying23 rfl hs4) (by decide) ?_
   refine WL.yes rfl rfl ?_
   refine WL.cond (X.gtr rfl rfl) (by decide) (fun h10 => ?_) (fun h10 => ?_)
   ·refine WL.yes rfl rfl ?_
    refine WL.x (X.move rfl) (by decide) ?_
    refine WL.yes rfl rfl ?_
    refine WL.x (X.field Try.runUnderlying25 rfl Try.sizeOf23 rfl) (by decide) ?_
    refine WL.yes rfl rfl ?_
    refine WL.x (X.loadB (k := 0) Try.isAgg23 rfl rfl rfl) (by decide) ?_
    refine WL.yes rfl rfl ?_
    refine WL.x (X.len Try.runUnderlying23 rfl hs4) (by decide) ?_
    refine WL.yes rfl rfl ?_
    refine WL.x (X.leq rfl rfl) (by decide) ?_
    refine WL.yes rfl rfl ?_
    refine WL.x (X.pickT rfl rfl rfl) (by decide) ?_
    refine WL.yes rfl rfl ?_
    refine WL.x (X.pickF rfl rfl rfl) (by decide) ?_
    refine WL.x (X.pickT rfl rfl rfl) (by decide) ?_
    refine WL.x (X.assign rfl) (by decide) ?_
    refine WL.nil ?_
    refine WK.nThen ?_
    refine WC.ret ?_
    refine WK.ret1 rfl rfl (fun w' hw' => Ret.exact hw' ?_)
    first | exact bool_true (by unfold fewP; omega) | exact bool_false (by unfold fewP; omega) | exact dec_eq (by unfold fewP; omega)
   ·refine WL.yes rfl rfl ?_
    refine WL.x (X.move rfl) (by decide) ?_
    refine WL.no rfl rfl rfl (by decide) ?_
    refine WL.no rfl rfl rfl (by decide) ?_
    refine WL.no rfl rfl rfl (by decide) ?_
    refine WL.no rfl rfl rfl (by decide) ?_
    refine WL.yes rfl rfl ?_
    refine WL.x (X.pickF rfl rfl rfl) (by decide) ?_
    refine WL.yes rfl rfl ?_
    refine WL.x (X.pickF rfl rfl rfl) (by decide) ?_
    refine WL.x (X.pickT rfl rfl rfl) (by decide) ?_
    refine WL.x (X.assign rfl) (by decide) ?_
    refine WL.nil ?_
    refine WK.nThen ?_
    refine WC.ret ?_
    refine WK.ret1 rfl rfl (fun w' hw' => Ret.exact hw' ?_)
    first | exact bool_true (by unfold fewP; omega) | exact bool_false (by unfold fewP; omega) | exact dec_eq (by unfold fewP; omega)
 ·refine WL.x (X.move rfl) (by decide) ?_
  refine WL.yes rfl rfl ?_
  refine WL.x (X.field Try.runUnderlying25 rfl Try.sizeOf22 rfl) (by decide) ?_
  refine WL.yes rfl rfl ?_
  refine WL.x (X.loadB (k := 0) Try.isAgg22 rfl rfl rfl) (by decide) ?_
  refine WL.yes rfl rfl ?_
  refine WL.x (X.len Try.runUnderlying22 rfl hs2) (by decide) ?_
  refine WL.yes rfl rfl ?_
  refine WL.cond (X.gtr rfl rfl) (by decide) (fun h11 => ?_) (fun h11 => ?_)
  ·refine WL.yes rfl rfl ?_
   refine WL.x (X.move rfl) (by decide) ?_
   refine WL.yes rfl rfl ?_
   refine WL.x (X.field Try.runUnderlying25 rfl Try.sizeOf22 rfl) (by decide) ?_
   refine WL.yes rfl rfl ?_
   refine WL.x (X.loadB (k := 0) Try.isAgg22 rfl rfl rfl) (by decide) ?_
   refine WL.yes rfl rfl ?_
   refine WL.x (X.len Try.runUnderlying22 rfl hs2) (by decide) ?_
   refine WL.yes rfl rfl ?_
   refine WL.cond (X.leq rfl rfl) (by decide) (fun h12 => ?_) (fun h12 => ?_)
   ·refine WL.yes rfl rfl ?_
    refine WL.x (X.pickT rfl rfl rfl) (by decide) ?_
    refine WL.x (X.pickF rfl rfl rfl) (by decide) ?_
    refine WL.x (X.move rfl) (by decide) ?_
    refine WL.yes rfl rfl ?_
    refine WL.x (X.field Try.runUnderlying25 rfl Try.sizeOf23 rfl) (by decide) ?_
    refine WL.yes rfl rfl ?_
    refine WL.x (X.loadB (k := 0) Try.isAgg23 rfl rfl rfl) (by decide) ?_
    refine WL.yes rfl rfl ?_
    refine WL.x (X.len Try.runUnderlying23 rfl hs4) (by decide) ?_
    refine WL.yes rfl rfl ?_
    refine WL.cond (X.leq rfl rfl) (by decide) (fun h13 => ?_) (fun h13 => ?_)
    ·refine WL.yes rfl rfl ?_
     refine WL.x (X.move rfl) (by decide) ?_
     refine WL.no rfl rfl rfl (by decide) ?_
     refine WL.no rfl rfl rfl (by decide) ?_
     refine WL.no rfl rfl rfl (by decide) ?_
     refine WL.no rfl rfl rfl (by decide) ?_
     refine WL.no rfl rfl rfl (by decide) ?_
     refine WL.noU rfl rfl (by decide) ?_
     refine WL.noU rfl rfl (by decide) ?_
     refine WL.noU rfl rfl (by decide) ?_
     refine WL.noU rfl rfl (by decide) ?_
     refine WL.no rfl rfl rfl (by decide) ?_
     refine WL.yes rfl rfl ?_
     refine WL.x (X.pickT rfl rfl rfl) (by decide) ?_
     refine WL.x (X.pickT rfl rfl rfl) (by decide) ?_
     refine WL.x (X.assign rfl) (by decide) ?_
     refine WL.nil ?_
     refine WK.nThen ?_
     refine WC.ret ?_
     refine WK.ret1 rfl rfl (fun w' hw' => Ret.exact hw' ?_)
     first | exact bool_true (by unfold fewP; omega) | exact bool_false (by unfold fewP; omega) | exact dec_eq (by unfold fewP; omega)
    ·refine WL.yes rfl rfl ?_
     refine WL.x (X.move rfl) (by decide) ?_
     refine WL.yes rfl rfl ?_
     refine WL.x (X.field Try.runUnderlying25 rfl Try.sizeOf23 rfl) (by decide) ?_
     refine WL.yes rfl rfl ?_
     refine WL.x (X.loadB (k := 0) Try.isAgg23 rfl rfl rfl) (by decide) ?_
     refine WL.yes rfl rfl ?_
     refine WL.x (X.len Try.runUnderlying23 rfl hs4) (by decide) ?_
     refine WL.yes rfl rfl ?_
     refine WL.cond (X.gtr rfl rfl) (by decide) (fun h14 => ?_) (fun h14 => ?_)
     ·refine WL.yes rfl rfl ?_
      refine WL.x (X.move rfl) (by decide) ?_
      refine WL.yes rfl rfl ?_
      refine WL.x (X.field Try.runUnderlying25 rfl Try.sizeOf23 rfl) (by decide) ?_
      refine WL.yes rfl rfl ?_
      refine WL.x (X.loadB (k := 0) Try.isAgg23 rfl rfl rfl) (by decide) ?_
      refine WL.yes rfl rfl ?_
      refine WL.x (X.len Try.runUnderlying23 rfl hs4) (by decide) ?_
      refine WL.yes rfl rfl ?_
      refine WL.x (X.leq rfl rfl) (by decide) ?_
      refine WL.yes rfl rfl ?_
      refine WL.x (X.pickT rfl rfl rfl) (by decide) ?_
      refine WL.yes rfl rfl ?_
      refine WL.x (X.pickF rfl rfl rfl) (by decide) ?_
      refine WL.x (X.pickT rfl rfl rfl) (by decide) ?_
      refine WL.x (X.assign rfl) (by decide) ?_
      refine WL.nil ?_
      refine WK.nThen ?_
      refine WC.ret ?_
      refine WK.ret1 rfl rfl (fun w' hw' => Ret.exact hw' ?_)
      first | exact bool_true (by unfold fewP; omega) | exact bool_false (by unfold fewP; omega) | exact dec_eq (by unfold fewP; omega)
     ·refine WL.yes rfl rfl ?_
      refine WL.x (X.move rfl) (by decide) ?_
      refine WL.no rfl rfl rfl (by decide) ?_
      refine WL.no rfl rfl rfl (by decide) ?_
      refine WL.no rfl rfl rfl (by decide) ?_
      refine WL.no rfl rfl rfl (by decide) ?_
      refine WL.yes rfl rfl ?_
      refine WL.x (X.pickF rfl rfl rfl) (by decide) ?_
      refine WL.yes rfl rfl ?_
      refine WL.x (X.pickF rfl rfl rfl) (by decide) ?_
      refine WL.x (X.pickT rfl rfl rfl) (by decide) ?_
      refine WL.x (X.assign rfl) (by decide) ?_
      refine WL.nil ?_
      refine WK.nThen ?_
      refine WC.ret ?_
      refine WK.ret1 rfl rfl (fun w' hw' => Ret.exact hw' ?_)
      first | exact bool_true (by unfold fewP; omega) | exact bool_false (by unfold fewP; omega) | exact dec_eq (by unfold fewP; omega)
   ·refine WL.yes rfl rfl ?_
    refine WL.x (X.pickT rfl rfl rfl) (by decide) ?_
    refine WL.x (X.pickF rfl rfl rfl) (by decide) ?_
    refine WL.x (X.move rfl) (by decide) ?_
    refine WL.no rfl rfl rfl (by decide) ?_
    refine WL.no rfl rfl rfl (by decide) ?_
    refine WL.no rfl rfl rfl (by decide) ?_
    refine WL.no rfl rfl rfl (by decide) ?_
    refine WL.no rfl rfl rfl (by decide) ?_
    refine WL.noU rfl rfl (by decide) ?_
    refine WL.noU rfl rfl (by decide) ?_
    refine WL.noU rfl rfl (by decide) ?_
    refine WL.noU rfl rfl (by decide) ?_
    refine WL.noU rfl rfl (by decide) ?_
    refine WL.noU rfl rfl (by decide) ?_
    refine WL.noU rfl rfl (by decide) ?_
    refine WL.noU rfl rfl (by decide) ?_
    refine WL.noU rfl rfl (by decide) ?_
    refine WL.noU rfl rfl (by decide) ?_
    refine WL.no rfl rfl rfl (by decide) ?_
    refine WL.x (X.pickF rfl rfl rfl) (by decide) ?_
    refine WL.x (X.assign rfl) (by decide) ?_
    refine WL.nil ?_
    refine WK.nThen ?_
    refine WC.ret ?_
    refine WK.ret1 rfl rfl (fun w' hw' => Ret.exact hw' ?_)
    first | exact bool_true (by unfold fewP; omega) | exact bool_false (by unfold fewP; omega) | exact dec_eq (by unfold fewP; omega)
  ·refine WL.yes rfl rfl ?_
   refine WL.x (X.move rfl) (by decide) ?_
   refine WL.no rfl rfl rfl (by decide) ?_
   refine WL.no rfl rfl rfl (by decide) ?_
   refine WL.no rfl rfl rfl (by decide) ?_
   refine WL.no rfl rfl rfl (by decide) ?_
   refine WL.yes rfl rfl ?_
   refine WL.x (X.pickF rfl rfl rfl) (by decide) ?_
   refine WL.x (X.pickF rfl rfl rfl) (by decide) ?_
   refine WL.x (X.move rfl) (by decide) ?_
   refine WL.no rfl rfl rfl (by decide) ?_
   refine WL.no rfl rfl rfl (by decide) ?_
   refine WL.no rfl rfl rfl (by decide) ?_
   refine WL.no rfl rfl rfl (by decide) ?_
   refine WL.no rfl rfl rfl (by decide) ?_
   refine WL.noU rfl rfl (by decide) ?_
   refine WL.noU rfl rfl (by decide) ?_
   refine WL.noU rfl rfl (by decide) ?_
   refine WL.noU rfl rfl (by decide) ?_
   refine WL.noU rfl rfl (by decide) ?_
   refine WL.noU rfl rfl (by decide) ?_
   refine WL.noU rfl rfl (by decide) ?_
   refine WL.noU rfl rfl (by decide) ?_
   refine WL.noU rfl rfl (by decide) ?_
   refine WL.noU rfl rfl (by decide) ?_
   refine WL.no rfl rfl rfl (by decide) ?_
   refine WL.x (X.pickF rfl rfl rfl) (by decide) ?_
   refine WL.x (X.assign rfl) (by decide) ?_
   refine WL.nil ?_
   refine WK.nThen ?_
   refine WC.ret ?_
   refine WK.ret1 rfl rfl (fun w' hw' => Ret.exact hw' ?_)
   first | exact bool_true (by unfold fewP; omega) | exact bool_false (by unfold fewP; omega) | exact dec_eq (by unfold fewP; omega)

theorem light38 (m : Mem) (cx : List Value) (x : Rl) (hx : Enc.rd m cx x)   : Exact Try.prog 38 #[.agg cx.toArray] m (.bool (decide (lightP x))) := by
 obtain ⟨v1, v3, rfl, hs2, hs4⟩ := hx
 have hl5 := hs2.le
 have hl6 := hs4.le
 refine Exact.start Try.func38 rfl Try.ntmps38 rfl fun wld => ?_
 refine WC.seq ?_
 refine WC.region ?_
 refine WL.tn (T.boxB rfl rfl) (by decide) fun b7 => ?_
 refine WL.x (X.assign rfl) (by decide) ?_
 refine WL.nil ?_
 refine WK.nThen ?_
 refine WC.seq ?_
 refine WC.region ?_
 refine WL.x (X.field Try.runUnderlying52 rfl Try.sizeOf28 rfl) (by decide) ?_
 refine WL.x (X.loadB (k := 0) Try.isAgg28 rfl rfl rfl) (by decide) ?_
 refine WL.x (X.len Try.runUnderlying28 rfl hs2) (by decide) ?_
 refine WL.cond (X.leq rfl rfl) (by decide) (fun h8 => ?_) (fun h8 => ?_)
 ·refine WL.x (X.move rfl) (by decide) ?_
  refine WL.yes rfl rfl ?_
  refine WL.x (X.field Try.runUnderlying52 rfl Try.sizeOf28 rfl) (by decide) ?_
  refine WL.yes rfl rfl ?_
  refine WL.x (X.loadB (k := 0) Try.isAgg28 rfl rfl rfl) (by decide) ?_
  refine WL.yes rfl rfl ?_
  refine WL.x (X.len Try.runUnderlying28 rfl hs4) (by decide) ?_
  refine WL.yes rfl rfl ?_
  refine WL.x (X.leq rfl rfl) (by decide) ?_
  refine WL.x (X.pickT rfl rfl rfl) (by decide) ?_
  refine WL.x (X.assign rfl) (by decide) ?_
  refine WL.nil ?_
  refine WK.nThen ?_
  refine WC.ret ?_
  refine WK.ret1 rfl rfl (fun w' hw' => Ret.exact hw' ?_)
  first | exact bool_true (by unfold lightP; omega) | exact bool_false (by unfold lightP; omega) | exact dec_eq (by unfold lightP; omega)
 ·refine WL.x (X.move rfl) (by decide) ?_
  refine WL.no rfl rfl rfl (by decide) ?_
  refine WL.no rfl rfl rfl (by decide) ?_
  refine WL.no rfl rfl rfl (by decide) ?_
  refine WL.no rfl rfl rfl (by decide) ?_
  refine WL.x (X.pickF rfl rfl rfl) (by decide) ?_
  refine WL.x (X.assign rfl) (by decide) ?_
  refine WL.nil ?_
  refine WK.nThen ?_
  refine WC.ret ?_
  refine WK.ret1 rfl rfl (fun w' hw' => Ret.exact hw' ?_)
  first | exact bool_true (by unfold lightP; omega) | exact bool_false (by unfold lightP; omega) | exact dec_eq (by unfold lightP; omega)

theorem in41 (m : Mem) (cs : List Value) (s : Span) (hs : Enc.rd m cs s) (n : Int)   : Exact Try.prog 41 #[.agg cs.toArray, .int .i64 (n)] m (.bool (decide (inT s n))) := by
 obtain rfl := hs
 refine Exact.start Try.func41 rfl Try.ntmps41 rfl fun wld => ?_
 refine WC.seq ?_
 refine WC.region ?_
 refine WL.tn (T.boxB rfl rfl) (by decide) fun b1 => ?_
 refine WL.x (X.assign rfl) (by decide) ?_
 refine WL.nil ?_
 refine WK.nThen ?_
 refine WC.seq ?_
 refine WC.region ?_
 refine WL.x (X.field Try.runUnderlying33 rfl Try.sizeOf3 rfl) (by decide) ?_
 refine WL.x (X.loadB (k := 0) Try.isAgg3 rfl rfl rfl) (by decide) ?_
 refine WL.x (X.move rfl) (by decide) ?_
 refine WL.cond (X.leq rfl rfl) (by decide) (fun h2 => ?_) (fun h2 => ?_)
 ·refine WL.x (X.move rfl) (by decide) ?_
  refine WL.yes rfl rfl ?_
  refine WL.x (X.move rfl) (by decide) ?_
  refine WL.yes rfl rfl ?_
  refine WL.x (X.field Try.runUnderlying33 rfl Try.sizeOf3 rfl) (by decide) ?_
  refine WL.yes rfl rfl ?_
  refine WL.x (X.loadB (k := 0) Try.isAgg3 rfl rfl rfl) (by decide) ?_
  refine WL.yes rfl rfl ?_
  refine WL.x (X.leq rfl rfl) (by decide) ?_
  refine WL.x (X.pickT rfl rfl rfl) (by decide) ?_
  refine WL.x (X.assign rfl) (by decide) ?_
  refine WL.nil ?_
  refine WK.nThen ?_
  refine WC.ret ?_
  refine WK.ret1 rfl rfl (fun w' hw' => Ret.exact hw' ?_)
  first | exact bool_true (by unfold inT; omega) | exact bool_false (by unfold inT; omega) | exact dec_eq (by unfold inT; omega)
 ·refine WL.x (X.move rfl) (by decide) ?_
  refine WL.no rfl rfl rfl (by decide) ?_
  refine WL.no rfl rfl rfl (by decide) ?_
  refine WL.no rfl rfl rfl (by decide) ?_
  refine WL.no rfl rfl rfl (by decide) ?_
  refine WL.x (X.pickF rfl rfl rfl) (by decide) ?_
  refine WL.x (X.assign rfl) (by decide) ?_
  refine WL.nil ?_
  refine WK.nThen ?_
  refine WC.ret ?_
  refine WK.ret1 rfl rfl (fun w' hw' => Ret.exact hw' ?_)
  first | exact bool_true (by unfold inT; omega) | exact bool_false (by unfold inT; omega) | exact dec_eq (by unfold inT; omega)

theorem mean40 (m : Mem) (cs : List Value) (s : Ser) (hs : Enc.rd m cs s) (vl : Value) (l : List Int) (hl : Sl m vl l) (cx : List Value) (x : Span) (hx : Enc.rd m cx x)  (hln : l.length ≤ 1000) (hlb : ∀ i, i < l.length → -1000000 ≤ gt l i ∧ gt l i ≤ 1000000) : Exact Try.prog 40 #[.agg cs.toArray, vl, .agg cx.toArray] m (.tuple #[.agg [.int .i64 ((meanR s l x).1.Num), .int .i64 ((meanR s l x).1.Den)].toArray, .agg [.int .i64 ((meanR s l x).2.1.Lo), .int .i64 ((meanR s l x).2.1.Hi)].toArray, .bool (decide (0 < (meanR s l x).1.Den))]) := by
 obtain ⟨v1, v3, rfl, hs2, hs4⟩ := hs
 have hl5 := hs2.le
 have hl6 := hs4.le
 have ll := hl.le
 obtain rfl := hx
 refine Exact.start Try.func40 rfl Try.ntmps40 rfl fun wld => ?_
 refine WC.seq ?_
 refine WC.region ?_
 refine WL.tn (T.boxB rfl rfl) (by decide) fun b7 => ?_
 refine WL.tn (T.boxB rfl rfl) (by decide) fun b8 => ?_
 refine WL.tn (T.alloc Try.zeroValue45 rfl) (by decide) fun b9 => ?_
 refine WL.tn (T.alloc Try.zeroValue33 rfl) (by decide) fun b10 => ?_
 refine WL.x (X.assign rfl) (by decide) ?_
 refine WL.nil ?_
 refine WK.nThen ?_
 refine WC.seq ?_
 refine WC.region ?_
 refine WL.tn (T.alloc Try.zeroValue45 rfl) (by decide) fun b11 => ?_
 refine WL.nil ?_
 refine WK.nThen ?_
 refine WC.seq ?_
 refine WC.region ?_
 refine WL.x (V := Value.agg [.int .i64 (1099511627776), .int .i64 (-1099511627776)].toArray) (X.build Try.zeroValue33 Try.runUnderlying33 (places33 _ Try.underlying33) rfl rfl) (by decide) ?_
 refine WL.tn (T.alloc Try.zeroValue33 rfl) (by decide) fun b12 => ?_
 refine WL.ts (T.storeBA (k := 0) Try.sizeOf33 rfl rfl rfl (one_cons rfl (one_cons rfl one_nil)) rfl rfl) ?_
 refine WL.nil ?_
 refine WK.nThen ?_
 refine WC.seq ?_
 refine WC.seq ?_
 refine WC.region ?_
 refine WL.x (X.assign rfl) (by decide) ?_
 refine WL.nil ?_
 refine WK.nThen ?_
 refine WC.block ?_
 have hz1 : mnN s l x 0 = 0 := rfl
 have hz2 : mnD s x 0 = 0 := rfl
 have hz3 : (mnE s l x 0).Lo = 1099511627776 := rfl
 have hz4 : (mnE s l x 0).Hi = -1099511627776 := rfl
 refine WC.loop (G := Nat) (fun k => l.length - k) (fun k => m) (fun k => [blk b12 33 [.int .i64 ((mnE s l x k).Lo), .int .i64 ((mnE s l x k).Hi)], blk b11 45 [.int .i64 (mnN s l x k), .int .i64 (mnD s x k)], blk b10 33 [.int .i64 (0), .int .i64 (0)], blk b9 45 [.int .i64 (0), .int .i64 (0)], blk b8 33 [.int .i64 (x.Lo), .int .i64 (x.Hi)], blk b7 25 [v1, v3]]) (fun k => [(1, vl), (3, .pointer (some ⟨b7, 0, none⟩)), (5, .pointer (some ⟨b8, 0, none⟩)), (6, .pointer (some ⟨b9, 0, none⟩)), (7, .pointer (some ⟨b10, 0, none⟩)), (9, .pointer (some ⟨b11, 0, none⟩)), (10, .pointer (some ⟨b12, 0, none⟩)), (11, .int .i64 (↑k))]) (fun k => k ≤ l.length ∧ k ≤ s.Values.length) 0 rfl (.refl _) (.cons rfl (.cons rfl (.cons rfl (.cons rfl (.cons rfl (.cons rfl (.cons rfl (.cons rfl .nil)))))))) ?_ ?_
 ·exact ⟨Nat.zero_le _, Nat.zero_le _⟩
 ·rintro k hF13
  show WK _ _ m [blk b12 33 [.int .i64 ((mnE s l x k).Lo), .int .i64 ((mnE s l x k).Hi)], blk b11 45 [.int .i64 (mnN s l x k), .int .i64 (mnD s x k)], blk b10 33 [.int .i64 (0), .int .i64 (0)], blk b9 45 [.int .i64 (0), .int .i64 (0)], blk b8 33 [.int .i64 (x.Lo), .int .i64 (x.Hi)], blk b7 25 [v1, v3]] [(1, vl), (3, .pointer (some ⟨b7, 0, none⟩)), (5, .pointer (some ⟨b8, 0, none⟩)), (6, .pointer (some ⟨b9, 0, none⟩)), (7, .pointer (some ⟨b10, 0, none⟩)), (9, .pointer (some ⟨b11, 0, none⟩)), (10, .pointer (some ⟨b12, 0, none⟩)), (11, .int .i64 (↑k))] _
  replace hF13 : k ≤ l.length ∧ k ≤ s.Values.length := hF13
  obtain ⟨hk, hk2⟩ := hF13
  have hnb := mnN_bd (s := s) (l := l) (x := x) (n := k) (fun i hi => hlb i (by omega))
  have hdb := mnD_bd s x k
  have hlk := fun h => hlb k h
  refine WC.seq ?_
  refine WC.seq ?_
  refine WC.region ?_
  refine WL.x (X.move rfl) (by decide) ?_
  refine WL.x (X.move rfl) (by decide) ?_
  refine WL.x (X.len Try.runUnderlying28 rfl hl) (by decide) ?_
  refine WL.cond (X.lss rfl rfl) (by decide) (fun h14 => ?_) (fun h14 => ?_)
  ·refine WL.x (X.move rfl) (by decide) ?_
   refine WL.yes rfl rfl ?_
   refine WL.x (X.move rfl) (by decide) ?_
   refine WL.yes rfl rfl ?_
   refine WL.x (X.field Try.runUnderlying25 rfl Try.sizeOf22 rfl) (by decide) ?_
   refine WL.yes rfl rfl ?_
   refine WL.x (X.loadB (k := 5) Try.isAgg22 rfl rfl rfl) (by decide) ?_
   refine WL.yes rfl rfl ?_
   refine WL.x (X.len Try.runUnderlying22 rfl hs2) (by decide) ?_
   refine WL.yes rfl rfl ?_
   refine WL.cond (X.lss rfl rfl) (by decide) (fun h15 => ?_) (fun h15 => ?_)
   ·refine WL.x (X.pickT rfl rfl rfl) (by decide) ?_
    refine WL.nil ?_
    refine WK.nThen ?_
    refine WC.condT rfl ?_
    refine WC.skip ?_
    refine WK.nThen ?_
    refine WC.seq ?_
    refine WC.block ?_
    refine WC.seq ?_
    refine WC.draw (π := (.cons 0 (.cons 1 (.cons 2 (.cons 3 (.cons 4 (.cons 5 (.cons 6 (.cons 7 .done))))))))) [] [] rfl (by kernel_rfl) ?_
    refine DW.x rfl rfl (X.loadBA (k := 4) Try.isAgg33 Try.sizeOf33 rfl rfl rfl) (by decide) ?_
    refine DW.x rfl rfl (X.field Try.runUnderlying25 rfl Try.sizeOf22 rfl) (by decide) ?_
    refine DW.x rfl rfl (X.loadB (k := 5) Try.isAgg22 rfl rfl rfl) (by decide) ?_
    refine DW.x rfl rfl (X.move rfl) (by decide) ?_
    refine DW.xe rfl rfl (E.idxN k Try.runUnderlying22 Try.sizeOf62 rfl rfl hs2 (by omega)) (by decide) (fun p16 hp17 => ?_)
    have hp18 := At.Val_0 hp17
    refine DW.x rfl rfl (X.field Try.runUnderlying62 rfl Try.sizeOf3 rfl) (by decide) ?_
    refine DW.x rfl rfl (X.loadInt Try.isAgg3 rfl hp18) (by decide) ?_
    refine DW.cond rfl rfl (X.call Try.call41 rfl (in41 _ _ x rfl _ )) (by decide) (fun h19 => ?_) (fun h19 => ?_)
    ·refine DW.nil ?_
     refine WK.nThen ?_
     refine WC.condT rfl ?_
     refine WC.seq ?_
     refine WC.draw (π := (.cons 0 (.cons 1 (.cons 2 (.cons 3 (.cons 4 (.cons 5 (.cons 6 (.cons 7 (.cons 8 .done)))))))))) [8] [8] rfl (by kernel_rfl) ?_
     refine DW.x rfl rfl (X.field Try.runUnderlying45 rfl Try.sizeOf3 rfl) (by decide) ?_
     refine DW.x rfl rfl (X.loadB (k := 1) Try.isAgg3 rfl rfl rfl) (by decide) ?_
     refine DW.x rfl rfl (X.move rfl) (by decide) ?_
     refine DW.x rfl rfl (X.move rfl) (by decide) ?_
     refine DW.xe rfl rfl (E.idxN k Try.runUnderlying28 Try.sizeOf3 rfl rfl hl (by omega)) (by decide) (fun p20 hp21 => ?_)
     refine DW.x rfl rfl (X.loadInt Try.isAgg3 rfl hp21) (by decide) ?_
     refine DW.x rfl rfl (X.add rfl rfl (by omega) (by omega)) (by decide) ?_
     refine DW.x rfl rfl (X.field Try.runUnderlying45 rfl Try.sizeOf3 rfl) (by decide) ?_
     refine DW.ts rfl rfl rfl rfl (T.storeB (k := 1) Try.sizeOf3 rfl rfl rfl rfl (Nat.le_of_ble_eq_true rfl)) ?_
     refine DW.nil ?_
     refine WK.nThen ?_
     refine WC.seq ?_
     refine WC.region ?_
     refine WL.x (X.field Try.runUnderlying45 rfl Try.sizeOf3 rfl) (by decide) ?_
     refine WL.x (X.loadB (k := 1) Try.isAgg3 rfl rfl rfl) (by decide) ?_
     refine WL.x (X.add rfl rfl (by omega) (by omega)) (by decide) ?_
     refine WL.x (X.field Try.runUnderlying45 rfl Try.sizeOf3 rfl) (by decide) ?_
     refine WL.ts (T.storeB (k := 1) Try.sizeOf3 rfl rfl rfl rfl (Nat.le_of_ble_eq_true rfl)) ?_
     refine WL.nil ?_
     refine WK.nThen ?_
     refine WC.draw (π := (.cons 0 (.cons 1 (.cons 2 (.cons 3 (.cons 4 (.cons 5 (.cons 6 (.cons 7 (.cons 8 (.cons 9 (.cons 10 (.cons 11 (.cons 12 (.cons 13 (.cons 14 (.cons 15 .done))))))))))))))))) [15] [15] rfl (by kernel_rfl) ?_
     refine DW.x rfl rfl (X.field Try.runUnderlying33 rfl Try.sizeOf3 rfl) (by decide) ?_
     refine DW.x rfl rfl (X.loadB (k := 0) Try.isAgg3 rfl rfl rfl) (by decide) ?_
     refine DW.x rfl rfl (X.move rfl) (by decide) ?_
     refine DW.x rfl rfl (X.move rfl) (by decide) ?_
     refine DW.xe rfl rfl (E.idxN k Try.runUnderlying28 Try.sizeOf3 rfl rfl hl (by omega)) (by decide) (fun p22 hp23 => ?_)
     refine DW.x rfl rfl (X.loadInt Try.isAgg3 rfl hp23) (by decide) ?_
     refine DW.x rfl rfl (X.mn rfl rfl) (by decide) ?_
     refine DW.x rfl rfl (X.field Try.runUnderlying33 rfl Try.sizeOf3 rfl) (by decide) ?_
     refine DW.x rfl rfl (X.loadB (k := 0) Try.isAgg3 rfl rfl rfl) (by decide) ?_
     refine DW.x rfl rfl (X.move rfl) (by decide) ?_
     refine DW.x rfl rfl (X.move rfl) (by decide) ?_
     refine DW.xe rfl rfl (E.idxN k Try.runUnderlying28 Try.sizeOf3 rfl rfl hl (by omega)) (by decide) (fun p24 hp25 => ?_)
     refine DW.x rfl rfl (X.loadInt Try.isAgg3 rfl hp25) (by decide) ?_
     refine DW.x rfl rfl (X.mx rfl rfl) (by decide) ?_
     refine DW.x (V := Value.agg [.int .i64 (min ((mnE s l x k).Lo) (gt l k)), .int .i64 (max ((mnE s l x k).Hi) (gt l k))].toArray) rfl rfl (X.build Try.zeroValue33 Try.runUnderlying33 (places33 _ Try.underlying33) rfl rfl) (by decide) ?_
     refine DW.ts rfl rfl rfl rfl (T.storeBA (k := 0) Try.sizeOf33 rfl rfl rfl (one_cons rfl (one_cons rfl one_nil)) rfl rfl) ?_
     refine DW.nil ?_
     refine WK.nBlock ?_
     refine WK.nThen ?_
     refine WC.region ?_
     refine WL.x (X.move rfl) (by decide) ?_
     refine WL.x (X.add rfl rfl (by omega) (by omega)) (by decide) ?_
     refine WL.x (X.assign rfl) (by decide) ?_
     refine WL.nil ?_
     refine WK.nThen ?_
     have hq1 : mnN s l x (k + 1) = mnN s l x k + gt l k := (by simp only [mnN, sumN]; rw [if_pos (by assumption)])
     have hq2 : mnD s x (k + 1) = mnD s x k + 1 := (by rw [mnD, if_pos (by assumption)])
     have hq3 : mnE s l x (k + 1) = ⟨min (mnE s l x k).Lo (gt l k), max (mnE s l x k).Hi (gt l k)⟩ := (by rw [mnE, if_pos (by assumption)])
     have hq4 : (mnE s l x (k + 1)).Lo = min (mnE s l x k).Lo (gt l k) := (by rw [hq3])
     have hq5 : (mnE s l x (k + 1)).Hi = max (mnE s l x k).Hi (gt l k) := (by rw [hq3])
     rw [← hq1, ← hq2, ← hq4, ← hq5]
     refine WK.next (k + 1) rfl (.refl _) (.cons rfl (.cons rfl (.cons rfl (.cons rfl (.cons rfl (.cons rfl (.cons rfl (.cons rfl .nil)))))))) ?_ ?_
     ·omega
     ·omega
    ·refine DW.nil ?_
     refine WK.nThen ?_
     refine WC.condF rfl ?_
     refine WC.skip ?_
     refine WK.nBlock ?_
     refine WK.nThen ?_
     refine WC.region ?_
     refine WL.x (X.move rfl) (by decide) ?_
     refine WL.x (X.add rfl rfl (by omega) (by omega)) (by decide) ?_
     refine WL.x (X.assign rfl) (by decide) ?_
     refine WL.nil ?_
     refine WK.nThen ?_
     have hq1 : mnN s l x (k + 1) = mnN s l x k := (by simp only [mnN, sumN]; rw [if_neg (by assumption)]; omega)
     have hq2 : mnD s x (k + 1) = mnD s x k := (by rw [mnD, if_neg (by assumption)]; omega)
     have hq3 : mnE s l x (k + 1) = mnE s l x k := (by rw [mnE, if_neg (by assumption)])
     have hq4 : (mnE s l x (k + 1)).Lo = (mnE s l x k).Lo := (by rw [hq3])
     have hq5 : (mnE s l x (k + 1)).Hi = (mnE s l x k).Hi := (by rw [hq3])
     rw [show mnN s l x k = mnN s l x (k + 1) from hq1.symm, show mnD s x k = mnD s x (k + 1) from hq2.symm, show (mnE s l x k).Lo = (mnE s l x (k + 1)).Lo from hq4.symm, show (mnE s l x k).Hi = (mnE s l x (k + 1)).Hi from hq5.symm]
     refine WK.next (k + 1) rfl (.refl _) (.cons rfl (.cons rfl (.cons rfl (.cons rfl (.cons rfl (.cons rfl (.cons rfl (.cons rfl .nil)))))))) ?_ ?_
     ·omega
     ·omega
   ·refine WL.x (X.pickT rfl rfl rfl) (by decide) ?_
    refine WL.nil ?_
    refine WK.nThen ?_
    refine WC.condF rfl ?_
    refine WC.exit ?_
    refine WK.eThen ?_
    refine WK.eThen ?_
    refine WK.eHit ?_
    refine WK.nThen ?_
    have hkm : k = mnC s l := (by unfold mnC; omega)
    refine WC.cut (G := Mem) (fun m26 => m26) (fun m26 => [blk b12 33 [.int .i64 ((mnE s l x k).Lo), .int .i64 ((mnE s l x k).Hi)], blk b11 45 [.int .i64 (mnN s l x k), .int .i64 (mnD s x k)], blk b10 33 [.int .i64 ((mnE s l x k).Lo), .int .i64 ((mnE s l x k).Hi)], blk b9 45 [.int .i64 (mnN s l x k), .int .i64 (mnD s x k)], blk b8 33 [.int .i64 (x.Lo), .int .i64 (x.Hi)], blk b7 25 [v1, v3]]) (fun m26 => [(6, .pointer (some ⟨b9, 0, none⟩)), (7, .pointer (some ⟨b10, 0, none⟩)), (8, .bool (decide (0 < (mnD s x k))))]) (fun m26 => m.le m26 ∧ Sl (α := Val) m26 v1 s.Values ∧ Sl (α := Shf) m26 v3 s.Shifts) ?_ ?_
    ·refine WC.draw (π := (.cons 0 (.cons 2 (.fork (.cons 1 (.fork (.cons 3 (.cons 4 (.cons 5 (.cons 6 (.cons 7 .done))))) (.cons 5 (.fork (.cons 3 (.cons 4 (.cons 6 (.cons 7 .done)))) (.cons 6 (.cons 3 (.cons 4 (.cons 7 .done)))))))) (.fork (.cons 3 (.cons 4 (.fork (.cons 1 (.cons 5 (.cons 6 (.cons 7 .done)))) (.cons 5 (.cons 1 (.cons 6 (.cons 7 .done))))))) (.cons 5 (.fork (.cons 1 (.fork (.cons 3 (.cons 4 (.cons 6 (.cons 7 .done)))) (.cons 6 (.cons 3 (.cons 4 (.cons 7 .done)))))) (.cons 3 (.cons 4 (.cons 1 (.cons 6 (.cons 7 .done)))))))))))) [1, 3, 5, 6] [5, 6, 100002, 100004] rfl (by kernel_rfl) ?_
     refine DW.x rfl rfl (X.loadBA (k := 1) Try.isAgg45 Try.sizeOf45 rfl rfl rfl) (by decide) ?_
     refine DW.xf rfl rfl rfl (fun _ _ hle_ => (X.field Try.runUnderlying45 rfl Try.sizeOf3 rfl)) (by decide) ?_
     refine DW.fork (List.cons_ne_nil _ _) ?_ ?_
     ·refine DW.xp rfl rfl rfl (fun _ => (X.loadBA (k := 0) Try.isAgg33 Try.sizeOf33 rfl rfl rfl)) (by decide) ?_
      refine DW.fork (List.cons_ne_nil _ _) ?_ ?_
      ·refine DW.xp rfl rfl rfl (fun _ => (X.loadB (k := 1) Try.isAgg3 rfl rfl rfl)) (by decide) ?_
       refine DW.xf rfl rfl rfl (fun _ _ hle_ => (X.gtr rfl rfl)) (by decide) ?_
       refine DW.ts rfl rfl rfl rfl (T.storeBA (k := 3) Try.sizeOf45 rfl rfl rfl (one_cons rfl (one_cons rfl one_nil)) rfl rfl) ?_
       refine DW.ts rfl rfl rfl rfl (T.storeBA (k := 2) Try.sizeOf33 rfl rfl rfl (one_cons rfl (one_cons rfl one_nil)) rfl rfl) ?_
       refine DW.x rfl rfl (X.assign rfl) (by decide) ?_
       refine DW.nil ?_
       refine WK.nThen ?_
       exact WK.meet m rfl (.refl _) (.cons rfl (.cons rfl (.cons rfl .nil))) ⟨(Mem.le_refl _), hs2, hs4⟩
      ·refine DW.ts rfl rfl rfl rfl (T.storeBA (k := 3) Try.sizeOf45 rfl rfl rfl (one_cons rfl (one_cons rfl one_nil)) rfl rfl) ?_
       refine DW.fork (List.cons_ne_nil _ _) ?_ ?_
       ·refine DW.xp rfl rfl rfl (fun _ => (X.loadB (k := 1) Try.isAgg3 rfl rfl rfl)) (by decide) ?_
        refine DW.xf rfl rfl rfl (fun _ _ hle_ => (X.gtr rfl rfl)) (by decide) ?_
        refine DW.ts rfl rfl rfl rfl (T.storeBA (k := 2) Try.sizeOf33 rfl rfl rfl (one_cons rfl (one_cons rfl one_nil)) rfl rfl) ?_
        refine DW.x rfl rfl (X.assign rfl) (by decide) ?_
        refine DW.nil ?_
        refine WK.nThen ?_
        exact WK.meet m rfl (.refl _) (.cons rfl (.cons rfl (.cons rfl .nil))) ⟨(Mem.le_refl _), hs2, hs4⟩
       ·refine DW.ts rfl rfl rfl rfl (T.storeBA (k := 2) Try.sizeOf33 rfl rfl rfl (one_cons rfl (one_cons rfl one_nil)) rfl rfl) ?_
        refine DW.xp rfl rfl rfl (fun _ => (X.loadB (k := 1) Try.isAgg3 rfl rfl rfl)) (by decide) ?_
        refine DW.xf rfl rfl rfl (fun _ _ hle_ => (X.gtr rfl rfl)) (by decide) ?_
        refine DW.x rfl rfl (X.assign rfl) (by decide) ?_
        refine DW.nil ?_
        refine WK.nThen ?_
        exact WK.meet m rfl (.refl _) (.cons rfl (.cons rfl (.cons rfl .nil))) ⟨(Mem.le_refl _), hs2, hs4⟩
     ·refine DW.fork (List.cons_ne_nil _ _) ?_ ?_
      ·refine DW.xp rfl rfl rfl (fun _ => (X.loadB (k := 1) Try.isAgg3 rfl rfl rfl)) (by decide) ?_
       refine DW.xf rfl rfl rfl (fun _ _ hle_ => (X.gtr rfl rfl)) (by decide) ?_
       refine DW.fork (List.cons_ne_nil _ _) ?_ ?_
       ·refine DW.xp rfl rfl rfl (fun _ => (X.loadBA (k := 0) Try.isAgg33 Try.sizeOf33 rfl rfl rfl)) (by decide) ?_
        refine DW.ts rfl rfl rfl rfl (T.storeBA (k := 3) Try.sizeOf45 rfl rfl rfl (one_cons rfl (one_cons rfl one_nil)) rfl rfl) ?_
        refine DW.ts rfl rfl rfl rfl (T.storeBA (k := 2) Try.sizeOf33 rfl rfl rfl (one_cons rfl (one_cons rfl one_nil)) rfl rfl) ?_
        refine DW.x rfl rfl (X.assign rfl) (by decide) ?_
        refine DW.nil ?_
        refine WK.nThen ?_
        exact WK.meet m rfl (.refl _) (.cons rfl (.cons rfl (.cons rfl .nil))) ⟨(Mem.le_refl _), hs2, hs4⟩
       ·refine DW.ts rfl rfl rfl rfl (T.storeBA (k := 3) Try.sizeOf45 rfl rfl rfl (one_cons rfl (one_cons rfl one_nil)) rfl rfl) ?_
        refine DW.xp rfl rfl rfl (fun _ => (X.loadBA (k := 0) Try.isAgg33 Try.sizeOf33 rfl rfl rfl)) (by decide) ?_
        refine DW.ts rfl rfl rfl rfl (T.storeBA (k := 2) Try.sizeOf33 rfl rfl rfl (one_cons rfl (one_cons rfl one_nil)) rfl rfl) ?_
        refine DW.x rfl rfl (X.assign rfl) (by decide) ?_
        refine DW.nil ?_
        refine WK.nThen ?_
        exact WK.meet m rfl (.refl _) (.cons rfl (.cons rfl (.cons rfl .nil))) ⟨(Mem.le_refl _), hs2, hs4⟩
      ·refine DW.ts rfl rfl rfl rfl (T.storeBA (k := 3) Try.sizeOf45 rfl rfl rfl (one_cons rfl (one_cons rfl one_nil)) rfl rfl) ?_
       refine DW.fork (List.cons_ne_nil _ _) ?_ ?_
       ·refine DW.xp rfl rfl rfl (fun _ => (X.loadBA (k := 0) Try.isAgg33 Try.sizeOf33 rfl rfl rfl)) (by decide) ?_
        refine DW.fork (List.cons_ne_nil _ _) ?_ ?_
        ·refine DW.xp rfl rfl rfl (fun _ => (X.loadB (k := 1) Try.isAgg3 rfl rfl rfl)) (by decide) ?_
         refine DW.xf rfl rfl rfl (fun _ _ hle_ => (X.gtr rfl rfl)) (by decide) ?_
         refine DW.ts rfl rfl rfl rfl (T.storeBA (k := 2) Try.sizeOf33 rfl rfl rfl (one_cons rfl (one_cons rfl one_nil)) rfl rfl) ?_
         refine DW.x rfl rfl (X.assign rfl) (by decide) ?_
         refine DW.nil ?_
         refine WK.nThen ?_
         exact WK.meet m rfl (.refl _) (.cons rfl (.cons rfl (.cons rfl .nil))) ⟨(Mem.le_refl _), hs2, hs4⟩
        ·refine DW.ts rfl rfl rfl rfl (T.storeBA (k := 2) Try.sizeOf33 rfl rfl rfl (one_cons rfl (one_cons rfl one_nil)) rfl rfl) ?_
         refine DW.xp rfl rfl rfl (fun _ => (X.loadB (k := 1) Try.isAgg3 rfl rfl rfl)) (by decide) ?_
         refine DW.xf rfl rfl rfl (fun _ _ hle_ => (X.gtr rfl rfl)) (by decide) ?_
         refine DW.x rfl rfl (X.assign rfl) (by decide) ?_
         refine DW.nil ?_
         refine WK.nThen ?_
         exact WK.meet m rfl (.refl _) (.cons rfl (.cons rfl (.cons rfl .nil))) ⟨(Mem.le_refl _), hs2, hs4⟩
       ·refine DW.xp rfl rfl rfl (fun _ => (X.loadB (k := 1) Try.isAgg3 rfl rfl rfl)) (by decide) ?_
        refine DW.xf rfl rfl rfl (fun _ _ hle_ => (X.gtr rfl rfl)) (by decide) ?_
        refine DW.xp rfl rfl rfl (fun _ => (X.loadBA (k := 0) Try.isAgg33 Try.sizeOf33 rfl rfl rfl)) (by decide) ?_
        refine DW.ts rfl rfl rfl rfl (T.storeBA (k := 2) Try.sizeOf33 rfl rfl rfl (one_cons rfl (one_cons rfl one_nil)) rfl rfl) ?_
        refine DW.x rfl rfl (X.assign rfl) (by decide) ?_
        refine DW.nil ?_
        refine WK.nThen ?_
        exact WK.meet m rfl (.refl _) (.cons rfl (.cons rfl (.cons rfl .nil))) ⟨(Mem.le_refl _), hs2, hs4⟩
    ·rintro m26 ⟨hle27, hs28, hs29⟩
     show WK _ _ m26 [blk b12 33 [.int .i64 ((mnE s l x k).Lo), .int .i64 ((mnE s l x k).Hi)], blk b11 45 [.int .i64 (mnN s l x k), .int .i64 (mnD s x k)], blk b10 33 [.int .i64 ((mnE s l x k).Lo), .int .i64 ((mnE s l x k).Hi)], blk b9 45 [.int .i64 (mnN s l x k), .int .i64 (mnD s x k)], blk b8 33 [.int .i64 (x.Lo), .int .i64 (x.Hi)], blk b7 25 [v1, v3]] [(6, .pointer (some ⟨b9, 0, none⟩)), (7, .pointer (some ⟨b10, 0, none⟩)), (8, .bool (decide (0 < (mnD s x k))))] _
     replace hs2 := hs2.mono hle27
     replace hs4 := hs4.mono hle27
     replace hl := hl.mono hle27
     have hl30 := hs28.le
     have hl31 := hs29.le
     refine WC.ret ?_
     refine WK.retC3 3 2 rfl rfl rfl rfl rfl rfl Try.isAgg45 Try.sizeOf45 Try.isAgg33 Try.sizeOf33 (fun w' hw' => Ret.exact hw' ?_)
     subst hkm
     first | rfl | exact tup3 rfl rfl (bool_true (by assumption)) | exact tup3 rfl rfl (bool_false (by assumption))
  ·refine WL.x (X.move rfl) (by decide) ?_
   refine WL.no rfl rfl rfl (by decide) ?_
   refine WL.no rfl rfl rfl (by decide) ?_
   refine WL.no rfl rfl rfl (by decide) ?_
   refine WL.no rfl rfl rfl (by decide) ?_
   refine WL.no rfl rfl rfl (by decide) ?_
   refine WL.x (X.pickF rfl rfl rfl) (by decide) ?_
   refine WL.nil ?_
   refine WK.nThen ?_
   refine WC.condF rfl ?_
   refine WC.exit ?_
   refine WK.eThen ?_
   refine WK.eThen ?_
   refine WK.eHit ?_
   refine WK.nThen ?_
   have hkm : k = mnC s l := (by unfold mnC; omega)
   refine WC.cut (G := Mem) (fun m32 => m32) (fun m32 => [blk b12 33 [.int .i64 ((mnE s l x k).Lo), .int .i64 ((mnE s l x k).Hi)], blk b11 45 [.int .i64 (mnN s l x k), .int .i64 (mnD s x k)], blk b10 33 [.int .i64 ((mnE s l x k).Lo), .int .i64 ((mnE s l x k).Hi)], blk b9 45 [.int .i64 (mnN s l x k), .int .i64 (mnD s x k)], blk b8 33 [.int .i64 (x.Lo), .int .i64 (x.Hi)], blk b7 25 [v1, v3]]) (fun m32 => [(6, .pointer (some ⟨b9, 0, none⟩)), (7, .pointer (some ⟨b10, 0, none⟩)), (8, .bool (decide (0 < (mnD s x k))))]) (fun m32 => m.le m32 ∧ Sl (α := Val) m32 v1 s.Values ∧ Sl (α := Shf) m32 v3 s.Shifts) ?_ ?_
   ·refine WC.draw (π := (.cons 0 (.cons 2 (.fork (.cons 1 (.fork (.cons 3 (.cons 4 (.cons 5 (.cons 6 (.cons 7 .done))))) (.cons 5 (.fork (.cons 3 (.cons 4 (.cons 6 (.cons 7 .done)))) (.cons 6 (.cons 3 (.cons 4 (.cons 7 .done)))))))) (.fork (.cons 3 (.cons 4 (.fork (.cons 1 (.cons 5 (.cons 6 (.cons 7 .done)))) (.cons 5 (.cons 1 (.cons 6 (.cons 7 .done))))))) (.cons 5 (.fork (.cons 1 (.fork (.cons 3 (.cons 4 (.cons 6 (.cons 7 .done)))) (.cons 6 (.cons 3 (.cons 4 (.cons 7 .done)))))) (.cons 3 (.cons 4 (.cons 1 (.cons 6 (.cons 7 .done)))))))))))) [1, 3, 5, 6] [5, 6, 100002, 100004] rfl (by kernel_rfl) ?_
    refine DW.x rfl rfl (X.loadBA (k := 1) Try.isAgg45 Try.sizeOf45 rfl rfl rfl) (by decide) ?_
    refine DW.xf rfl rfl rfl (fun _ _ hle_ => (X.field Try.runUnderlying45 rfl Try.sizeOf3 rfl)) (by decide) ?_
    refine DW.fork (List.cons_ne_nil _ _) ?_ ?_
    ·refine DW.xp rfl rfl rfl (fun _ => (X.loadBA (k := 0) Try.isAgg33 Try.sizeOf33 rfl rfl rfl)) (by decide) ?_
     refine DW.fork (List.cons_ne_nil _ _) ?_ ?_
     ·refine DW.xp rfl rfl rfl (fun _ => (X.loadB (k := 1) Try.isAgg3 rfl rfl rfl)) (by decide) ?_
      refine DW.xf rfl rfl rfl (fun _ _ hle_ => (X.gtr rfl rfl)) (by decide) ?_
      refine DW.ts rfl rfl rfl rfl (T.storeBA (k := 3) Try.sizeOf45 rfl rfl rfl (one_cons rfl (one_cons rfl one_nil)) rfl rfl) ?_
      refine DW.ts rfl rfl rfl rfl (T.storeBA (k := 2) Try.sizeOf33 rfl rfl rfl (one_cons rfl (one_cons rfl one_nil)) rfl rfl) ?_
      refine DW.x rfl rfl (X.assign rfl) (by decide) ?_
      refine DW.nil ?_
      refine WK.nThen ?_
      exact WK.meet m rfl (.refl _) (.cons rfl (.cons rfl (.cons rfl .nil))) ⟨(Mem.le_refl _), hs2, hs4⟩
     ·refine DW.ts rfl rfl rfl rfl (T.storeBA (k := 3) Try.sizeOf45 rfl rfl rfl (one_cons rfl (one_cons rfl one_nil)) rfl rfl) ?_
      refine DW.fork (List.cons_ne_nil _ _) ?_ ?_
      ·refine DW.xp rfl rfl rfl (fun _ => (X.loadB (k := 1) Try.isAgg3 rfl rfl rfl)) (by decide) ?_
       refine DW.xf rfl rfl rfl (fun _ _ hle_ => (X.gtr rfl rfl)) (by decide) ?_
       refine DW.ts rfl rfl rfl rfl (T.storeBA (k := 2) Try.sizeOf33 rfl rfl rfl (one_cons rfl (one_cons rfl one_nil)) rfl rfl) ?_
       refine DW.x rfl rfl (X.assign rfl) (by decide) ?_
       refine DW.nil ?_
       refine WK.nThen ?_
       exact WK.meet m rfl (.refl _) (.cons rfl (.cons rfl (.cons rfl .nil))) ⟨(Mem.le_refl _), hs2, hs4⟩
      ·refine DW.ts rfl rfl rfl rfl (T.storeBA (k := 2) Try.sizeOf33 rfl rfl rfl (one_cons rfl (one_cons rfl one_nil)) rfl rfl) ?_
       refine DW.xp rfl rfl rfl (fun _ => (X.loadB (k := 1) Try.isAgg3 rfl rfl rfl)) (by decide) ?_
       refine DW.xf rfl rfl rfl (fun _ _ hle_ => (X.gtr rfl rfl)) (by decide) ?_
       refine DW.x rfl rfl (X.assign rfl) (by decide) ?_
       refine DW.nil ?_
       refine WK.nThen ?_
       exact WK.meet m rfl (.refl _) (.cons rfl (.cons rfl (.cons rfl .nil))) ⟨(Mem.le_refl _), hs2, hs4⟩
    ·refine DW.fork (List.cons_ne_nil _ _) ?_ ?_
     ·refine DW.xp rfl rfl rfl (fun _ => (X.loadB (k := 1) Try.isAgg3 rfl rfl rfl)) (by decide) ?_
      refine DW.xf rfl rfl rfl (fun _ _ hle_ => (X.gtr rfl rfl)) (by decide) ?_
      refine DW.fork (List.cons_ne_nil _ _) ?_ ?_
      ·refine DW.xp rfl rfl rfl (fun _ => (X.loadBA (k := 0) Try.isAgg33 Try.sizeOf33 rfl rfl rfl)) (by decide) ?_
       refine DW.ts rfl rfl rfl rfl (T.storeBA (k := 3) Try.sizeOf45 rfl rfl rfl (one_cons rfl (one_cons rfl one_nil)) rfl rfl) ?_
       refine DW.ts rfl rfl rfl rfl (T.storeBA (k := 2) Try.sizeOf33 rfl rfl rfl (one_cons rfl (one_cons rfl one_nil)) rfl rfl) ?_
       refine DW.x rfl rfl (X.assign rfl) (by decide) ?_
       refine DW.nil ?_
       refine WK.nThen ?_
       exact WK.meet m rfl (.refl _) (.cons rfl (.cons rfl (.cons rfl .nil))) ⟨(Mem.le_refl _), hs2, hs4⟩
      ·refine DW.ts rfl rfl rfl rfl (T.storeBA (k := 3) Try.sizeOf45 rfl rfl rfl (one_cons rfl (one_cons rfl one_nil)) rfl rfl) ?_
       refine DW.xp rfl rfl rfl (fun _ => (X.loadBA (k := 0) Try.isAgg33 Try.sizeOf33 rfl rfl rfl)) (by decide) ?_
       refine DW.ts rfl rfl rfl rfl (T.storeBA (k := 2) Try.sizeOf33 rfl rfl rfl (one_cons rfl (one_cons rfl one_nil)) rfl rfl) ?_
       refine DW.x rfl rfl (X.assign rfl) (by decide) ?_
       refine DW.nil ?_
       refine WK.nThen ?_
       exact WK.meet m rfl (.refl _) (.cons rfl (.cons rfl (.cons rfl .nil))) ⟨(Mem.le_refl _), hs2, hs4⟩
     ·refine DW.ts rfl rfl rfl rfl (T.storeBA (k := 3) Try.sizeOf45 rfl rfl rfl (one_cons rfl (one_cons rfl one_nil)) rfl rfl) ?_
      refine DW.fork (List.cons_ne_nil _ _) ?_ ?_
      ·refine DW.xp rfl rfl rfl (fun _ => (X.loadBA (k := 0) Try.isAgg33 Try.sizeOf33 rfl rfl rfl)) (by decide) ?_
       refine DW.fork (List.cons_ne_nil _ _) ?_ ?_
       ·refine DW.xp rfl rfl rfl (fun _ => (X.loadB (k := 1) Try.isAgg3 rfl rfl rfl)) (by decide) ?_
        refine DW.xf rfl rfl rfl (fun _ _ hle_ => (X.gtr rfl rfl)) (by decide) ?_
        refine DW.ts rfl rfl rfl rfl (T.storeBA (k := 2) Try.sizeOf33 rfl rfl rfl (one_cons rfl (one_cons rfl one_nil)) rfl rfl) ?_
        refine DW.x rfl rfl (X.assign rfl) (by decide) ?_
        refine DW.nil ?_
        refine WK.nThen ?_
        exact WK.meet m rfl (.refl _) (.cons rfl (.cons rfl (.cons rfl .nil))) ⟨(Mem.le_refl _), hs2, hs4⟩
       ·refine DW.ts rfl rfl rfl rfl (T.storeBA (k := 2) Try.sizeOf33 rfl rfl rfl (one_cons rfl (one_cons rfl one_nil)) rfl rfl) ?_
        refine DW.xp rfl rfl rfl (fun _ => (X.loadB (k := 1) Try.isAgg3 rfl rfl rfl)) (by decide) ?_
        refine DW.xf rfl rfl rfl (fun _ _ hle_ => (X.gtr rfl rfl)) (by decide) ?_
        refine DW.x rfl rfl (X.assign rfl) (by decide) ?_
        refine DW.nil ?_
        refine WK.nThen ?_
        exact WK.meet m rfl (.refl _) (.cons rfl (.cons rfl (.cons rfl .nil))) ⟨(Mem.le_refl _), hs2, hs4⟩
      ·refine DW.xp rfl rfl rfl (fun _ => (X.loadB (k := 1) Try.isAgg3 rfl rfl rfl)) (by decide) ?_
       refine DW.xf rfl rfl rfl (fun _ _ hle_ => (X.gtr rfl rfl)) (by decide) ?_
       refine DW.xp rfl rfl rfl (fun _ => (X.loadBA (k := 0) Try.isAgg33 Try.sizeOf33 rfl rfl rfl)) (by decide) ?_
       refine DW.ts rfl rfl rfl rfl (T.storeBA (k := 2) Try.sizeOf33 rfl rfl rfl (one_cons rfl (one_cons rfl one_nil)) rfl rfl) ?_
       refine DW.x rfl rfl (X.assign rfl) (by decide) ?_
       refine DW.nil ?_
       refine WK.nThen ?_
       exact WK.meet m rfl (.refl _) (.cons rfl (.cons rfl (.cons rfl .nil))) ⟨(Mem.le_refl _), hs2, hs4⟩
   ·rintro m32 ⟨hle33, hs34, hs35⟩
    show WK _ _ m32 [blk b12 33 [.int .i64 ((mnE s l x k).Lo), .int .i64 ((mnE s l x k).Hi)], blk b11 45 [.int .i64 (mnN s l x k), .int .i64 (mnD s x k)], blk b10 33 [.int .i64 ((mnE s l x k).Lo), .int .i64 ((mnE s l x k).Hi)], blk b9 45 [.int .i64 (mnN s l x k), .int .i64 (mnD s x k)], blk b8 33 [.int .i64 (x.Lo), .int .i64 (x.Hi)], blk b7 25 [v1, v3]] [(6, .pointer (some ⟨b9, 0, none⟩)), (7, .pointer (some ⟨b10, 0, none⟩)), (8, .bool (decide (0 < (mnD s x k))))] _
    replace hs2 := hs2.mono hle33
    replace hs4 := hs4.mono hle33
    replace hl := hl.mono hle33
    have hl36 := hs34.le
    have hl37 := hs35.le
    refine WC.ret ?_
    refine WK.retC3 3 2 rfl rfl rfl rfl rfl rfl Try.isAgg45 Try.sizeOf45 Try.isAgg33 Try.sizeOf33 (fun w' hw' => Ret.exact hw' ?_)
    subst hkm
    first | rfl | exact tup3 rfl rfl (bool_true (by assumption)) | exact tup3 rfl rfl (bool_false (by assumption))

end Go.Proofs.C8
