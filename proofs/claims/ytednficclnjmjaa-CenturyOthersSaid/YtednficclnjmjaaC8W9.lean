import Derived.Test.YtednficclnjmjaaKxW
import Derived.Test.YtednficclnjmjaaC8Spec4
import Derived.Test.YtednficclnjmjaaC8W8
/- Century: walks, ninth part, by program. -/
namespace Go.Proofs.C8
open Go Go.Kx
set_option linter.unusedSimpArgs false

theorem few22 (m : Mem) (cs : List Value) (s : Ser) (hs : Enc.rd m cs s)   : Exact Try.prog 22 #[.agg cs.toArray] m (.bool (decide (fewP s))) := by
 obtain ⟨v1, v3, rfl, hs2, hs4⟩ := hs
 have hl5 := hs2.le
 have hl6 := hs4.le
 refine Exact.start Try.func22 rfl Try.ntmps22 rfl fun wld => ?_
 refine WC.r ?_
 refine WL.tn (T.boxB rfl rfl) (by decide) fun b7 => ?_
 refine WL.ag rfl ?_
 refine WL.z ?_
 refine WC.r ?_
 refine WL.y (X.field Try.runUnderlying25 rfl Try.sizeOf22 rfl) ?_
 refine WL.y (X.loadB (k := 0) Try.isAgg22 rfl rfl rfl) ?_
 refine WL.y (X.len Try.runUnderlying22 rfl hs2) ?_
 refine WL.cond (X.leq rfl rfl) (by decide) (fun h8 => ?_) (fun h8 => ?_)
 ·refine WL.mv rfl ?_
  refine WL.no rfl rfl rfl (by decide) ?_
  refine WL.no rfl rfl rfl (by decide) ?_
  refine WL.no rfl rfl rfl (by decide) ?_
  refine WL.no rfl rfl rfl (by decide) ?_
  refine WL.no rfl rfl rfl (by decide) ?_
  refine WL.noU rfl rfl (by decide) ?_
  refine WL.noU rfl rfl (by decide) ?_
  refine WL.noU rfl rfl (by decide) ?_
  refine WL.noU rfl rfl (by decide) ?_
  refine WL.no rfl rfl rfl (by decide) ?_
  refine WL.y (X.pickT rfl rfl rfl) ?_
  refine WL.mv rfl ?_
  refine WL.yes rfl rfl ?_
  refine WL.y (X.field Try.runUnderlying25 rfl Try.sizeOf23 rfl) ?_
  refine WL.yes rfl rfl ?_
  refine WL.y (X.loadB (k := 0) Try.isAgg23 rfl rfl rfl) ?_
  refine WL.yes rfl rfl ?_
  refine WL.y (X.len Try.runUnderlying23 rfl hs4) ?_
  refine WL.yes rfl rfl ?_
  refine WL.cond (X.leq rfl rfl) (by decide) (fun h9 => ?_) (fun h9 => ?_)
  ·refine WL.yes rfl rfl ?_
   refine WL.mv rfl ?_
   refine WL.no rfl rfl rfl (by decide) ?_
   refine WL.no rfl rfl rfl (by decide) ?_
   refine WL.no rfl rfl rfl (by decide) ?_
   refine WL.no rfl rfl rfl (by decide) ?_
   refine WL.no rfl rfl rfl (by decide) ?_
   refine WL.noU rfl rfl (by decide) ?_
   refine WL.noU rfl rfl (by decide) ?_
   refine WL.noU rfl rfl (by decide) ?_
   refine WL.noU rfl rfl (by decide) ?_
   refine WL.no rfl rfl rfl (by decide) ?_
   refine WL.yes rfl rfl ?_
   refine WL.y (X.pickT rfl rfl rfl) ?_
   refine WL.y (X.pickT rfl rfl rfl) ?_
   refine WL.ag rfl ?_
   refine WL.z ?_
   refine WC.ret ?_
   refine WK.ret1 rfl rfl (fun w' hw' => Ret.exact hw' ?_)
   first | exact bool_true (by unfold fewP; omega) | exact bool_false (by unfold fewP; omega) | exact dec_eq (by unfold fewP; omega)
  ·refine WL.yes rfl rfl ?_
   refine WL.mv rfl ?_
   refine WL.yes rfl rfl ?_
   refine WL.y (X.field Try.runUnderlying25 rfl Try.sizeOf23 rfl) ?_
   refine WL.yes rfl rfl ?_
   refine WL.y (X.loadB (k := 0) Try.isAgg23 rfl rfl rfl) ?_
   refine WL.yes rfl rfl ?_
   refine WL.y (X.len Try.runUnderlying23 rfl hs4) ?_
   refine WL.yes rfl rfl ?_
   refine WL.cond (X.gtr rfl rfl) (by decide) (fun h10 => ?_) (fun h10 => ?_)
   ·refine WL.yes rfl rfl ?_
    refine WL.mv rfl ?_
    refine WL.yes rfl rfl ?_
    refine WL.y (X.field Try.runUnderlying25 rfl Try.sizeOf23 rfl) ?_
    refine WL.yes rfl rfl ?_
    refine WL.y (X.loadB (k := 0) Try.isAgg23 rfl rfl rfl) ?_
    refine WL.yes rfl rfl ?_
    refine WL.y (X.len Try.runUnderlying23 rfl hs4) ?_
    refine WL.yes rfl rfl ?_
    refine WL.y (X.leq rfl rfl) ?_
    refine WL.yes rfl rfl ?_
    refine WL.y (X.pickT rfl rfl rfl) ?_
    refine WL.yes rfl rfl ?_
    refine WL.y (X.pickF rfl rfl rfl) ?_
    refine WL.y (X.pickT rfl rfl rfl) ?_
    refine WL.ag rfl ?_
    refine WL.z ?_
    refine WC.ret ?_
    refine WK.ret1 rfl rfl (fun w' hw' => Ret.exact hw' ?_)
    first | exact bool_true (by unfold fewP; omega) | exact bool_false (by unfold fewP; omega) | exact dec_eq (by unfold fewP; omega)
   ·refine WL.yes rfl rfl ?_
    refine WL.mv rfl ?_
    refine WL.no rfl rfl rfl (by decide) ?_
    refine WL.no rfl rfl rfl (by decide) ?_
    refine WL.no rfl rfl rfl (by decide) ?_
    refine WL.no rfl rfl rfl (by decide) ?_
    refine WL.yes rfl rfl ?_
    refine WL.y (X.pickF rfl rfl rfl) ?_
    refine WL.yes rfl rfl ?_
    refine WL.y (X.pickF rfl rfl rfl) ?_
    refine WL.y (X.pickT rfl rfl rfl) ?_
    refine WL.ag rfl ?_
    refine WL.z ?_
    refine WC.ret ?_
    refine WK.ret1 rfl rfl (fun w' hw' => Ret.exact hw' ?_)
    first | exact bool_true (by unfold fewP; omega) | exact bool_false (by unfold fewP; omega) | exact dec_eq (by unfold fewP; omega)
 ·refine WL.mv rfl ?_
  refine WL.yes rfl rfl ?_
  refine WL.y (X.field Try.runUnderlying25 rfl Try.sizeOf22 rfl) ?_
  refine WL.yes rfl rfl ?_
  refine WL.y (X.loadB (k := 0) Try.isAgg22 rfl rfl rfl) ?_
  refine WL.yes rfl rfl ?_
  refine WL.y (X.len Try.runUnderlying22 rfl hs2) ?_
  refine WL.yes rfl rfl ?_
  refine WL.cond (X.gtr rfl rfl) (by decide) (fun h11 => ?_) (fun h11 => ?_)
  ·refine WL.yes rfl rfl ?_
   refine WL.mv rfl ?_
   refine WL.yes rfl rfl ?_
   refine WL.y (X.field Try.runUnderlying25 rfl Try.sizeOf22 rfl) ?_
   refine WL.yes rfl rfl ?_
   refine WL.y (X.loadB (k := 0) Try.isAgg22 rfl rfl rfl) ?_
   refine WL.yes rfl rfl ?_
   refine WL.y (X.len Try.runUnderlying22 rfl hs2) ?_
   refine WL.yes rfl rfl ?_
   refine WL.cond (X.leq rfl rfl) (by decide) (fun h12 => ?_) (fun h12 => ?_)
   ·refine WL.yes rfl rfl ?_
    refine WL.y (X.pickT rfl rfl rfl) ?_
    refine WL.y (X.pickF rfl rfl rfl) ?_
    refine WL.mv rfl ?_
    refine WL.yes rfl rfl ?_
    refine WL.y (X.field Try.runUnderlying25 rfl Try.sizeOf23 rfl) ?_
    refine WL.yes rfl rfl ?_
    refine WL.y (X.loadB (k := 0) Try.isAgg23 rfl rfl rfl) ?_
    refine WL.yes rfl rfl ?_
    refine WL.y (X.len Try.runUnderlying23 rfl hs4) ?_
    refine WL.yes rfl rfl ?_
    refine WL.cond (X.leq rfl rfl) (by decide) (fun h13 => ?_) (fun h13 => ?_)
    ·refine WL.yes rfl rfl ?_
     refine WL.mv rfl ?_
     refine WL.no rfl rfl rfl (by decide) ?_
     refine WL.no rfl rfl rfl (by decide) ?_
     refine WL.no rfl rfl rfl (by decide) ?_
     refine WL.no rfl rfl rfl (by decide) ?_
     refine WL.no rfl rfl rfl (by decide) ?_
     refine WL.noU rfl rfl (by decide) ?_
     refine WL.noU rfl rfl (by decide) ?_
     refine WL.noU rfl rfl (by decide) ?_
     refine WL.noU rfl rfl (by decide) ?_
     refine WL.no rfl rfl rfl (by decide) ?_
     refine WL.yes rfl rfl ?_
     refine WL.y (X.pickT rfl rfl rfl) ?_
     refine WL.y (X.pickT rfl rfl rfl) ?_
     refine WL.ag rfl ?_
     refine WL.z ?_
     refine WC.ret ?_
     refine WK.ret1 rfl rfl (fun w' hw' => Ret.exact hw' ?_)
     first | exact bool_true (by unfold fewP; omega) | exact bool_false (by unfold fewP; omega) | exact dec_eq (by unfold fewP; omega)
    ·refine WL.yes rfl rfl ?_
     refine WL.mv rfl ?_
     refine WL.yes rfl rfl ?_
     refine WL.y (X.field Try.runUnderlying25 rfl Try.sizeOf23 rfl) ?_
     refine WL.yes rfl rfl ?_
     refine WL.y (X.loadB (k := 0) Try.isAgg23 rfl rfl rfl) ?_
     refine WL.yes rfl rfl ?_
     refine WL.y (X.len Try.runUnderlying23 rfl hs4) ?_
     refine WL.yes rfl rfl ?_
     refine WL.cond (X.gtr rfl rfl) (by decide) (fun h14 => ?_) (fun h14 => ?_)
     ·refine WL.yes rfl rfl ?_
      refine WL.mv rfl ?_
      refine WL.yes rfl rfl ?_
      refine WL.y (X.field Try.runUnderlying25 rfl Try.sizeOf23 rfl) ?_
      refine WL.yes rfl rfl ?_
      refine WL.y (X.loadB (k := 0) Try.isAgg23 rfl rfl rfl) ?_
      refine WL.yes rfl rfl ?_
      refine WL.y (X.len Try.runUnderlying23 rfl hs4) ?_
      refine WL.yes rfl rfl ?_
      refine WL.y (X.leq rfl rfl) ?_
      refine WL.yes rfl rfl ?_
      refine WL.y (X.pickT rfl rfl rfl) ?_
      refine WL.yes rfl rfl ?_
      refine WL.y (X.pickF rfl rfl rfl) ?_
      refine WL.y (X.pickT rfl rfl rfl) ?_
      refine WL.ag rfl ?_
      refine WL.z ?_
      refine WC.ret ?_
      refine WK.ret1 rfl rfl (fun w' hw' => Ret.exact hw' ?_)
      first | exact bool_true (by unfold fewP; omega) | exact bool_false (by unfold fewP; omega) | exact dec_eq (by unfold fewP; omega)
     ·refine WL.yes rfl rfl ?_
      refine WL.mv rfl ?_
      refine WL.no rfl rfl rfl (by decide) ?_
      refine WL.no rfl rfl rfl (by decide) ?_
      refine WL.no rfl rfl rfl (by decide) ?_
      refine WL.no rfl rfl rfl (by decide) ?_
      refine WL.yes rfl rfl ?_
      refine WL.y (X.pickF rfl rfl rfl) ?_
      refine WL.yes rfl rfl ?_
      refine WL.y (X.pickF rfl rfl rfl) ?_
      refine WL.y (X.pickT rfl rfl rfl) ?_
      refine WL.ag rfl ?_
      refine WL.z ?_
      refine WC.ret ?_
      refine WK.ret1 rfl rfl (fun w' hw' => Ret.exact hw' ?_)
      first | exact bool_true (by unfold fewP; omega) | exact bool_false (by unfold fewP; omega) | exact dec_eq (by unfold fewP; omega)
   ·refine WL.yes rfl rfl ?_
    refine WL.y (X.pickT rfl rfl rfl) ?_
    refine WL.y (X.pickF rfl rfl rfl) ?_
    refine WL.mv rfl ?_
    refine WL.no rfl rfl rfl (by decide) ?_
    refine WL.no rfl rfl rfl (by decide) ?_
    refine WL.no rfl rfl rfl (by decide) ?_
    refine WL.no rfl rfl rfl (by decide) ?_
    refine WL.no rfl rfl rfl (by decide) ?_
    refine WL.noU rfl rfl (by decide) ?_
    refine WL.noU rfl rfl (by decide) ?_
    refine WL.noU rfl rfl (by decide) ?_
    refine WL.noU rfl rfl (by decide) ?_
    refine WL.noU rfl rfl (by decide) ?_
    refine WL.noU rfl rfl (by decide) ?_
    refine WL.noU rfl rfl (by decide) ?_
    refine WL.noU rfl rfl (by decide) ?_
    refine WL.noU rfl rfl (by decide) ?_
    refine WL.noU rfl rfl (by decide) ?_
    refine WL.no rfl rfl rfl (by decide) ?_
    refine WL.y (X.pickF rfl rfl rfl) ?_
    refine WL.ag rfl ?_
    refine WL.z ?_
    refine WC.ret ?_
    refine WK.ret1 rfl rfl (fun w' hw' => Ret.exact hw' ?_)
    first | exact bool_true (by unfold fewP; omega) | exact bool_false (by unfold fewP; omega) | exact dec_eq (by unfold fewP; omega)
  ·refine WL.yes rfl rfl ?_
   refine WL.mv rfl ?_
   refine WL.no rfl rfl rfl (by decide) ?_
   refine WL.no rfl rfl rfl (by decide) ?_
   refine WL.no rfl rfl rfl (by decide) ?_
   refine WL.no rfl rfl rfl (by decide) ?_
   refine WL.yes rfl rfl ?_
   refine WL.y (X.pickF rfl rfl rfl) ?_
   refine WL.y (X.pickF rfl rfl rfl) ?_
   refine WL.mv rfl ?_
   refine WL.no rfl rfl rfl (by decide) ?_
   refine WL.no rfl rfl rfl (by decide) ?_
   refine WL.no rfl rfl rfl (by decide) ?_
   refine WL.no rfl rfl rfl (by decide) ?_
   refine WL.no rfl rfl rfl (by decide) ?_
   refine WL.noU rfl rfl (by decide) ?_
   refine WL.noU rfl rfl (by decide) ?_
   refine WL.noU rfl rfl (by decide) ?_
   refine WL.noU rfl rfl (by decide) ?_
   refine WL.noU rfl rfl (by decide) ?_
   refine WL.noU rfl rfl (by decide) ?_
   refine WL.noU rfl rfl (by decide) ?_
   refine WL.noU rfl rfl (by decide) ?_
   refine WL.noU rfl rfl (by decide) ?_
   refine WL.noU rfl rfl (by decide) ?_
   refine WL.no rfl rfl rfl (by decide) ?_
   refine WL.y (X.pickF rfl rfl rfl) ?_
   refine WL.ag rfl ?_
   refine WL.z ?_
   refine WC.ret ?_
   refine WK.ret1 rfl rfl (fun w' hw' => Ret.exact hw' ?_)
   first | exact bool_true (by unfold fewP; omega) | exact bool_false (by unfold fewP; omega) | exact dec_eq (by unfold fewP; omega)

end Go.Proofs.C8
