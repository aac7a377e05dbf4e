import Derived.Test.YtooomcigmleneaaGreatKxW
import Derived.Test.YtooomcigmleneaaGreatT10Seg
import Derived.Test.YtooomcigmleneaaGreatT10W2
/- Top: walks, third part, by program. -/
namespace Go.Proofs.T10
open Go Go.Kx
set_option linter.unusedSimpArgs false
set_option linter.unusedVariables false

theorem within74 (m : Mem) (n : Int) (lo : Int) (hi : Int)   : Exact Tryz.prog 74 #[.int .i64 (n), .int .i64 (lo), .int .i64 (hi)] m (.bool (decide (lo ≤ n ∧ n ≤ hi))) := by
 refine Exact.start Tryz.func74 rfl Tryz.ntmps74 rfl fun wld => ?_
 refine WC.r ?_
 refine WL.ag rfl ?_
 refine WL.z ?_
 refine WC.r ?_
 refine WL.mv rfl ?_
 refine WL.mv rfl ?_
 refine WL.cond (X.geq rfl rfl) (by decide) (fun h1 => ?_) (fun h1 => ?_)
 ·refine WL.mv rfl ?_
  refine WL.yes rfl rfl ?_
  refine WL.mv rfl ?_
  refine WL.yes rfl rfl ?_
  refine WL.mv rfl ?_
  refine WL.yes rfl rfl ?_
  refine WL.y (X.leq rfl rfl) ?_
  refine WL.y (X.pickT rfl rfl rfl) ?_
  refine WL.ag rfl ?_
  refine WL.z ?_
  refine WC.ret ?_
  refine WK.ret1 rfl rfl (fun w' hw' => Ret.exact hw' ?_)
  first | exact bool_true (by omega) | exact bool_false (by omega) | exact dec_eq (by omega)
 ·refine WL.mv rfl ?_
  refine WL.no rfl rfl rfl (by decide) ?_
  refine WL.no rfl rfl rfl (by decide) ?_
  refine WL.no rfl rfl rfl (by decide) ?_
  refine WL.y (X.pickF rfl rfl rfl) ?_
  refine WL.ag rfl ?_
  refine WL.z ?_
  refine WC.ret ?_
  refine WK.ret1 rfl rfl (fun w' hw' => Ret.exact hw' ?_)
  first | exact bool_true (by omega) | exact bool_false (by omega) | exact dec_eq (by omega)

theorem shrinks221 (m : Mem) (cs : List Value) (s : Span) (hs : Enc.rd m cs s)   : Exact Tryz.prog 221 #[.agg cs.toArray] m (.bool (decide (shrP s))) := by
 obtain rfl := hs
 refine Exact.start Tryz.func221 rfl Tryz.ntmps221 rfl fun wld => ?_
 refine WC.r ?_
 refine WL.tn (T.boxB rfl rfl) (by decide) fun b1 => ?_
 refine WL.ag rfl ?_
 refine WL.z ?_
 refine WC.r ?_
 refine WL.y (X.field Tryz.runUnderlying23 rfl Tryz.sizeOf3 rfl) ?_
 refine WL.y (X.loadB (k := 0) Tryz.isAgg3 rfl rfl rfl) ?_
 refine WL.y (X.field Tryz.runUnderlying23 rfl Tryz.sizeOf3 rfl) ?_
 refine WL.y (X.loadB (k := 0) Tryz.isAgg3 rfl rfl rfl) ?_
 refine WL.cond (X.call Tryz.call74 rfl (within74 _ _ _ _ )) (by decide) (fun h2 => ?_) (fun h2 => ?_)
 ·refine WL.mv rfl ?_
  refine WL.yes rfl rfl ?_
  refine WL.y (X.field Tryz.runUnderlying23 rfl Tryz.sizeOf3 rfl) ?_
  refine WL.yes rfl rfl ?_
  refine WL.y (X.loadB (k := 0) Tryz.isAgg3 rfl rfl rfl) ?_
  refine WL.yes rfl rfl ?_
  refine WL.y (X.leq rfl rfl) ?_
  refine WL.y (X.pickT rfl rfl rfl) ?_
  refine WL.ag rfl ?_
  refine WL.z ?_
  refine WC.ret ?_
  refine WK.ret1 rfl rfl (fun w' hw' => Ret.exact hw' ?_)
  first | exact bool_true (by unfold shrP; omega) | exact bool_false (by unfold shrP; omega) | exact dec_eq (by unfold shrP; omega)
 ·refine WL.mv rfl ?_
  refine WL.no rfl rfl rfl (by decide) ?_
  refine WL.no rfl rfl rfl (by decide) ?_
  refine WL.no rfl rfl rfl (by decide) ?_
  refine WL.y (X.pickF rfl rfl rfl) ?_
  refine WL.ag rfl ?_
  refine WL.z ?_
  refine WC.ret ?_
  refine WK.ret1 rfl rfl (fun w' hw' => Ret.exact hw' ?_)
  first | exact bool_true (by unfold shrP; omega) | exact bool_false (by unfold shrP; omega) | exact dec_eq (by unfold shrP; omega)

theorem paper141 (m : Mem) (cp : List Value) (p : Paper) (hp : Enc.rd m cp p)   : Exact Tryz.prog 141 #[.agg cp.toArray] m (.int .i64 (paperE p)) := by
 obtain rfl := hp
 refine Exact.start Tryz.func141 rfl Tryz.ntmps141 rfl fun wld => ?_
 refine WC.r ?_
 refine WL.tn (T.boxB rfl rfl) (by decide) fun b1 => ?_
 refine WL.ag rfl ?_
 refine WL.z ?_
 refine WC.r ?_
 refine WL.y (X.field Tryz.runUnderlying25 rfl Tryz.sizeOf3 rfl) ?_
 refine WL.y (X.loadB (k := 0) Tryz.isAgg3 rfl rfl rfl) ?_
 refine WL.cond (X.call Tryz.call74 rfl (within74 _ _ _ _ )) (by decide) (fun h2 => ?_) (fun h2 => ?_)
 ·refine WL.mv rfl ?_
  refine WL.yes rfl rfl ?_
  refine WL.y (X.field Tryz.runUnderlying25 rfl Tryz.sizeOf3 rfl) ?_
  refine WL.yes rfl rfl ?_
  refine WL.y (X.loadB (k := 0) Tryz.isAgg3 rfl rfl rfl) ?_
  refine WL.yes rfl rfl ?_
  refine WL.cond (X.call Tryz.call74 rfl (within74 _ _ _ _ )) (by decide) (fun h3 => ?_) (fun h3 => ?_)
  ·refine WL.y (X.pickT rfl rfl rfl) ?_
   refine WL.mv rfl ?_
   refine WL.yes rfl rfl ?_
   refine WL.y (X.field Tryz.runUnderlying25 rfl Tryz.sizeOf3 rfl) ?_
   refine WL.yes rfl rfl ?_
   refine WL.y (X.loadB (k := 0) Tryz.isAgg3 rfl rfl rfl) ?_
   refine WL.yes rfl rfl ?_
   refine WL.cond (X.eql rfl rfl) (by decide) (fun h4 => ?_) (fun h4 => ?_)
   ·refine WL.yes rfl rfl ?_
    refine WL.mv rfl ?_
    refine WL.no rfl rfl rfl (by decide) ?_
    refine WL.no rfl rfl rfl (by decide) ?_
    refine WL.no rfl rfl rfl (by decide) ?_
    refine WL.no rfl rfl rfl (by decide) ?_
    refine WL.no rfl rfl rfl (by decide) ?_
    refine WL.yes rfl rfl ?_
    refine WL.y (X.pickT rfl rfl rfl) ?_
    refine WL.y (X.pickT rfl rfl rfl) ?_
    refine WL.ag rfl ?_
    refine WL.z ?_
    refine WC.r ?_
    refine WL.y (X.field Tryz.runUnderlying25 rfl Tryz.sizeOf3 rfl) ?_
    refine WL.y (X.loadB (k := 0) Tryz.isAgg3 rfl rfl rfl) ?_
    refine WL.cond (X.geq rfl rfl) (by decide) (fun h5 => ?_) (fun h5 => ?_)
    ·refine WL.mv rfl ?_
     refine WL.yes rfl rfl ?_
     refine WL.y (X.field Tryz.runUnderlying25 rfl Tryz.sizeOf3 rfl) ?_
     refine WL.yes rfl rfl ?_
     refine WL.y (X.loadB (k := 0) Tryz.isAgg3 rfl rfl rfl) ?_
     refine WL.yes rfl rfl ?_
     refine WL.y (X.field Tryz.runUnderlying25 rfl Tryz.sizeOf3 rfl) ?_
     refine WL.yes rfl rfl ?_
     refine WL.y (X.loadB (k := 0) Tryz.isAgg3 rfl rfl rfl) ?_
     refine WL.yes rfl rfl ?_
     refine WL.cond (X.lss rfl rfl) (by decide) (fun h6 => ?_) (fun h6 => ?_)
     ·refine WL.y (X.pickT rfl rfl rfl) ?_
      refine WL.mv rfl ?_
      refine WL.yes rfl rfl ?_
      refine WL.y (X.field Tryz.runUnderlying25 rfl Tryz.sizeOf3 rfl) ?_
      refine WL.yes rfl rfl ?_
      refine WL.y (X.loadB (k := 0) Tryz.isAgg3 rfl rfl rfl) ?_
      refine WL.yes rfl rfl ?_
      refine WL.cond (X.leq rfl rfl) (by decide) (fun h7 => ?_) (fun h7 => ?_)
      ·refine WL.y (X.pickT rfl rfl rfl) ?_
       refine WL.mv rfl ?_
       refine WL.yes rfl rfl ?_
       refine WL.y (X.field Tryz.runUnderlying25 rfl Tryz.sizeOf3 rfl) ?_
       refine WL.yes rfl rfl ?_
       refine WL.y (X.loadB (k := 0) Tryz.isAgg3 rfl rfl rfl) ?_
       refine WL.yes rfl rfl ?_
       refine WL.y (X.field Tryz.runUnderlying25 rfl Tryz.sizeOf3 rfl) ?_
       refine WL.yes rfl rfl ?_
       refine WL.y (X.loadB (k := 0) Tryz.isAgg3 rfl rfl rfl) ?_
       refine WL.yes rfl rfl ?_
       refine WL.y (X.sub rfl rfl (by omega) (by omega)) ?_
       refine WL.yes rfl rfl ?_
       refine WL.y (X.field Tryz.runUnderlying25 rfl Tryz.sizeOf3 rfl) ?_
       refine WL.yes rfl rfl ?_
       refine WL.y (X.loadB (k := 0) Tryz.isAgg3 rfl rfl rfl) ?_
       refine WL.yes rfl rfl ?_
       refine WL.cond (X.leq rfl rfl) (by decide) (fun h8 => ?_) (fun h8 => ?_)
       ·refine WL.y (X.pickT rfl rfl rfl) ?_
        refine WL.ag rfl ?_
        refine WL.z ?_
        refine WC.seq ?_
        refine WC.r ?_
        refine WL.mv rfl ?_
        refine WL.y (X.not rfl) ?_
        refine WL.mv rfl ?_
        refine WL.yes rfl rfl ?_
        refine WL.mv rfl ?_
        refine WL.yes rfl rfl ?_
        refine WL.y (X.not rfl) ?_
        refine WL.y (X.pickF rfl rfl rfl) ?_
        refine WL.mv rfl ?_
        refine WL.yes rfl rfl ?_
        refine WL.y (X.field Tryz.runUnderlying25 rfl Tryz.sizeOf3 rfl) ?_
        refine WL.yes rfl rfl ?_
        refine WL.y (X.loadB (k := 0) Tryz.isAgg3 rfl rfl rfl) ?_
        refine WL.yes rfl rfl ?_
        refine WL.cond (X.call Tryz.call74 rfl (within74 _ _ _ _ )) (by decide) (fun h9 => ?_) (fun h9 => ?_)
        ·refine WL.yes rfl rfl ?_
         refine WL.y (X.not rfl) ?_
         refine WL.y (X.pickF rfl rfl rfl) ?_
         refine WL.mv rfl ?_
         refine WL.yes rfl rfl ?_
         refine WL.y (X.field Tryz.runUnderlying25 rfl Tryz.sizeOf23 rfl) ?_
         refine WL.yes rfl rfl ?_
         refine WL.y (X.loadBP (k := 0) (vs := [.int .i64 (p.Along.Lo), .int .i64 (p.Along.Hi)]) Tryz.isAgg23 Tryz.sizeOf23 rfl rfl rfl rfl) ?_
         refine WL.yes rfl rfl ?_
         refine WL.cond (X.call Tryz.call221 rfl (shrinks221 _ _ p.Along rfl )) (by decide) (fun h10 => ?_) (fun h10 => ?_)
         ·refine WL.yes rfl rfl ?_
          refine WL.y (X.not rfl) ?_
          refine WL.y (X.pickF rfl rfl rfl) ?_
          refine WL.mv rfl ?_
          refine WL.yes rfl rfl ?_
          refine WL.y (X.field Tryz.runUnderlying25 rfl Tryz.sizeOf23 rfl) ?_
          refine WL.yes rfl rfl ?_
          refine WL.y (X.loadBP (k := 0) (vs := [.int .i64 (p.Across.Lo), .int .i64 (p.Across.Hi)]) Tryz.isAgg23 Tryz.sizeOf23 rfl rfl rfl rfl) ?_
          refine WL.yes rfl rfl ?_
          refine WL.cond (X.call Tryz.call221 rfl (shrinks221 _ _ p.Across rfl )) (by decide) (fun h11 => ?_) (fun h11 => ?_)
          ·refine WL.yes rfl rfl ?_
           refine WL.y (X.not rfl) ?_
           refine WL.y (X.pickF rfl rfl rfl) ?_
           refine WL.z ?_
           refine WC.condF rfl ?_
           refine WC.skip ?_
           refine WK.nThen ?_
           refine WC.r ?_
           refine WL.ag rfl ?_
           refine WL.z ?_
           refine WC.ret ?_
           refine WK.ret1 rfl rfl (fun w' hw' => Ret.exact hw' ?_)
           first | exact int_eq (paperE_no (by unfold paperP; first | omega | (rintro ⟨h1_, h2_, h3_, h4_, h5_⟩; first | omega | contradiction))).symm | exact int_eq (paperE_yes ⟨by omega, by omega, by omega, by assumption, by assumption⟩).symm
          ·refine WL.yes rfl rfl ?_
           refine WL.y (X.not rfl) ?_
           refine WL.y (X.pickF rfl rfl rfl) ?_
           refine WL.z ?_
           refine WC.condT rfl ?_
           refine WC.r ?_
           refine WL.ag rfl ?_
           refine WL.z ?_
           refine WC.ret ?_
           refine WK.rThen ?_
           refine WK.ret1 rfl rfl (fun w' hw' => Ret.exact hw' ?_)
           first | exact int_eq (paperE_no (by unfold paperP; first | omega | (rintro ⟨h1_, h2_, h3_, h4_, h5_⟩; first | omega | contradiction))).symm | exact int_eq (paperE_yes ⟨by omega, by omega, by omega, by assumption, by assumption⟩).symm
         ·refine WL.yes rfl rfl ?_
          refine WL.y (X.not rfl) ?_
          refine WL.y (X.pickF rfl rfl rfl) ?_
          refine WL.mv rfl ?_
          refine WL.no rfl rfl rfl (by decide) ?_
          refine WL.no rfl rfl rfl (by decide) ?_
          refine WL.no rfl rfl rfl (by decide) ?_
          refine WL.no rfl rfl rfl (by decide) ?_
          refine WL.y (X.pickT rfl rfl rfl) ?_
          refine WL.z ?_
          refine WC.condT rfl ?_
          refine WC.r ?_
          refine WL.ag rfl ?_
          refine WL.z ?_
          refine WC.ret ?_
          refine WK.rThen ?_
          refine WK.ret1 rfl rfl (fun w' hw' => Ret.exact hw' ?_)
          first | exact int_eq (paperE_no (by unfold paperP; first | omega | (rintro ⟨h1_, h2_, h3_, h4_, h5_⟩; first | omega | contradiction))).symm | exact int_eq (paperE_yes ⟨by omega, by omega, by omega, by assumption, by assumption⟩).symm
        ·refine WL.yes rfl rfl ?_
         refine WL.y (X.not rfl) ?_
         refine WL.y (X.pickF rfl rfl rfl) ?_
         refine WL.mv rfl ?_
         refine WL.no rfl rfl rfl (by decide) ?_
         refine WL.no rfl rfl rfl (by decide) ?_
         refine WL.no rfl rfl rfl (by decide) ?_
         refine WL.no rfl rfl rfl (by decide) ?_
         refine WL.y (X.pickT rfl rfl rfl) ?_
         refine WL.mv rfl ?_
         refine WL.no rfl rfl rfl (by decide) ?_
         refine WL.no rfl rfl rfl (by decide) ?_
         refine WL.no rfl rfl rfl (by decide) ?_
         refine WL.no rfl rfl rfl (by decide) ?_
         refine WL.y (X.pickT rfl rfl rfl) ?_
         refine WL.z ?_
         refine WC.condT rfl ?_
         refine WC.r ?_
         refine WL.ag rfl ?_
         refine WL.z ?_
         refine WC.ret ?_
         refine WK.rThen ?_
         refine WK.ret1 rfl rfl (fun w' hw' => Ret.exact hw' ?_)
         first | exact int_eq (paperE_no (by unfold paperP; first | omega | (rintro ⟨h1_, h2_, h3_, h4_, h5_⟩; first | omega | contradiction))).symm | exact int_eq (paperE_yes ⟨by omega, by omega, by omega, by assumption, by assumption⟩).symm
       ·refine WL.y (X.pickT rfl rfl rfl) ?_
        refine WL.ag rfl ?_
        refine WL.z ?_
        refine WC.seq ?_
        refine WC.r ?_
        refine WL.mv rfl ?_
        refine WL.y (X.not rfl) ?_
        refine WL.mv rfl ?_
        refine WL.yes rfl rfl ?_
        refine WL.mv rfl ?_
        refine WL.yes rfl rfl ?_
        refine WL.y (X.not rfl) ?_
        refine WL.y (X.pickF rfl rfl rfl) ?_
        refine WL.mv rfl ?_
        refine WL.no rfl rfl rfl (by decide) ?_
        refine WL.no rfl rfl rfl (by decide) ?_
        refine WL.no rfl rfl rfl (by decide) ?_
        refine WL.no rfl rfl rfl (by decide) ?_
        refine WL.y (X.pickT rfl rfl rfl) ?_
        refine WL.mv rfl ?_
        refine WL.no rfl rfl rfl (by decide) ?_
        refine WL.no rfl rfl rfl (by decide) ?_
        refine WL.no rfl rfl rfl (by decide) ?_
        refine WL.no rfl rfl rfl (by decide) ?_
        refine WL.y (X.pickT rfl rfl rfl) ?_
        refine WL.mv rfl ?_
        refine WL.no rfl rfl rfl (by decide) ?_
        refine WL.no rfl rfl rfl (by decide) ?_
        refine WL.no rfl rfl rfl (by decide) ?_
        refine WL.no rfl rfl rfl (by decide) ?_
        refine WL.y (X.pickT rfl rfl rfl) ?_
        refine WL.z ?_
        refine WC.condT rfl ?_
        refine WC.r ?_
        refine WL.ag rfl ?_
        refine WL.z ?_
        refine WC.ret ?_
        refine WK.rThen ?_
        refine WK.ret1 rfl rfl (fun w' hw' => Ret.exact hw' ?_)
        first | exact int_eq (paperE_no (by unfold paperP; first | omega | (rintro ⟨h1_, h2_, h3_, h4_, h5_⟩; first | omega | contradiction))).symm | exact int_eq (paperE_yes ⟨by omega, by omega, by omega, by assumption, by assumption⟩).symm
      ·refine WL.y (X.pickT rfl rfl rfl) ?_
       refine WL.mv rfl ?_
       refine WL.no rfl rfl rfl (by decide) ?_
       refine WL.no rfl rfl rfl (by decide) ?_
       refine WL.no rfl rfl rfl (by decide) ?_
       refine WL.no rfl rfl rfl (by decide) ?_
       refine WL.no rfl rfl rfl (by decide) ?_
       refine WL.no rfl rfl rfl (by decide) ?_
       refine WL.no rfl rfl rfl (by decide) ?_
       refine WL.no rfl rfl rfl (by decide) ?_
       refine WL.y (X.pickF rfl rfl rfl) ?_
       refine WL.ag rfl ?_
       refine WL.z ?_
       refine WC.seq ?_
       refine WC.r ?_
       refine WL.mv rfl ?_
       refine WL.y (X.not rfl) ?_
       refine WL.mv rfl ?_
       refine WL.yes rfl rfl ?_
       refine WL.mv rfl ?_
       refine WL.yes rfl rfl ?_
       refine WL.y (X.not rfl) ?_
       refine WL.y (X.pickF rfl rfl rfl) ?_
       refine WL.mv rfl ?_
       refine WL.no rfl rfl rfl (by decide) ?_
       refine WL.no rfl rfl rfl (by decide) ?_
       refine WL.no rfl rfl rfl (by decide) ?_
       refine WL.no rfl rfl rfl (by decide) ?_
       refine WL.y (X.pickT rfl rfl rfl) ?_
       refine WL.mv rfl ?_
       refine WL.no rfl rfl rfl (by decide) ?_
       refine WL.no rfl rfl rfl (by decide) ?_
       refine WL.no rfl rfl rfl (by decide) ?_
       refine WL.no rfl rfl rfl (by decide) ?_
       refine WL.y (X.pickT rfl rfl rfl) ?_
       refine WL.mv rfl ?_
       refine WL.no rfl rfl rfl (by decide) ?_
       refine WL.no rfl rfl rfl (by decide) ?_
       refine WL.no rfl rfl rfl (by decide) ?_
       refine WL.no rfl rfl rfl (by decide) ?_
       refine WL.y (X.pickT rfl rfl rfl) ?_
       refine WL.z ?_
       refine WC.condT rfl ?_
       refine WC.r ?_
       refine WL.ag rfl ?_
       refine WL.z ?_
       refine WC.ret ?_
       refine WK.rThen ?_
       refine WK.ret1 rfl rfl (fun w' hw' => Ret.exact hw' ?_)
       first | exact int_eq (paperE_no (by unfold paperP; first | omega | (rintro ⟨h1_, h2_, h3_, h4_, h5_⟩; first | omega | contradiction))).symm | exact int_eq (paperE_yes ⟨by omega, by omega, by omega, by assumption, by assumption⟩).symm
     ·refine WL.y (X.pickT rfl rfl rfl) ?_
      refine WL.mv rfl ?_
      refine WL.no rfl rfl rfl (by decide) ?_
      refine WL.no rfl rfl rfl (by decide) ?_
      refine WL.no rfl rfl rfl (by decide) ?_
      refine WL.y (X.pickF rfl rfl rfl) ?_
      refine WL.mv rfl ?_
      refine WL.no rfl rfl rfl (by decide) ?_
      refine WL.no rfl rfl rfl (by decide) ?_
      refine WL.no rfl rfl rfl (by decide) ?_
      refine WL.no rfl rfl rfl (by decide) ?_
      refine WL.no rfl rfl rfl (by decide) ?_
      refine WL.no rfl rfl rfl (by decide) ?_
      refine WL.no rfl rfl rfl (by decide) ?_
      refine WL.no rfl rfl rfl (by decide) ?_
      refine WL.y (X.pickF rfl rfl rfl) ?_
      refine WL.ag rfl ?_
      refine WL.z ?_
      refine WC.seq ?_
      refine WC.r ?_
      refine WL.mv rfl ?_
      refine WL.y (X.not rfl) ?_
      refine WL.mv rfl ?_
      refine WL.yes rfl rfl ?_
      refine WL.mv rfl ?_
      refine WL.yes rfl rfl ?_
      refine WL.y (X.not rfl) ?_
      refine WL.y (X.pickF rfl rfl rfl) ?_
      refine WL.mv rfl ?_
      refine WL.no rfl rfl rfl (by decide) ?_
      refine WL.no rfl rfl rfl (by decide) ?_
      refine WL.no rfl rfl rfl (by decide) ?_
      refine WL.no rfl rfl rfl (by decide) ?_
      refine WL.y (X.pickT rfl rfl rfl) ?_
      refine WL.mv rfl ?_
      refine WL.no rfl rfl rfl (by decide) ?_
      refine WL.no rfl rfl rfl (by decide) ?_
      refine WL.no rfl rfl rfl (by decide) ?_
      refine WL.no rfl rfl rfl (by decide) ?_
      refine WL.y (X.pickT rfl rfl rfl) ?_
      refine WL.mv rfl ?_
      refine WL.no rfl rfl rfl (by decide) ?_
      refine WL.no rfl rfl rfl (by decide) ?_
      refine WL.no rfl rfl rfl (by decide) ?_
      refine WL.no rfl rfl rfl (by decide) ?_
      refine WL.y (X.pickT rfl rfl rfl) ?_
      refine WL.z ?_
      refine WC.condT rfl ?_
      refine WC.r ?_
      refine WL.ag rfl ?_
      refine WL.z ?_
      refine WC.ret ?_
      refine WK.rThen ?_
      refine WK.ret1 rfl rfl (fun w' hw' => Ret.exact hw' ?_)
      first | exact int_eq (paperE_no (by unfold paperP; first | omega | (rintro ⟨h1_, h2_, h3_, h4_, h5_⟩; first | omega | contradiction))).symm | exact int_eq (paperE_yes ⟨by omega, by omega, by omega, by assumption, by assumption⟩).symm
    ·refine WL.mv rfl ?_
     refine WL.no rfl rfl rfl (by decide) ?_
     refine WL.no rfl rfl rfl (by decide) ?_
     refine WL.no rfl rfl rfl (by decide) ?_
     refine WL.no rfl rfl rfl (by decide) ?_
     refine WL.no rfl rfl rfl (by decide) ?_
     refine WL.y (X.pickF rfl rfl rfl) ?_
     refine WL.mv rfl ?_
     refine WL.no rfl rfl rfl (by decide) ?_
     refine WL.no rfl rfl rfl (by decide) ?_
     refine WL.no rfl rfl rfl (by decide) ?_
     refine WL.y (X.pickF rfl rfl rfl) ?_
     refine WL.mv rfl ?_
     refine WL.no rfl rfl rfl (by decide) ?_
     refine WL.no rfl rfl rfl (by decide) ?_
     refine WL.no rfl rfl rfl (by decide) ?_
     refine WL.no rfl rfl rfl (by decide) ?_
     refine WL.no rfl rfl rfl (by decide) ?_
     refine WL.no rfl rfl rfl (by decide) ?_
     refine WL.no rfl rfl rfl (by decide) ?_
     refine WL.no rfl rfl rfl (by decide) ?_
     refine WL.y (X.pickF rfl rfl rfl) ?_
     refine WL.ag rfl ?_
     refine WL.z ?_
     refine WC.seq ?_
     refine WC.r ?_
     refine WL.mv rfl ?_
     refine WL.y (X.not rfl) ?_
     refine WL.mv rfl ?_
     refine WL.yes rfl rfl ?_
     refine WL.mv rfl ?_
     refine WL.yes rfl rfl ?_
     refine WL.y (X.not rfl) ?_
     refine WL.y (X.pickF rfl rfl rfl) ?_
     refine WL.mv rfl ?_
     refine WL.no rfl rfl rfl (by decide) ?_
     refine WL.no rfl rfl rfl (by decide) ?_
     refine WL.no rfl rfl rfl (by decide) ?_
     refine WL.no rfl rfl rfl (by decide) ?_
     refine WL.y (X.pickT rfl rfl rfl) ?_
     refine WL.mv rfl ?_
     refine WL.no rfl rfl rfl (by decide) ?_
     refine WL.no rfl rfl rfl (by decide) ?_
     refine WL.no rfl rfl rfl (by decide) ?_
     refine WL.no rfl rfl rfl (by decide) ?_
     refine WL.y (X.pickT rfl rfl rfl) ?_
     refine WL.mv rfl ?_
     refine WL.no rfl rfl rfl (by decide) ?_
     refine WL.no rfl rfl rfl (by decide) ?_
     refine WL.no rfl rfl rfl (by decide) ?_
     refine WL.no rfl rfl rfl (by decide) ?_
     refine WL.y (X.pickT rfl rfl rfl) ?_
     refine WL.z ?_
     refine WC.condT rfl ?_
     refine WC.r ?_
     refine WL.ag rfl ?_
     refine WL.z ?_
     refine WC.ret ?_
     refine WK.rThen ?_
     refine WK.ret1 rfl rfl (fun w' hw' => Ret.exact hw' ?_)
     first | exact int_eq (paperE_no (by unfold paperP; first | omega | (rintro ⟨h1_, h2_, h3_, h4_, h5_⟩; first | omega | contradiction))).symm | exact int_eq (paperE_yes ⟨by omega, by omega, by omega, by assumption, by assumption⟩).symm
   ·refine WL.yes rfl rfl ?_
    refine WL.mv rfl ?_
    refine WL.yes rfl rfl ?_
    refine WL.y (X.field Tryz.runUnderlying25 rfl Tryz.sizeOf3 rfl) ?_
    refine WL.yes rfl rfl ?_
    refine WL.y (X.loadB (k := 0) Tryz.isAgg3 rfl rfl rfl) ?_
    refine WL.yes rfl rfl ?_
    refine WL.y (X.field Tryz.runUnderlying25 rfl Tryz.sizeOf3 rfl) ?_
    refine WL.yes rfl rfl ?_
    refine WL.y (X.loadB (k := 0) Tryz.isAgg3 rfl rfl rfl) ?_
    refine WL.yes rfl rfl ?_
    refine WL.cond (X.call Tryz.call74 rfl (within74 _ _ _ _ )) (by decide) (fun h12 => ?_) (fun h12 => ?_)
    ·refine WL.yes rfl rfl ?_
     refine WL.y (X.pickF rfl rfl rfl) ?_
     refine WL.y (X.pickT rfl rfl rfl) ?_
     refine WL.ag rfl ?_
     refine WL.z ?_
     refine WC.r ?_
     refine WL.y (X.field Tryz.runUnderlying25 rfl Tryz.sizeOf3 rfl) ?_
     refine WL.y (X.loadB (k := 0) Tryz.isAgg3 rfl rfl rfl) ?_
     refine WL.cond (X.geq rfl rfl) (by decide) (fun h13 => ?_) (fun h13 => ?_)
     ·refine WL.mv rfl ?_
      refine WL.yes rfl rfl ?_
      refine WL.y (X.field Tryz.runUnderlying25 rfl Tryz.sizeOf3 rfl) ?_
      refine WL.yes rfl rfl ?_
      refine WL.y (X.loadB (k := 0) Tryz.isAgg3 rfl rfl rfl) ?_
      refine WL.yes rfl rfl ?_
      refine WL.y (X.field Tryz.runUnderlying25 rfl Tryz.sizeOf3 rfl) ?_
      refine WL.yes rfl rfl ?_
      refine WL.y (X.loadB (k := 0) Tryz.isAgg3 rfl rfl rfl) ?_
      refine WL.yes rfl rfl ?_
      refine WL.cond (X.lss rfl rfl) (by decide) (fun h14 => ?_) (fun h14 => ?_)
      ·refine WL.y (X.pickT rfl rfl rfl) ?_
       refine WL.mv rfl ?_
       refine WL.yes rfl rfl ?_
       refine WL.y (X.field Tryz.runUnderlying25 rfl Tryz.sizeOf3 rfl) ?_
       refine WL.yes rfl rfl ?_
       refine WL.y (X.loadB (k := 0) Tryz.isAgg3 rfl rfl rfl) ?_
       refine WL.yes rfl rfl ?_
       refine WL.cond (X.leq rfl rfl) (by decide) (fun h15 => ?_) (fun h15 => ?_)
       ·refine WL.y (X.pickT rfl rfl rfl) ?_
        refine WL.mv rfl ?_
        refine WL.yes rfl rfl ?_
        refine WL.y (X.field Tryz.runUnderlying25 rfl Tryz.sizeOf3 rfl) ?_
        refine WL.yes rfl rfl ?_
        refine WL.y (X.loadB (k := 0) Tryz.isAgg3 rfl rfl rfl) ?_
        refine WL.yes rfl rfl ?_
        refine WL.y (X.field Tryz.runUnderlying25 rfl Tryz.sizeOf3 rfl) ?_
        refine WL.yes rfl rfl ?_
        refine WL.y (X.loadB (k := 0) Tryz.isAgg3 rfl rfl rfl) ?_
        refine WL.yes rfl rfl ?_
        refine WL.y (X.sub rfl rfl (by omega) (by omega)) ?_
        refine WL.yes rfl rfl ?_
        refine WL.y (X.field Tryz.runUnderlying25 rfl Tryz.sizeOf3 rfl) ?_
        refine WL.yes rfl rfl ?_
        refine WL.y (X.loadB (k := 0) Tryz.isAgg3 rfl rfl rfl) ?_
        refine WL.yes rfl rfl ?_
        refine WL.cond (X.leq rfl rfl) (by decide) (fun h16 => ?_) (fun h16 => ?_)
        ·refine WL.y (X.pickT rfl rfl rfl) ?_
         refine WL.ag rfl ?_
         refine WL.z ?_
         refine WC.seq ?_
         refine WC.r ?_
         refine WL.mv rfl ?_
         refine WL.y (X.not rfl) ?_
         refine WL.mv rfl ?_
         refine WL.yes rfl rfl ?_
         refine WL.mv rfl ?_
         refine WL.yes rfl rfl ?_
         refine WL.y (X.not rfl) ?_
         refine WL.y (X.pickF rfl rfl rfl) ?_
         refine WL.mv rfl ?_
         refine WL.yes rfl rfl ?_
         refine WL.y (X.field Tryz.runUnderlying25 rfl Tryz.sizeOf3 rfl) ?_
         refine WL.yes rfl rfl ?_
         refine WL.y (X.loadB (k := 0) Tryz.isAgg3 rfl rfl rfl) ?_
         refine WL.yes rfl rfl ?_
         refine WL.cond (X.call Tryz.call74 rfl (within74 _ _ _ _ )) (by decide) (fun h17 => ?_) (fun h17 => ?_)
         ·refine WL.yes rfl rfl ?_
          refine WL.y (X.not rfl) ?_
          refine WL.y (X.pickF rfl rfl rfl) ?_
          refine WL.mv rfl ?_
          refine WL.yes rfl rfl ?_
          refine WL.y (X.field Tryz.runUnderlying25 rfl Tryz.sizeOf23 rfl) ?_
          refine WL.yes rfl rfl ?_
          refine WL.y (X.loadBP (k := 0) (vs := [.int .i64 (p.Along.Lo), .int .i64 (p.Along.Hi)]) Tryz.isAgg23 Tryz.sizeOf23 rfl rfl rfl rfl) ?_
          refine WL.yes rfl rfl ?_
          refine WL.cond (X.call Tryz.call221 rfl (shrinks221 _ _ p.Along rfl )) (by decide) (fun h18 => ?_) (fun h18 => ?_)
          ·refine WL.yes rfl rfl ?_
           refine WL.y (X.not rfl) ?_
           refine WL.y (X.pickF rfl rfl rfl) ?_
           refine WL.mv rfl ?_
           refine WL.yes rfl rfl ?_
           refine WL.y (X.field Tryz.runUnderlying25 rfl Tryz.sizeOf23 rfl) ?_
           refine WL.yes rfl rfl ?_
           refine WL.y (X.loadBP (k := 0) (vs := [.int .i64 (p.Across.Lo), .int .i64 (p.Across.Hi)]) Tryz.isAgg23 Tryz.sizeOf23 rfl rfl rfl rfl) ?_
           refine WL.yes rfl rfl ?_
           refine WL.cond (X.call Tryz.call221 rfl (shrinks221 _ _ p.Across rfl )) (by decide) (fun h19 => ?_) (fun h19 => ?_)
           ·refine WL.yes rfl rfl ?_
            refine WL.y (X.not rfl) ?_
            refine WL.y (X.pickF rfl rfl rfl) ?_
            refine WL.z ?_
            refine WC.condF rfl ?_
            refine WC.skip ?_
            refine WK.nThen ?_
            refine WC.r ?_
            refine WL.ag rfl ?_
            refine WL.z ?_
            refine WC.ret ?_
            refine WK.ret1 rfl rfl (fun w' hw' => Ret.exact hw' ?_)
            first | exact int_eq (paperE_no (by unfold paperP; first | omega | (rintro ⟨h1_, h2_, h3_, h4_, h5_⟩; first | omega | contradiction))).symm | exact int_eq (paperE_yes ⟨by omega, by omega, by omega, by assumption, by assumption⟩).symm
           ·refine WL.yes rfl rfl ?_
            refine WL.y (X.not rfl) ?_
            refine WL.y (X.pickF rfl rfl rfl) ?_
            refine WL.z ?_
            refine WC.condT rfl ?_
            refine WC.r ?_
            refine WL.ag rfl ?_
            refine WL.z ?_
            refine WC.ret ?_
            refine WK.rThen ?_
            refine WK.ret1 rfl rfl (fun w' hw' => Ret.exact hw' ?_)
            first | exact int_eq (paperE_no (by unfold paperP; first | omega | (rintro ⟨h1_, h2_, h3_, h4_, h5_⟩; first | omega | contradiction))).symm | exact int_eq (paperE_yes ⟨by omega, by omega, by omega, by assumption, by assumption⟩).symm
          ·refine WL.yes rfl rfl ?_
           refine WL.y (X.not rfl) ?_
           refine WL.y (X.pickF rfl rfl rfl) ?_
           refine WL.mv rfl ?_
           refine WL.no rfl rfl rfl (by decide) ?_
           refine WL.no rfl rfl rfl (by decide) ?_
           refine WL.no rfl rfl rfl (by decide) ?_
           refine WL.no rfl rfl rfl (by decide) ?_
           refine WL.y (X.pickT rfl rfl rfl) ?_
           refine WL.z ?_
           refine WC.condT rfl ?_
           refine WC.r ?_
           refine WL.ag rfl ?_
           refine WL.z ?_
           refine WC.ret ?_
           refine WK.rThen ?_
           refine WK.ret1 rfl rfl (fun w' hw' => Ret.exact hw' ?_)
           first | exact int_eq (paperE_no (by unfold paperP; first | omega | (rintro ⟨h1_, h2_, h3_, h4_, h5_⟩; first | omega | contradiction))).symm | exact int_eq (paperE_yes ⟨by omega, by omega, by omega, by assumption, by assumption⟩).symm
         ·refine WL.yes rfl rfl ?_
          refine WL.y (X.not rfl) ?_
          refine WL.y (X.pickF rfl rfl rfl) ?_
          refine WL.mv rfl ?_
          refine WL.no rfl rfl rfl (by decide) ?_
          refine WL.no rfl rfl rfl (by decide) ?_
          refine WL.no rfl rfl rfl (by decide) ?_
          refine WL.no rfl rfl rfl (by decide) ?_
          refine WL.y (X.pickT rfl rfl rfl) ?_
          refine WL.mv rfl ?_
          refine WL.no rfl rfl rfl (by decide) ?_
          refine WL.no rfl rfl rfl (by decide) ?_
          refine WL.no rfl rfl rfl (by decide) ?_
          refine WL.no rfl rfl rfl (by decide) ?_
          refine WL.y (X.pickT rfl rfl rfl) ?_
          refine WL.z ?_
          refine WC.condT rfl ?_
          refine WC.r ?_
          refine WL.ag rfl ?_
          refine WL.z ?_
          refine WC.ret ?_
          refine WK.rThen ?_
          refine WK.ret1 rfl rfl (fun w' hw' => Ret.exact hw' ?_)
          first | exact int_eq (paperE_no (by unfold paperP; first | omega | (rintro ⟨h1_, h2_, h3_, h4_, h5_⟩; first | omega | contradiction))).symm | exact int_eq (paperE_yes ⟨by omega, by omega, by omega, by assumption, by assumption⟩).symm
        ·refine WL.y (X.pickT rfl rfl rfl) ?_
         refine WL.ag rfl ?_
         refine WL.z ?_
         refine WC.seq ?_
         refine WC.r ?_
         refine WL.mv rfl ?_
         refine WL.y (X.not rfl) ?_
         refine WL.mv rfl ?_
         refine WL.yes rfl rfl ?_
         refine WL.mv rfl ?_
         refine WL.yes rfl rfl ?_
         refine WL.y (X.not rfl) ?_
         refine WL.y (X.pickF rfl rfl rfl) ?_
         refine WL.mv rfl ?_
         refine WL.no rfl rfl rfl (by decide) ?_
         refine WL.no rfl rfl rfl (by decide) ?_
         refine WL.no rfl rfl rfl (by decide) ?_
         refine WL.no rfl rfl rfl (by decide) ?_
         refine WL.y (X.pickT rfl rfl rfl) ?_
         refine WL.mv rfl ?_
         refine WL.no rfl rfl rfl (by decide) ?_
         refine WL.no rfl rfl rfl (by decide) ?_
         refine WL.no rfl rfl rfl (by decide) ?_
         refine WL.no rfl rfl rfl (by decide) ?_
         refine WL.y (X.pickT rfl rfl rfl) ?_
         refine WL.mv rfl ?_
         refine WL.no rfl rfl rfl (by decide) ?_
         refine WL.no rfl rfl rfl (by decide) ?_
         refine WL.no rfl rfl rfl (by decide) ?_
         refine WL.no rfl rfl rfl (by decide) ?_
         refine WL.y (X.pickT rfl rfl rfl) ?_
         refine WL.z ?_
         refine WC.condT rfl ?_
         refine WC.r ?_
         refine WL.ag rfl ?_
         refine WL.z ?_
         refine WC.ret ?_
         refine WK.rThen ?_
         refine WK.ret1 rfl rfl (fun w' hw' => Ret.exact hw' ?_)
         first | exact int_eq (paperE_no (by unfold paperP; first | omega | (rintro ⟨h1_, h2_, h3_, h4_, h5_⟩; first | omega | contradiction))).symm | exact int_eq (paperE_yes ⟨by omega, by omega, by omega, by assumption, by assumption⟩).symm
       ·refine WL.y (X.pickT rfl rfl rfl) ?_
        refine WL.mv rfl ?_
        refine WL.no rfl rfl rfl (by decide) ?_
        refine WL.no rfl rfl rfl (by decide) ?_
        refine WL.no rfl rfl rfl (by decide) ?_
        refine WL.no rfl rfl rfl (by decide) ?_
        refine WL.no rfl rfl rfl (by decide) ?_
        refine WL.no rfl rfl rfl (by decide) ?_
        refine WL.no rfl rfl rfl (by decide) ?_
        refine WL.no rfl rfl rfl (by decide) ?_
        refine WL.y (X.pickF rfl rfl rfl) ?_
        refine WL.ag rfl ?_
        refine WL.z ?_
        refine WC.seq ?_
        refine WC.r ?_
        refine WL.mv rfl ?_
        refine WL.y (X.not rfl) ?_
        refine WL.mv rfl ?_
        refine WL.yes rfl rfl ?_
        refine WL.mv rfl ?_
        refine WL.yes rfl rfl ?_
        refine WL.y (X.not rfl) ?_
        refine WL.y (X.pickF rfl rfl rfl) ?_
        refine WL.mv rfl ?_
        refine WL.no rfl rfl rfl (by decide) ?_
        refine WL.no rfl rfl rfl (by decide) ?_
        refine WL.no rfl rfl rfl (by decide) ?_
        refine WL.no rfl rfl rfl (by decide) ?_
        refine WL.y (X.pickT rfl rfl rfl) ?_
        refine WL.mv rfl ?_
        refine WL.no rfl rfl rfl (by decide) ?_
        refine WL.no rfl rfl rfl (by decide) ?_
        refine WL.no rfl rfl rfl (by decide) ?_
        refine WL.no rfl rfl rfl (by decide) ?_
        refine WL.y (X.pickT rfl rfl rfl) ?_
        refine WL.mv rfl ?_
        refine WL.no rfl rfl rfl (by decide) ?_
        refine WL.no rfl rfl rfl (by decide) ?_
        refine WL.no rfl rfl rfl (by decide) ?_
        refine WL.no rfl rfl rfl (by decide) ?_
        refine WL.y (X.pickT rfl rfl rfl) ?_
        refine WL.z ?_
        refine WC.condT rfl ?_
        refine WC.r ?_
        refine WL.ag rfl ?_
        refine WL.z ?_
        refine WC.ret ?_
        refine WK.rThen ?_
        refine WK.ret1 rfl rfl (fun w' hw' => Ret.exact hw' ?_)
        first | exact int_eq (paperE_no (by unfold paperP; first | omega | (rintro ⟨h1_, h2_, h3_, h4_, h5_⟩; first | omega | contradiction))).symm | exact int_eq (paperE_yes ⟨by omega, by omega, by omega, by assumption, by assumption⟩).symm
      ·refine WL.y (X.pickT rfl rfl rfl) ?_
       refine WL.mv rfl ?_
       refine WL.no rfl rfl rfl (by decide) ?_
       refine WL.no rfl rfl rfl (by decide) ?_
       refine WL.no rfl rfl rfl (by decide) ?_
       refine WL.y (X.pickF rfl rfl rfl) ?_
       refine WL.mv rfl ?_
       refine WL.no rfl rfl rfl (by decide) ?_
       refine WL.no rfl rfl rfl (by decide) ?_
       refine WL.no rfl rfl rfl (by decide) ?_
       refine WL.no rfl rfl rfl (by decide) ?_
       refine WL.no rfl rfl rfl (by decide) ?_
       refine WL.no rfl rfl rfl (by decide) ?_
       refine WL.no rfl rfl rfl (by decide) ?_
       refine WL.no rfl rfl rfl (by decide) ?_
       refine WL.y (X.pickF rfl rfl rfl) ?_
       refine WL.ag rfl ?_
       refine WL.z ?_
       refine WC.seq ?_
       refine WC.r ?_
       refine WL.mv rfl ?_
       refine WL.y (X.not rfl) ?_
       refine WL.mv rfl ?_
       refine WL.yes rfl rfl ?_
       refine WL.mv rfl ?_
       refine WL.yes rfl rfl ?_
       refine WL.y (X.not rfl) ?_
       refine WL.y (X.pickF rfl rfl rfl) ?_
       refine WL.mv rfl ?_
       refine WL.no rfl rfl rfl (by decide) ?_
       refine WL.no rfl rfl rfl (by decide) ?_
       refine WL.no rfl rfl rfl (by decide) ?_
       refine WL.no rfl rfl rfl (by decide) ?_
       refine WL.y (X.pickT rfl rfl rfl) ?_
       refine WL.mv rfl ?_
       refine WL.no rfl rfl rfl (by decide) ?_
       refine WL.no rfl rfl rfl (by decide) ?_
       refine WL.no rfl rfl rfl (by decide) ?_
       refine WL.no rfl rfl rfl (by decide) ?_
       refine WL.y (X.pickT rfl rfl rfl) ?_
       refine WL.mv rfl ?_
       refine WL.no rfl rfl rfl (by decide) ?_
       refine WL.no rfl rfl rfl (by decide) ?_
       refine WL.no rfl rfl rfl (by decide) ?_
       refine WL.no rfl rfl rfl (by decide) ?_
       refine WL.y (X.pickT rfl rfl rfl) ?_
       refine WL.z ?_
       refine WC.condT rfl ?_
       refine WC.r ?_
       refine WL.ag rfl ?_
       refine WL.z ?_
       refine WC.ret ?_
       refine WK.rThen ?_
       refine WK.ret1 rfl rfl (fun w' hw' => Ret.exact hw' ?_)
       first | exact int_eq (paperE_no (by unfold paperP; first | omega | (rintro ⟨h1_, h2_, h3_, h4_, h5_⟩; first | omega | contradiction))).symm | exact int_eq (paperE_yes ⟨by omega, by omega, by omega, by assumption, by assumption⟩).symm
     ·refine WL.mv rfl ?_
      refine WL.no rfl rfl rfl (by decide) ?_
      refine WL.no rfl rfl rfl (by decide) ?_
      refine WL.no rfl rfl rfl (by decide) ?_
      refine WL.no rfl rfl rfl (by decide) ?_
      refine WL.no rfl rfl rfl (by decide) ?_
      refine WL.y (X.pickF rfl rfl rfl) ?_
      refine WL.mv rfl ?_
      refine WL.no rfl rfl rfl (by decide) ?_
      refine WL.no rfl rfl rfl (by decide) ?_
      refine WL.no rfl rfl rfl (by decide) ?_
      refine WL.y (X.pickF rfl rfl rfl) ?_
      refine WL.mv rfl ?_
      refine WL.no rfl rfl rfl (by decide) ?_
      refine WL.no rfl rfl rfl (by decide) ?_
      refine WL.no rfl rfl rfl (by decide) ?_
      refine WL.no rfl rfl rfl (by decide) ?_
      refine WL.no rfl rfl rfl (by decide) ?_
      refine WL.no rfl rfl rfl (by decide) ?_
      refine WL.no rfl rfl rfl (by decide) ?_
      refine WL.no rfl rfl rfl (by decide) ?_
      refine WL.y (X.pickF rfl rfl rfl) ?_
      refine WL.ag rfl ?_
      refine WL.z ?_
      refine WC.seq ?_
      refine WC.r ?_
      refine WL.mv rfl ?_
      refine WL.y (X.not rfl) ?_
      refine WL.mv rfl ?_
      refine WL.yes rfl rfl ?_
      refine WL.mv rfl ?_
      refine WL.yes rfl rfl ?_
      refine WL.y (X.not rfl) ?_
      refine WL.y (X.pickF rfl rfl rfl) ?_
      refine WL.mv rfl ?_
      refine WL.no rfl rfl rfl (by decide) ?_
      refine WL.no rfl rfl rfl (by decide) ?_
      refine WL.no rfl rfl rfl (by decide) ?_
      refine WL.no rfl rfl rfl (by decide) ?_
      refine WL.y (X.pickT rfl rfl rfl) ?_
      refine WL.mv rfl ?_
      refine WL.no rfl rfl rfl (by decide) ?_
      refine WL.no rfl rfl rfl (by decide) ?_
      refine WL.no rfl rfl rfl (by decide) ?_
      refine WL.no rfl rfl rfl (by decide) ?_
      refine WL.y (X.pickT rfl rfl rfl) ?_
      refine WL.mv rfl ?_
      refine WL.no rfl rfl rfl (by decide) ?_
      refine WL.no rfl rfl rfl (by decide) ?_
      refine WL.no rfl rfl rfl (by decide) ?_
      refine WL.no rfl rfl rfl (by decide) ?_
      refine WL.y (X.pickT rfl rfl rfl) ?_
      refine WL.z ?_
      refine WC.condT rfl ?_
      refine WC.r ?_
      refine WL.ag rfl ?_
      refine WL.z ?_
      refine WC.ret ?_
      refine WK.rThen ?_
      refine WK.ret1 rfl rfl (fun w' hw' => Ret.exact hw' ?_)
      first | exact int_eq (paperE_no (by unfold paperP; first | omega | (rintro ⟨h1_, h2_, h3_, h4_, h5_⟩; first | omega | contradiction))).symm | exact int_eq (paperE_yes ⟨by omega, by omega, by omega, by assumption, by assumption⟩).symm
    ·refine WL.yes rfl rfl ?_
     refine WL.y (X.pickF rfl rfl rfl) ?_
     refine WL.y (X.pickT rfl rfl rfl) ?_
     refine WL.ag rfl ?_
     refine WL.z ?_
     refine WC.r ?_
     refine WL.y (X.field Tryz.runUnderlying25 rfl Tryz.sizeOf3 rfl) ?_
     refine WL.y (X.loadB (k := 0) Tryz.isAgg3 rfl rfl rfl) ?_
     refine WL.cond (X.geq rfl rfl) (by decide) (fun h20 => ?_) (fun h20 => ?_)
     ·refine WL.mv rfl ?_
      refine WL.yes rfl rfl ?_
      refine WL.y (X.field Tryz.runUnderlying25 rfl Tryz.sizeOf3 rfl) ?_
      refine WL.yes rfl rfl ?_
      refine WL.y (X.loadB (k := 0) Tryz.isAgg3 rfl rfl rfl) ?_
      refine WL.yes rfl rfl ?_
      refine WL.y (X.field Tryz.runUnderlying25 rfl Tryz.sizeOf3 rfl) ?_
      refine WL.yes rfl rfl ?_
      refine WL.y (X.loadB (k := 0) Tryz.isAgg3 rfl rfl rfl) ?_
      refine WL.yes rfl rfl ?_
      refine WL.cond (X.lss rfl rfl) (by decide) (fun h21 => ?_) (fun h21 => ?_)
      ·refine WL.y (X.pickT rfl rfl rfl) ?_
       refine WL.mv rfl ?_
       refine WL.yes rfl rfl ?_
       refine WL.y (X.field Tryz.runUnderlying25 rfl Tryz.sizeOf3 rfl) ?_
       refine WL.yes rfl rfl ?_
       refine WL.y (X.loadB (k := 0) Tryz.isAgg3 rfl rfl rfl) ?_
       refine WL.yes rfl rfl ?_
       refine WL.cond (X.leq rfl rfl) (by decide) (fun h22 => ?_) (fun h22 => ?_)
       ·refine WL.y (X.pickT rfl rfl rfl) ?_
        refine WL.mv rfl ?_
        refine WL.yes rfl rfl ?_
        refine WL.y (X.field Tryz.runUnderlying25 rfl Tryz.sizeOf3 rfl) ?_
        refine WL.yes rfl rfl ?_
        refine WL.y (X.loadB (k := 0) Tryz.isAgg3 rfl rfl rfl) ?_
        refine WL.yes rfl rfl ?_
        refine WL.y (X.field Tryz.runUnderlying25 rfl Tryz.sizeOf3 rfl) ?_
        refine WL.yes rfl rfl ?_
        refine WL.y (X.loadB (k := 0) Tryz.isAgg3 rfl rfl rfl) ?_
        refine WL.yes rfl rfl ?_
        refine WL.y (X.sub rfl rfl (by omega) (by omega)) ?_
        refine WL.yes rfl rfl ?_
        refine WL.y (X.field Tryz.runUnderlying25 rfl Tryz.sizeOf3 rfl) ?_
        refine WL.yes rfl rfl ?_
        refine WL.y (X.loadB (k := 0) Tryz.isAgg3 rfl rfl rfl) ?_
        refine WL.yes rfl rfl ?_
        refine WL.cond (X.leq rfl rfl) (by decide) (fun h23 => ?_) (fun h23 => ?_)
        ·refine WL.y (X.pickT rfl rfl rfl) ?_
         refine WL.ag rfl ?_
         refine WL.z ?_
         refine WC.seq ?_
         refine WC.r ?_
         refine WL.mv rfl ?_
         refine WL.y (X.not rfl) ?_
         refine WL.mv rfl ?_
         refine WL.no rfl rfl rfl (by decide) ?_
         refine WL.no rfl rfl rfl (by decide) ?_
         refine WL.y (X.pickT rfl rfl rfl) ?_
         refine WL.mv rfl ?_
         refine WL.no rfl rfl rfl (by decide) ?_
         refine WL.no rfl rfl rfl (by decide) ?_
         refine WL.no rfl rfl rfl (by decide) ?_
         refine WL.no rfl rfl rfl (by decide) ?_
         refine WL.y (X.pickT rfl rfl rfl) ?_
         refine WL.mv rfl ?_
         refine WL.no rfl rfl rfl (by decide) ?_
         refine WL.no rfl rfl rfl (by decide) ?_
         refine WL.no rfl rfl rfl (by decide) ?_
         refine WL.no rfl rfl rfl (by decide) ?_
         refine WL.y (X.pickT rfl rfl rfl) ?_
         refine WL.mv rfl ?_
         refine WL.no rfl rfl rfl (by decide) ?_
         refine WL.no rfl rfl rfl (by decide) ?_
         refine WL.no rfl rfl rfl (by decide) ?_
         refine WL.no rfl rfl rfl (by decide) ?_
         refine WL.y (X.pickT rfl rfl rfl) ?_
         refine WL.z ?_
         refine WC.condT rfl ?_
         refine WC.r ?_
         refine WL.ag rfl ?_
         refine WL.z ?_
         refine WC.ret ?_
         refine WK.rThen ?_
         refine WK.ret1 rfl rfl (fun w' hw' => Ret.exact hw' ?_)
         first | exact int_eq (paperE_no (by unfold paperP; first | omega | (rintro ⟨h1_, h2_, h3_, h4_, h5_⟩; first | omega | contradiction))).symm | exact int_eq (paperE_yes ⟨by omega, by omega, by omega, by assumption, by assumption⟩).symm
        ·refine WL.y (X.pickT rfl rfl rfl) ?_
         refine WL.ag rfl ?_
         refine WL.z ?_
         refine WC.seq ?_
         refine WC.r ?_
         refine WL.mv rfl ?_
         refine WL.y (X.not rfl) ?_
         refine WL.mv rfl ?_
         refine WL.no rfl rfl rfl (by decide) ?_
         refine WL.no rfl rfl rfl (by decide) ?_
         refine WL.y (X.pickT rfl rfl rfl) ?_
         refine WL.mv rfl ?_
         refine WL.no rfl rfl rfl (by decide) ?_
         refine WL.no rfl rfl rfl (by decide) ?_
         refine WL.no rfl rfl rfl (by decide) ?_
         refine WL.no rfl rfl rfl (by decide) ?_
         refine WL.y (X.pickT rfl rfl rfl) ?_
         refine WL.mv rfl ?_
         refine WL.no rfl rfl rfl (by decide) ?_
         refine WL.no rfl rfl rfl (by decide) ?_
         refine WL.no rfl rfl rfl (by decide) ?_
         refine WL.no rfl rfl rfl (by decide) ?_
         refine WL.y (X.pickT rfl rfl rfl) ?_
         refine WL.mv rfl ?_
         refine WL.no rfl rfl rfl (by decide) ?_
         refine WL.no rfl rfl rfl (by decide) ?_
         refine WL.no rfl rfl rfl (by decide) ?_
         refine WL.no rfl rfl rfl (by decide) ?_
         refine WL.y (X.pickT rfl rfl rfl) ?_
         refine WL.z ?_
         refine WC.condT rfl ?_
         refine WC.r ?_
         refine WL.ag rfl ?_
         refine WL.z ?_
         refine WC.ret ?_
         refine WK.rThen ?_
         refine WK.ret1 rfl rfl (fun w' hw' => Ret.exact hw' ?_)
         first | exact int_eq (paperE_no (by unfold paperP; first | omega | (rintro ⟨h1_, h2_, h3_, h4_, h5_⟩; first | omega | contradiction))).symm | exact int_eq (paperE_yes ⟨by omega, by omega, by omega, by assumption, by assumption⟩).symm
       ·refine WL.y (X.pickT rfl rfl rfl) ?_
        refine WL.mv rfl ?_
        refine WL.no rfl rfl rfl (by decide) ?_
        refine WL.no rfl rfl rfl (by decide) ?_
        refine WL.no rfl rfl rfl (by decide) ?_
        refine WL.no rfl rfl rfl (by decide) ?_
        refine WL.no rfl rfl rfl (by decide) ?_
        refine WL.no rfl rfl rfl (by decide) ?_
        refine WL.no rfl rfl rfl (by decide) ?_
        refine WL.no rfl rfl rfl (by decide) ?_
        refine WL.y (X.pickF rfl rfl rfl) ?_
        refine WL.ag rfl ?_
        refine WL.z ?_
        refine WC.seq ?_
        refine WC.r ?_
        refine WL.mv rfl ?_
        refine WL.y (X.not rfl) ?_
        refine WL.mv rfl ?_
        refine WL.no rfl rfl rfl (by decide) ?_
        refine WL.no rfl rfl rfl (by decide) ?_
        refine WL.y (X.pickT rfl rfl rfl) ?_
        refine WL.mv rfl ?_
        refine WL.no rfl rfl rfl (by decide) ?_
        refine WL.no rfl rfl rfl (by decide) ?_
        refine WL.no rfl rfl rfl (by decide) ?_
        refine WL.no rfl rfl rfl (by decide) ?_
        refine WL.y (X.pickT rfl rfl rfl) ?_
        refine WL.mv rfl ?_
        refine WL.no rfl rfl rfl (by decide) ?_
        refine WL.no rfl rfl rfl (by decide) ?_
        refine WL.no rfl rfl rfl (by decide) ?_
        refine WL.no rfl rfl rfl (by decide) ?_
        refine WL.y (X.pickT rfl rfl rfl) ?_
        refine WL.mv rfl ?_
        refine WL.no rfl rfl rfl (by decide) ?_
        refine WL.no rfl rfl rfl (by decide) ?_
        refine WL.no rfl rfl rfl (by decide) ?_
        refine WL.no rfl rfl rfl (by decide) ?_
        refine WL.y (X.pickT rfl rfl rfl) ?_
        refine WL.z ?_
        refine WC.condT rfl ?_
        refine WC.r ?_
        refine WL.ag rfl ?_
        refine WL.z ?_
        refine WC.ret ?_
        refine WK.rThen ?_
        refine WK.ret1 rfl rfl (fun w' hw' => Ret.exact hw' ?_)
        first | exact int_eq (paperE_no (by unfold paperP; first | omega | (rintro ⟨h1_, h2_, h3_, h4_, h5_⟩; first | omega | contradiction))).symm | exact int_eq (paperE_yes ⟨by omega, by omega, by omega, by assumption, by assumption⟩).symm
      ·refine WL.y (X.pickT rfl rfl rfl) ?_
       refine WL.mv rfl ?_
       refine WL.no rfl rfl rfl (by decide) ?_
       refine WL.no rfl rfl rfl (by decide) ?_
       refine WL.no rfl rfl rfl (by decide) ?_
       refine WL.y (X.pickF rfl rfl rfl) ?_
       refine WL.mv rfl ?_
       refine WL.no rfl rfl rfl (by decide) ?_
       refine WL.no rfl rfl rfl (by decide) ?_
       refine WL.no rfl rfl rfl (by decide) ?_
       refine WL.no rfl rfl rfl (by decide) ?_
       refine WL.no rfl rfl rfl (by decide) ?_
       refine WL.no rfl rfl rfl (by decide) ?_
       refine WL.no rfl rfl rfl (by decide) ?_
       refine WL.no rfl rfl rfl (by decide) ?_
       refine WL.y (X.pickF rfl rfl rfl) ?_
       refine WL.ag rfl ?_
       refine WL.z ?_
       refine WC.seq ?_
       refine WC.r ?_
       refine WL.mv rfl ?_
       refine WL.y (X.not rfl) ?_
       refine WL.mv rfl ?_
       refine WL.no rfl rfl rfl (by decide) ?_
       refine WL.no rfl rfl rfl (by decide) ?_
       refine WL.y (X.pickT rfl rfl rfl) ?_
       refine WL.mv rfl ?_
       refine WL.no rfl rfl rfl (by decide) ?_
       refine WL.no rfl rfl rfl (by decide) ?_
       refine WL.no rfl rfl rfl (by decide) ?_
       refine WL.no rfl rfl rfl (by decide) ?_
       refine WL.y (X.pickT rfl rfl rfl) ?_
       refine WL.mv rfl ?_
       refine WL.no rfl rfl rfl (by decide) ?_
       refine WL.no rfl rfl rfl (by decide) ?_
       refine WL.no rfl rfl rfl (by decide) ?_
       refine WL.no rfl rfl rfl (by decide) ?_
       refine WL.y (X.pickT rfl rfl rfl) ?_
       refine WL.mv rfl ?_
       refine WL.no rfl rfl rfl (by decide) ?_
       refine WL.no rfl rfl rfl (by decide) ?_
       refine WL.no rfl rfl rfl (by decide) ?_
       refine WL.no rfl rfl rfl (by decide) ?_
       refine WL.y (X.pickT rfl rfl rfl) ?_
       refine WL.z ?_
       refine WC.condT rfl ?_
       refine WC.r ?_
       refine WL.ag rfl ?_
       refine WL.z ?_
       refine WC.ret ?_
       refine WK.rThen ?_
       refine WK.ret1 rfl rfl (fun w' hw' => Ret.exact hw' ?_)
       first | exact int_eq (paperE_no (by unfold paperP; first | omega | (rintro ⟨h1_, h2_, h3_, h4_, h5_⟩; first | omega | contradiction))).symm | exact int_eq (paperE_yes ⟨by omega, by omega, by omega, by assumption, by assumption⟩).symm
     ·refine WL.mv rfl ?_
      refine WL.no rfl rfl rfl (by decide) ?_
      refine WL.no rfl rfl rfl (by decide) ?_
      refine WL.no rfl rfl rfl (by decide) ?_
      refine WL.no rfl rfl rfl (by decide) ?_
      refine WL.no rfl rfl rfl (by decide) ?_
      refine WL.y (X.pickF rfl rfl rfl) ?_
      refine WL.mv rfl ?_
      refine WL.no rfl rfl rfl (by decide) ?_
      refine WL.no rfl rfl rfl (by decide) ?_
      refine WL.no rfl rfl rfl (by decide) ?_
      refine WL.y (X.pickF rfl rfl rfl) ?_
      refine WL.mv rfl ?_
      refine WL.no rfl rfl rfl (by decide) ?_
      refine WL.no rfl rfl rfl (by decide) ?_
      refine WL.no rfl rfl rfl (by decide) ?_
      refine WL.no rfl rfl rfl (by decide) ?_
      refine WL.no rfl rfl rfl (by decide) ?_
      refine WL.no rfl rfl rfl (by decide) ?_
      refine WL.no rfl rfl rfl (by decide) ?_
      refine WL.no rfl rfl rfl (by decide) ?_
      refine WL.y (X.pickF rfl rfl rfl) ?_
      refine WL.ag rfl ?_
      refine WL.z ?_
      refine WC.seq ?_
      refine WC.r ?_
      refine WL.mv rfl ?_
      refine WL.y (X.not rfl) ?_
      refine WL.mv rfl ?_
      refine WL.no rfl rfl rfl (by decide) ?_
      refine WL.no rfl rfl rfl (by decide) ?_
      refine WL.y (X.pickT rfl rfl rfl) ?_
      refine WL.mv rfl ?_
      refine WL.no rfl rfl rfl (by decide) ?_
      refine WL.no rfl rfl rfl (by decide) ?_
      refine WL.no rfl rfl rfl (by decide) ?_
      refine WL.no rfl rfl rfl (by decide) ?_
      refine WL.y (X.pickT rfl rfl rfl) ?_
      refine WL.mv rfl ?_
      refine WL.no rfl rfl rfl (by decide) ?_
      refine WL.no rfl rfl rfl (by decide) ?_
      refine WL.no rfl rfl rfl (by decide) ?_
      refine WL.no rfl rfl rfl (by decide) ?_
      refine WL.y (X.pickT rfl rfl rfl) ?_
      refine WL.mv rfl ?_
      refine WL.no rfl rfl rfl (by decide) ?_
      refine WL.no rfl rfl rfl (by decide) ?_
      refine WL.no rfl rfl rfl (by decide) ?_
      refine WL.no rfl rfl rfl (by decide) ?_
      refine WL.y (X.pickT rfl rfl rfl) ?_
      refine WL.z ?_
      refine WC.condT rfl ?_
      refine WC.r ?_
      refine WL.ag rfl ?_
      refine WL.z ?_
      refine WC.ret ?_
      refine WK.rThen ?_
      refine WK.ret1 rfl rfl (fun w' hw' => Ret.exact hw' ?_)
      first | exact int_eq (paperE_no (by unfold paperP; first | omega | (rintro ⟨h1_, h2_, h3_, h4_, h5_⟩; first | omega | contradiction))).symm | exact int_eq (paperE_yes ⟨by omega, by omega, by omega, by assumption, by assumption⟩).symm
  ·refine WL.y (X.pickT rfl rfl rfl) ?_
   refine WL.mv rfl ?_
   refine WL.no rfl rfl rfl (by decide) ?_
   refine WL.no rfl rfl rfl (by decide) ?_
   refine WL.no rfl rfl rfl (by decide) ?_
   refine WL.no rfl rfl rfl (by decide) ?_
   refine WL.noU rfl rfl (by decide) ?_
   refine WL.noU rfl rfl (by decide) ?_
   refine WL.noU rfl rfl (by decide) ?_
   refine WL.noU rfl rfl (by decide) ?_
   refine WL.noU rfl rfl (by decide) ?_
   refine WL.no rfl rfl rfl (by decide) ?_
   refine WL.y (X.pickF rfl rfl rfl) ?_
   refine WL.ag rfl ?_
   refine WL.z ?_
   refine WC.r ?_
   refine WL.y (X.field Tryz.runUnderlying25 rfl Tryz.sizeOf3 rfl) ?_
   refine WL.y (X.loadB (k := 0) Tryz.isAgg3 rfl rfl rfl) ?_
   refine WL.cond (X.geq rfl rfl) (by decide) (fun h24 => ?_) (fun h24 => ?_)
   ·refine WL.mv rfl ?_
    refine WL.yes rfl rfl ?_
    refine WL.y (X.field Tryz.runUnderlying25 rfl Tryz.sizeOf3 rfl) ?_
    refine WL.yes rfl rfl ?_
    refine WL.y (X.loadB (k := 0) Tryz.isAgg3 rfl rfl rfl) ?_
    refine WL.yes rfl rfl ?_
    refine WL.y (X.field Tryz.runUnderlying25 rfl Tryz.sizeOf3 rfl) ?_
    refine WL.yes rfl rfl ?_
    refine WL.y (X.loadB (k := 0) Tryz.isAgg3 rfl rfl rfl) ?_
    refine WL.yes rfl rfl ?_
    refine WL.cond (X.lss rfl rfl) (by decide) (fun h25 => ?_) (fun h25 => ?_)
    ·refine WL.y (X.pickT rfl rfl rfl) ?_
     refine WL.mv rfl ?_
     refine WL.yes rfl rfl ?_
     refine WL.y (X.field Tryz.runUnderlying25 rfl Tryz.sizeOf3 rfl) ?_
     refine WL.yes rfl rfl ?_
     refine WL.y (X.loadB (k := 0) Tryz.isAgg3 rfl rfl rfl) ?_
     refine WL.yes rfl rfl ?_
     refine WL.cond (X.leq rfl rfl) (by decide) (fun h26 => ?_) (fun h26 => ?_)
     ·refine WL.y (X.pickT rfl rfl rfl) ?_
      refine WL.mv rfl ?_
      refine WL.yes rfl rfl ?_
      refine WL.y (X.field Tryz.runUnderlying25 rfl Tryz.sizeOf3 rfl) ?_
      refine WL.yes rfl rfl ?_
      refine WL.y (X.loadB (k := 0) Tryz.isAgg3 rfl rfl rfl) ?_
      refine WL.yes rfl rfl ?_
      refine WL.y (X.field Tryz.runUnderlying25 rfl Tryz.sizeOf3 rfl) ?_
      refine WL.yes rfl rfl ?_
      refine WL.y (X.loadB (k := 0) Tryz.isAgg3 rfl rfl rfl) ?_
      refine WL.yes rfl rfl ?_
      refine WL.y (X.sub rfl rfl (by omega) (by omega)) ?_
      refine WL.yes rfl rfl ?_
      refine WL.y (X.field Tryz.runUnderlying25 rfl Tryz.sizeOf3 rfl) ?_
      refine WL.yes rfl rfl ?_
      refine WL.y (X.loadB (k := 0) Tryz.isAgg3 rfl rfl rfl) ?_
      refine WL.yes rfl rfl ?_
      refine WL.cond (X.leq rfl rfl) (by decide) (fun h27 => ?_) (fun h27 => ?_)
      ·refine WL.y (X.pickT rfl rfl rfl) ?_
       refine WL.ag rfl ?_
       refine WL.z ?_
       refine WC.seq ?_
       refine WC.r ?_
       refine WL.mv rfl ?_
       refine WL.y (X.not rfl) ?_
       refine WL.mv rfl ?_
       refine WL.no rfl rfl rfl (by decide) ?_
       refine WL.no rfl rfl rfl (by decide) ?_
       refine WL.y (X.pickT rfl rfl rfl) ?_
       refine WL.mv rfl ?_
       refine WL.no rfl rfl rfl (by decide) ?_
       refine WL.no rfl rfl rfl (by decide) ?_
       refine WL.no rfl rfl rfl (by decide) ?_
       refine WL.no rfl rfl rfl (by decide) ?_
       refine WL.y (X.pickT rfl rfl rfl) ?_
       refine WL.mv rfl ?_
       refine WL.no rfl rfl rfl (by decide) ?_
       refine WL.no rfl rfl rfl (by decide) ?_
       refine WL.no rfl rfl rfl (by decide) ?_
       refine WL.no rfl rfl rfl (by decide) ?_
       refine WL.y (X.pickT rfl rfl rfl) ?_
       refine WL.mv rfl ?_
       refine WL.no rfl rfl rfl (by decide) ?_
       refine WL.no rfl rfl rfl (by decide) ?_
       refine WL.no rfl rfl rfl (by decide) ?_
       refine WL.no rfl rfl rfl (by decide) ?_
       refine WL.y (X.pickT rfl rfl rfl) ?_
       refine WL.z ?_
       refine WC.condT rfl ?_
       refine WC.r ?_
       refine WL.ag rfl ?_
       refine WL.z ?_
       refine WC.ret ?_
       refine WK.rThen ?_
       refine WK.ret1 rfl rfl (fun w' hw' => Ret.exact hw' ?_)
       first | exact int_eq (paperE_no (by unfold paperP; first | omega | (rintro ⟨h1_, h2_, h3_, h4_, h5_⟩; first | omega | contradiction))).symm | exact int_eq (paperE_yes ⟨by omega, by omega, by omega, by assumption, by assumption⟩).symm
      ·refine WL.y (X.pickT rfl rfl rfl) ?_
       refine WL.ag rfl ?_
       refine WL.z ?_
       refine WC.seq ?_
       refine WC.r ?_
       refine WL.mv rfl ?_
       refine WL.y (X.not rfl) ?_
       refine WL.mv rfl ?_
       refine WL.no rfl rfl rfl (by decide) ?_
       refine WL.no rfl rfl rfl (by decide) ?_
       refine WL.y (X.pickT rfl rfl rfl) ?_
       refine WL.mv rfl ?_
       refine WL.no rfl rfl rfl (by decide) ?_
       refine WL.no rfl rfl rfl (by decide) ?_
       refine WL.no rfl rfl rfl (by decide) ?_
       refine WL.no rfl rfl rfl (by decide) ?_
       refine WL.y (X.pickT rfl rfl rfl) ?_
       refine WL.mv rfl ?_
       refine WL.no rfl rfl rfl (by decide) ?_
       refine WL.no rfl rfl rfl (by decide) ?_
       refine WL.no rfl rfl rfl (by decide) ?_
       refine WL.no rfl rfl rfl (by decide) ?_
       refine WL.y (X.pickT rfl rfl rfl) ?_
       refine WL.mv rfl ?_
       refine WL.no rfl rfl rfl (by decide) ?_
       refine WL.no rfl rfl rfl (by decide) ?_
       refine WL.no rfl rfl rfl (by decide) ?_
       refine WL.no rfl rfl rfl (by decide) ?_
       refine WL.y (X.pickT rfl rfl rfl) ?_
       refine WL.z ?_
       refine WC.condT rfl ?_
       refine WC.r ?_
       refine WL.ag rfl ?_
       refine WL.z ?_
       refine WC.ret ?_
       refine WK.rThen ?_
       refine WK.ret1 rfl rfl (fun w' hw' => Ret.exact hw' ?_)
       first | exact int_eq (paperE_no (by unfold paperP; first | omega | (rintro ⟨h1_, h2_, h3_, h4_, h5_⟩; first | omega | contradiction))).symm | exact int_eq (paperE_yes ⟨by omega, by omega, by omega, by assumption, by assumption⟩).symm
     ·refine WL.y (X.pickT rfl rfl rfl) ?_
      refine WL.mv rfl ?_
      refine WL.no rfl rfl rfl (by decide) ?_
      refine WL.no rfl rfl rfl (by decide) ?_
      refine WL.no rfl rfl rfl (by decide) ?_
      refine WL.no rfl rfl rfl (by decide) ?_
      refine WL.no rfl rfl rfl (by decide) ?_
      refine WL.no rfl rfl rfl (by decide) ?_
      refine WL.no rfl rfl rfl (by decide) ?_
      refine WL.no rfl rfl rfl (by decide) ?_
      refine WL.y (X.pickF rfl rfl rfl) ?_
      refine WL.ag rfl ?_
      refine WL.z ?_
      refine WC.seq ?_
      refine WC.r ?_
      refine WL.mv rfl ?_
      refine WL.y (X.not rfl) ?_
      refine WL.mv rfl ?_
      refine WL.no rfl rfl rfl (by decide) ?_
      refine WL.no rfl rfl rfl (by decide) ?_
      refine WL.y (X.pickT rfl rfl rfl) ?_
      refine WL.mv rfl ?_
      refine WL.no rfl rfl rfl (by decide) ?_
      refine WL.no rfl rfl rfl (by decide) ?_
      refine WL.no rfl rfl rfl (by decide) ?_
      refine WL.no rfl rfl rfl (by decide) ?_
      refine WL.y (X.pickT rfl rfl rfl) ?_
      refine WL.mv rfl ?_
      refine WL.no rfl rfl rfl (by decide) ?_
      refine WL.no rfl rfl rfl (by decide) ?_
      refine WL.no rfl rfl rfl (by decide) ?_
      refine WL.no rfl rfl rfl (by decide) ?_
      refine WL.y (X.pickT rfl rfl rfl) ?_
      refine WL.mv rfl ?_
      refine WL.no rfl rfl rfl (by decide) ?_
      refine WL.no rfl rfl rfl (by decide) ?_
      refine WL.no rfl rfl rfl (by decide) ?_
      refine WL.no rfl rfl rfl (by decide) ?_
      refine WL.y (X.pickT rfl rfl rfl) ?_
      refine WL.z ?_
      refine WC.condT rfl ?_
      refine WC.r ?_
      refine WL.ag rfl ?_
      refine WL.z ?_
      refine WC.ret ?_
      refine WK.rThen ?_
      refine WK.ret1 rfl rfl (fun w' hw' => Ret.exact hw' ?_)
      first | exact int_eq (paperE_no (by unfold paperP; first | omega | (rintro ⟨h1_, h2_, h3_, h4_, h5_⟩; first | omega | contradiction))).symm | exact int_eq (paperE_yes ⟨by omega, by omega, by omega, by assumption, by assumption⟩).symm
    ·refine WL.y (X.pickT rfl rfl rfl) ?_
     refine WL.mv rfl ?_
     refine WL.no rfl rfl rfl (by decide) ?_
     refine WL.no rfl rfl rfl (by decide) ?_
     refine WL.no rfl rfl rfl (by decide) ?_
     refine WL.y (X.pickF rfl rfl rfl) ?_
     refine WL.mv rfl ?_
     refine WL.no rfl rfl rfl (by decide) ?_
     refine WL.no rfl rfl rfl (by decide) ?_
     refine WL.no rfl rfl rfl (by decide) ?_
     refine WL.no rfl rfl rfl (by decide) ?_
     refine WL.no rfl rfl rfl (by decide) ?_
     refine WL.no rfl rfl rfl (by decide) ?_
     refine WL.no rfl rfl rfl (by decide) ?_
     refine WL.no rfl rfl rfl (by decide) ?_
     refine WL.y (X.pickF rfl rfl rfl) ?_
     refine WL.ag rfl ?_
     refine WL.z ?_
     refine WC.seq ?_
     refine WC.r ?_
     refine WL.mv rfl ?_
     refine WL.y (X.not rfl) ?_
     refine WL.mv rfl ?_
     refine WL.no rfl rfl rfl (by decide) ?_
     refine WL.no rfl rfl rfl (by decide) ?_
     refine WL.y (X.pickT rfl rfl rfl) ?_
     refine WL.mv rfl ?_
     refine WL.no rfl rfl rfl (by decide) ?_
     refine WL.no rfl rfl rfl (by decide) ?_
     refine WL.no rfl rfl rfl (by decide) ?_
     refine WL.no rfl rfl rfl (by decide) ?_
     refine WL.y (X.pickT rfl rfl rfl) ?_
     refine WL.mv rfl ?_
     refine WL.no rfl rfl rfl (by decide) ?_
     refine WL.no rfl rfl rfl (by decide) ?_
     refine WL.no rfl rfl rfl (by decide) ?_
     refine WL.no rfl rfl rfl (by decide) ?_
     refine WL.y (X.pickT rfl rfl rfl) ?_
     refine WL.mv rfl ?_
     refine WL.no rfl rfl rfl (by decide) ?_
     refine WL.no rfl rfl rfl (by decide) ?_
     refine WL.no rfl rfl rfl (by decide) ?_
     refine WL.no rfl rfl rfl (by decide) ?_
     refine WL.y (X.pickT rfl rfl rfl) ?_
     refine WL.z ?_
     refine WC.condT rfl ?_
     refine WC.r ?_
     refine WL.ag rfl ?_
     refine WL.z ?_
     refine WC.ret ?_
     refine WK.rThen ?_
     refine WK.ret1 rfl rfl (fun w' hw' => Ret.exact hw' ?_)
     first | exact int_eq (paperE_no (by unfold paperP; first | omega | (rintro ⟨h1_, h2_, h3_, h4_, h5_⟩; first | omega | contradiction))).symm | exact int_eq (paperE_yes ⟨by omega, by omega, by omega, by assumption, by assumption⟩).symm
   ·refine WL.mv rfl ?_
    refine WL.no rfl rfl rfl (by decide) ?_
    refine WL.no rfl rfl rfl (by decide) ?_
    refine WL.no rfl rfl rfl (by decide) ?_
    refine WL.no rfl rfl rfl (by decide) ?_
    refine WL.no rfl rfl rfl (by decide) ?_
    refine WL.y (X.pickF rfl rfl rfl) ?_
    refine WL.mv rfl ?_
    refine WL.no rfl rfl rfl (by decide) ?_
    refine WL.no rfl rfl rfl (by decide) ?_
    refine WL.no rfl rfl rfl (by decide) ?_
    refine WL.y (X.pickF rfl rfl rfl) ?_
    refine WL.mv rfl ?_
    refine WL.no rfl rfl rfl (by decide) ?_
    refine WL.no rfl rfl rfl (by decide) ?_
    refine WL.no rfl rfl rfl (by decide) ?_
    refine WL.no rfl rfl rfl (by decide) ?_
    refine WL.no rfl rfl rfl (by decide) ?_
    refine WL.no rfl rfl rfl (by decide) ?_
    refine WL.no rfl rfl rfl (by decide) ?_
    refine WL.no rfl rfl rfl (by decide) ?_
    refine WL.y (X.pickF rfl rfl rfl) ?_
    refine WL.ag rfl ?_
    refine WL.z ?_
    refine WC.seq ?_
    refine WC.r ?_
    refine WL.mv rfl ?_
    refine WL.y (X.not rfl) ?_
    refine WL.mv rfl ?_
    refine WL.no rfl rfl rfl (by decide) ?_
    refine WL.no rfl rfl rfl (by decide) ?_
    refine WL.y (X.pickT rfl rfl rfl) ?_
    refine WL.mv rfl ?_
    refine WL.no rfl rfl rfl (by decide) ?_
    refine WL.no rfl rfl rfl (by decide) ?_
    refine WL.no rfl rfl rfl (by decide) ?_
    refine WL.no rfl rfl rfl (by decide) ?_
    refine WL.y (X.pickT rfl rfl rfl) ?_
    refine WL.mv rfl ?_
    refine WL.no rfl rfl rfl (by decide) ?_
    refine WL.no rfl rfl rfl (by decide) ?_
    refine WL.no rfl rfl rfl (by decide) ?_
    refine WL.no rfl rfl rfl (by decide) ?_
    refine WL.y (X.pickT rfl rfl rfl) ?_
    refine WL.mv rfl ?_
    refine WL.no rfl rfl rfl (by decide) ?_
    refine WL.no rfl rfl rfl (by decide) ?_
    refine WL.no rfl rfl rfl (by decide) ?_
    refine WL.no rfl rfl rfl (by decide) ?_
    refine WL.y (X.pickT rfl rfl rfl) ?_
    refine WL.z ?_
    refine WC.condT rfl ?_
    refine WC.r ?_
    refine WL.ag rfl ?_
    refine WL.z ?_
    refine WC.ret ?_
    refine WK.rThen ?_
    refine WK.ret1 rfl rfl (fun w' hw' => Ret.exact hw' ?_)
    first | exact int_eq (paperE_no (by unfold paperP; first | omega | (rintro ⟨h1_, h2_, h3_, h4_, h5_⟩; first | omega | contradiction))).symm | exact int_eq (paperE_yes ⟨by omega, by omega, by omega, by assumption, by assumption⟩).symm
 ·refine WL.mv rfl ?_
  refine WL.no rfl rfl rfl (by decide) ?_
  refine WL.no rfl rfl rfl (by decide) ?_
  refine WL.no rfl rfl rfl (by decide) ?_
  refine WL.y (X.pickF rfl rfl rfl) ?_
  refine WL.mv rfl ?_
  refine WL.no rfl rfl rfl (by decide) ?_
  refine WL.no rfl rfl rfl (by decide) ?_
  refine WL.no rfl rfl rfl (by decide) ?_
  refine WL.no rfl rfl rfl (by decide) ?_
  refine WL.noU rfl rfl (by decide) ?_
  refine WL.noU rfl rfl (by decide) ?_
  refine WL.noU rfl rfl (by decide) ?_
  refine WL.noU rfl rfl (by decide) ?_
  refine WL.noU rfl rfl (by decide) ?_
  refine WL.no rfl rfl rfl (by decide) ?_
  refine WL.y (X.pickF rfl rfl rfl) ?_
  refine WL.ag rfl ?_
  refine WL.z ?_
  refine WC.r ?_
  refine WL.y (X.field Tryz.runUnderlying25 rfl Tryz.sizeOf3 rfl) ?_
  refine WL.y (X.loadB (k := 0) Tryz.isAgg3 rfl rfl rfl) ?_
  refine WL.cond (X.geq rfl rfl) (by decide) (fun h28 => ?_) (fun h28 => ?_)
  ·refine WL.mv rfl ?_
   refine WL.yes rfl rfl ?_
   refine WL.y (X.field Tryz.runUnderlying25 rfl Tryz.sizeOf3 rfl) ?_
   refine WL.yes rfl rfl ?_
   refine WL.y (X.loadB (k := 0) Tryz.isAgg3 rfl rfl rfl) ?_
   refine WL.yes rfl rfl ?_
   refine WL.y (X.field Tryz.runUnderlying25 rfl Tryz.sizeOf3 rfl) ?_
   refine WL.yes rfl rfl ?_
   refine WL.y (X.loadB (k := 0) Tryz.isAgg3 rfl rfl rfl) ?_
   refine WL.yes rfl rfl ?_
   refine WL.cond (X.lss rfl rfl) (by decide) (fun h29 => ?_) (fun h29 => ?_)
   ·refine WL.y (X.pickT rfl rfl rfl) ?_
    refine WL.mv rfl ?_
    refine WL.yes rfl rfl ?_
    refine WL.y (X.field Tryz.runUnderlying25 rfl Tryz.sizeOf3 rfl) ?_
    refine WL.yes rfl rfl ?_
    refine WL.y (X.loadB (k := 0) Tryz.isAgg3 rfl rfl rfl) ?_
    refine WL.yes rfl rfl ?_
    refine WL.cond (X.leq rfl rfl) (by decide) (fun h30 => ?_) (fun h30 => ?_)
    ·refine WL.y (X.pickT rfl rfl rfl) ?_
     refine WL.mv rfl ?_
     refine WL.yes rfl rfl ?_
     refine WL.y (X.field Tryz.runUnderlying25 rfl Tryz.sizeOf3 rfl) ?_
     refine WL.yes rfl rfl ?_
     refine WL.y (X.loadB (k := 0) Tryz.isAgg3 rfl rfl rfl) ?_
     refine WL.yes rfl rfl ?_
     refine WL.y (X.field Tryz.runUnderlying25 rfl Tryz.sizeOf3 rfl) ?_
     refine WL.yes rfl rfl ?_
     refine WL.y (X.loadB (k := 0) Tryz.isAgg3 rfl rfl rfl) ?_
     refine WL.yes rfl rfl ?_
     refine WL.y (X.sub rfl rfl (by omega) (by omega)) ?_
     refine WL.yes rfl rfl ?_
     refine WL.y (X.field Tryz.runUnderlying25 rfl Tryz.sizeOf3 rfl) ?_
     refine WL.yes rfl rfl ?_
     refine WL.y (X.loadB (k := 0) Tryz.isAgg3 rfl rfl rfl) ?_
     refine WL.yes rfl rfl ?_
     refine WL.cond (X.leq rfl rfl) (by decide) (fun h31 => ?_) (fun h31 => ?_)
     ·refine WL.y (X.pickT rfl rfl rfl) ?_
      refine WL.ag rfl ?_
      refine WL.z ?_
      refine WC.seq ?_
      refine WC.r ?_
      refine WL.mv rfl ?_
      refine WL.y (X.not rfl) ?_
      refine WL.mv rfl ?_
      refine WL.no rfl rfl rfl (by decide) ?_
      refine WL.no rfl rfl rfl (by decide) ?_
      refine WL.y (X.pickT rfl rfl rfl) ?_
      refine WL.mv rfl ?_
      refine WL.no rfl rfl rfl (by decide) ?_
      refine WL.no rfl rfl rfl (by decide) ?_
      refine WL.no rfl rfl rfl (by decide) ?_
      refine WL.no rfl rfl rfl (by decide) ?_
      refine WL.y (X.pickT rfl rfl rfl) ?_
      refine WL.mv rfl ?_
      refine WL.no rfl rfl rfl (by decide) ?_
      refine WL.no rfl rfl rfl (by decide) ?_
      refine WL.no rfl rfl rfl (by decide) ?_
      refine WL.no rfl rfl rfl (by decide) ?_
      refine WL.y (X.pickT rfl rfl rfl) ?_
      refine WL.mv rfl ?_
      refine WL.no rfl rfl rfl (by decide) ?_
      refine WL.no rfl rfl rfl (by decide) ?_
      refine WL.no rfl rfl rfl (by decide) ?_
      refine WL.no rfl rfl rfl (by decide) ?_
      refine WL.y (X.pickT rfl rfl rfl) ?_
      refine WL.z ?_
      refine WC.condT rfl ?_
      refine WC.r ?_
      refine WL.ag rfl ?_
      refine WL.z ?_
      refine WC.ret ?_
      refine WK.rThen ?_
      refine WK.ret1 rfl rfl (fun w' hw' => Ret.exact hw' ?_)
      first | exact int_eq (paperE_no (by unfold paperP; first | omega | (rintro ⟨h1_, h2_, h3_, h4_, h5_⟩; first | omega | contradiction))).symm | exact int_eq (paperE_yes ⟨by omega, by omega, by omega, by assumption, by assumption⟩).symm
     ·refine WL.y (X.pickT rfl rfl rfl) ?_
      refine WL.ag rfl ?_
      refine WL.z ?_
      refine WC.seq ?_
      refine WC.r ?_
      refine WL.mv rfl ?_
      refine WL.y (X.not rfl) ?_
      refine WL.mv rfl ?_
      refine WL.no rfl rfl rfl (by decide) ?_
      refine WL.no rfl rfl rfl (by decide) ?_
      refine WL.y (X.pickT rfl rfl rfl) ?_
      refine WL.mv rfl ?_
      refine WL.no rfl rfl rfl (by decide) ?_
      refine WL.no rfl rfl rfl (by decide) ?_
      refine WL.no rfl rfl rfl (by decide) ?_
      refine WL.no rfl rfl rfl (by decide) ?_
      refine WL.y (X.pickT rfl rfl rfl) ?_
      refine WL.mv rfl ?_
      refine WL.no rfl rfl rfl (by decide) ?_
      refine WL.no rfl rfl rfl (by decide) ?_
      refine WL.no rfl rfl rfl (by decide) ?_
      refine WL.no rfl rfl rfl (by decide) ?_
      refine WL.y (X.pickT rfl rfl rfl) ?_
      refine WL.mv rfl ?_
      refine WL.no rfl rfl rfl (by decide) ?_
      refine WL.no rfl rfl rfl (by decide) ?_
      refine WL.no rfl rfl rfl (by decide) ?_
      refine WL.no rfl rfl rfl (by decide) ?_
      refine WL.y (X.pickT rfl rfl rfl) ?_
      refine WL.z ?_
      refine WC.condT rfl ?_
      refine WC.r ?_
      refine WL.ag rfl ?_
      refine WL.z ?_
      refine WC.ret ?_
      refine WK.rThen ?_
      refine WK.ret1 rfl rfl (fun w' hw' => Ret.exact hw' ?_)
      first | exact int_eq (paperE_no (by unfold paperP; first | omega | (rintro ⟨h1_, h2_, h3_, h4_, h5_⟩; first | omega | contradiction))).symm | exact int_eq (paperE_yes ⟨by omega, by omega, by omega, by assumption, by assumption⟩).symm
    ·refine WL.y (X.pickT rfl rfl rfl) ?_
     refine WL.mv rfl ?_
     refine WL.no rfl rfl rfl (by decide) ?_
     refine WL.no rfl rfl rfl (by decide) ?_
     refine WL.no rfl rfl rfl (by decide) ?_
     refine WL.no rfl rfl rfl (by decide) ?_
     refine WL.no rfl rfl rfl (by decide) ?_
     refine WL.no rfl rfl rfl (by decide) ?_
     refine WL.no rfl rfl rfl (by decide) ?_
     refine WL.no rfl rfl rfl (by decide) ?_
     refine WL.y (X.pickF rfl rfl rfl) ?_
     refine WL.ag rfl ?_
     refine WL.z ?_
     refine WC.seq ?_
     refine WC.r ?_
     refine WL.mv rfl ?_
     refine WL.y (X.not rfl) ?_
     refine WL.mv rfl ?_
     refine WL.no rfl rfl rfl (by decide) ?_
     refine WL.no rfl rfl rfl (by decide) ?_
     refine WL.y (X.pickT rfl rfl rfl) ?_
     refine WL.mv rfl ?_
     refine WL.no rfl rfl rfl (by decide) ?_
     refine WL.no rfl rfl rfl (by decide) ?_
     refine WL.no rfl rfl rfl (by decide) ?_
     refine WL.no rfl rfl rfl (by decide) ?_
     refine WL.y (X.pickT rfl rfl rfl) ?_
     refine WL.mv rfl ?_
     refine WL.no rfl rfl rfl (by decide) ?_
     refine WL.no rfl rfl rfl (by decide) ?_
     refine WL.no rfl rfl rfl (by decide) ?_
     refine WL.no rfl rfl rfl (by decide) ?_
     refine WL.y (X.pickT rfl rfl rfl) ?_
     refine WL.mv rfl ?_
     refine WL.no rfl rfl rfl (by decide) ?_
     refine WL.no rfl rfl rfl (by decide) ?_
     refine WL.no rfl rfl rfl (by decide) ?_
     refine WL.no rfl rfl rfl (by decide) ?_
     refine WL.y (X.pickT rfl rfl rfl) ?_
     refine WL.z ?_
     refine WC.condT rfl ?_
     refine WC.r ?_
     refine WL.ag rfl ?_
     refine WL.z ?_
     refine WC.ret ?_
     refine WK.rThen ?_
     refine WK.ret1 rfl rfl (fun w' hw' => Ret.exact hw' ?_)
     first | exact int_eq (paperE_no (by unfold paperP; first | omega | (rintro ⟨h1_, h2_, h3_, h4_, h5_⟩; first | omega | contradiction))).symm | exact int_eq (paperE_yes ⟨by omega, by omega, by omega, by assumption, by assumption⟩).symm
   ·refine WL.y (X.pickT rfl rfl rfl) ?_
    refine WL.mv rfl ?_
    refine WL.no rfl rfl rfl (by decide) ?_
    refine WL.no rfl rfl rfl (by decide) ?_
    refine WL.no rfl rfl rfl (by decide) ?_
    refine WL.y (X.pickF rfl rfl rfl) ?_
    refine WL.mv rfl ?_
    refine WL.no rfl rfl rfl (by decide) ?_
    refine WL.no rfl rfl rfl (by decide) ?_
    refine WL.no rfl rfl rfl (by decide) ?_
    refine WL.no rfl rfl rfl (by decide) ?_
    refine WL.no rfl rfl rfl (by decide) ?_
    refine WL.no rfl rfl rfl (by decide) ?_
    refine WL.no rfl rfl rfl (by decide) ?_
    refine WL.no rfl rfl rfl (by decide) ?_
    refine WL.y (X.pickF rfl rfl rfl) ?_
    refine WL.ag rfl ?_
    refine WL.z ?_
    refine WC.seq ?_
    refine WC.r ?_
    refine WL.mv rfl ?_
    refine WL.y (X.not rfl) ?_
    refine WL.mv rfl ?_
    refine WL.no rfl rfl rfl (by decide) ?_
    refine WL.no rfl rfl rfl (by decide) ?_
    refine WL.y (X.pickT rfl rfl rfl) ?_
    refine WL.mv rfl ?_
    refine WL.no rfl rfl rfl (by decide) ?_
    refine WL.no rfl rfl rfl (by decide) ?_
    refine WL.no rfl rfl rfl (by decide) ?_
    refine WL.no rfl rfl rfl (by decide) ?_
    refine WL.y (X.pickT rfl rfl rfl) ?_
    refine WL.mv rfl ?_
    refine WL.no rfl rfl rfl (by decide) ?_
    refine WL.no rfl rfl rfl (by decide) ?_
    refine WL.no rfl rfl rfl (by decide) ?_
    refine WL.no rfl rfl rfl (by decide) ?_
    refine WL.y (X.pickT rfl rfl rfl) ?_
    refine WL.mv rfl ?_
    refine WL.no rfl rfl rfl (by decide) ?_
    refine WL.no rfl rfl rfl (by decide) ?_
    refine WL.no rfl rfl rfl (by decide) ?_
    refine WL.no rfl rfl rfl (by decide) ?_
    refine WL.y (X.pickT rfl rfl rfl) ?_
    refine WL.z ?_
    refine WC.condT rfl ?_
    refine WC.r ?_
    refine WL.ag rfl ?_
    refine WL.z ?_
    refine WC.ret ?_
    refine WK.rThen ?_
    refine WK.ret1 rfl rfl (fun w' hw' => Ret.exact hw' ?_)
    first | exact int_eq (paperE_no (by unfold paperP; first | omega | (rintro ⟨h1_, h2_, h3_, h4_, h5_⟩; first | omega | contradiction))).symm | exact int_eq (paperE_yes ⟨by omega, by omega, by omega, by assumption, by assumption⟩).symm
  ·refine WL.mv rfl ?_
   refine WL.no rfl rfl rfl (by decide) ?_
   refine WL.no rfl rfl rfl (by decide) ?_
   refine WL.no rfl rfl rfl (by decide) ?_
   refine WL.no rfl rfl rfl (by decide) ?_
   refine WL.no rfl rfl rfl (by decide) ?_
   refine WL.y (X.pickF rfl rfl rfl) ?_
   refine WL.mv rfl ?_
   refine WL.no rfl rfl rfl (by decide) ?_
   refine WL.no rfl rfl rfl (by decide) ?_
   refine WL.no rfl rfl rfl (by decide) ?_
   refine WL.y (X.pickF rfl rfl rfl) ?_
   refine WL.mv rfl ?_
   refine WL.no rfl rfl rfl (by decide) ?_
   refine WL.no rfl rfl rfl (by decide) ?_
   refine WL.no rfl rfl rfl (by decide) ?_
   refine WL.no rfl rfl rfl (by decide) ?_
   refine WL.no rfl rfl rfl (by decide) ?_
   refine WL.no rfl rfl rfl (by decide) ?_
   refine WL.no rfl rfl rfl (by decide) ?_
   refine WL.no rfl rfl rfl (by decide) ?_
   refine WL.y (X.pickF rfl rfl rfl) ?_
   refine WL.ag rfl ?_
   refine WL.z ?_
   refine WC.seq ?_
   refine WC.r ?_
   refine WL.mv rfl ?_
   refine WL.y (X.not rfl) ?_
   refine WL.mv rfl ?_
   refine WL.no rfl rfl rfl (by decide) ?_
   refine WL.no rfl rfl rfl (by decide) ?_
   refine WL.y (X.pickT rfl rfl rfl) ?_
   refine WL.mv rfl ?_
   refine WL.no rfl rfl rfl (by decide) ?_
   refine WL.no rfl rfl rfl (by decide) ?_
   refine WL.no rfl rfl rfl (by decide) ?_
   refine WL.no rfl rfl rfl (by decide) ?_
   refine WL.y (X.pickT rfl rfl rfl) ?_
   refine WL.mv rfl ?_
   refine WL.no rfl rfl rfl (by decide) ?_
   refine WL.no rfl rfl rfl (by decide) ?_
   refine WL.no rfl rfl rfl (by decide) ?_
   refine WL.no rfl rfl rfl (by decide) ?_
   refine WL.y (X.pickT rfl rfl rfl) ?_
   refine WL.mv rfl ?_
   refine WL.no rfl rfl rfl (by decide) ?_
   refine WL.no rfl rfl rfl (by decide) ?_
   refine WL.no rfl rfl rfl (by decide) ?_
   refine WL.no rfl rfl rfl (by decide) ?_
   refine WL.y (X.pickT rfl rfl rfl) ?_
   refine WL.z ?_
   refine WC.condT rfl ?_
   refine WC.r ?_
   refine WL.ag rfl ?_
   refine WL.z ?_
   refine WC.ret ?_
   refine WK.rThen ?_
   refine WK.ret1 rfl rfl (fun w' hw' => Ret.exact hw' ?_)
   first | exact int_eq (paperE_no (by unfold paperP; first | omega | (rintro ⟨h1_, h2_, h3_, h4_, h5_⟩; first | omega | contradiction))).symm | exact int_eq (paperE_yes ⟨by omega, by omega, by omega, by assumption, by assumption⟩).symm

theorem trace142 (m : Mem) {v : Value} {l : List Point} (hl : Sl m v l) : Pure Tryz.prog 142 #[v] m (fun _ u => ∃ i : Int, u = .tuple #[.int .i64 (traceE l), .int .i64 i]) := by
 have hll := hl.le
 refine Pure.start Tryz.func142 rfl Tryz.ntmps142 rfl fun wld => ?_
 refine WC.r ?_
 refine WL.ag rfl ?_
 refine WL.ag rfl ?_
 refine WL.z ?_
 refine WC.seq ?_
 refine WC.r ?_
 refine WL.mv rfl ?_
 refine WL.y (X.len Tryz.runUnderlying26 rfl hl) ?_
 refine WL.cond (X.gtr rfl rfl) (by decide) (fun h1 => ?_) (fun h1 => ?_)
 ·refine WL.z ?_
  refine WC.condT rfl ?_
  refine WC.r ?_
  refine WL.ag rfl ?_
  refine WL.ag rfl ?_
  refine WL.z ?_
  refine WC.ret ?_
  refine WK.rThen ?_
  refine WK.ret2 rfl rfl rfl (fun w' hw' => Ret.mem hw' ?_)
  first | exact ⟨_, tup2 (int_eq (traceE_big (by omega)).symm) rfl⟩ | exact ⟨_, tup2 (int_eq (traceE_no (by omega) (fun h_ => by have h1_ := h_ k (by omega); unfold pointP at h1_; omega)).symm) rfl⟩ | exact ⟨_, tup2 (int_eq (traceE_yes (by omega) (fun j hj => hall j (by omega))).symm) rfl⟩
 ·refine WL.z ?_
  refine WC.condF rfl ?_
  refine WC.skip ?_
  refine WK.nThen ?_
  refine WC.seq ?_
  refine WC.r ?_
  refine WL.mv rfl ?_
  refine WL.y (X.len Tryz.runUnderlying26 rfl hl) ?_
  refine WL.mv rfl ?_
  refine WL.z ?_
  refine WC.block ?_
  refine WC.loop (G := Nat) (fun k => l.length - k) (fun k => m) (fun k => []) (fun k => [(9, v), (10, .int .i64 (↑l.length)), (11, .int .i64 (↑k))]) (fun k => k ≤ l.length ∧ (∀ j, j < k → pointP (gt l j))) 0 rfl (.refl _) (.cons rfl (.cons rfl (.cons rfl .nil))) ?_ ?_
  ·exact ⟨Nat.zero_le _, fun j hj => absurd hj (Nat.not_lt_zero _)⟩
  ·rintro k hF2
   show WK _ _ m [] [(9, v), (10, .int .i64 (↑l.length)), (11, .int .i64 (↑k))] _
   replace hF2 : k ≤ l.length ∧ (∀ j, j < k → pointP (gt l j)) := hF2
   obtain ⟨hk, hall⟩ := hF2
   refine WC.r ?_
   refine WL.cond (X.lss rfl rfl) (by decide) (fun h3 => ?_) (fun h3 => ?_)
   ·refine WL.z ?_
    refine WC.seq ?_
    refine WC.condT rfl ?_
    refine WC.skip ?_
    refine WK.nThen ?_
    refine WC.seq ?_
    refine WC.block ?_
    refine WC.r ?_
    refine WL.mv rfl ?_
    refine WL.xe (E.idxN k Tryz.runUnderlying26 Tryz.sizeOf102 rfl rfl hl (by omega)) (by decide) (fun p4 hp5 => ?_)
    refine WL.xe (E.loadAgg Tryz.isAgg102 Tryz.sizeOf102 rfl hp5) (by decide) (fun c6 hc7 => ?_)
    obtain rfl := hc7
    refine WL.tn (T.alloc Tryz.zeroValue102 rfl) (by decide) fun b8 => ?_
    refine WL.ag rfl ?_
    refine WL.ts (T.storeBA (k := 0) Tryz.sizeOf102 rfl rfl rfl (one_cons rfl (one_cons rfl (one_cons rfl one_nil))) rfl rfl) ?_
    refine WL.z ?_
    refine WC.r ?_
    refine WL.y (X.field Tryz.runUnderlying102 rfl Tryz.sizeOf3 rfl) ?_
    refine WL.y (X.loadB (k := 0) Tryz.isAgg3 rfl rfl rfl) ?_
    refine WL.cond (X.call Tryz.call74 rfl (within74 _ _ _ _ )) (by decide) (fun h9 => ?_) (fun h9 => ?_)
    ·refine WL.y (X.not rfl) ?_
     refine WL.mv rfl ?_
     refine WL.yes rfl rfl ?_
     refine WL.y (X.field Tryz.runUnderlying102 rfl Tryz.sizeOf3 rfl) ?_
     refine WL.yes rfl rfl ?_
     refine WL.y (X.loadB (k := 0) Tryz.isAgg3 rfl rfl rfl) ?_
     refine WL.yes rfl rfl ?_
     refine WL.cond (X.call Tryz.call74 rfl (within74 _ _ _ _ )) (by decide) (fun h10 => ?_) (fun h10 => ?_)
     ·refine WL.yes rfl rfl ?_
      refine WL.y (X.not rfl) ?_
      refine WL.y (X.pickF rfl rfl rfl) ?_
      refine WL.mv rfl ?_
      refine WL.yes rfl rfl ?_
      refine WL.y (X.field Tryz.runUnderlying102 rfl Tryz.sizeOf3 rfl) ?_
      refine WL.yes rfl rfl ?_
      refine WL.y (X.loadB (k := 0) Tryz.isAgg3 rfl rfl rfl) ?_
      refine WL.yes rfl rfl ?_
      refine WL.cond (X.call Tryz.call74 rfl (within74 _ _ _ _ )) (by decide) (fun h11 => ?_) (fun h11 => ?_)
      ·refine WL.yes rfl rfl ?_
       refine WL.y (X.not rfl) ?_
       refine WL.y (X.pickF rfl rfl rfl) ?_
       refine WL.z ?_
       refine WC.condF rfl ?_
       refine WC.skip ?_
       refine WK.nBlock ?_
       refine WK.nThen ?_
       refine WC.region ?_
       refine WL.y (X.add rfl rfl (by omega) (by omega)) ?_
       refine WL.mv rfl ?_
       refine WL.z ?_
       refine WK.next (k + 1) rfl (.cons _ .slnil) (.cons rfl (.cons rfl (.cons rfl .nil))) ?_ ?_
       ·exact ⟨by omega, fun j hj => by rcases Nat.lt_succ_iff_lt_or_eq.1 hj with h | h; exact hall j h; subst h; (unfold pointP; omega)⟩
       ·omega
      ·refine WL.yes rfl rfl ?_
       refine WL.y (X.not rfl) ?_
       refine WL.y (X.pickF rfl rfl rfl) ?_
       refine WL.z ?_
       refine WC.condT rfl ?_
       refine WC.r ?_
       refine WL.mv rfl ?_
       refine WL.ag rfl ?_
       refine WL.ag rfl ?_
       refine WL.z ?_
       refine WC.ret ?_
       refine WK.rBlock ?_
       refine WK.rThen ?_
       refine WK.rThen ?_
       refine WK.rBlock ?_
       refine WK.rThen ?_
       refine WK.ret2 rfl rfl rfl (fun w' hw' => Ret.mem hw' ?_)
       first | exact ⟨_, tup2 (int_eq (traceE_big (by omega)).symm) rfl⟩ | exact ⟨_, tup2 (int_eq (traceE_no (by omega) (fun h_ => by have h1_ := h_ k (by omega); unfold pointP at h1_; omega)).symm) rfl⟩ | exact ⟨_, tup2 (int_eq (traceE_yes (by omega) (fun j hj => hall j (by omega))).symm) rfl⟩
     ·refine WL.yes rfl rfl ?_
      refine WL.y (X.not rfl) ?_
      refine WL.y (X.pickF rfl rfl rfl) ?_
      refine WL.mv rfl ?_
      refine WL.no rfl rfl rfl (by decide) ?_
      refine WL.no rfl rfl rfl (by decide) ?_
      refine WL.no rfl rfl rfl (by decide) ?_
      refine WL.no rfl rfl rfl (by decide) ?_
      refine WL.y (X.pickT rfl rfl rfl) ?_
      refine WL.z ?_
      refine WC.condT rfl ?_
      refine WC.r ?_
      refine WL.mv rfl ?_
      refine WL.ag rfl ?_
      refine WL.ag rfl ?_
      refine WL.z ?_
      refine WC.ret ?_
      refine WK.rBlock ?_
      refine WK.rThen ?_
      refine WK.rThen ?_
      refine WK.rBlock ?_
      refine WK.rThen ?_
      refine WK.ret2 rfl rfl rfl (fun w' hw' => Ret.mem hw' ?_)
      first | exact ⟨_, tup2 (int_eq (traceE_big (by omega)).symm) rfl⟩ | exact ⟨_, tup2 (int_eq (traceE_no (by omega) (fun h_ => by have h1_ := h_ k (by omega); unfold pointP at h1_; omega)).symm) rfl⟩ | exact ⟨_, tup2 (int_eq (traceE_yes (by omega) (fun j hj => hall j (by omega))).symm) rfl⟩
    ·refine WL.y (X.not rfl) ?_
     refine WL.mv rfl ?_
     refine WL.no rfl rfl rfl (by decide) ?_
     refine WL.no rfl rfl rfl (by decide) ?_
     refine WL.no rfl rfl rfl (by decide) ?_
     refine WL.no rfl rfl rfl (by decide) ?_
     refine WL.y (X.pickT rfl rfl rfl) ?_
     refine WL.mv rfl ?_
     refine WL.no rfl rfl rfl (by decide) ?_
     refine WL.no rfl rfl rfl (by decide) ?_
     refine WL.no rfl rfl rfl (by decide) ?_
     refine WL.no rfl rfl rfl (by decide) ?_
     refine WL.y (X.pickT rfl rfl rfl) ?_
     refine WL.z ?_
     refine WC.condT rfl ?_
     refine WC.r ?_
     refine WL.mv rfl ?_
     refine WL.ag rfl ?_
     refine WL.ag rfl ?_
     refine WL.z ?_
     refine WC.ret ?_
     refine WK.rBlock ?_
     refine WK.rThen ?_
     refine WK.rThen ?_
     refine WK.rBlock ?_
     refine WK.rThen ?_
     refine WK.ret2 rfl rfl rfl (fun w' hw' => Ret.mem hw' ?_)
     first | exact ⟨_, tup2 (int_eq (traceE_big (by omega)).symm) rfl⟩ | exact ⟨_, tup2 (int_eq (traceE_no (by omega) (fun h_ => by have h1_ := h_ k (by omega); unfold pointP at h1_; omega)).symm) rfl⟩ | exact ⟨_, tup2 (int_eq (traceE_yes (by omega) (fun j hj => hall j (by omega))).symm) rfl⟩
   ·refine WL.z ?_
    refine WC.seq ?_
    refine WC.condF rfl ?_
    refine WC.exit ?_
    refine WK.eThen ?_
    refine WK.eThen ?_
    refine WK.eHit ?_
    refine WK.nThen ?_
    refine WC.r ?_
    refine WL.ag rfl ?_
    refine WL.ag rfl ?_
    refine WL.z ?_
    refine WC.ret ?_
    refine WK.ret2 rfl rfl rfl (fun w' hw' => Ret.mem hw' ?_)
    first | exact ⟨_, tup2 (int_eq (traceE_big (by omega)).symm) rfl⟩ | exact ⟨_, tup2 (int_eq (traceE_no (by omega) (fun h_ => by have h1_ := h_ k (by omega); unfold pointP at h1_; omega)).symm) rfl⟩ | exact ⟨_, tup2 (int_eq (traceE_yes (by omega) (fun j hj => hall j (by omega))).symm) rfl⟩

theorem floor147 (m : Mem) (a : Int) (b : Int)  (hpa : -1000000000000 ≤ a ∧ a ≤ 1000000000000) (hpb : 0 < b) : Exact Tryz.prog 147 #[.int .i64 (a), .int .i64 (b)] m (.int .i64 (a / b)) := by
 have hq := tdiv_bd (b := b) (B := 1000000000000) hpa
 refine Exact.start Tryz.func147 rfl Tryz.ntmps147 rfl fun wld => ?_
 refine WC.r ?_
 refine WL.ag rfl ?_
 refine WL.z ?_
 refine WC.r ?_
 refine WL.mv rfl ?_
 refine WL.mv rfl ?_
 refine WL.y (X.quoT rfl rfl (by omega) (by omega) (by omega)) ?_
 refine WL.ag rfl ?_
 refine WL.z ?_
 refine WC.seq ?_
 refine WC.r ?_
 refine WL.mv rfl ?_
 refine WL.mv rfl ?_
 refine WL.y (X.remT rfl rfl (by omega)) ?_
 refine WL.cond (X.lss rfl rfl) (by decide) (fun h1 => ?_) (fun h1 => ?_)
 ·refine WL.z ?_
  refine WC.condT rfl ?_
  refine WC.region ?_
  refine WL.mv rfl ?_
  refine WL.y (X.sub rfl rfl (by omega) (by omega)) ?_
  refine WL.ag rfl ?_
  refine WL.z ?_
  refine WC.r ?_
  refine WL.mv rfl ?_
  refine WL.ag rfl ?_
  refine WL.z ?_
  refine WC.ret ?_
  refine WK.ret1 rfl rfl (fun w' hw' => Ret.exact hw' ?_)
  first | exact int_eq (floor_yes hpb (by assumption)) | exact int_eq (floor_no (by assumption))
 ·refine WL.z ?_
  refine WC.condF rfl ?_
  refine WC.skip ?_
  refine WK.nThen ?_
  refine WC.r ?_
  refine WL.mv rfl ?_
  refine WL.ag rfl ?_
  refine WL.z ?_
  refine WC.ret ?_
  refine WK.ret1 rfl rfl (fun w' hw' => Ret.exact hw' ?_)
  first | exact int_eq (floor_yes hpb (by assumption)) | exact int_eq (floor_no (by assumption))

theorem places222 (m : Mem) (n : Int) (half : Int) (cx : List Value) (x : Span) (hx : Enc.rd m cx x)  (hn : 0 ≤ n ∧ n ≤ 400000) (hh : 0 ≤ half ∧ half ≤ 5000) (hpx : shrP x) : Exact Tryz.prog 222 #[.int .i64 (n), .int .i64 (half), .agg cx.toArray] m (.agg [.int .i64 ((placesS n half x).Lo), .int .i64 ((placesS n half x).Hi)].toArray) := by
 obtain rfl := hx
 have hx_ := hpx
 unfold shrP at hx_
 refine Exact.start Tryz.func222 rfl Tryz.ntmps222 rfl fun wld => ?_
 refine WC.r ?_
 refine WL.tn (T.boxB rfl rfl) (by decide) fun b1 => ?_
 refine WL.tn (T.alloc Tryz.zeroValue23 rfl) (by decide) fun b2 => ?_
 refine WL.z ?_
 refine WC.seq ?_
 refine WC.draw (π := (.cons 0 (.cons 1 (.cons 2 (.cons 3 (.cons 4 (.cons 5 (.cons 6 (.cons 7 (.cons 8 (.cons 9 (.cons 10 (.cons 11 (.cons 12 (.cons 13 (.cons 14 (.cons 15 (.cons 16 .done)))))))))))))))))) [16] [16] rfl (by kernel_rfl) ?_
 refine DW.y rfl rfl (X.move rfl) ?_
 refine DW.y rfl rfl (X.move rfl) ?_
 refine DW.y rfl rfl (X.sub rfl rfl (by omega) (by omega)) ?_
 refine DW.y rfl rfl (X.mul rfl rfl (by omega) (by omega)) ?_
 refine DW.y rfl rfl (X.field Tryz.runUnderlying23 rfl Tryz.sizeOf3 rfl) ?_
 refine DW.y rfl rfl (X.loadB (k := 1) Tryz.isAgg3 rfl rfl rfl) ?_
 refine DW.y rfl rfl (X.call Tryz.call147 rfl (floor147 _ _ _ (by omega) (by omega))) ?_
 refine DW.y rfl rfl (X.mx rfl rfl) ?_
 refine DW.y rfl rfl (X.move rfl) ?_
 refine DW.y rfl rfl (X.move rfl) ?_
 refine DW.y rfl rfl (X.add rfl rfl (by omega) (by omega)) ?_
 refine DW.y rfl rfl (X.mul rfl rfl (by omega) (by omega)) ?_
 refine DW.y rfl rfl (X.field Tryz.runUnderlying23 rfl Tryz.sizeOf3 rfl) ?_
 refine DW.y rfl rfl (X.loadB (k := 1) Tryz.isAgg3 rfl rfl rfl) ?_
 refine DW.y rfl rfl (X.call Tryz.call147 rfl (floor147 _ _ _ (by omega) (by omega))) ?_
 refine DW.y (V := Value.agg [.int .i64 (max 0 ((((n - half) * 1000)) / x.Hi)), .int .i64 ((((n + half) * 1000)) / x.Lo)].toArray) rfl rfl (X.build Tryz.zeroValue23 Tryz.runUnderlying23 (places23 _ Tryz.underlying23) rfl rfl) ?_
 refine DW.ts rfl rfl rfl rfl (T.storeBA (k := 0) Tryz.sizeOf23 rfl rfl rfl (one_cons rfl (one_cons rfl one_nil)) rfl rfl) ?_
 refine DW.nil ?_
 refine WK.nThen ?_
 refine WC.ret ?_
 refine WK.retC1 0 rfl rfl rfl Tryz.isAgg23 Tryz.sizeOf23 (fun w' hw' => Ret.exact hw' ?_)
 exact agg2i rfl rfl

theorem along144 (m : Mem) (cf : List Value) (f : Paper) (hf : Enc.rd m cf f) (ct : List Value) (t : Point) (ht : Enc.rd m ct t)  (hpf : paperP f) (hpt : pointP t) : Exact Tryz.prog 144 #[.agg cf.toArray, .agg ct.toArray] m (.agg [.int .i64 ((placesS t.X t.Half f.Along).Lo), .int .i64 ((placesS t.X t.Half f.Along).Hi)].toArray) := by
 obtain rfl := hf
 obtain rfl := ht
 have hf_ := hpf
 have hfa_ := hpf.2.2.2.1
 have hfc_ := hpf.2.2.2.2
 have ht_ := hpt
 unfold pointP at ht_
 have hf1_ := hpf.1
 have hpl1_ := places_bd ht_.1 ht_.2.2 hfa_
 have hpl2_ := places_bd ht_.2.1 ht_.2.2 hfc_
 refine Exact.start Tryz.func144 rfl Tryz.ntmps144 rfl fun wld => ?_
 refine WC.r ?_
 refine WL.tn (T.boxB rfl rfl) (by decide) fun b1 => ?_
 refine WL.tn (T.boxB rfl rfl) (by decide) fun b2 => ?_
 refine WL.tn (T.alloc Tryz.zeroValue23 rfl) (by decide) fun b3 => ?_
 refine WL.z ?_
 refine WC.r ?_
 refine WL.y (X.field Tryz.runUnderlying102 rfl Tryz.sizeOf3 rfl) ?_
 refine WL.y (X.loadB (k := 1) Tryz.isAgg3 rfl rfl rfl) ?_
 refine WL.y (X.field Tryz.runUnderlying102 rfl Tryz.sizeOf3 rfl) ?_
 refine WL.y (X.loadB (k := 1) Tryz.isAgg3 rfl rfl rfl) ?_
 refine WL.y (X.field Tryz.runUnderlying179 rfl Tryz.sizeOf25 rfl) ?_
 refine WL.y (X.field Tryz.runUnderlying25 rfl Tryz.sizeOf23 rfl) ?_
 refine WL.y (X.loadBP (k := 2) (vs := [.int .i64 (f.Along.Lo), .int .i64 (f.Along.Hi)]) Tryz.isAgg23 Tryz.sizeOf23 rfl rfl rfl rfl) ?_
 refine WL.y (X.call Tryz.call222 rfl (places222 _ _ _ _ f.Along rfl (by omega) (by omega) (by assumption))) ?_
 refine WL.ts (T.storeBA (k := 0) Tryz.sizeOf23 rfl rfl rfl (one_cons rfl (one_cons rfl one_nil)) rfl rfl) ?_
 refine WL.z ?_
 refine WC.ret ?_
 refine WK.retC1 0 rfl rfl rfl Tryz.isAgg23 Tryz.sizeOf23 (fun w' hw' => Ret.exact hw' ?_)
 exact agg2i rfl rfl

theorem across223 (m : Mem) (cf : List Value) (f : Paper) (hf : Enc.rd m cf f) (ct : List Value) (t : Point) (ht : Enc.rd m ct t)  (hpf : paperP f) (hpt : pointP t) : Exact Tryz.prog 223 #[.agg cf.toArray, .agg ct.toArray] m (.agg [.int .i64 ((placesS t.Y t.Half f.Across).Lo), .int .i64 ((placesS t.Y t.Half f.Across).Hi)].toArray) := by
 obtain rfl := hf
 obtain rfl := ht
 have hf_ := hpf
 have hfa_ := hpf.2.2.2.1
 have hfc_ := hpf.2.2.2.2
 have ht_ := hpt
 unfold pointP at ht_
 have hf1_ := hpf.1
 have hpl1_ := places_bd ht_.1 ht_.2.2 hfa_
 have hpl2_ := places_bd ht_.2.1 ht_.2.2 hfc_
 refine Exact.start Tryz.func223 rfl Tryz.ntmps223 rfl fun wld => ?_
 refine WC.r ?_
 refine WL.tn (T.boxB rfl rfl) (by decide) fun b1 => ?_
 refine WL.tn (T.boxB rfl rfl) (by decide) fun b2 => ?_
 refine WL.tn (T.alloc Tryz.zeroValue23 rfl) (by decide) fun b3 => ?_
 refine WL.z ?_
 refine WC.r ?_
 refine WL.y (X.field Tryz.runUnderlying102 rfl Tryz.sizeOf3 rfl) ?_
 refine WL.y (X.loadB (k := 1) Tryz.isAgg3 rfl rfl rfl) ?_
 refine WL.y (X.field Tryz.runUnderlying102 rfl Tryz.sizeOf3 rfl) ?_
 refine WL.y (X.loadB (k := 1) Tryz.isAgg3 rfl rfl rfl) ?_
 refine WL.y (X.field Tryz.runUnderlying179 rfl Tryz.sizeOf25 rfl) ?_
 refine WL.y (X.field Tryz.runUnderlying25 rfl Tryz.sizeOf23 rfl) ?_
 refine WL.y (X.loadBP (k := 2) (vs := [.int .i64 (f.Across.Lo), .int .i64 (f.Across.Hi)]) Tryz.isAgg23 Tryz.sizeOf23 rfl rfl rfl rfl) ?_
 refine WL.y (X.call Tryz.call222 rfl (places222 _ _ _ _ f.Across rfl (by omega) (by omega) (by assumption))) ?_
 refine WL.ts (T.storeBA (k := 0) Tryz.sizeOf23 rfl rfl rfl (one_cons rfl (one_cons rfl one_nil)) rfl rfl) ?_
 refine WL.z ?_
 refine WC.ret ?_
 refine WK.retC1 0 rfl rfl rfl Tryz.isAgg23 Tryz.sizeOf23 (fun w' hw' => Ret.exact hw' ?_)
 exact agg2i rfl rfl

theorem heights145 (m : Mem) (cf : List Value) (f : Paper) (hf : Enc.rd m cf f) (ct : List Value) (t : Point) (ht : Enc.rd m ct t)  (hpf : paperP f) (hpt : pointP t) : Exact Tryz.prog 145 #[.agg cf.toArray, .agg ct.toArray] m (.agg [.int .i64 ((placesS t.Y t.Half f.Across).Lo), .int .i64 (min (placesS t.Y t.Half f.Across).Hi f.Height)].toArray) := by
 obtain rfl := hf
 obtain rfl := ht
 have hf_ := hpf
 have hfa_ := hpf.2.2.2.1
 have hfc_ := hpf.2.2.2.2
 have ht_ := hpt
 unfold pointP at ht_
 have hf1_ := hpf.1
 have hpl1_ := places_bd ht_.1 ht_.2.2 hfa_
 have hpl2_ := places_bd ht_.2.1 ht_.2.2 hfc_
 refine Exact.start Tryz.func145 rfl Tryz.ntmps145 rfl fun wld => ?_
 refine WC.r ?_
 refine WL.tn (T.boxB rfl rfl) (by decide) fun b1 => ?_
 refine WL.tn (T.boxB rfl rfl) (by decide) fun b2 => ?_
 refine WL.tn (T.alloc Tryz.zeroValue23 rfl) (by decide) fun b3 => ?_
 refine WL.z ?_
 refine WC.r ?_
 refine WL.y (X.loadBA (k := 2) Tryz.isAgg179 Tryz.sizeOf179 rfl rfl rfl) ?_
 refine WL.y (X.loadBA (k := 1) Tryz.isAgg102 Tryz.sizeOf102 rfl rfl rfl) ?_
 refine WL.y (X.call Tryz.call223 rfl (across223 _ _ f rfl _ t rfl (by assumption) (by assumption))) ?_
 refine WL.tn (T.alloc Tryz.zeroValue23 rfl) (by decide) fun b4 => ?_
 refine WL.ts (T.storeBA (k := 0) Tryz.sizeOf23 rfl rfl rfl (one_cons rfl (one_cons rfl one_nil)) rfl rfl) ?_
 refine WL.z ?_
 refine WC.r ?_
 refine WL.y (X.field Tryz.runUnderlying23 rfl Tryz.sizeOf3 rfl) ?_
 refine WL.y (X.loadB (k := 0) Tryz.isAgg3 rfl rfl rfl) ?_
 refine WL.y (X.field Tryz.runUnderlying179 rfl Tryz.sizeOf25 rfl) ?_
 refine WL.y (X.field Tryz.runUnderlying25 rfl Tryz.sizeOf3 rfl) ?_
 refine WL.y (X.loadB (k := 3) Tryz.isAgg3 rfl rfl rfl) ?_
 refine WL.y (X.mn rfl rfl) ?_
 refine WL.y (X.field Tryz.runUnderlying23 rfl Tryz.sizeOf3 rfl) ?_
 refine WL.ts (T.storeB (k := 0) Tryz.sizeOf3 rfl rfl rfl rfl (Nat.le_of_ble_eq_true rfl)) ?_
 refine WL.z ?_
 refine WC.r ?_
 refine WL.y (X.loadBA (k := 0) Tryz.isAgg23 Tryz.sizeOf23 rfl rfl rfl) ?_
 refine WL.ts (T.storeBA (k := 1) Tryz.sizeOf23 rfl rfl rfl (one_cons rfl (one_cons rfl one_nil)) rfl rfl) ?_
 refine WL.z ?_
 refine WC.ret ?_
 refine WK.retC1 1 rfl rfl rfl Tryz.isAgg23 Tryz.sizeOf23 (fun w' hw' => Ret.exact hw' ?_)
 exact agg2i rfl rfl

theorem arc146 (m : Mem) (cf : List Value) (f : Paper) (hf : Enc.rd m cf f) (y : Int)  (hpf : paperP f) (hpy : 0 ≤ y ∧ y ≤ f.Height) : Exact Tryz.prog 146 #[.agg cf.toArray, .int .i64 (y)] m (.int .i64 (arcI f y)) := by
 obtain rfl := hf
 have hf1_ := hpf.1
 have hf2_ := hpf.2.1
 have hn_ := arc_num hpf hpy
 have hl_ := level_num hpf hpy
 have hq_ := level_q hpf hpy
 have hab_ := arc_bd hpf hpy
 refine Exact.start Tryz.func146 rfl Tryz.ntmps146 rfl fun wld => ?_
 refine WC.r ?_
 refine WL.tn (T.boxB rfl rfl) (by decide) fun b1 => ?_
 refine WL.ag rfl ?_
 refine WL.z ?_
 refine WC.seq ?_
 refine WC.r ?_
 refine WL.y (X.field Tryz.runUnderlying179 rfl Tryz.sizeOf25 rfl) ?_
 refine WL.y (X.field Tryz.runUnderlying25 rfl Tryz.sizeOf3 rfl) ?_
 refine WL.y (X.loadB (k := 0) Tryz.isAgg3 rfl rfl rfl) ?_
 refine WL.cond (X.eql rfl rfl) (by decide) (fun h2 => ?_) (fun h2 => ?_)
 ·refine WL.z ?_
  refine WC.condT rfl ?_
  refine WC.r ?_
  refine WL.ag rfl ?_
  refine WL.z ?_
  refine WC.ret ?_
  refine WK.rThen ?_
  refine WK.ret1 rfl rfl (fun w' hw' => Ret.exact hw' ?_)
  first | exact int_eq (by unfold arcI; rw [if_pos (by assumption)]) | exact int_eq (by unfold arcI; rw [if_neg (by assumption)])
 ·refine WL.z ?_
  refine WC.condF rfl ?_
  refine WC.skip ?_
  refine WK.nThen ?_
  refine WC.r ?_
  refine WL.mv rfl ?_
  refine WL.y (X.field Tryz.runUnderlying179 rfl Tryz.sizeOf25 rfl) ?_
  refine WL.y (X.field Tryz.runUnderlying25 rfl Tryz.sizeOf3 rfl) ?_
  refine WL.y (X.loadB (k := 0) Tryz.isAgg3 rfl rfl rfl) ?_
  refine WL.mv rfl ?_
  refine WL.y (X.sub rfl rfl (by omega) (by omega)) ?_
  refine WL.y (X.mul rfl rfl (by omega) (by omega)) ?_
  refine WL.y (X.field Tryz.runUnderlying179 rfl Tryz.sizeOf25 rfl) ?_
  refine WL.y (X.field Tryz.runUnderlying25 rfl Tryz.sizeOf3 rfl) ?_
  refine WL.y (X.loadB (k := 0) Tryz.isAgg3 rfl rfl rfl) ?_
  refine WL.y (X.mul rfl rfl (by omega) (by omega)) ?_
  refine WL.y (X.quo rfl rfl (by omega) (by omega) (by omega)) ?_
  refine WL.ag rfl ?_
  refine WL.z ?_
  refine WC.ret ?_
  refine WK.ret1 rfl rfl (fun w' hw' => Ret.exact hw' ?_)
  first | exact int_eq (by unfold arcI; rw [if_pos (by assumption)]) | exact int_eq (by unfold arcI; rw [if_neg (by assumption)])

theorem level77 (m : Mem) (cf : List Value) (f : Paper) (hf : Enc.rd m cf f) (y : Int)  (hpf : paperP f) (hpy : 0 ≤ y ∧ y ≤ f.Height) : Exact Tryz.prog 77 #[.agg cf.toArray, .int .i64 (y)] m (.int .i64 (levelI f y)) := by
 obtain rfl := hf
 have hf1_ := hpf.1
 have hf2_ := hpf.2.1
 have hn_ := arc_num hpf hpy
 have hl_ := level_num hpf hpy
 have hq_ := level_q hpf hpy
 refine Exact.start Tryz.func77 rfl Tryz.ntmps77 rfl fun wld => ?_
 refine WC.r ?_
 refine WL.tn (T.boxB rfl rfl) (by decide) fun b1 => ?_
 refine WL.ag rfl ?_
 refine WL.z ?_
 refine WC.seq ?_
 refine WC.draw (π := (.cons 0 (.cons 1 (.cons 2 (.cons 3 (.cons 4 (.cons 5 (.cons 6 (.cons 7 (.cons 8 (.cons 9 (.cons 10 (.cons 11 (.cons 12 (.cons 13 (.cons 14 (.cons 15 (.cons 16 (.cons 17 .done))))))))))))))))))) [] [] rfl (by kernel_rfl) ?_
 refine DW.y rfl rfl (X.field Tryz.runUnderlying179 rfl Tryz.sizeOf25 rfl) ?_
 refine DW.y rfl rfl (X.field Tryz.runUnderlying25 rfl Tryz.sizeOf3 rfl) ?_
 refine DW.y rfl rfl (X.loadB (k := 0) Tryz.isAgg3 rfl rfl rfl) ?_
 refine DW.y rfl rfl (X.move rfl) ?_
 refine DW.y rfl rfl (X.field Tryz.runUnderlying179 rfl Tryz.sizeOf25 rfl) ?_
 refine DW.y rfl rfl (X.field Tryz.runUnderlying25 rfl Tryz.sizeOf3 rfl) ?_
 refine DW.y rfl rfl (X.loadB (k := 0) Tryz.isAgg3 rfl rfl rfl) ?_
 refine DW.y rfl rfl (X.field Tryz.runUnderlying179 rfl Tryz.sizeOf25 rfl) ?_
 refine DW.y rfl rfl (X.field Tryz.runUnderlying25 rfl Tryz.sizeOf3 rfl) ?_
 refine DW.y rfl rfl (X.loadB (k := 0) Tryz.isAgg3 rfl rfl rfl) ?_
 refine DW.y rfl rfl (X.sub rfl rfl (by omega) (by omega)) ?_
 refine DW.y rfl rfl (X.mul rfl rfl (by omega) (by omega)) ?_
 refine DW.y rfl rfl (X.field Tryz.runUnderlying179 rfl Tryz.sizeOf25 rfl) ?_
 refine DW.y rfl rfl (X.field Tryz.runUnderlying25 rfl Tryz.sizeOf3 rfl) ?_
 refine DW.y rfl rfl (X.loadB (k := 0) Tryz.isAgg3 rfl rfl rfl) ?_
 refine DW.y rfl rfl (X.quo rfl rfl (by omega) (by omega) (by omega)) ?_
 refine DW.y rfl rfl (X.add rfl rfl (by omega) (by omega)) ?_
 refine DW.y rfl rfl (X.assign rfl) ?_
 refine DW.nil ?_
 refine WK.nThen ?_
 refine WC.ret ?_
 refine WK.ret1 rfl rfl (fun w' hw' => Ret.exact hw' ?_)
 exact int_eq rfl

end Go.Proofs.T10
