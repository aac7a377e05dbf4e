import Derived.Test.YtooomcigmleneaaGreatKxW
import Derived.Test.YtooomcigmleneaaGreatT10Forg
import Derived.Test.YtooomcigmleneaaGreatT10W17
/- Top: walks, eighteenth part, by program. -/
namespace Go.Proofs.T10
open Go Go.Kx
set_option linter.unusedSimpArgs false
set_option linter.unusedVariables false

set_option maxRecDepth 20000 in
set_option maxHeartbeats 4000000 in
theorem drawn11 (m : Mem) (cx : List Value) (x : Sheet) (hx : Enc.rd m cx x) (ticks : Int) (cc : List Value) (c : Course) (hc : Enc.rd m cc c)  (hpe : penP x.Pen) (htk : 0 ≤ ticks ∧ ticks ≤ 1000) : Exact Tryz.prog 11 #[.agg cx.toArray, .int .i64 (ticks), .agg cc.toArray] m (.bool (decide (drawnP x ticks c))) := by
 obtain ⟨v1, v3, v5, v7, rfl, hs2, hs4, hs6, hs8⟩ := hx
 have hl9 := hs2.le
 have hl10 := hs4.le
 have hl11 := hs6.le
 have hl12 := hs8.le
 obtain ⟨v13, v15, v17, rfl, hs14, hs16, hs18⟩ := hc
 have hl19 := hs14.le
 have hl20 := hs16.le
 have hl21 := hs18.le
 have hpe_ := hpe
 unfold penP at hpe_
 refine Exact.start Tryz.func11 rfl Tryz.ntmps11 rfl fun wld => ?_
 refine WC.r ?_
 refine WL.tn (T.boxB rfl rfl) (by decide) fun b22 => ?_
 refine WL.tn (T.boxB rfl rfl) (by decide) fun b23 => ?_
 refine WL.ag rfl ?_
 refine WL.z ?_
 refine WC.seq ?_
 refine WC.seq ?_
 refine WK.freezeS (α := Sheet) (x := x) 1 rfl rfl (show Enc.rd (α := Sheet) m [.int .i64 (x.Paper.Pitch), .int .i64 (x.Paper.Height), .int .i64 (x.Paper.Radius), .int .i64 (x.Paper.Low), .int .i64 (x.Paper.High), .int .i64 (x.Paper.Columns), .int .i64 (x.Paper.Along.Lo), .int .i64 (x.Paper.Along.Hi), .int .i64 (x.Paper.Across.Lo), .int .i64 (x.Paper.Across.Hi), v1, v3, v5, v7, .int .i64 (x.Pen.Band), .int .i64 (x.Pen.Zero.Lo), .int .i64 (x.Pen.Zero.Hi), .int .i64 (x.Pen.Rate)] x from ⟨_, _, _, _, rfl, hs2, hs4, hs6, hs8⟩) (fun m24 hle25 hp26 => ?_)
 replace hs2 := hs2.mono hle25
 replace hs4 := hs4.mono hle25
 replace hs6 := hs6.mono hle25
 replace hs8 := hs8.mono hle25
 replace hs14 := hs14.mono hle25
 replace hs16 := hs16.mono hle25
 replace hs18 := hs18.mono hle25
 refine WK.freezeS (α := Course) (x := c) 0 rfl rfl (show Enc.rd (α := Course) m24 [.int .i64 (c.Zero), v13, v15, v17] c from ⟨_, _, _, rfl, hs14, hs16, hs18⟩) (fun m27 hle28 hp29 => ?_)
 replace hs2 := hs2.mono hle28
 replace hs4 := hs4.mono hle28
 replace hs6 := hs6.mono hle28
 replace hs8 := hs8.mono hle28
 replace hs14 := hs14.mono hle28
 replace hs16 := hs16.mono hle28
 replace hs18 := hs18.mono hle28
 replace hp26 := hp26.mono hle28
 refine WC.region ?_
 have hp30 := At.Course_1 hp29
 refine WL.y (X.field Tryz.runUnderlying37 rfl Tryz.sizeOf27 rfl) ?_
 refine WL.xe (E.loadSl Tryz.isAgg27 rfl hp30) (by decide) (fun v31 hs32 => ?_)
 have hl33 := hs32.le
 refine WL.y (X.len Tryz.runUnderlying27 rfl hs32) ?_
 have hp34 := At.Sheet_3 hp26
 refine WL.y (X.field Tryz.runUnderlying35 rfl Tryz.sizeOf31 rfl) ?_
 have hp35 := At.Drum_0 hp34
 refine WL.y (X.field Tryz.runUnderlying31 rfl Tryz.sizeOf28 rfl) ?_
 refine WL.xe (E.loadSl Tryz.isAgg28 rfl hp35) (by decide) (fun v36 hs37 => ?_)
 have hl38 := hs37.le
 refine WL.y (X.len Tryz.runUnderlying28 rfl hs37) ?_
 refine WL.y (X.add rfl rfl (by omega) (by omega)) ?_
 refine WL.condn (X.neq rfl rfl) (by decide) (fun h39 => ?_) (fun h39 => ?_)
 ·refine WL.mv rfl ?_
  refine WL.no rfl rfl rfl (by decide) ?_
  refine WL.no rfl rfl rfl (by decide) ?_
  refine WL.no rfl rfl rfl (by decide) ?_
  refine WL.no rfl rfl rfl (by decide) ?_
  refine WL.no rfl rfl rfl (by decide) ?_
  refine WL.no rfl rfl rfl (by decide) ?_
  refine WL.y (X.pickT rfl rfl rfl) ?_
  refine WL.mv rfl ?_
  refine WL.no rfl rfl rfl (by decide) ?_
  refine WL.no rfl rfl rfl (by decide) ?_
  refine WL.no rfl rfl rfl (by decide) ?_
  refine WL.no rfl rfl rfl (by decide) ?_
  refine WL.no rfl rfl rfl (by decide) ?_
  refine WL.no rfl rfl rfl (by decide) ?_
  refine WL.y (X.pickT rfl rfl rfl) ?_
  refine WL.mv rfl ?_
  refine WL.no rfl rfl rfl (by decide) ?_
  refine WL.no rfl rfl rfl (by decide) ?_
  refine WL.no rfl rfl rfl (by decide) ?_
  refine WL.no rfl rfl rfl (by decide) ?_
  refine WL.no rfl rfl rfl (by decide) ?_
  refine WL.no rfl rfl rfl (by decide) ?_
  refine WL.no rfl rfl rfl (by decide) ?_
  refine WL.y (X.pickT rfl rfl rfl) ?_
  refine WL.mv rfl ?_
  refine WL.no rfl rfl rfl (by decide) ?_
  refine WL.no rfl rfl rfl (by decide) ?_
  refine WL.no rfl rfl rfl (by decide) ?_
  refine WL.no rfl rfl rfl (by decide) ?_
  refine WL.no rfl rfl rfl (by decide) ?_
  refine WL.no rfl rfl rfl (by decide) ?_
  refine WL.no rfl rfl rfl (by decide) ?_
  refine WL.y (X.pickT rfl rfl rfl) ?_
  refine WL.z ?_
  refine WC.condT rfl ?_
  refine WC.r ?_
  refine WL.ag rfl ?_
  refine WL.z ?_
  refine WC.ret ?_
  refine WK.rThen ?_
  refine WK.ret1 rfl rfl (fun w' hw' => Ret.exact hw' ?_)
  first | exact bool_false (fun h_ => by have h1_ := h_.1; unfold drawH at h1_; omega) | exact bool_false (fun h_ => by have h1_ := h_.2.1 i (by omega); unfold drawC at h1_; have h2_ := h1_.1; omega) | exact bool_false (fun h_ => by have h1_ := h_.2.1 i (by omega); unfold drawC at h1_; have h2_ := h1_.2.1 (by omega); contradiction) | exact bool_false (fun h_ => by have h1_ := h_.2.1 i (by omega); unfold drawC at h1_; have h2_ := h1_.2.2 (by omega); omega) | exact bool_false (fun h_ => by have h1_ := h_.2.2 t (by omega); unfold drawT at h1_; have h2_ := h1_.1; omega) | exact bool_false (fun h_ => by have h1_ := h_.2.2 t (by omega); unfold drawT at h1_; have h2_ := h1_.2 (by omega); omega) | exact bool_true ⟨by unfold drawH; omega, fun j hj => hall j (by omega), fun j hj => htick j (by omega)⟩
 ·refine WL.mv rfl ?_
  refine WL.yes rfl rfl ?_
  have hp40 := At.Course_2 hp29
  refine WL.y (X.field Tryz.runUnderlying37 rfl Tryz.sizeOf27 rfl) ?_
  refine WL.yes rfl rfl ?_
  refine WL.xe (E.loadSl Tryz.isAgg27 rfl hp40) (by decide) (fun v41 hs42 => ?_)
  have hl43 := hs42.le
  refine WL.yes rfl rfl ?_
  refine WL.y (X.len Tryz.runUnderlying27 rfl hs42) ?_
  refine WL.yes rfl rfl ?_
  refine WL.mv rfl ?_
  refine WL.yes rfl rfl ?_
  refine WL.y (X.add rfl rfl (by omega) (by omega)) ?_
  refine WL.yes rfl rfl ?_
  refine WL.condn (X.neq rfl rfl) (by decide) (fun h44 => ?_) (fun h44 => ?_)
  ·refine WL.y (X.pickF rfl rfl rfl) ?_
   refine WL.mv rfl ?_
   refine WL.no rfl rfl rfl (by decide) ?_
   refine WL.no rfl rfl rfl (by decide) ?_
   refine WL.no rfl rfl rfl (by decide) ?_
   refine WL.no rfl rfl rfl (by decide) ?_
   refine WL.no rfl rfl rfl (by decide) ?_
   refine WL.no rfl rfl rfl (by decide) ?_
   refine WL.y (X.pickT rfl rfl rfl) ?_
   refine WL.mv rfl ?_
   refine WL.no rfl rfl rfl (by decide) ?_
   refine WL.no rfl rfl rfl (by decide) ?_
   refine WL.no rfl rfl rfl (by decide) ?_
   refine WL.no rfl rfl rfl (by decide) ?_
   refine WL.no rfl rfl rfl (by decide) ?_
   refine WL.no rfl rfl rfl (by decide) ?_
   refine WL.no rfl rfl rfl (by decide) ?_
   refine WL.y (X.pickT rfl rfl rfl) ?_
   refine WL.mv rfl ?_
   refine WL.no rfl rfl rfl (by decide) ?_
   refine WL.no rfl rfl rfl (by decide) ?_
   refine WL.no rfl rfl rfl (by decide) ?_
   refine WL.no rfl rfl rfl (by decide) ?_
   refine WL.no rfl rfl rfl (by decide) ?_
   refine WL.no rfl rfl rfl (by decide) ?_
   refine WL.no rfl rfl rfl (by decide) ?_
   refine WL.y (X.pickT rfl rfl rfl) ?_
   refine WL.z ?_
   refine WC.condT rfl ?_
   refine WC.r ?_
   refine WL.ag rfl ?_
   refine WL.z ?_
   refine WC.ret ?_
   refine WK.rThen ?_
   refine WK.ret1 rfl rfl (fun w' hw' => Ret.exact hw' ?_)
   first | exact bool_false (fun h_ => by have h1_ := h_.1; unfold drawH at h1_; omega) | exact bool_false (fun h_ => by have h1_ := h_.2.1 i (by omega); unfold drawC at h1_; have h2_ := h1_.1; omega) | exact bool_false (fun h_ => by have h1_ := h_.2.1 i (by omega); unfold drawC at h1_; have h2_ := h1_.2.1 (by omega); contradiction) | exact bool_false (fun h_ => by have h1_ := h_.2.1 i (by omega); unfold drawC at h1_; have h2_ := h1_.2.2 (by omega); omega) | exact bool_false (fun h_ => by have h1_ := h_.2.2 t (by omega); unfold drawT at h1_; have h2_ := h1_.1; omega) | exact bool_false (fun h_ => by have h1_ := h_.2.2 t (by omega); unfold drawT at h1_; have h2_ := h1_.2 (by omega); omega) | exact bool_true ⟨by unfold drawH; omega, fun j hj => hall j (by omega), fun j hj => htick j (by omega)⟩
  ·refine WL.y (X.pickF rfl rfl rfl) ?_
   refine WL.mv rfl ?_
   refine WL.yes rfl rfl ?_
   have hp45 := At.Course_3 hp29
   refine WL.y (X.field Tryz.runUnderlying37 rfl Tryz.sizeOf27 rfl) ?_
   refine WL.yes rfl rfl ?_
   refine WL.xe (E.loadSl Tryz.isAgg27 rfl hp45) (by decide) (fun v46 hs47 => ?_)
   have hl48 := hs47.le
   refine WL.yes rfl rfl ?_
   refine WL.y (X.len Tryz.runUnderlying27 rfl hs47) ?_
   refine WL.yes rfl rfl ?_
   refine WL.mv rfl ?_
   refine WL.yes rfl rfl ?_
   refine WL.y (X.add rfl rfl (by omega) (by omega)) ?_
   refine WL.yes rfl rfl ?_
   refine WL.condn (X.neq rfl rfl) (by decide) (fun h49 => ?_) (fun h49 => ?_)
   ·refine WL.y (X.pickF rfl rfl rfl) ?_
    refine WL.mv rfl ?_
    refine WL.no rfl rfl rfl (by decide) ?_
    refine WL.no rfl rfl rfl (by decide) ?_
    refine WL.no rfl rfl rfl (by decide) ?_
    refine WL.no rfl rfl rfl (by decide) ?_
    refine WL.no rfl rfl rfl (by decide) ?_
    refine WL.no rfl rfl rfl (by decide) ?_
    refine WL.no rfl rfl rfl (by decide) ?_
    refine WL.y (X.pickT rfl rfl rfl) ?_
    refine WL.mv rfl ?_
    refine WL.no rfl rfl rfl (by decide) ?_
    refine WL.no rfl rfl rfl (by decide) ?_
    refine WL.no rfl rfl rfl (by decide) ?_
    refine WL.no rfl rfl rfl (by decide) ?_
    refine WL.no rfl rfl rfl (by decide) ?_
    refine WL.no rfl rfl rfl (by decide) ?_
    refine WL.no rfl rfl rfl (by decide) ?_
    refine WL.y (X.pickT rfl rfl rfl) ?_
    refine WL.z ?_
    refine WC.condT rfl ?_
    refine WC.r ?_
    refine WL.ag rfl ?_
    refine WL.z ?_
    refine WC.ret ?_
    refine WK.rThen ?_
    refine WK.ret1 rfl rfl (fun w' hw' => Ret.exact hw' ?_)
    first | exact bool_false (fun h_ => by have h1_ := h_.1; unfold drawH at h1_; omega) | exact bool_false (fun h_ => by have h1_ := h_.2.1 i (by omega); unfold drawC at h1_; have h2_ := h1_.1; omega) | exact bool_false (fun h_ => by have h1_ := h_.2.1 i (by omega); unfold drawC at h1_; have h2_ := h1_.2.1 (by omega); contradiction) | exact bool_false (fun h_ => by have h1_ := h_.2.1 i (by omega); unfold drawC at h1_; have h2_ := h1_.2.2 (by omega); omega) | exact bool_false (fun h_ => by have h1_ := h_.2.2 t (by omega); unfold drawT at h1_; have h2_ := h1_.1; omega) | exact bool_false (fun h_ => by have h1_ := h_.2.2 t (by omega); unfold drawT at h1_; have h2_ := h1_.2 (by omega); omega) | exact bool_true ⟨by unfold drawH; omega, fun j hj => hall j (by omega), fun j hj => htick j (by omega)⟩
   ·refine WL.y (X.pickF rfl rfl rfl) ?_
    refine WL.mv rfl ?_
    refine WL.yes rfl rfl ?_
    have hp50 := At.Course_0 hp29
    refine WL.y (X.field Tryz.runUnderlying37 rfl Tryz.sizeOf3 rfl) ?_
    refine WL.yes rfl rfl ?_
    refine WL.y (X.loadInt Tryz.isAgg3 rfl hp50) ?_
    refine WL.yes rfl rfl ?_
    have hp51 := At.Sheet_4 hp26
    refine WL.y (X.field Tryz.runUnderlying35 rfl Tryz.sizeOf33 rfl) ?_
    refine WL.yes rfl rfl ?_
    have hp52 := At.Pen_1 hp51
    refine WL.y (X.field Tryz.runUnderlying33 rfl Tryz.sizeOf23 rfl) ?_
    refine WL.yes rfl rfl ?_
    have hp53 := At.Span_0 hp52
    refine WL.y (X.field Tryz.runUnderlying23 rfl Tryz.sizeOf3 rfl) ?_
    refine WL.yes rfl rfl ?_
    refine WL.y (X.loadInt Tryz.isAgg3 rfl hp53) ?_
    refine WL.yes rfl rfl ?_
    refine WL.cond (X.lss rfl rfl) (by decide) (fun h54 => ?_) (fun h54 => ?_)
    ·refine WL.y (X.pickF rfl rfl rfl) ?_
     refine WL.mv rfl ?_
     refine WL.no rfl rfl rfl (by decide) ?_
     refine WL.no rfl rfl rfl (by decide) ?_
     refine WL.no rfl rfl rfl (by decide) ?_
     refine WL.no rfl rfl rfl (by decide) ?_
     refine WL.no rfl rfl rfl (by decide) ?_
     refine WL.no rfl rfl rfl (by decide) ?_
     refine WL.no rfl rfl rfl (by decide) ?_
     refine WL.y (X.pickT rfl rfl rfl) ?_
     refine WL.z ?_
     refine WC.condT rfl ?_
     refine WC.r ?_
     refine WL.ag rfl ?_
     refine WL.z ?_
     refine WC.ret ?_
     refine WK.rThen ?_
     refine WK.ret1 rfl rfl (fun w' hw' => Ret.exact hw' ?_)
     first | exact bool_false (fun h_ => by have h1_ := h_.1; unfold drawH at h1_; omega) | exact bool_false (fun h_ => by have h1_ := h_.2.1 i (by omega); unfold drawC at h1_; have h2_ := h1_.1; omega) | exact bool_false (fun h_ => by have h1_ := h_.2.1 i (by omega); unfold drawC at h1_; have h2_ := h1_.2.1 (by omega); contradiction) | exact bool_false (fun h_ => by have h1_ := h_.2.1 i (by omega); unfold drawC at h1_; have h2_ := h1_.2.2 (by omega); omega) | exact bool_false (fun h_ => by have h1_ := h_.2.2 t (by omega); unfold drawT at h1_; have h2_ := h1_.1; omega) | exact bool_false (fun h_ => by have h1_ := h_.2.2 t (by omega); unfold drawT at h1_; have h2_ := h1_.2 (by omega); omega) | exact bool_true ⟨by unfold drawH; omega, fun j hj => hall j (by omega), fun j hj => htick j (by omega)⟩
    ·refine WL.y (X.pickF rfl rfl rfl) ?_
     refine WL.mv rfl ?_
     refine WL.yes rfl rfl ?_
     have hp55 := At.Course_0 hp29
     refine WL.y (X.field Tryz.runUnderlying37 rfl Tryz.sizeOf3 rfl) ?_
     refine WL.yes rfl rfl ?_
     refine WL.y (X.loadInt Tryz.isAgg3 rfl hp55) ?_
     refine WL.yes rfl rfl ?_
     have hp56 := At.Sheet_4 hp26
     refine WL.y (X.field Tryz.runUnderlying35 rfl Tryz.sizeOf33 rfl) ?_
     refine WL.yes rfl rfl ?_
     have hp57 := At.Pen_1 hp56
     refine WL.y (X.field Tryz.runUnderlying33 rfl Tryz.sizeOf23 rfl) ?_
     refine WL.yes rfl rfl ?_
     have hp58 := At.Span_1 hp57
     refine WL.y (X.field Tryz.runUnderlying23 rfl Tryz.sizeOf3 rfl) ?_
     refine WL.yes rfl rfl ?_
     refine WL.y (X.loadInt Tryz.isAgg3 rfl hp58) ?_
     refine WL.yes rfl rfl ?_
     refine WL.cond (X.gtr rfl rfl) (by decide) (fun h59 => ?_) (fun h59 => ?_)
     ·refine WL.y (X.pickF rfl rfl rfl) ?_
      refine WL.z ?_
      refine WC.condT rfl ?_
      refine WC.r ?_
      refine WL.ag rfl ?_
      refine WL.z ?_
      refine WC.ret ?_
      refine WK.rThen ?_
      refine WK.ret1 rfl rfl (fun w' hw' => Ret.exact hw' ?_)
      first | exact bool_false (fun h_ => by have h1_ := h_.1; unfold drawH at h1_; omega) | exact bool_false (fun h_ => by have h1_ := h_.2.1 i (by omega); unfold drawC at h1_; have h2_ := h1_.1; omega) | exact bool_false (fun h_ => by have h1_ := h_.2.1 i (by omega); unfold drawC at h1_; have h2_ := h1_.2.1 (by omega); contradiction) | exact bool_false (fun h_ => by have h1_ := h_.2.1 i (by omega); unfold drawC at h1_; have h2_ := h1_.2.2 (by omega); omega) | exact bool_false (fun h_ => by have h1_ := h_.2.2 t (by omega); unfold drawT at h1_; have h2_ := h1_.1; omega) | exact bool_false (fun h_ => by have h1_ := h_.2.2 t (by omega); unfold drawT at h1_; have h2_ := h1_.2 (by omega); omega) | exact bool_true ⟨by unfold drawH; omega, fun j hj => hall j (by omega), fun j hj => htick j (by omega)⟩
     ·refine WL.y (X.pickF rfl rfl rfl) ?_
      refine WL.z ?_
      refine WC.condF rfl ?_
      refine WC.skip ?_
      refine WK.nThen ?_
      refine WC.r ?_
      have hp60 := At.Sheet_0 hp26
      refine WL.y (X.field Tryz.runUnderlying35 rfl Tryz.sizeOf25 rfl) ?_
      refine WL.xe (E.loadAgg Tryz.isAgg25 Tryz.sizeOf25 rfl hp60) (by decide) (fun c61 hc62 => ?_)
      obtain rfl := hc62
      have hp63 := At.Sheet_1 hp26
      refine WL.y (X.field Tryz.runUnderlying35 rfl Tryz.sizeOf26 rfl) ?_
      refine WL.xe (E.loadSl Tryz.isAgg26 rfl hp63) (by decide) (fun v64 hs65 => ?_)
      have hl66 := hs65.le
      have hp67 := At.Sheet_2 hp26
      refine WL.y (X.field Tryz.runUnderlying35 rfl Tryz.sizeOf27 rfl) ?_
      refine WL.xe (E.loadSl Tryz.isAgg27 rfl hp67) (by decide) (fun v68 hs69 => ?_)
      have hl70 := hs69.le
      refine WL.tm (T.call Tryz.call28 rfl (ink28 _ _ x.Paper rfl _ _ hs65 _ _ hs69)) (by decide) (fun m71 _ hle72 hR_ => ?_)
      obtain ⟨_, rfl, v73, rfl, hs74⟩ := hR_
      replace hs2 := hs2.mono hle72
      replace hs4 := hs4.mono hle72
      replace hs6 := hs6.mono hle72
      replace hs8 := hs8.mono hle72
      replace hs14 := hs14.mono hle72
      replace hs16 := hs16.mono hle72
      replace hs18 := hs18.mono hle72
      replace hp26 := hp26.mono hle72
      replace hp29 := hp29.mono hle72
      replace hp30 := hp30.mono hle72
      replace hs32 := hs32.mono hle72
      replace hp34 := hp34.mono hle72
      replace hp35 := hp35.mono hle72
      replace hs37 := hs37.mono hle72
      replace hp40 := hp40.mono hle72
      replace hs42 := hs42.mono hle72
      replace hp45 := hp45.mono hle72
      replace hs47 := hs47.mono hle72
      replace hp50 := hp50.mono hle72
      replace hp51 := hp51.mono hle72
      replace hp52 := hp52.mono hle72
      replace hp53 := hp53.mono hle72
      replace hp55 := hp55.mono hle72
      replace hp56 := hp56.mono hle72
      replace hp57 := hp57.mono hle72
      replace hp58 := hp58.mono hle72
      replace hp60 := hp60.mono hle72
      replace hp63 := hp63.mono hle72
      replace hs65 := hs65.mono hle72
      replace hp67 := hp67.mono hle72
      replace hs69 := hs69.mono hle72
      replace hs74 : Sl m71 v73 (inkC x.Paper x.Trace x.Blots) := hs74
      have hl75 := hs74.le
      refine WL.mv rfl ?_
      refine WL.y (X.extract rfl rfl) ?_
      refine WL.y (X.extract rfl rfl) ?_
      refine WL.tn (T.alloc Tryz.zeroValue104 rfl) (by decide) fun b76 => ?_
      refine WL.ts (T.storeBA (k := 0) Tryz.sizeOf104 rfl rfl rfl (one_cons hs74.one one_nil) rfl rfl) ?_
      refine WL.ag rfl ?_
      refine WL.z ?_
      refine WC.seq ?_
      refine WC.seq ?_
      have hil_ : ∀ h_ : (inkC x.Paper x.Trace x.Blots).length = c.Ticks.length, ∀ j, j < c.Ticks.length → j < (inkC x.Paper x.Trace x.Blots).length := (fun h_ j hj => by omega)
      refine WC.region ?_
      refine WL.mv rfl ?_
      refine WL.condn (X.neq rfl rfl) (by decide) (fun h77 => ?_) (fun h77 => ?_)
      ·refine WL.mv rfl ?_
       refine WL.no rfl rfl rfl (by decide) ?_
       refine WL.no rfl rfl rfl (by decide) ?_
       refine WL.no rfl rfl rfl (by decide) ?_
       refine WL.no rfl rfl rfl (by decide) ?_
       refine WL.no rfl rfl rfl (by decide) ?_
       refine WL.no rfl rfl rfl (by decide) ?_
       refine WL.no rfl rfl rfl (by decide) ?_
       refine WL.y (X.pickT rfl rfl rfl) ?_
       refine WL.z ?_
       refine WC.condT rfl ?_
       refine WC.r ?_
       refine WL.ag rfl ?_
       refine WL.z ?_
       refine WC.ret ?_
       refine WK.rThen ?_
       refine WK.ret1 rfl rfl (fun w' hw' => Ret.exact hw' ?_)
       first | exact bool_false (fun h_ => by have h1_ := h_.1; unfold drawH at h1_; omega) | exact bool_false (fun h_ => by have h1_ := h_.2.1 i (by omega); unfold drawC at h1_; have h2_ := h1_.1; omega) | exact bool_false (fun h_ => by have h1_ := h_.2.1 i (by omega); unfold drawC at h1_; have h2_ := h1_.2.1 (by omega); contradiction) | exact bool_false (fun h_ => by have h1_ := h_.2.1 i (by omega); unfold drawC at h1_; have h2_ := h1_.2.2 (by omega); omega) | exact bool_false (fun h_ => by have h1_ := h_.2.2 t (by omega); unfold drawT at h1_; have h2_ := h1_.1; omega) | exact bool_false (fun h_ => by have h1_ := h_.2.2 t (by omega); unfold drawT at h1_; have h2_ := h1_.2 (by omega); omega) | exact bool_true ⟨by unfold drawH; omega, fun j hj => hall j (by omega), fun j hj => htick j (by omega)⟩
      ·refine WL.mv rfl ?_
       refine WL.yes rfl rfl ?_
       refine WL.y (X.field Tryz.runUnderlying104 rfl Tryz.sizeOf67 rfl) ?_
       refine WL.yes rfl rfl ?_
       refine WL.y (X.loadB (k := 0) Tryz.isAgg67 rfl rfl rfl) ?_
       refine WL.yes rfl rfl ?_
       refine WL.y (X.len Tryz.runUnderlying67 rfl hs74) ?_
       refine WL.yes rfl rfl ?_
       have hp78 := At.Course_1 hp29
       refine WL.y (X.field Tryz.runUnderlying37 rfl Tryz.sizeOf27 rfl) ?_
       refine WL.yes rfl rfl ?_
       refine WL.xe (E.loadSl Tryz.isAgg27 rfl hp78) (by decide) (fun v79 hs80 => ?_)
       have hl81 := hs80.le
       refine WL.yes rfl rfl ?_
       refine WL.y (X.len Tryz.runUnderlying27 rfl hs80) ?_
       refine WL.yes rfl rfl ?_
       refine WL.condn (X.neq rfl rfl) (by decide) (fun h82 => ?_) (fun h82 => ?_)
       ·refine WL.y (X.pickF rfl rfl rfl) ?_
        refine WL.z ?_
        refine WC.condT rfl ?_
        refine WC.r ?_
        refine WL.ag rfl ?_
        refine WL.z ?_
        refine WC.ret ?_
        refine WK.rThen ?_
        refine WK.ret1 rfl rfl (fun w' hw' => Ret.exact hw' ?_)
        first | exact bool_false (fun h_ => by have h1_ := h_.1; unfold drawH at h1_; omega) | exact bool_false (fun h_ => by have h1_ := h_.2.1 i (by omega); unfold drawC at h1_; have h2_ := h1_.1; omega) | exact bool_false (fun h_ => by have h1_ := h_.2.1 i (by omega); unfold drawC at h1_; have h2_ := h1_.2.1 (by omega); contradiction) | exact bool_false (fun h_ => by have h1_ := h_.2.1 i (by omega); unfold drawC at h1_; have h2_ := h1_.2.2 (by omega); omega) | exact bool_false (fun h_ => by have h1_ := h_.2.2 t (by omega); unfold drawT at h1_; have h2_ := h1_.1; omega) | exact bool_false (fun h_ => by have h1_ := h_.2.2 t (by omega); unfold drawT at h1_; have h2_ := h1_.2 (by omega); omega) | exact bool_true ⟨by unfold drawH; omega, fun j hj => hall j (by omega), fun j hj => htick j (by omega)⟩
       ·refine WL.y (X.pickF rfl rfl rfl) ?_
        refine WL.z ?_
        refine WC.condF rfl ?_
        refine WC.skip ?_
        refine WK.nThen ?_
        refine WC.seq ?_
        refine WC.r ?_
        refine WL.ag rfl ?_
        refine WL.z ?_
        refine WC.block ?_
        refine WC.loop (G := Nat) (fun i => c.Ticks.length - i) (fun i => m71) (fun i => [blk b76 104 [v73]]) (fun i => [(1, .int .i64 (ticks)), (3, .pointer (some ((⟨b22, 0, none⟩ : Addr)))), (5, .pointer (some ((⟨b23, 0, none⟩ : Addr)))), (7, .pointer (some ⟨b76, 0, none⟩)), (9, .int .i64 (↑i))]) (fun i => i ≤ c.Ticks.length ∧ (∀ j, j < i → drawC x ticks c j)) 0 rfl (.refl _) (.cons rfl (.cons rfl (.cons rfl (.cons rfl (.cons rfl .nil))))) ?_ ?_
        ·exact ⟨Nat.zero_le _, fun j hj => absurd hj (Nat.not_lt_zero _)⟩
        ·rintro i hF83
         show WK _ _ m71 [blk b76 104 [v73]] [(1, .int .i64 (ticks)), (3, .pointer (some ((⟨b22, 0, none⟩ : Addr)))), (5, .pointer (some ((⟨b23, 0, none⟩ : Addr)))), (7, .pointer (some ⟨b76, 0, none⟩)), (9, .int .i64 (↑i))] _
         replace hF83 : i ≤ c.Ticks.length ∧ (∀ j, j < i → drawC x ticks c j) := hF83
         obtain ⟨hi, hall⟩ := hF83
         refine WC.seq ?_
         refine WC.r ?_
         refine WL.mv rfl ?_
         have hp84 := At.Course_1 hp29
         refine WL.y (X.field Tryz.runUnderlying37 rfl Tryz.sizeOf27 rfl) ?_
         refine WL.xe (E.loadSl Tryz.isAgg27 rfl hp84) (by decide) (fun v85 hs86 => ?_)
         have hl87 := hs86.le
         refine WL.y (X.len Tryz.runUnderlying27 rfl hs86) ?_
         refine WL.cond (X.lss rfl rfl) (by decide) (fun h88 => ?_) (fun h88 => ?_)
         ·refine WL.z ?_
          refine WC.condT rfl ?_
          refine WC.skip ?_
          refine WK.nThen ?_
          refine WC.seq ?_
          refine WC.block ?_
          refine WC.seq ?_
          refine WC.seq ?_
          refine WC.draw (π := (.cons 0 (.cons 1 (.cons 2 (.cons 3 (.cons 4 (.cons 5 (.cons 6 (.cons 7 (.cons 8 (.cons 9 (.cons 10 (.cons 11 (.cons 12 (.cons 13 (.cons 14 (.cons 15 (.cons 16 (.cons 17 (.cons 18 (.cons 19 (.cons 20 (.cons 21 (.cons 22 (.cons 23 (.cons 24 (.cons 25 (.cons 26 (.cons 27 (.cons 28 (.cons 29 (.cons 30 (.cons 31 (.cons 32 (.cons 33 (.cons 34 (.cons 35 (.cons 36 (.cons 37 (.cons 38 (.cons 39 (.cons 40 (.cons 41 .done))))))))))))))))))))))))))))))))))))))))))) [] [] rfl (by kernel_rfl) ?_
          have hp89 := At.Course_1 hp29
          refine DW.y rfl rfl (X.field Tryz.runUnderlying37 rfl Tryz.sizeOf27 rfl) ?_
          refine DW.xe rfl rfl (E.loadSl Tryz.isAgg27 rfl hp89) (by decide) (fun v90 hs91 => ?_)
          have hl92 := hs91.le
          refine DW.y rfl rfl (X.move rfl) ?_
          refine DW.xe rfl rfl (E.idxN i Tryz.runUnderlying27 Tryz.sizeOf3 rfl rfl hs91 (by omega)) (by decide) (fun p93 hp94 => ?_)
          refine DW.y rfl rfl (X.loadInt Tryz.isAgg3 rfl hp94) ?_
          refine DW.cond rfl rfl (X.lss rfl rfl) (by decide) (fun h95 => ?_) (fun h95 => ?_)
          ·refine DW.y rfl rfl (X.move rfl) ?_
           refine DW.no rfl rfl (by decide) ?_
           refine DW.no rfl rfl (by decide) ?_
           refine DW.no rfl rfl (by decide) ?_
           refine DW.no rfl rfl (by decide) ?_
           refine DW.no rfl rfl (by decide) ?_
           refine DW.no rfl rfl (by decide) ?_
           refine DW.no rfl rfl (by decide) ?_
           refine DW.y rfl rfl (X.pickT rfl rfl rfl) ?_
           refine DW.y rfl rfl (X.move rfl) ?_
           refine DW.no rfl rfl (by decide) ?_
           refine DW.no rfl rfl (by decide) ?_
           refine DW.no rfl rfl (by decide) ?_
           refine DW.no rfl rfl (by decide) ?_
           refine DW.no rfl rfl (by decide) ?_
           refine DW.no rfl rfl (by decide) ?_
           refine DW.no rfl rfl (by decide) ?_
           refine DW.no rfl rfl (by decide) ?_
           refine DW.no rfl rfl (by decide) ?_
           refine DW.no rfl rfl (by decide) ?_
           refine DW.no rfl rfl (by decide) ?_
           refine DW.no rfl rfl (by decide) ?_
           refine DW.no rfl rfl (by decide) ?_
           refine DW.no rfl rfl (by decide) ?_
           refine DW.no rfl rfl (by decide) ?_
           refine DW.no rfl rfl (by decide) ?_
           refine DW.no rfl rfl (by decide) ?_
           refine DW.no rfl rfl (by decide) ?_
           refine DW.no rfl rfl (by decide) ?_
           refine DW.no rfl rfl (by decide) ?_
           refine DW.no rfl rfl (by decide) ?_
           refine DW.no rfl rfl (by decide) ?_
           refine DW.no rfl rfl (by decide) ?_
           refine DW.no rfl rfl (by decide) ?_
           refine DW.no rfl rfl (by decide) ?_
           refine DW.y rfl rfl (X.pickT rfl rfl rfl) ?_
           refine DW.nil ?_
           refine WK.nThen ?_
           refine WC.condT rfl ?_
           refine WC.r ?_
           refine WL.ag rfl ?_
           refine WL.z ?_
           refine WC.ret ?_
           refine WK.rThen ?_
           refine WK.rBlock ?_
           refine WK.rThen ?_
           refine WK.rThen ?_
           refine WK.rBlock ?_
           refine WK.rThen ?_
           refine WK.ret1 rfl rfl (fun w' hw' => Ret.exact hw' ?_)
           first | exact bool_false (fun h_ => by have h1_ := h_.1; unfold drawH at h1_; omega) | exact bool_false (fun h_ => by have h1_ := h_.2.1 i (by omega); unfold drawC at h1_; have h2_ := h1_.1; omega) | exact bool_false (fun h_ => by have h1_ := h_.2.1 i (by omega); unfold drawC at h1_; have h2_ := h1_.2.1 (by omega); contradiction) | exact bool_false (fun h_ => by have h1_ := h_.2.1 i (by omega); unfold drawC at h1_; have h2_ := h1_.2.2 (by omega); omega) | exact bool_false (fun h_ => by have h1_ := h_.2.2 t (by omega); unfold drawT at h1_; have h2_ := h1_.1; omega) | exact bool_false (fun h_ => by have h1_ := h_.2.2 t (by omega); unfold drawT at h1_; have h2_ := h1_.2 (by omega); omega) | exact bool_true ⟨by unfold drawH; omega, fun j hj => hall j (by omega), fun j hj => htick j (by omega)⟩
          ·refine DW.y rfl rfl (X.move rfl) ?_
           have hp96 := At.Course_1 hp29
           refine DW.y rfl rfl (X.field Tryz.runUnderlying37 rfl Tryz.sizeOf27 rfl) ?_
           refine DW.xe rfl rfl (E.loadSl Tryz.isAgg27 rfl hp96) (by decide) (fun v97 hs98 => ?_)
           have hl99 := hs98.le
           refine DW.y rfl rfl (X.move rfl) ?_
           refine DW.xe rfl rfl (E.idxN i Tryz.runUnderlying27 Tryz.sizeOf3 rfl rfl hs98 (by omega)) (by decide) (fun p100 hp101 => ?_)
           refine DW.y rfl rfl (X.loadInt Tryz.isAgg3 rfl hp101) ?_
           refine DW.y rfl rfl (X.move rfl) ?_
           refine DW.cond rfl rfl (X.gtr rfl rfl) (by decide) (fun h102 => ?_) (fun h102 => ?_)
           ·refine DW.y rfl rfl (X.pickF rfl rfl rfl) ?_
            refine DW.y rfl rfl (X.move rfl) ?_
            refine DW.no rfl rfl (by decide) ?_
            refine DW.no rfl rfl (by decide) ?_
            refine DW.no rfl rfl (by decide) ?_
            refine DW.no rfl rfl (by decide) ?_
            refine DW.no rfl rfl (by decide) ?_
            refine DW.no rfl rfl (by decide) ?_
            refine DW.no rfl rfl (by decide) ?_
            refine DW.no rfl rfl (by decide) ?_
            refine DW.no rfl rfl (by decide) ?_
            refine DW.no rfl rfl (by decide) ?_
            refine DW.no rfl rfl (by decide) ?_
            refine DW.no rfl rfl (by decide) ?_
            refine DW.no rfl rfl (by decide) ?_
            refine DW.no rfl rfl (by decide) ?_
            refine DW.no rfl rfl (by decide) ?_
            refine DW.no rfl rfl (by decide) ?_
            refine DW.no rfl rfl (by decide) ?_
            refine DW.no rfl rfl (by decide) ?_
            refine DW.no rfl rfl (by decide) ?_
            refine DW.no rfl rfl (by decide) ?_
            refine DW.no rfl rfl (by decide) ?_
            refine DW.no rfl rfl (by decide) ?_
            refine DW.no rfl rfl (by decide) ?_
            refine DW.no rfl rfl (by decide) ?_
            refine DW.no rfl rfl (by decide) ?_
            refine DW.y rfl rfl (X.pickT rfl rfl rfl) ?_
            refine DW.nil ?_
            refine WK.nThen ?_
            refine WC.condT rfl ?_
            refine WC.r ?_
            refine WL.ag rfl ?_
            refine WL.z ?_
            refine WC.ret ?_
            refine WK.rThen ?_
            refine WK.rBlock ?_
            refine WK.rThen ?_
            refine WK.rThen ?_
            refine WK.rBlock ?_
            refine WK.rThen ?_
            refine WK.ret1 rfl rfl (fun w' hw' => Ret.exact hw' ?_)
            first | exact bool_false (fun h_ => by have h1_ := h_.1; unfold drawH at h1_; omega) | exact bool_false (fun h_ => by have h1_ := h_.2.1 i (by omega); unfold drawC at h1_; have h2_ := h1_.1; omega) | exact bool_false (fun h_ => by have h1_ := h_.2.1 i (by omega); unfold drawC at h1_; have h2_ := h1_.2.1 (by omega); contradiction) | exact bool_false (fun h_ => by have h1_ := h_.2.1 i (by omega); unfold drawC at h1_; have h2_ := h1_.2.2 (by omega); omega) | exact bool_false (fun h_ => by have h1_ := h_.2.2 t (by omega); unfold drawT at h1_; have h2_ := h1_.1; omega) | exact bool_false (fun h_ => by have h1_ := h_.2.2 t (by omega); unfold drawT at h1_; have h2_ := h1_.2 (by omega); omega) | exact bool_true ⟨by unfold drawH; omega, fun j hj => hall j (by omega), fun j hj => htick j (by omega)⟩
           ·refine DW.y rfl rfl (X.pickF rfl rfl rfl) ?_
            refine DW.y rfl rfl (X.move rfl) ?_
            refine DW.y rfl rfl (X.field Tryz.runUnderlying104 rfl Tryz.sizeOf67 rfl) ?_
            refine DW.y rfl rfl (X.loadB (k := 0) Tryz.isAgg67 rfl rfl rfl) ?_
            refine DW.y rfl rfl (X.move rfl) ?_
            refine DW.xe rfl rfl (E.idxN i Tryz.runUnderlying67 Tryz.sizeOf28 rfl rfl hs74 (by omega)) (by decide) (fun p103 hp104 => ?_)
            refine DW.xe rfl rfl (E.loadSl Tryz.isAgg28 rfl hp104) (by decide) (fun v105 hs106 => ?_)
            have hl107 := hs106.le
            refine DW.y rfl rfl (X.len Tryz.runUnderlying28 rfl hs106) ?_
            refine DW.cond rfl rfl (X.gtr rfl rfl) (by decide) (fun h108 => ?_) (fun h108 => ?_)
            ·refine DW.y rfl rfl (X.move rfl) ?_
             refine DW.y rfl rfl (X.field Tryz.runUnderlying104 rfl Tryz.sizeOf67 rfl) ?_
             refine DW.y rfl rfl (X.loadB (k := 0) Tryz.isAgg67 rfl rfl rfl) ?_
             refine DW.y rfl rfl (X.move rfl) ?_
             refine DW.xe rfl rfl (E.idxN i Tryz.runUnderlying67 Tryz.sizeOf28 rfl rfl hs74 (by omega)) (by decide) (fun p109 hp110 => ?_)
             refine DW.xe rfl rfl (E.loadSl Tryz.isAgg28 rfl hp110) (by decide) (fun v111 hs112 => ?_)
             have hl113 := hs112.le
             have hp114 := At.Course_2 hp29
             refine DW.y rfl rfl (X.field Tryz.runUnderlying37 rfl Tryz.sizeOf27 rfl) ?_
             refine DW.xe rfl rfl (E.loadSl Tryz.isAgg27 rfl hp114) (by decide) (fun v115 hs116 => ?_)
             have hl117 := hs116.le
             have hp118 := At.Course_1 hp29
             refine DW.y rfl rfl (X.field Tryz.runUnderlying37 rfl Tryz.sizeOf27 rfl) ?_
             refine DW.xe rfl rfl (E.loadSl Tryz.isAgg27 rfl hp118) (by decide) (fun v119 hs120 => ?_)
             have hl121 := hs120.le
             refine DW.y rfl rfl (X.move rfl) ?_
             refine DW.xe rfl rfl (E.idxN i Tryz.runUnderlying27 Tryz.sizeOf3 rfl rfl hs120 (by omega)) (by decide) (fun p122 hp123 => ?_)
             refine DW.y rfl rfl (X.loadInt Tryz.isAgg3 rfl hp123) ?_
             refine DW.xe rfl rfl (E.idx Tryz.runUnderlying27 Tryz.sizeOf3 rfl rfl hs116 (by omega) (by omega)) (by decide) (fun p124 hp125 => ?_)
             refine DW.y rfl rfl (X.loadInt Tryz.isAgg3 rfl hp125) ?_
             refine DW.cond rfl rfl (X.call Tryz.call29 rfl (in29 _ _ _ hs112 _ )) (by decide) (fun h126 => ?_) (fun h126 => ?_)
             ·refine DW.y rfl rfl (X.not rfl) ?_
              refine DW.y rfl rfl (X.pickT rfl rfl rfl) ?_
              refine DW.y rfl rfl (X.pickF rfl rfl rfl) ?_
              refine DW.nil ?_
              refine WK.nThen ?_
              refine WC.condF rfl ?_
              refine WC.skip ?_
              refine WK.nThen ?_
              refine WC.seq ?_
              refine WC.r ?_
              refine WL.mv rfl ?_
              refine WL.cond (X.eql rfl rfl) (by decide) (fun h127 => ?_) (fun h127 => ?_)
              ·refine WL.z ?_
               refine WC.condT rfl ?_
               refine WC.exit ?_
               refine WK.eThen ?_
               refine WK.eHit ?_
               refine WK.nThen ?_
               refine WC.region ?_
               refine WL.mv rfl ?_
               refine WL.y (X.add rfl rfl (by omega) (by omega)) ?_
               refine WL.ag rfl ?_
               refine WL.z ?_
               refine WK.next (i + 1) rfl (.refl _) (.cons rfl (.cons rfl (.cons rfl (.cons rfl (.cons rfl .nil))))) ?_ ?_
               ·exact ⟨by omega, fun j hj => by rcases Nat.lt_succ_iff_lt_or_eq.1 hj with h | h; exact hall j h; subst h; unfold drawC; exact ⟨by omega, fun h_ => by first | (exact absurd h_ (by omega)) | assumption | (exact Classical.byContradiction fun hn_ => by contradiction), fun h_ => by first | omega | (exfalso; omega)⟩⟩
               ·omega
              ·refine WL.z ?_
               refine WC.condF rfl ?_
               refine WC.skip ?_
               refine WK.nThen ?_
               refine WC.r ?_
               have hp128 := At.Sheet_3 hp26
               refine WL.y (X.field Tryz.runUnderlying35 rfl Tryz.sizeOf31 rfl) ?_
               have hp129 := At.Drum_0 hp128
               refine WL.y (X.field Tryz.runUnderlying31 rfl Tryz.sizeOf28 rfl) ?_
               refine WL.xe (E.loadSl Tryz.isAgg28 rfl hp129) (by decide) (fun v130 hs131 => ?_)
               have hl132 := hs131.le
               refine WL.mv rfl ?_
               refine WL.y (X.sub rfl rfl (by omega) (by omega)) ?_
               refine WL.xe (E.idxE (i - 1) Tryz.runUnderlying28 Tryz.sizeOf23 rfl rfl hs131 (by omega) (by omega)) (by decide) (fun p133 hp134 => ?_)
               refine WL.xe (E.loadAgg Tryz.isAgg23 Tryz.sizeOf23 rfl hp134) (by decide) (fun c135 hc136 => ?_)
               obtain rfl := hc136
               refine WL.tn (T.alloc Tryz.zeroValue23 rfl) (by decide) fun b137 => ?_
               refine WL.ts (T.storeBA (k := 0) Tryz.sizeOf23 rfl rfl rfl (one_cons rfl (one_cons rfl one_nil)) rfl rfl) ?_
               refine WL.z ?_
               refine WC.seq ?_
               refine WC.r ?_
               refine WL.ag rfl ?_
               refine WL.z ?_
               refine WC.block ?_
               refine WC.loop (G := Nat) (fun k => x.Drum.Stops.length - k) (fun k => m71) (fun k => [blk b137 23 [.int .i64 ((gapW x.Drum (i - 1) k).Lo), .int .i64 ((gapW x.Drum (i - 1) k).Hi)], blk b76 104 [v73]]) (fun k => [(1, .int .i64 (ticks)), (3, .pointer (some ((⟨b22, 0, none⟩ : Addr)))), (5, .pointer (some ((⟨b23, 0, none⟩ : Addr)))), (7, .pointer (some ⟨b76, 0, none⟩)), (9, .int .i64 (↑i)), (10, .pointer (some ⟨b137, 0, none⟩)), (11, .int .i64 (↑k)), (95, .pointer (some (((⟨b23, 0, none⟩ : Addr)).add 1))), (96, v97), (97, .int .i64 (↑i)), (98, .pointer (some (p100))), (99, .int .i64 (gt c.Ticks i)), (100, .int .i64 (ticks)), (101, .bool false), (104, .pointer (some ⟨b76, 0, none⟩)), (105, v73), (106, .int .i64 (↑i)), (107, .pointer (some (p103))), (108, v105), (109, .int .i64 (↑(gt (inkC x.Paper x.Trace x.Blots) i).length)), (110, .bool true), (111, .bool true), (112, .pointer (some ⟨b76, 0, none⟩)), (113, v73), (114, .int .i64 (↑i)), (115, .pointer (some (p109))), (116, v111), (117, .pointer (some (((⟨b23, 0, none⟩ : Addr)).add 2))), (118, v115), (119, .pointer (some (((⟨b23, 0, none⟩ : Addr)).add 1))), (120, v119), (121, .int .i64 (↑i)), (122, .pointer (some (p122))), (123, .int .i64 (gt c.Ticks i)), (124, .pointer (some (p124))), (125, .int .i64 (gt c.Shown ((gt c.Ticks i : Int).toNat))), (126, .bool true), (127, .bool false), (128, .bool false)]) (fun k => k ≤ x.Drum.Stops.length) 0 rfl (.refl _) (.cons rfl (.cons rfl (.cons rfl (.cons rfl (.cons rfl (.cons rfl (.cons rfl (.cons rfl (.cons rfl (.cons rfl (.cons rfl (.cons rfl (.cons rfl (.cons rfl (.cons rfl (.cons rfl (.cons rfl (.cons rfl (.cons rfl (.cons rfl (.cons rfl (.cons rfl (.cons rfl (.cons rfl (.cons rfl (.cons rfl (.cons rfl (.cons rfl (.cons rfl (.cons rfl (.cons rfl (.cons rfl (.cons rfl (.cons rfl (.cons rfl (.cons rfl (.cons rfl (.cons rfl (.cons rfl .nil))))))))))))))))))))))))))))))))))))))) ?_ ?_
               ·exact Nat.zero_le _
               ·rintro k hF138
                show WK _ _ m71 [blk b137 23 [.int .i64 ((gapW x.Drum (i - 1) k).Lo), .int .i64 ((gapW x.Drum (i - 1) k).Hi)], blk b76 104 [v73]] [(1, .int .i64 (ticks)), (3, .pointer (some ((⟨b22, 0, none⟩ : Addr)))), (5, .pointer (some ((⟨b23, 0, none⟩ : Addr)))), (7, .pointer (some ⟨b76, 0, none⟩)), (9, .int .i64 (↑i)), (10, .pointer (some ⟨b137, 0, none⟩)), (11, .int .i64 (↑k)), (95, .pointer (some (((⟨b23, 0, none⟩ : Addr)).add 1))), (96, v97), (97, .int .i64 (↑i)), (98, .pointer (some (p100))), (99, .int .i64 (gt c.Ticks i)), (100, .int .i64 (ticks)), (101, .bool false), (104, .pointer (some ⟨b76, 0, none⟩)), (105, v73), (106, .int .i64 (↑i)), (107, .pointer (some (p103))), (108, v105), (109, .int .i64 (↑(gt (inkC x.Paper x.Trace x.Blots) i).length)), (110, .bool true), (111, .bool true), (112, .pointer (some ⟨b76, 0, none⟩)), (113, v73), (114, .int .i64 (↑i)), (115, .pointer (some (p109))), (116, v111), (117, .pointer (some (((⟨b23, 0, none⟩ : Addr)).add 2))), (118, v115), (119, .pointer (some (((⟨b23, 0, none⟩ : Addr)).add 1))), (120, v119), (121, .int .i64 (↑i)), (122, .pointer (some (p122))), (123, .int .i64 (gt c.Ticks i)), (124, .pointer (some (p124))), (125, .int .i64 (gt c.Shown ((gt c.Ticks i : Int).toNat))), (126, .bool true), (127, .bool false), (128, .bool false)] _
                replace hF138 : k ≤ x.Drum.Stops.length := hF138
                have hk := hF138
                refine WC.seq ?_
                refine WC.r ?_
                refine WL.mv rfl ?_
                have hp139 := At.Sheet_3 hp26
                refine WL.y (X.field Tryz.runUnderlying35 rfl Tryz.sizeOf31 rfl) ?_
                have hp140 := At.Drum_1 hp139
                refine WL.y (X.field Tryz.runUnderlying31 rfl Tryz.sizeOf29 rfl) ?_
                refine WL.xe (E.loadSl Tryz.isAgg29 rfl hp140) (by decide) (fun v141 hs142 => ?_)
                have hl143 := hs142.le
                refine WL.y (X.len Tryz.runUnderlying29 rfl hs142) ?_
                refine WL.cond (X.lss rfl rfl) (by decide) (fun h144 => ?_) (fun h144 => ?_)
                ·refine WL.z ?_
                 refine WC.condT rfl ?_
                 refine WC.skip ?_
                 refine WK.nThen ?_
                 refine WC.seq ?_
                 refine WC.block ?_
                 refine WC.r ?_
                 have hp145 := At.Sheet_3 hp26
                 refine WL.y (X.field Tryz.runUnderlying35 rfl Tryz.sizeOf31 rfl) ?_
                 have hp146 := At.Drum_1 hp145
                 refine WL.y (X.field Tryz.runUnderlying31 rfl Tryz.sizeOf29 rfl) ?_
                 refine WL.xe (E.loadSl Tryz.isAgg29 rfl hp146) (by decide) (fun v147 hs148 => ?_)
                 have hl149 := hs148.le
                 refine WL.mv rfl ?_
                 refine WL.xe (E.idxN k Tryz.runUnderlying29 Tryz.sizeOf108 rfl rfl hs148 (by omega)) (by decide) (fun p150 hp151 => ?_)
                 have hp152 := At.Stp_0 hp151
                 refine WL.y (X.field Tryz.runUnderlying108 rfl Tryz.sizeOf3 rfl) ?_
                 refine WL.y (X.loadInt Tryz.isAgg3 rfl hp152) ?_
                 refine WL.mv rfl ?_
                 refine WL.y (X.sub rfl rfl (by omega) (by omega)) ?_
                 refine WL.cond (X.eql rfl rfl) (by decide) (fun h153 => ?_) (fun h153 => ?_)
                 ·refine WL.z ?_
                  refine WC.condT rfl ?_
                  refine WC.draw (π := (.cons 0 (.cons 1 (.cons 2 (.cons 3 (.cons 4 (.cons 5 (.cons 6 (.cons 7 (.cons 8 (.cons 9 (.cons 10 (.cons 11 (.cons 12 (.cons 13 (.cons 14 (.cons 15 (.cons 16 (.cons 17 (.cons 18 (.cons 19 (.cons 20 (.cons 21 (.cons 22 (.cons 23 .done))))))))))))))))))))))))) [23] [23] rfl (by kernel_rfl) ?_
                  refine DW.y rfl rfl (X.field Tryz.runUnderlying23 rfl Tryz.sizeOf3 rfl) ?_
                  refine DW.y rfl rfl (X.loadB (k := 0) Tryz.isAgg3 rfl rfl rfl) ?_
                  have hp154 := At.Sheet_3 hp26
                  refine DW.y rfl rfl (X.field Tryz.runUnderlying35 rfl Tryz.sizeOf31 rfl) ?_
                  have hp155 := At.Drum_1 hp154
                  refine DW.y rfl rfl (X.field Tryz.runUnderlying31 rfl Tryz.sizeOf29 rfl) ?_
                  refine DW.xe rfl rfl (E.loadSl Tryz.isAgg29 rfl hp155) (by decide) (fun v156 hs157 => ?_)
                  have hl158 := hs157.le
                  refine DW.y rfl rfl (X.move rfl) ?_
                  refine DW.xe rfl rfl (E.idxN k Tryz.runUnderlying29 Tryz.sizeOf108 rfl rfl hs157 (by omega)) (by decide) (fun p159 hp160 => ?_)
                  have hp161 := At.Stp_1 hp160
                  refine DW.y rfl rfl (X.field Tryz.runUnderlying108 rfl Tryz.sizeOf23 rfl) ?_
                  have hp162 := At.Span_0 hp161
                  refine DW.y rfl rfl (X.field Tryz.runUnderlying23 rfl Tryz.sizeOf3 rfl) ?_
                  refine DW.y rfl rfl (X.loadInt Tryz.isAgg3 rfl hp162) ?_
                  refine DW.y rfl rfl (X.addW rfl rfl) ?_
                  refine DW.y rfl rfl (X.field Tryz.runUnderlying23 rfl Tryz.sizeOf3 rfl) ?_
                  refine DW.y rfl rfl (X.loadB (k := 0) Tryz.isAgg3 rfl rfl rfl) ?_
                  have hp163 := At.Sheet_3 hp26
                  refine DW.y rfl rfl (X.field Tryz.runUnderlying35 rfl Tryz.sizeOf31 rfl) ?_
                  have hp164 := At.Drum_1 hp163
                  refine DW.y rfl rfl (X.field Tryz.runUnderlying31 rfl Tryz.sizeOf29 rfl) ?_
                  refine DW.xe rfl rfl (E.loadSl Tryz.isAgg29 rfl hp164) (by decide) (fun v165 hs166 => ?_)
                  have hl167 := hs166.le
                  refine DW.y rfl rfl (X.move rfl) ?_
                  refine DW.xe rfl rfl (E.idxN k Tryz.runUnderlying29 Tryz.sizeOf108 rfl rfl hs166 (by omega)) (by decide) (fun p168 hp169 => ?_)
                  have hp170 := At.Stp_1 hp169
                  refine DW.y rfl rfl (X.field Tryz.runUnderlying108 rfl Tryz.sizeOf23 rfl) ?_
                  have hp171 := At.Span_1 hp170
                  refine DW.y rfl rfl (X.field Tryz.runUnderlying23 rfl Tryz.sizeOf3 rfl) ?_
                  refine DW.y rfl rfl (X.loadInt Tryz.isAgg3 rfl hp171) ?_
                  refine DW.y rfl rfl (X.addW rfl rfl) ?_
                  refine DW.y (V := Value.agg [.int .i64 (wr (((gapW x.Drum (i - 1) k).Lo) + (((gt x.Drum.Stops k).Ticks).Lo))), .int .i64 (wr (((gapW x.Drum (i - 1) k).Hi) + (((gt x.Drum.Stops k).Ticks).Hi)))].toArray) rfl rfl (X.build Tryz.zeroValue23 Tryz.runUnderlying23 (places23 _ Tryz.underlying23) rfl rfl) ?_
                  refine DW.ts rfl rfl rfl rfl (T.storeBA (k := 0) Tryz.sizeOf23 rfl rfl rfl (one_cons rfl (one_cons rfl one_nil)) rfl rfl) ?_
                  refine DW.nil ?_
                  refine WK.nBlock ?_
                  refine WK.nThen ?_
                  refine WC.region ?_
                  refine WL.mv rfl ?_
                  refine WL.y (X.add rfl rfl (by omega) (by omega)) ?_
                  refine WL.ag rfl ?_
                  refine WL.z ?_
                  have hgs_ := gapW_yes (d := x.Drum) (i := i - 1) (k := k) (by omega)
                  rw [show (wr (((gapW x.Drum (i - 1) k).Lo) + (((gt x.Drum.Stops k).Ticks).Lo))) = (gapW x.Drum (i - 1) (k + 1)).Lo by rw [hgs_]]
                  rw [show (wr (((gapW x.Drum (i - 1) k).Hi) + (((gt x.Drum.Stops k).Ticks).Hi))) = (gapW x.Drum (i - 1) (k + 1)).Hi by rw [hgs_]]
                  refine WK.next (k + 1) rfl (.refl _) (.cons rfl (.cons rfl (.cons rfl (.cons rfl (.cons rfl (.cons rfl (.cons rfl (.cons rfl (.cons rfl (.cons rfl (.cons rfl (.cons rfl (.cons rfl (.cons rfl (.cons rfl (.cons rfl (.cons rfl (.cons rfl (.cons rfl (.cons rfl (.cons rfl (.cons rfl (.cons rfl (.cons rfl (.cons rfl (.cons rfl (.cons rfl (.cons rfl (.cons rfl (.cons rfl (.cons rfl (.cons rfl (.cons rfl (.cons rfl (.cons rfl (.cons rfl (.cons rfl (.cons rfl (.cons rfl .nil))))))))))))))))))))))))))))))))))))))) ?_ ?_
                  ·omega
                  ·omega
                 ·refine WL.z ?_
                  refine WC.condF rfl ?_
                  refine WC.skip ?_
                  refine WK.nBlock ?_
                  refine WK.nThen ?_
                  refine WC.region ?_
                  refine WL.mv rfl ?_
                  refine WL.y (X.add rfl rfl (by omega) (by omega)) ?_
                  refine WL.ag rfl ?_
                  refine WL.z ?_
                  have hgs_ := gapW_no (d := x.Drum) (i := i - 1) (k := k) (by omega)
                  rw [← hgs_]
                  refine WK.next (k + 1) rfl (.refl _) (.cons rfl (.cons rfl (.cons rfl (.cons rfl (.cons rfl (.cons rfl (.cons rfl (.cons rfl (.cons rfl (.cons rfl (.cons rfl (.cons rfl (.cons rfl (.cons rfl (.cons rfl (.cons rfl (.cons rfl (.cons rfl (.cons rfl (.cons rfl (.cons rfl (.cons rfl (.cons rfl (.cons rfl (.cons rfl (.cons rfl (.cons rfl (.cons rfl (.cons rfl (.cons rfl (.cons rfl (.cons rfl (.cons rfl (.cons rfl (.cons rfl (.cons rfl (.cons rfl (.cons rfl (.cons rfl .nil))))))))))))))))))))))))))))))))))))))) ?_ ?_
                  ·omega
                  ·omega
                ·refine WL.z ?_
                 refine WC.condF rfl ?_
                 refine WC.exit ?_
                 refine WK.eThen ?_
                 refine WK.eThen ?_
                 refine WK.eHit ?_
                 refine WK.nThen ?_
                 refine WC.seq ?_
                 have hpr_ := (hall (i - 1) (by omega)).1
                 have hke_ : k = x.Drum.Stops.length := (by omega)
                 rw [hke_]
                 refine WC.draw (π := (.cons 0 (.cons 1 (.cons 2 (.cons 3 (.cons 4 (.cons 5 (.cons 6 (.cons 7 (.cons 8 (.cons 9 (.cons 10 (.cons 11 (.cons 12 .done)))))))))))))) [] [] rfl (by kernel_rfl) ?_
                 have hp172 := At.Course_1 hp29
                 refine DW.y rfl rfl (X.field Tryz.runUnderlying37 rfl Tryz.sizeOf27 rfl) ?_
                 refine DW.xe rfl rfl (E.loadSl Tryz.isAgg27 rfl hp172) (by decide) (fun v173 hs174 => ?_)
                 have hl175 := hs174.le
                 refine DW.y rfl rfl (X.move rfl) ?_
                 refine DW.xe rfl rfl (E.idxN i Tryz.runUnderlying27 Tryz.sizeOf3 rfl rfl hs174 (by omega)) (by decide) (fun p176 hp177 => ?_)
                 refine DW.y rfl rfl (X.loadInt Tryz.isAgg3 rfl hp177) ?_
                 have hp178 := At.Course_1 hp29
                 refine DW.y rfl rfl (X.field Tryz.runUnderlying37 rfl Tryz.sizeOf27 rfl) ?_
                 refine DW.xe rfl rfl (E.loadSl Tryz.isAgg27 rfl hp178) (by decide) (fun v179 hs180 => ?_)
                 have hl181 := hs180.le
                 refine DW.y rfl rfl (X.move rfl) ?_
                 refine DW.y rfl rfl (X.sub rfl rfl (by omega) (by omega)) ?_
                 refine DW.xe rfl rfl (E.idxE (i - 1) Tryz.runUnderlying27 Tryz.sizeOf3 rfl rfl hs180 (by omega) (by omega)) (by decide) (fun p182 hp183 => ?_)
                 refine DW.y rfl rfl (X.loadInt Tryz.isAgg3 rfl hp183) ?_
                 refine DW.y rfl rfl (X.sub rfl rfl (by omega) (by omega)) ?_
                 refine DW.y rfl rfl (X.assign rfl) ?_
                 refine DW.nil ?_
                 refine WK.nThen ?_
                 refine WC.r ?_
                 refine WL.mv rfl ?_
                 refine WL.y (X.field Tryz.runUnderlying23 rfl Tryz.sizeOf3 rfl) ?_
                 refine WL.y (X.loadB (k := 0) Tryz.isAgg3 rfl rfl rfl) ?_
                 refine WL.cond (X.lss rfl rfl) (by decide) (fun h184 => ?_) (fun h184 => ?_)
                 ·refine WL.mv rfl ?_
                  refine WL.no rfl rfl rfl (by decide) ?_
                  refine WL.no rfl rfl rfl (by decide) ?_
                  refine WL.no rfl rfl rfl (by decide) ?_
                  refine WL.no rfl rfl rfl (by decide) ?_
                  refine WL.y (X.pickT rfl rfl rfl) ?_
                  refine WL.z ?_
                  refine WC.condT rfl ?_
                  refine WC.r ?_
                  refine WL.ag rfl ?_
                  refine WL.z ?_
                  refine WC.ret ?_
                  refine WK.rBlock ?_
                  refine WK.rThen ?_
                  refine WK.rThen ?_
                  refine WK.rBlock ?_
                  refine WK.rThen ?_
                  refine WK.ret1 rfl rfl (fun w' hw' => Ret.exact hw' ?_)
                  first | exact bool_false (fun h_ => by have h1_ := h_.1; unfold drawH at h1_; omega) | exact bool_false (fun h_ => by have h1_ := h_.2.1 i (by omega); unfold drawC at h1_; have h2_ := h1_.1; omega) | exact bool_false (fun h_ => by have h1_ := h_.2.1 i (by omega); unfold drawC at h1_; have h2_ := h1_.2.1 (by omega); contradiction) | exact bool_false (fun h_ => by have h1_ := h_.2.1 i (by omega); unfold drawC at h1_; have h2_ := h1_.2.2 (by omega); omega) | exact bool_false (fun h_ => by have h1_ := h_.2.2 t (by omega); unfold drawT at h1_; have h2_ := h1_.1; omega) | exact bool_false (fun h_ => by have h1_ := h_.2.2 t (by omega); unfold drawT at h1_; have h2_ := h1_.2 (by omega); omega) | exact bool_true ⟨by unfold drawH; omega, fun j hj => hall j (by omega), fun j hj => htick j (by omega)⟩
                 ·refine WL.mv rfl ?_
                  refine WL.yes rfl rfl ?_
                  refine WL.mv rfl ?_
                  refine WL.yes rfl rfl ?_
                  refine WL.y (X.field Tryz.runUnderlying23 rfl Tryz.sizeOf3 rfl) ?_
                  refine WL.yes rfl rfl ?_
                  refine WL.y (X.loadB (k := 0) Tryz.isAgg3 rfl rfl rfl) ?_
                  refine WL.yes rfl rfl ?_
                  refine WL.cond (X.gtr rfl rfl) (by decide) (fun h185 => ?_) (fun h185 => ?_)
                  ·refine WL.y (X.pickF rfl rfl rfl) ?_
                   refine WL.z ?_
                   refine WC.condT rfl ?_
                   refine WC.r ?_
                   refine WL.ag rfl ?_
                   refine WL.z ?_
                   refine WC.ret ?_
                   refine WK.rBlock ?_
                   refine WK.rThen ?_
                   refine WK.rThen ?_
                   refine WK.rBlock ?_
                   refine WK.rThen ?_
                   refine WK.ret1 rfl rfl (fun w' hw' => Ret.exact hw' ?_)
                   first | exact bool_false (fun h_ => by have h1_ := h_.1; unfold drawH at h1_; omega) | exact bool_false (fun h_ => by have h1_ := h_.2.1 i (by omega); unfold drawC at h1_; have h2_ := h1_.1; omega) | exact bool_false (fun h_ => by have h1_ := h_.2.1 i (by omega); unfold drawC at h1_; have h2_ := h1_.2.1 (by omega); contradiction) | exact bool_false (fun h_ => by have h1_ := h_.2.1 i (by omega); unfold drawC at h1_; have h2_ := h1_.2.2 (by omega); omega) | exact bool_false (fun h_ => by have h1_ := h_.2.2 t (by omega); unfold drawT at h1_; have h2_ := h1_.1; omega) | exact bool_false (fun h_ => by have h1_ := h_.2.2 t (by omega); unfold drawT at h1_; have h2_ := h1_.2 (by omega); omega) | exact bool_true ⟨by unfold drawH; omega, fun j hj => hall j (by omega), fun j hj => htick j (by omega)⟩
                  ·refine WL.y (X.pickF rfl rfl rfl) ?_
                   refine WL.z ?_
                   refine WC.condF rfl ?_
                   refine WC.skip ?_
                   refine WK.nBlock ?_
                   refine WK.nThen ?_
                   refine WC.region ?_
                   refine WL.mv rfl ?_
                   refine WL.y (X.add rfl rfl (by omega) (by omega)) ?_
                   refine WL.ag rfl ?_
                   refine WL.z ?_
                   refine WK.next (i + 1) rfl (.cons _ (.cons_cons _ .slnil)) (.cons rfl (.cons rfl (.cons rfl (.cons rfl (.cons rfl .nil))))) ?_ ?_
                   ·exact ⟨by omega, fun j hj => by rcases Nat.lt_succ_iff_lt_or_eq.1 hj with h | h; exact hall j h; subst h; unfold drawC; exact ⟨by omega, fun h_ => by first | (exact absurd h_ (by omega)) | assumption | (exact Classical.byContradiction fun hn_ => by contradiction), fun h_ => by first | omega | (exfalso; omega)⟩⟩
                   ·omega
             ·refine DW.y rfl rfl (X.not rfl) ?_
              refine DW.y rfl rfl (X.pickT rfl rfl rfl) ?_
              refine DW.y rfl rfl (X.pickF rfl rfl rfl) ?_
              refine DW.nil ?_
              refine WK.nThen ?_
              refine WC.condT rfl ?_
              refine WC.r ?_
              refine WL.ag rfl ?_
              refine WL.z ?_
              refine WC.ret ?_
              refine WK.rThen ?_
              refine WK.rBlock ?_
              refine WK.rThen ?_
              refine WK.rThen ?_
              refine WK.rBlock ?_
              refine WK.rThen ?_
              refine WK.ret1 rfl rfl (fun w' hw' => Ret.exact hw' ?_)
              first | exact bool_false (fun h_ => by have h1_ := h_.1; unfold drawH at h1_; omega) | exact bool_false (fun h_ => by have h1_ := h_.2.1 i (by omega); unfold drawC at h1_; have h2_ := h1_.1; omega) | exact bool_false (fun h_ => by have h1_ := h_.2.1 i (by omega); unfold drawC at h1_; have h2_ := h1_.2.1 (by omega); contradiction) | exact bool_false (fun h_ => by have h1_ := h_.2.1 i (by omega); unfold drawC at h1_; have h2_ := h1_.2.2 (by omega); omega) | exact bool_false (fun h_ => by have h1_ := h_.2.2 t (by omega); unfold drawT at h1_; have h2_ := h1_.1; omega) | exact bool_false (fun h_ => by have h1_ := h_.2.2 t (by omega); unfold drawT at h1_; have h2_ := h1_.2 (by omega); omega) | exact bool_true ⟨by unfold drawH; omega, fun j hj => hall j (by omega), fun j hj => htick j (by omega)⟩
            ·refine DW.y rfl rfl (X.move rfl) ?_
             refine DW.no rfl rfl (by decide) ?_
             refine DW.no rfl rfl (by decide) ?_
             refine DW.no rfl rfl (by decide) ?_
             refine DW.no rfl rfl (by decide) ?_
             refine DW.no rfl rfl (by decide) ?_
             refine DW.no rfl rfl (by decide) ?_
             refine DW.no rfl rfl (by decide) ?_
             refine DW.no rfl rfl (by decide) ?_
             refine DW.no rfl rfl (by decide) ?_
             refine DW.no rfl rfl (by decide) ?_
             refine DW.no rfl rfl (by decide) ?_
             refine DW.no rfl rfl (by decide) ?_
             refine DW.no rfl rfl (by decide) ?_
             refine DW.no rfl rfl (by decide) ?_
             refine DW.no rfl rfl (by decide) ?_
             refine DW.no rfl rfl (by decide) ?_
             refine DW.y rfl rfl (X.pickF rfl rfl rfl) ?_
             refine DW.y rfl rfl (X.pickF rfl rfl rfl) ?_
             refine DW.nil ?_
             refine WK.nThen ?_
             refine WC.condF rfl ?_
             refine WC.skip ?_
             refine WK.nThen ?_
             refine WC.seq ?_
             refine WC.r ?_
             refine WL.mv rfl ?_
             refine WL.cond (X.eql rfl rfl) (by decide) (fun h186 => ?_) (fun h186 => ?_)
             ·refine WL.z ?_
              refine WC.condT rfl ?_
              refine WC.exit ?_
              refine WK.eThen ?_
              refine WK.eHit ?_
              refine WK.nThen ?_
              refine WC.region ?_
              refine WL.mv rfl ?_
              refine WL.y (X.add rfl rfl (by omega) (by omega)) ?_
              refine WL.ag rfl ?_
              refine WL.z ?_
              refine WK.next (i + 1) rfl (.refl _) (.cons rfl (.cons rfl (.cons rfl (.cons rfl (.cons rfl .nil))))) ?_ ?_
              ·exact ⟨by omega, fun j hj => by rcases Nat.lt_succ_iff_lt_or_eq.1 hj with h | h; exact hall j h; subst h; unfold drawC; exact ⟨by omega, fun h_ => by first | (exact absurd h_ (by omega)) | assumption | (exact Classical.byContradiction fun hn_ => by contradiction), fun h_ => by first | omega | (exfalso; omega)⟩⟩
              ·omega
             ·refine WL.z ?_
              refine WC.condF rfl ?_
              refine WC.skip ?_
              refine WK.nThen ?_
              refine WC.r ?_
              have hp187 := At.Sheet_3 hp26
              refine WL.y (X.field Tryz.runUnderlying35 rfl Tryz.sizeOf31 rfl) ?_
              have hp188 := At.Drum_0 hp187
              refine WL.y (X.field Tryz.runUnderlying31 rfl Tryz.sizeOf28 rfl) ?_
              refine WL.xe (E.loadSl Tryz.isAgg28 rfl hp188) (by decide) (fun v189 hs190 => ?_)
              have hl191 := hs190.le
              refine WL.mv rfl ?_
              refine WL.y (X.sub rfl rfl (by omega) (by omega)) ?_
              refine WL.xe (E.idxE (i - 1) Tryz.runUnderlying28 Tryz.sizeOf23 rfl rfl hs190 (by omega) (by omega)) (by decide) (fun p192 hp193 => ?_)
              refine WL.xe (E.loadAgg Tryz.isAgg23 Tryz.sizeOf23 rfl hp193) (by decide) (fun c194 hc195 => ?_)
              obtain rfl := hc195
              refine WL.tn (T.alloc Tryz.zeroValue23 rfl) (by decide) fun b196 => ?_
              refine WL.ts (T.storeBA (k := 0) Tryz.sizeOf23 rfl rfl rfl (one_cons rfl (one_cons rfl one_nil)) rfl rfl) ?_
              refine WL.z ?_
              refine WC.seq ?_
              refine WC.r ?_
              refine WL.ag rfl ?_
              refine WL.z ?_
              refine WC.block ?_
              refine WC.loop (G := Nat) (fun k => x.Drum.Stops.length - k) (fun k => m71) (fun k => [blk b196 23 [.int .i64 ((gapW x.Drum (i - 1) k).Lo), .int .i64 ((gapW x.Drum (i - 1) k).Hi)], blk b76 104 [v73]]) (fun k => [(1, .int .i64 (ticks)), (3, .pointer (some ((⟨b22, 0, none⟩ : Addr)))), (5, .pointer (some ((⟨b23, 0, none⟩ : Addr)))), (7, .pointer (some ⟨b76, 0, none⟩)), (9, .int .i64 (↑i)), (10, .pointer (some ⟨b196, 0, none⟩)), (11, .int .i64 (↑k)), (95, .pointer (some (((⟨b23, 0, none⟩ : Addr)).add 1))), (96, v97), (97, .int .i64 (↑i)), (98, .pointer (some (p100))), (99, .int .i64 (gt c.Ticks i)), (100, .int .i64 (ticks)), (101, .bool false), (104, .pointer (some ⟨b76, 0, none⟩)), (105, v73), (106, .int .i64 (↑i)), (107, .pointer (some (p103))), (108, v105), (109, .int .i64 (↑(gt (inkC x.Paper x.Trace x.Blots) i).length)), (110, .bool false), (111, .bool false), (128, .bool false)]) (fun k => k ≤ x.Drum.Stops.length) 0 rfl (.refl _) (.cons rfl (.cons rfl (.cons rfl (.cons rfl (.cons rfl (.cons rfl (.cons rfl (.cons rfl (.cons rfl (.cons rfl (.cons rfl (.cons rfl (.cons rfl (.cons rfl (.cons rfl (.cons rfl (.cons rfl (.cons rfl (.cons rfl (.cons rfl (.cons rfl (.cons rfl (.cons rfl .nil))))))))))))))))))))))) ?_ ?_
              ·exact Nat.zero_le _
              ·rintro k hF197
               show WK _ _ m71 [blk b196 23 [.int .i64 ((gapW x.Drum (i - 1) k).Lo), .int .i64 ((gapW x.Drum (i - 1) k).Hi)], blk b76 104 [v73]] [(1, .int .i64 (ticks)), (3, .pointer (some ((⟨b22, 0, none⟩ : Addr)))), (5, .pointer (some ((⟨b23, 0, none⟩ : Addr)))), (7, .pointer (some ⟨b76, 0, none⟩)), (9, .int .i64 (↑i)), (10, .pointer (some ⟨b196, 0, none⟩)), (11, .int .i64 (↑k)), (95, .pointer (some (((⟨b23, 0, none⟩ : Addr)).add 1))), (96, v97), (97, .int .i64 (↑i)), (98, .pointer (some (p100))), (99, .int .i64 (gt c.Ticks i)), (100, .int .i64 (ticks)), (101, .bool false), (104, .pointer (some ⟨b76, 0, none⟩)), (105, v73), (106, .int .i64 (↑i)), (107, .pointer (some (p103))), (108, v105), (109, .int .i64 (↑(gt (inkC x.Paper x.Trace x.Blots) i).length)), (110, .bool false), (111, .bool false), (128, .bool false)] _
               replace hF197 : k ≤ x.Drum.Stops.length := hF197
               have hk := hF197
               refine WC.seq ?_
               refine WC.r ?_
               refine WL.mv rfl ?_
               have hp198 := At.Sheet_3 hp26
               refine WL.y (X.field Tryz.runUnderlying35 rfl Tryz.sizeOf31 rfl) ?_
               have hp199 := At.Drum_1 hp198
               refine WL.y (X.field Tryz.runUnderlying31 rfl Tryz.sizeOf29 rfl) ?_
               refine WL.xe (E.loadSl Tryz.isAgg29 rfl hp199) (by decide) (fun v200 hs201 => ?_)
               have hl202 := hs201.le
               refine WL.y (X.len Tryz.runUnderlying29 rfl hs201) ?_
               refine WL.cond (X.lss rfl rfl) (by decide) (fun h203 => ?_) (fun h203 => ?_)
               ·refine WL.z ?_
                refine WC.condT rfl ?_
                refine WC.skip ?_
                refine WK.nThen ?_
                refine WC.seq ?_
                refine WC.block ?_
                refine WC.r ?_
                have hp204 := At.Sheet_3 hp26
                refine WL.y (X.field Tryz.runUnderlying35 rfl Tryz.sizeOf31 rfl) ?_
                have hp205 := At.Drum_1 hp204
                refine WL.y (X.field Tryz.runUnderlying31 rfl Tryz.sizeOf29 rfl) ?_
                refine WL.xe (E.loadSl Tryz.isAgg29 rfl hp205) (by decide) (fun v206 hs207 => ?_)
                have hl208 := hs207.le
                refine WL.mv rfl ?_
                refine WL.xe (E.idxN k Tryz.runUnderlying29 Tryz.sizeOf108 rfl rfl hs207 (by omega)) (by decide) (fun p209 hp210 => ?_)
                have hp211 := At.Stp_0 hp210
                refine WL.y (X.field Tryz.runUnderlying108 rfl Tryz.sizeOf3 rfl) ?_
                refine WL.y (X.loadInt Tryz.isAgg3 rfl hp211) ?_
                refine WL.mv rfl ?_
                refine WL.y (X.sub rfl rfl (by omega) (by omega)) ?_
                refine WL.cond (X.eql rfl rfl) (by decide) (fun h212 => ?_) (fun h212 => ?_)
                ·refine WL.z ?_
                 refine WC.condT rfl ?_
                 refine WC.draw (π := (.cons 0 (.cons 1 (.cons 2 (.cons 3 (.cons 4 (.cons 5 (.cons 6 (.cons 7 (.cons 8 (.cons 9 (.cons 10 (.cons 11 (.cons 12 (.cons 13 (.cons 14 (.cons 15 (.cons 16 (.cons 17 (.cons 18 (.cons 19 (.cons 20 (.cons 21 (.cons 22 (.cons 23 .done))))))))))))))))))))))))) [23] [23] rfl (by kernel_rfl) ?_
                 refine DW.y rfl rfl (X.field Tryz.runUnderlying23 rfl Tryz.sizeOf3 rfl) ?_
                 refine DW.y rfl rfl (X.loadB (k := 0) Tryz.isAgg3 rfl rfl rfl) ?_
                 have hp213 := At.Sheet_3 hp26
                 refine DW.y rfl rfl (X.field Tryz.runUnderlying35 rfl Tryz.sizeOf31 rfl) ?_
                 have hp214 := At.Drum_1 hp213
                 refine DW.y rfl rfl (X.field Tryz.runUnderlying31 rfl Tryz.sizeOf29 rfl) ?_
                 refine DW.xe rfl rfl (E.loadSl Tryz.isAgg29 rfl hp214) (by decide) (fun v215 hs216 => ?_)
                 have hl217 := hs216.le
                 refine DW.y rfl rfl (X.move rfl) ?_
                 refine DW.xe rfl rfl (E.idxN k Tryz.runUnderlying29 Tryz.sizeOf108 rfl rfl hs216 (by omega)) (by decide) (fun p218 hp219 => ?_)
                 have hp220 := At.Stp_1 hp219
                 refine DW.y rfl rfl (X.field Tryz.runUnderlying108 rfl Tryz.sizeOf23 rfl) ?_
                 have hp221 := At.Span_0 hp220
                 refine DW.y rfl rfl (X.field Tryz.runUnderlying23 rfl Tryz.sizeOf3 rfl) ?_
                 refine DW.y rfl rfl (X.loadInt Tryz.isAgg3 rfl hp221) ?_
                 refine DW.y rfl rfl (X.addW rfl rfl) ?_
                 refine DW.y rfl rfl (X.field Tryz.runUnderlying23 rfl Tryz.sizeOf3 rfl) ?_
                 refine DW.y rfl rfl (X.loadB (k := 0) Tryz.isAgg3 rfl rfl rfl) ?_
                 have hp222 := At.Sheet_3 hp26
                 refine DW.y rfl rfl (X.field Tryz.runUnderlying35 rfl Tryz.sizeOf31 rfl) ?_
                 have hp223 := At.Drum_1 hp222
                 refine DW.y rfl rfl (X.field Tryz.runUnderlying31 rfl Tryz.sizeOf29 rfl) ?_
                 refine DW.xe rfl rfl (E.loadSl Tryz.isAgg29 rfl hp223) (by decide) (fun v224 hs225 => ?_)
                 have hl226 := hs225.le
                 refine DW.y rfl rfl (X.move rfl) ?_
                 refine DW.xe rfl rfl (E.idxN k Tryz.runUnderlying29 Tryz.sizeOf108 rfl rfl hs225 (by omega)) (by decide) (fun p227 hp228 => ?_)
                 have hp229 := At.Stp_1 hp228
                 refine DW.y rfl rfl (X.field Tryz.runUnderlying108 rfl Tryz.sizeOf23 rfl) ?_
                 have hp230 := At.Span_1 hp229
                 refine DW.y rfl rfl (X.field Tryz.runUnderlying23 rfl Tryz.sizeOf3 rfl) ?_
                 refine DW.y rfl rfl (X.loadInt Tryz.isAgg3 rfl hp230) ?_
                 refine DW.y rfl rfl (X.addW rfl rfl) ?_
                 refine DW.y (V := Value.agg [.int .i64 (wr (((gapW x.Drum (i - 1) k).Lo) + (((gt x.Drum.Stops k).Ticks).Lo))), .int .i64 (wr (((gapW x.Drum (i - 1) k).Hi) + (((gt x.Drum.Stops k).Ticks).Hi)))].toArray) rfl rfl (X.build Tryz.zeroValue23 Tryz.runUnderlying23 (places23 _ Tryz.underlying23) rfl rfl) ?_
                 refine DW.ts rfl rfl rfl rfl (T.storeBA (k := 0) Tryz.sizeOf23 rfl rfl rfl (one_cons rfl (one_cons rfl one_nil)) rfl rfl) ?_
                 refine DW.nil ?_
                 refine WK.nBlock ?_
                 refine WK.nThen ?_
                 refine WC.region ?_
                 refine WL.mv rfl ?_
                 refine WL.y (X.add rfl rfl (by omega) (by omega)) ?_
                 refine WL.ag rfl ?_
                 refine WL.z ?_
                 have hgs_ := gapW_yes (d := x.Drum) (i := i - 1) (k := k) (by omega)
                 rw [show (wr (((gapW x.Drum (i - 1) k).Lo) + (((gt x.Drum.Stops k).Ticks).Lo))) = (gapW x.Drum (i - 1) (k + 1)).Lo by rw [hgs_]]
                 rw [show (wr (((gapW x.Drum (i - 1) k).Hi) + (((gt x.Drum.Stops k).Ticks).Hi))) = (gapW x.Drum (i - 1) (k + 1)).Hi by rw [hgs_]]
                 refine WK.next (k + 1) rfl (.refl _) (.cons rfl (.cons rfl (.cons rfl (.cons rfl (.cons rfl (.cons rfl (.cons rfl (.cons rfl (.cons rfl (.cons rfl (.cons rfl (.cons rfl (.cons rfl (.cons rfl (.cons rfl (.cons rfl (.cons rfl (.cons rfl (.cons rfl (.cons rfl (.cons rfl (.cons rfl (.cons rfl .nil))))))))))))))))))))))) ?_ ?_
                 ·omega
                 ·omega
                ·refine WL.z ?_
                 refine WC.condF rfl ?_
                 refine WC.skip ?_
                 refine WK.nBlock ?_
                 refine WK.nThen ?_
                 refine WC.region ?_
                 refine WL.mv rfl ?_
                 refine WL.y (X.add rfl rfl (by omega) (by omega)) ?_
                 refine WL.ag rfl ?_
                 refine WL.z ?_
                 have hgs_ := gapW_no (d := x.Drum) (i := i - 1) (k := k) (by omega)
                 rw [← hgs_]
                 refine WK.next (k + 1) rfl (.refl _) (.cons rfl (.cons rfl (.cons rfl (.cons rfl (.cons rfl (.cons rfl (.cons rfl (.cons rfl (.cons rfl (.cons rfl (.cons rfl (.cons rfl (.cons rfl (.cons rfl (.cons rfl (.cons rfl (.cons rfl (.cons rfl (.cons rfl (.cons rfl (.cons rfl (.cons rfl (.cons rfl .nil))))))))))))))))))))))) ?_ ?_
                 ·omega
                 ·omega
               ·refine WL.z ?_
                refine WC.condF rfl ?_
                refine WC.exit ?_
                refine WK.eThen ?_
                refine WK.eThen ?_
                refine WK.eHit ?_
                refine WK.nThen ?_
                refine WC.seq ?_
                have hpr_ := (hall (i - 1) (by omega)).1
                have hke_ : k = x.Drum.Stops.length := (by omega)
                rw [hke_]
                refine WC.draw (π := (.cons 0 (.cons 1 (.cons 2 (.cons 3 (.cons 4 (.cons 5 (.cons 6 (.cons 7 (.cons 8 (.cons 9 (.cons 10 (.cons 11 (.cons 12 .done)))))))))))))) [] [] rfl (by kernel_rfl) ?_
                have hp231 := At.Course_1 hp29
                refine DW.y rfl rfl (X.field Tryz.runUnderlying37 rfl Tryz.sizeOf27 rfl) ?_
                refine DW.xe rfl rfl (E.loadSl Tryz.isAgg27 rfl hp231) (by decide) (fun v232 hs233 => ?_)
                have hl234 := hs233.le
                refine DW.y rfl rfl (X.move rfl) ?_
                refine DW.xe rfl rfl (E.idxN i Tryz.runUnderlying27 Tryz.sizeOf3 rfl rfl hs233 (by omega)) (by decide) (fun p235 hp236 => ?_)
                refine DW.y rfl rfl (X.loadInt Tryz.isAgg3 rfl hp236) ?_
                have hp237 := At.Course_1 hp29
                refine DW.y rfl rfl (X.field Tryz.runUnderlying37 rfl Tryz.sizeOf27 rfl) ?_
                refine DW.xe rfl rfl (E.loadSl Tryz.isAgg27 rfl hp237) (by decide) (fun v238 hs239 => ?_)
                have hl240 := hs239.le
                refine DW.y rfl rfl (X.move rfl) ?_
                refine DW.y rfl rfl (X.sub rfl rfl (by omega) (by omega)) ?_
                refine DW.xe rfl rfl (E.idxE (i - 1) Tryz.runUnderlying27 Tryz.sizeOf3 rfl rfl hs239 (by omega) (by omega)) (by decide) (fun p241 hp242 => ?_)
                refine DW.y rfl rfl (X.loadInt Tryz.isAgg3 rfl hp242) ?_
                refine DW.y rfl rfl (X.sub rfl rfl (by omega) (by omega)) ?_
                refine DW.y rfl rfl (X.assign rfl) ?_
                refine DW.nil ?_
                refine WK.nThen ?_
                refine WC.r ?_
                refine WL.mv rfl ?_
                refine WL.y (X.field Tryz.runUnderlying23 rfl Tryz.sizeOf3 rfl) ?_
                refine WL.y (X.loadB (k := 0) Tryz.isAgg3 rfl rfl rfl) ?_
                refine WL.cond (X.lss rfl rfl) (by decide) (fun h243 => ?_) (fun h243 => ?_)
                ·refine WL.mv rfl ?_
                 refine WL.no rfl rfl rfl (by decide) ?_
                 refine WL.no rfl rfl rfl (by decide) ?_
                 refine WL.no rfl rfl rfl (by decide) ?_
                 refine WL.no rfl rfl rfl (by decide) ?_
                 refine WL.y (X.pickT rfl rfl rfl) ?_
                 refine WL.z ?_
                 refine WC.condT rfl ?_
                 refine WC.r ?_
                 refine WL.ag rfl ?_
                 refine WL.z ?_
                 refine WC.ret ?_
                 refine WK.rBlock ?_
                 refine WK.rThen ?_
                 refine WK.rThen ?_
                 refine WK.rBlock ?_
                 refine WK.rThen ?_
                 refine WK.ret1 rfl rfl (fun w' hw' => Ret.exact hw' ?_)
                 first | exact bool_false (fun h_ => by have h1_ := h_.1; unfold drawH at h1_; omega) | exact bool_false (fun h_ => by have h1_ := h_.2.1 i (by omega); unfold drawC at h1_; have h2_ := h1_.1; omega) | exact bool_false (fun h_ => by have h1_ := h_.2.1 i (by omega); unfold drawC at h1_; have h2_ := h1_.2.1 (by omega); contradiction) | exact bool_false (fun h_ => by have h1_ := h_.2.1 i (by omega); unfold drawC at h1_; have h2_ := h1_.2.2 (by omega); omega) | exact bool_false (fun h_ => by have h1_ := h_.2.2 t (by omega); unfold drawT at h1_; have h2_ := h1_.1; omega) | exact bool_false (fun h_ => by have h1_ := h_.2.2 t (by omega); unfold drawT at h1_; have h2_ := h1_.2 (by omega); omega) | exact bool_true ⟨by unfold drawH; omega, fun j hj => hall j (by omega), fun j hj => htick j (by omega)⟩
                ·refine WL.mv rfl ?_
                 refine WL.yes rfl rfl ?_
                 refine WL.mv rfl ?_
                 refine WL.yes rfl rfl ?_
                 refine WL.y (X.field Tryz.runUnderlying23 rfl Tryz.sizeOf3 rfl) ?_
                 refine WL.yes rfl rfl ?_
                 refine WL.y (X.loadB (k := 0) Tryz.isAgg3 rfl rfl rfl) ?_
                 refine WL.yes rfl rfl ?_
                 refine WL.cond (X.gtr rfl rfl) (by decide) (fun h244 => ?_) (fun h244 => ?_)
                 ·refine WL.y (X.pickF rfl rfl rfl) ?_
                  refine WL.z ?_
                  refine WC.condT rfl ?_
                  refine WC.r ?_
                  refine WL.ag rfl ?_
                  refine WL.z ?_
                  refine WC.ret ?_
                  refine WK.rBlock ?_
                  refine WK.rThen ?_
                  refine WK.rThen ?_
                  refine WK.rBlock ?_
                  refine WK.rThen ?_
                  refine WK.ret1 rfl rfl (fun w' hw' => Ret.exact hw' ?_)
                  first | exact bool_false (fun h_ => by have h1_ := h_.1; unfold drawH at h1_; omega) | exact bool_false (fun h_ => by have h1_ := h_.2.1 i (by omega); unfold drawC at h1_; have h2_ := h1_.1; omega) | exact bool_false (fun h_ => by have h1_ := h_.2.1 i (by omega); unfold drawC at h1_; have h2_ := h1_.2.1 (by omega); contradiction) | exact bool_false (fun h_ => by have h1_ := h_.2.1 i (by omega); unfold drawC at h1_; have h2_ := h1_.2.2 (by omega); omega) | exact bool_false (fun h_ => by have h1_ := h_.2.2 t (by omega); unfold drawT at h1_; have h2_ := h1_.1; omega) | exact bool_false (fun h_ => by have h1_ := h_.2.2 t (by omega); unfold drawT at h1_; have h2_ := h1_.2 (by omega); omega) | exact bool_true ⟨by unfold drawH; omega, fun j hj => hall j (by omega), fun j hj => htick j (by omega)⟩
                 ·refine WL.y (X.pickF rfl rfl rfl) ?_
                  refine WL.z ?_
                  refine WC.condF rfl ?_
                  refine WC.skip ?_
                  refine WK.nBlock ?_
                  refine WK.nThen ?_
                  refine WC.region ?_
                  refine WL.mv rfl ?_
                  refine WL.y (X.add rfl rfl (by omega) (by omega)) ?_
                  refine WL.ag rfl ?_
                  refine WL.z ?_
                  refine WK.next (i + 1) rfl (.cons _ (.cons_cons _ .slnil)) (.cons rfl (.cons rfl (.cons rfl (.cons rfl (.cons rfl .nil))))) ?_ ?_
                  ·exact ⟨by omega, fun j hj => by rcases Nat.lt_succ_iff_lt_or_eq.1 hj with h | h; exact hall j h; subst h; unfold drawC; exact ⟨by omega, fun h_ => by first | (exact absurd h_ (by omega)) | assumption | (exact Classical.byContradiction fun hn_ => by contradiction), fun h_ => by first | omega | (exfalso; omega)⟩⟩
                  ·omega
         ·refine WL.z ?_
          refine WC.condF rfl ?_
          refine WC.exit ?_
          refine WK.eThen ?_
          refine WK.eThen ?_
          refine WK.eHit ?_
          refine WK.nThen ?_
          refine WC.seq ?_
          refine WC.r ?_
          refine WL.ag rfl ?_
          refine WL.z ?_
          refine WC.block ?_
          refine WC.loop (G := Nat) (fun t => (ticks + 1).toNat - t) (fun t => m71) (fun t => [blk b76 104 [v73]]) (fun t => [(1, .int .i64 (ticks)), (3, .pointer (some ((⟨b22, 0, none⟩ : Addr)))), (5, .pointer (some ((⟨b23, 0, none⟩ : Addr)))), (13, .int .i64 (↑t))]) (fun t => (t : Int) ≤ ticks + 1 ∧ ∀ j, j < t → drawT x c j) 0 rfl (.refl _) (.cons rfl (.cons rfl (.cons rfl (.cons rfl .nil)))) ?_ ?_
          ·exact ⟨by omega, fun j hj => absurd hj (Nat.not_lt_zero _)⟩
          ·rintro t hF245
           show WK _ _ m71 [blk b76 104 [v73]] [(1, .int .i64 (ticks)), (3, .pointer (some ((⟨b22, 0, none⟩ : Addr)))), (5, .pointer (some ((⟨b23, 0, none⟩ : Addr)))), (13, .int .i64 (↑t))] _
           replace hF245 : (t : Int) ≤ ticks + 1 ∧ ∀ j, j < t → drawT x c j := hF245
           obtain ⟨ht, htick⟩ := hF245
           refine WC.seq ?_
           refine WC.r ?_
           refine WL.mv rfl ?_
           refine WL.mv rfl ?_
           refine WL.cond (X.leq rfl rfl) (by decide) (fun h246 => ?_) (fun h246 => ?_)
           ·refine WL.z ?_
            refine WC.condT rfl ?_
            refine WC.skip ?_
            refine WK.nThen ?_
            refine WC.seq ?_
            refine WC.block ?_
            refine WC.r ?_
            have hp247 := At.Course_2 hp29
            refine WL.y (X.field Tryz.runUnderlying37 rfl Tryz.sizeOf27 rfl) ?_
            refine WL.xe (E.loadSl Tryz.isAgg27 rfl hp247) (by decide) (fun v248 hs249 => ?_)
            have hl250 := hs249.le
            refine WL.mv rfl ?_
            refine WL.xe (E.idxN t Tryz.runUnderlying27 Tryz.sizeOf3 rfl rfl hs249 (by omega)) (by decide) (fun p251 hp252 => ?_)
            refine WL.y (X.loadInt Tryz.isAgg3 rfl hp252) ?_
            refine WL.ag rfl ?_
            refine WL.z ?_
            refine WC.seq ?_
            refine WC.draw (π := (.cons 0 (.cons 1 (.cons 2 (.cons 3 (.cons 4 (.cons 5 (.cons 6 (.cons 7 (.cons 8 .done)))))))))) [] [] rfl (by kernel_rfl) ?_
            have hp253 := At.Course_3 hp29
            refine DW.y rfl rfl (X.field Tryz.runUnderlying37 rfl Tryz.sizeOf27 rfl) ?_
            refine DW.xe rfl rfl (E.loadSl Tryz.isAgg27 rfl hp253) (by decide) (fun v254 hs255 => ?_)
            have hl256 := hs255.le
            refine DW.y rfl rfl (X.move rfl) ?_
            refine DW.xe rfl rfl (E.idxN t Tryz.runUnderlying27 Tryz.sizeOf3 rfl rfl hs255 (by omega)) (by decide) (fun p257 hp258 => ?_)
            refine DW.y rfl rfl (X.loadInt Tryz.isAgg3 rfl hp258) ?_
            have hp259 := At.Course_0 hp29
            refine DW.y rfl rfl (X.field Tryz.runUnderlying37 rfl Tryz.sizeOf3 rfl) ?_
            refine DW.y rfl rfl (X.loadInt Tryz.isAgg3 rfl hp259) ?_
            refine DW.y rfl rfl (X.subW rfl rfl) ?_
            refine DW.y rfl rfl (X.assign rfl) ?_
            refine DW.nil ?_
            refine WK.nThen ?_
            refine WC.seq ?_
            refine WC.r ?_
            refine WL.mv rfl ?_
            refine WL.cond (X.lss rfl rfl) (by decide) (fun h260 => ?_) (fun h260 => ?_)
            ·refine WL.mv rfl ?_
             refine WL.no rfl rfl rfl (by decide) ?_
             refine WL.no rfl rfl rfl (by decide) ?_
             refine WL.y (X.pickT rfl rfl rfl) ?_
             refine WL.mv rfl ?_
             refine WL.no rfl rfl rfl (by decide) ?_
             refine WL.no rfl rfl rfl (by decide) ?_
             refine WL.no rfl rfl rfl (by decide) ?_
             refine WL.no rfl rfl rfl (by decide) ?_
             refine WL.no rfl rfl rfl (by decide) ?_
             refine WL.no rfl rfl rfl (by decide) ?_
             refine WL.y (X.pickT rfl rfl rfl) ?_
             refine WL.mv rfl ?_
             refine WL.no rfl rfl rfl (by decide) ?_
             refine WL.no rfl rfl rfl (by decide) ?_
             refine WL.no rfl rfl rfl (by decide) ?_
             refine WL.no rfl rfl rfl (by decide) ?_
             refine WL.no rfl rfl rfl (by decide) ?_
             refine WL.no rfl rfl rfl (by decide) ?_
             refine WL.y (X.pickT rfl rfl rfl) ?_
             refine WL.mv rfl ?_
             refine WL.no rfl rfl rfl (by decide) ?_
             refine WL.no rfl rfl rfl (by decide) ?_
             refine WL.no rfl rfl rfl (by decide) ?_
             refine WL.no rfl rfl rfl (by decide) ?_
             refine WL.no rfl rfl rfl (by decide) ?_
             refine WL.no rfl rfl rfl (by decide) ?_
             refine WL.no rfl rfl rfl (by decide) ?_
             refine WL.y (X.pickT rfl rfl rfl) ?_
             refine WL.mv rfl ?_
             refine WL.no rfl rfl rfl (by decide) ?_
             refine WL.no rfl rfl rfl (by decide) ?_
             refine WL.no rfl rfl rfl (by decide) ?_
             refine WL.no rfl rfl rfl (by decide) ?_
             refine WL.no rfl rfl rfl (by decide) ?_
             refine WL.no rfl rfl rfl (by decide) ?_
             refine WL.no rfl rfl rfl (by decide) ?_
             refine WL.y (X.pickT rfl rfl rfl) ?_
             refine WL.z ?_
             refine WC.condT rfl ?_
             refine WC.r ?_
             refine WL.ag rfl ?_
             refine WL.z ?_
             refine WC.ret ?_
             refine WK.rThen ?_
             refine WK.rBlock ?_
             refine WK.rThen ?_
             refine WK.rThen ?_
             refine WK.rBlock ?_
             refine WK.rThen ?_
             refine WK.ret1 rfl rfl (fun w' hw' => Ret.exact hw' ?_)
             first | exact bool_false (fun h_ => by have h1_ := h_.1; unfold drawH at h1_; omega) | exact bool_false (fun h_ => by have h1_ := h_.2.1 i (by omega); unfold drawC at h1_; have h2_ := h1_.1; omega) | exact bool_false (fun h_ => by have h1_ := h_.2.1 i (by omega); unfold drawC at h1_; have h2_ := h1_.2.1 (by omega); contradiction) | exact bool_false (fun h_ => by have h1_ := h_.2.1 i (by omega); unfold drawC at h1_; have h2_ := h1_.2.2 (by omega); omega) | exact bool_false (fun h_ => by have h1_ := h_.2.2 t (by omega); unfold drawT at h1_; have h2_ := h1_.1; omega) | exact bool_false (fun h_ => by have h1_ := h_.2.2 t (by omega); unfold drawT at h1_; have h2_ := h1_.2 (by omega); omega) | exact bool_true ⟨by unfold drawH; omega, fun j hj => hall j (by omega), fun j hj => htick j (by omega)⟩
            ·refine WL.mv rfl ?_
             refine WL.yes rfl rfl ?_
             refine WL.mv rfl ?_
             refine WL.yes rfl rfl ?_
             refine WL.cond (X.gtr rfl rfl) (by decide) (fun h261 => ?_) (fun h261 => ?_)
             ·refine WL.y (X.pickF rfl rfl rfl) ?_
              refine WL.mv rfl ?_
              refine WL.no rfl rfl rfl (by decide) ?_
              refine WL.no rfl rfl rfl (by decide) ?_
              refine WL.no rfl rfl rfl (by decide) ?_
              refine WL.no rfl rfl rfl (by decide) ?_
              refine WL.no rfl rfl rfl (by decide) ?_
              refine WL.no rfl rfl rfl (by decide) ?_
              refine WL.y (X.pickT rfl rfl rfl) ?_
              refine WL.mv rfl ?_
              refine WL.no rfl rfl rfl (by decide) ?_
              refine WL.no rfl rfl rfl (by decide) ?_
              refine WL.no rfl rfl rfl (by decide) ?_
              refine WL.no rfl rfl rfl (by decide) ?_
              refine WL.no rfl rfl rfl (by decide) ?_
              refine WL.no rfl rfl rfl (by decide) ?_
              refine WL.y (X.pickT rfl rfl rfl) ?_
              refine WL.mv rfl ?_
              refine WL.no rfl rfl rfl (by decide) ?_
              refine WL.no rfl rfl rfl (by decide) ?_
              refine WL.no rfl rfl rfl (by decide) ?_
              refine WL.no rfl rfl rfl (by decide) ?_
              refine WL.no rfl rfl rfl (by decide) ?_
              refine WL.no rfl rfl rfl (by decide) ?_
              refine WL.no rfl rfl rfl (by decide) ?_
              refine WL.y (X.pickT rfl rfl rfl) ?_
              refine WL.mv rfl ?_
              refine WL.no rfl rfl rfl (by decide) ?_
              refine WL.no rfl rfl rfl (by decide) ?_
              refine WL.no rfl rfl rfl (by decide) ?_
              refine WL.no rfl rfl rfl (by decide) ?_
              refine WL.no rfl rfl rfl (by decide) ?_
              refine WL.no rfl rfl rfl (by decide) ?_
              refine WL.no rfl rfl rfl (by decide) ?_
              refine WL.y (X.pickT rfl rfl rfl) ?_
              refine WL.z ?_
              refine WC.condT rfl ?_
              refine WC.r ?_
              refine WL.ag rfl ?_
              refine WL.z ?_
              refine WC.ret ?_
              refine WK.rThen ?_
              refine WK.rBlock ?_
              refine WK.rThen ?_
              refine WK.rThen ?_
              refine WK.rBlock ?_
              refine WK.rThen ?_
              refine WK.ret1 rfl rfl (fun w' hw' => Ret.exact hw' ?_)
              first | exact bool_false (fun h_ => by have h1_ := h_.1; unfold drawH at h1_; omega) | exact bool_false (fun h_ => by have h1_ := h_.2.1 i (by omega); unfold drawC at h1_; have h2_ := h1_.1; omega) | exact bool_false (fun h_ => by have h1_ := h_.2.1 i (by omega); unfold drawC at h1_; have h2_ := h1_.2.1 (by omega); contradiction) | exact bool_false (fun h_ => by have h1_ := h_.2.1 i (by omega); unfold drawC at h1_; have h2_ := h1_.2.2 (by omega); omega) | exact bool_false (fun h_ => by have h1_ := h_.2.2 t (by omega); unfold drawT at h1_; have h2_ := h1_.1; omega) | exact bool_false (fun h_ => by have h1_ := h_.2.2 t (by omega); unfold drawT at h1_; have h2_ := h1_.2 (by omega); omega) | exact bool_true ⟨by unfold drawH; omega, fun j hj => hall j (by omega), fun j hj => htick j (by omega)⟩
             ·refine WL.y (X.pickF rfl rfl rfl) ?_
              refine WL.mv rfl ?_
              refine WL.yes rfl rfl ?_
              have hp262 := At.Course_3 hp29
              refine WL.y (X.field Tryz.runUnderlying37 rfl Tryz.sizeOf27 rfl) ?_
              refine WL.yes rfl rfl ?_
              refine WL.xe (E.loadSl Tryz.isAgg27 rfl hp262) (by decide) (fun v263 hs264 => ?_)
              have hl265 := hs264.le
              refine WL.yes rfl rfl ?_
              refine WL.mv rfl ?_
              refine WL.yes rfl rfl ?_
              refine WL.xe (E.idxN t Tryz.runUnderlying27 Tryz.sizeOf3 rfl rfl hs264 (by omega)) (by decide) (fun p266 hp267 => ?_)
              refine WL.yes rfl rfl ?_
              refine WL.y (X.loadInt Tryz.isAgg3 rfl hp267) ?_
              refine WL.yes rfl rfl ?_
              refine WL.cond (X.lss rfl rfl) (by decide) (fun h268 => ?_) (fun h268 => ?_)
              ·refine WL.y (X.pickF rfl rfl rfl) ?_
               refine WL.mv rfl ?_
               refine WL.no rfl rfl rfl (by decide) ?_
               refine WL.no rfl rfl rfl (by decide) ?_
               refine WL.no rfl rfl rfl (by decide) ?_
               refine WL.no rfl rfl rfl (by decide) ?_
               refine WL.no rfl rfl rfl (by decide) ?_
               refine WL.no rfl rfl rfl (by decide) ?_
               refine WL.y (X.pickT rfl rfl rfl) ?_
               refine WL.mv rfl ?_
               refine WL.no rfl rfl rfl (by decide) ?_
               refine WL.no rfl rfl rfl (by decide) ?_
               refine WL.no rfl rfl rfl (by decide) ?_
               refine WL.no rfl rfl rfl (by decide) ?_
               refine WL.no rfl rfl rfl (by decide) ?_
               refine WL.no rfl rfl rfl (by decide) ?_
               refine WL.no rfl rfl rfl (by decide) ?_
               refine WL.y (X.pickT rfl rfl rfl) ?_
               refine WL.mv rfl ?_
               refine WL.no rfl rfl rfl (by decide) ?_
               refine WL.no rfl rfl rfl (by decide) ?_
               refine WL.no rfl rfl rfl (by decide) ?_
               refine WL.no rfl rfl rfl (by decide) ?_
               refine WL.no rfl rfl rfl (by decide) ?_
               refine WL.no rfl rfl rfl (by decide) ?_
               refine WL.no rfl rfl rfl (by decide) ?_
               refine WL.y (X.pickT rfl rfl rfl) ?_
               refine WL.z ?_
               refine WC.condT rfl ?_
               refine WC.r ?_
               refine WL.ag rfl ?_
               refine WL.z ?_
               refine WC.ret ?_
               refine WK.rThen ?_
               refine WK.rBlock ?_
               refine WK.rThen ?_
               refine WK.rThen ?_
               refine WK.rBlock ?_
               refine WK.rThen ?_
               refine WK.ret1 rfl rfl (fun w' hw' => Ret.exact hw' ?_)
               first | exact bool_false (fun h_ => by have h1_ := h_.1; unfold drawH at h1_; omega) | exact bool_false (fun h_ => by have h1_ := h_.2.1 i (by omega); unfold drawC at h1_; have h2_ := h1_.1; omega) | exact bool_false (fun h_ => by have h1_ := h_.2.1 i (by omega); unfold drawC at h1_; have h2_ := h1_.2.1 (by omega); contradiction) | exact bool_false (fun h_ => by have h1_ := h_.2.1 i (by omega); unfold drawC at h1_; have h2_ := h1_.2.2 (by omega); omega) | exact bool_false (fun h_ => by have h1_ := h_.2.2 t (by omega); unfold drawT at h1_; have h2_ := h1_.1; omega) | exact bool_false (fun h_ => by have h1_ := h_.2.2 t (by omega); unfold drawT at h1_; have h2_ := h1_.2 (by omega); omega) | exact bool_true ⟨by unfold drawH; omega, fun j hj => hall j (by omega), fun j hj => htick j (by omega)⟩
              ·refine WL.y (X.pickF rfl rfl rfl) ?_
               refine WL.mv rfl ?_
               refine WL.yes rfl rfl ?_
               have hp269 := At.Course_3 hp29
               refine WL.y (X.field Tryz.runUnderlying37 rfl Tryz.sizeOf27 rfl) ?_
               refine WL.yes rfl rfl ?_
               refine WL.xe (E.loadSl Tryz.isAgg27 rfl hp269) (by decide) (fun v270 hs271 => ?_)
               have hl272 := hs271.le
               refine WL.yes rfl rfl ?_
               refine WL.mv rfl ?_
               refine WL.yes rfl rfl ?_
               refine WL.xe (E.idxN t Tryz.runUnderlying27 Tryz.sizeOf3 rfl rfl hs271 (by omega)) (by decide) (fun p273 hp274 => ?_)
               refine WL.yes rfl rfl ?_
               refine WL.y (X.loadInt Tryz.isAgg3 rfl hp274) ?_
               refine WL.yes rfl rfl ?_
               refine WL.cond (X.gtr rfl rfl) (by decide) (fun h275 => ?_) (fun h275 => ?_)
               ·refine WL.y (X.pickF rfl rfl rfl) ?_
                refine WL.mv rfl ?_
                refine WL.no rfl rfl rfl (by decide) ?_
                refine WL.no rfl rfl rfl (by decide) ?_
                refine WL.no rfl rfl rfl (by decide) ?_
                refine WL.no rfl rfl rfl (by decide) ?_
                refine WL.no rfl rfl rfl (by decide) ?_
                refine WL.no rfl rfl rfl (by decide) ?_
                refine WL.no rfl rfl rfl (by decide) ?_
                refine WL.y (X.pickT rfl rfl rfl) ?_
                refine WL.mv rfl ?_
                refine WL.no rfl rfl rfl (by decide) ?_
                refine WL.no rfl rfl rfl (by decide) ?_
                refine WL.no rfl rfl rfl (by decide) ?_
                refine WL.no rfl rfl rfl (by decide) ?_
                refine WL.no rfl rfl rfl (by decide) ?_
                refine WL.no rfl rfl rfl (by decide) ?_
                refine WL.no rfl rfl rfl (by decide) ?_
                refine WL.y (X.pickT rfl rfl rfl) ?_
                refine WL.z ?_
                refine WC.condT rfl ?_
                refine WC.r ?_
                refine WL.ag rfl ?_
                refine WL.z ?_
                refine WC.ret ?_
                refine WK.rThen ?_
                refine WK.rBlock ?_
                refine WK.rThen ?_
                refine WK.rThen ?_
                refine WK.rBlock ?_
                refine WK.rThen ?_
                refine WK.ret1 rfl rfl (fun w' hw' => Ret.exact hw' ?_)
                first | exact bool_false (fun h_ => by have h1_ := h_.1; unfold drawH at h1_; omega) | exact bool_false (fun h_ => by have h1_ := h_.2.1 i (by omega); unfold drawC at h1_; have h2_ := h1_.1; omega) | exact bool_false (fun h_ => by have h1_ := h_.2.1 i (by omega); unfold drawC at h1_; have h2_ := h1_.2.1 (by omega); contradiction) | exact bool_false (fun h_ => by have h1_ := h_.2.1 i (by omega); unfold drawC at h1_; have h2_ := h1_.2.2 (by omega); omega) | exact bool_false (fun h_ => by have h1_ := h_.2.2 t (by omega); unfold drawT at h1_; have h2_ := h1_.1; omega) | exact bool_false (fun h_ => by have h1_ := h_.2.2 t (by omega); unfold drawT at h1_; have h2_ := h1_.2 (by omega); omega) | exact bool_true ⟨by unfold drawH; omega, fun j hj => hall j (by omega), fun j hj => htick j (by omega)⟩
               ·refine WL.y (X.pickF rfl rfl rfl) ?_
                refine WL.mv rfl ?_
                rw [wr_in (a := gt c.Levels t - c.Zero) (by omega) (by omega)]
                refine WL.yes rfl rfl ?_
                refine WL.mv rfl ?_
                refine WL.yes rfl rfl ?_
                refine WL.mv rfl ?_
                refine WL.yes rfl rfl ?_
                refine WL.y (X.sub rfl rfl (by omega) (by omega)) ?_
                refine WL.yes rfl rfl ?_
                have hp276 := At.Sheet_4 hp26
                refine WL.y (X.field Tryz.runUnderlying35 rfl Tryz.sizeOf33 rfl) ?_
                refine WL.yes rfl rfl ?_
                have hp277 := At.Pen_0 hp276
                refine WL.y (X.field Tryz.runUnderlying33 rfl Tryz.sizeOf3 rfl) ?_
                refine WL.yes rfl rfl ?_
                refine WL.y (X.loadInt Tryz.isAgg3 rfl hp277) ?_
                refine WL.yes rfl rfl ?_
                refine WL.cond (X.gtr rfl rfl) (by decide) (fun h278 => ?_) (fun h278 => ?_)
                ·refine WL.y (X.pickF rfl rfl rfl) ?_
                 refine WL.mv rfl ?_
                 refine WL.no rfl rfl rfl (by decide) ?_
                 refine WL.no rfl rfl rfl (by decide) ?_
                 refine WL.no rfl rfl rfl (by decide) ?_
                 refine WL.no rfl rfl rfl (by decide) ?_
                 refine WL.no rfl rfl rfl (by decide) ?_
                 refine WL.no rfl rfl rfl (by decide) ?_
                 refine WL.no rfl rfl rfl (by decide) ?_
                 refine WL.y (X.pickT rfl rfl rfl) ?_
                 refine WL.z ?_
                 refine WC.condT rfl ?_
                 refine WC.r ?_
                 refine WL.ag rfl ?_
                 refine WL.z ?_
                 refine WC.ret ?_
                 refine WK.rThen ?_
                 refine WK.rBlock ?_
                 refine WK.rThen ?_
                 refine WK.rThen ?_
                 refine WK.rBlock ?_
                 refine WK.rThen ?_
                 refine WK.ret1 rfl rfl (fun w' hw' => Ret.exact hw' ?_)
                 first | exact bool_false (fun h_ => by have h1_ := h_.1; unfold drawH at h1_; omega) | exact bool_false (fun h_ => by have h1_ := h_.2.1 i (by omega); unfold drawC at h1_; have h2_ := h1_.1; omega) | exact bool_false (fun h_ => by have h1_ := h_.2.1 i (by omega); unfold drawC at h1_; have h2_ := h1_.2.1 (by omega); contradiction) | exact bool_false (fun h_ => by have h1_ := h_.2.1 i (by omega); unfold drawC at h1_; have h2_ := h1_.2.2 (by omega); omega) | exact bool_false (fun h_ => by have h1_ := h_.2.2 t (by omega); unfold drawT at h1_; have h2_ := h1_.1; omega) | exact bool_false (fun h_ => by have h1_ := h_.2.2 t (by omega); unfold drawT at h1_; have h2_ := h1_.2 (by omega); omega) | exact bool_true ⟨by unfold drawH; omega, fun j hj => hall j (by omega), fun j hj => htick j (by omega)⟩
                ·refine WL.y (X.pickF rfl rfl rfl) ?_
                 refine WL.mv rfl ?_
                 refine WL.yes rfl rfl ?_
                 refine WL.mv rfl ?_
                 refine WL.yes rfl rfl ?_
                 refine WL.mv rfl ?_
                 refine WL.yes rfl rfl ?_
                 refine WL.y (X.sub rfl rfl (by omega) (by omega)) ?_
                 refine WL.yes rfl rfl ?_
                 have hp279 := At.Sheet_4 hp26
                 refine WL.y (X.field Tryz.runUnderlying35 rfl Tryz.sizeOf33 rfl) ?_
                 refine WL.yes rfl rfl ?_
                 have hp280 := At.Pen_0 hp279
                 refine WL.y (X.field Tryz.runUnderlying33 rfl Tryz.sizeOf3 rfl) ?_
                 refine WL.yes rfl rfl ?_
                 refine WL.y (X.loadInt Tryz.isAgg3 rfl hp280) ?_
                 refine WL.yes rfl rfl ?_
                 refine WL.cond (X.gtr rfl rfl) (by decide) (fun h281 => ?_) (fun h281 => ?_)
                 ·refine WL.y (X.pickF rfl rfl rfl) ?_
                  refine WL.z ?_
                  refine WC.condT rfl ?_
                  refine WC.r ?_
                  refine WL.ag rfl ?_
                  refine WL.z ?_
                  refine WC.ret ?_
                  refine WK.rThen ?_
                  refine WK.rBlock ?_
                  refine WK.rThen ?_
                  refine WK.rThen ?_
                  refine WK.rBlock ?_
                  refine WK.rThen ?_
                  refine WK.ret1 rfl rfl (fun w' hw' => Ret.exact hw' ?_)
                  first | exact bool_false (fun h_ => by have h1_ := h_.1; unfold drawH at h1_; omega) | exact bool_false (fun h_ => by have h1_ := h_.2.1 i (by omega); unfold drawC at h1_; have h2_ := h1_.1; omega) | exact bool_false (fun h_ => by have h1_ := h_.2.1 i (by omega); unfold drawC at h1_; have h2_ := h1_.2.1 (by omega); contradiction) | exact bool_false (fun h_ => by have h1_ := h_.2.1 i (by omega); unfold drawC at h1_; have h2_ := h1_.2.2 (by omega); omega) | exact bool_false (fun h_ => by have h1_ := h_.2.2 t (by omega); unfold drawT at h1_; have h2_ := h1_.1; omega) | exact bool_false (fun h_ => by have h1_ := h_.2.2 t (by omega); unfold drawT at h1_; have h2_ := h1_.2 (by omega); omega) | exact bool_true ⟨by unfold drawH; omega, fun j hj => hall j (by omega), fun j hj => htick j (by omega)⟩
                 ·refine WL.y (X.pickF rfl rfl rfl) ?_
                  refine WL.z ?_
                  refine WC.condF rfl ?_
                  refine WC.skip ?_
                  refine WK.nThen ?_
                  refine WC.seq ?_
                  refine WC.seq ?_
                  have hwr_ := wr_in (a := gt c.Levels t - c.Zero) (by omega) (by omega)
                  refine WC.region ?_
                  refine WL.mv rfl ?_
                  refine WL.cond (X.eql rfl rfl) (by decide) (fun h282 => ?_) (fun h282 => ?_)
                  ·refine WL.z ?_
                   refine WC.condT rfl ?_
                   refine WC.exit ?_
                   refine WK.eThen ?_
                   refine WK.eHit ?_
                   refine WK.nThen ?_
                   refine WC.region ?_
                   refine WL.mv rfl ?_
                   refine WL.y (X.add rfl rfl (by omega) (by omega)) ?_
                   refine WL.ag rfl ?_
                   refine WL.z ?_
                   refine WK.next (t + 1) rfl (.refl _) (.cons rfl (.cons rfl (.cons rfl (.cons rfl .nil)))) ?_ ?_
                   ·exact ⟨by omega, fun j hj => by rcases Nat.lt_succ_iff_lt_or_eq.1 hj with h | h; exact htick j h; subst h; unfold drawT; exact ⟨by omega, fun h_ => by first | omega | (exfalso; omega)⟩⟩
                   ·omega
                  ·refine WL.z ?_
                   refine WC.condF rfl ?_
                   refine WC.skip ?_
                   refine WK.nThen ?_
                   refine WC.seq ?_
                   have hpt_ := (htick (t - 1) (by omega)).1
                   refine WC.draw (π := (.cons 0 (.cons 1 (.cons 2 (.cons 3 (.cons 4 (.cons 5 (.cons 6 (.cons 7 (.cons 8 (.cons 9 (.cons 10 (.cons 11 (.cons 12 .done)))))))))))))) [] [] rfl (by kernel_rfl) ?_
                   have hp283 := At.Course_3 hp29
                   refine DW.y rfl rfl (X.field Tryz.runUnderlying37 rfl Tryz.sizeOf27 rfl) ?_
                   refine DW.xe rfl rfl (E.loadSl Tryz.isAgg27 rfl hp283) (by decide) (fun v284 hs285 => ?_)
                   have hl286 := hs285.le
                   refine DW.y rfl rfl (X.move rfl) ?_
                   refine DW.xe rfl rfl (E.idxN t Tryz.runUnderlying27 Tryz.sizeOf3 rfl rfl hs285 (by omega)) (by decide) (fun p287 hp288 => ?_)
                   refine DW.y rfl rfl (X.loadInt Tryz.isAgg3 rfl hp288) ?_
                   have hp289 := At.Course_3 hp29
                   refine DW.y rfl rfl (X.field Tryz.runUnderlying37 rfl Tryz.sizeOf27 rfl) ?_
                   refine DW.xe rfl rfl (E.loadSl Tryz.isAgg27 rfl hp289) (by decide) (fun v290 hs291 => ?_)
                   have hl292 := hs291.le
                   refine DW.y rfl rfl (X.move rfl) ?_
                   refine DW.y rfl rfl (X.sub rfl rfl (by omega) (by omega)) ?_
                   refine DW.xe rfl rfl (E.idxE (t - 1) Tryz.runUnderlying27 Tryz.sizeOf3 rfl rfl hs291 (by omega) (by omega)) (by decide) (fun p293 hp294 => ?_)
                   refine DW.y rfl rfl (X.loadInt Tryz.isAgg3 rfl hp294) ?_
                   refine DW.y rfl rfl (X.sub rfl rfl (by omega) (by omega)) ?_
                   refine DW.y rfl rfl (X.assign rfl) ?_
                   refine DW.nil ?_
                   refine WK.nThen ?_
                   refine WC.seq ?_
                   refine WC.draw (π := (.cons 0 (.cons 1 (.cons 2 (.cons 3 (.cons 4 (.cons 5 (.cons 6 (.cons 7 (.cons 8 (.cons 9 (.cons 10 (.cons 11 (.cons 12 (.cons 13 (.cons 14 (.cons 15 (.cons 16 (.cons 17 (.cons 18 (.cons 19 (.cons 20 (.cons 21 (.cons 22 (.cons 23 (.cons 24 (.cons 25 (.cons 26 (.cons 27 .done))))))))))))))))))))))))))))) [] [] rfl (by kernel_rfl) ?_
                   refine DW.y rfl rfl (X.move rfl) ?_
                   have hp295 := At.Sheet_4 hp26
                   refine DW.y rfl rfl (X.field Tryz.runUnderlying35 rfl Tryz.sizeOf33 rfl) ?_
                   have hp296 := At.Pen_2 hp295
                   refine DW.y rfl rfl (X.field Tryz.runUnderlying33 rfl Tryz.sizeOf3 rfl) ?_
                   refine DW.y rfl rfl (X.loadInt Tryz.isAgg3 rfl hp296) ?_
                   refine DW.cond rfl rfl (X.gtr rfl rfl) (by decide) (fun h297 => ?_) (fun h297 => ?_)
                   ·refine DW.y rfl rfl (X.move rfl) ?_
                    refine DW.no rfl rfl (by decide) ?_
                    refine DW.no rfl rfl (by decide) ?_
                    refine DW.no rfl rfl (by decide) ?_
                    refine DW.no rfl rfl (by decide) ?_
                    refine DW.no rfl rfl (by decide) ?_
                    refine DW.no rfl rfl (by decide) ?_
                    refine DW.y rfl rfl (X.pickT rfl rfl rfl) ?_
                    refine DW.y rfl rfl (X.move rfl) ?_
                    refine DW.no rfl rfl (by decide) ?_
                    refine DW.no rfl rfl (by decide) ?_
                    refine DW.no rfl rfl (by decide) ?_
                    refine DW.no rfl rfl (by decide) ?_
                    refine DW.no rfl rfl (by decide) ?_
                    refine DW.no rfl rfl (by decide) ?_
                    refine DW.no rfl rfl (by decide) ?_
                    refine DW.no rfl rfl (by decide) ?_
                    refine DW.no rfl rfl (by decide) ?_
                    refine DW.no rfl rfl (by decide) ?_
                    refine DW.no rfl rfl (by decide) ?_
                    refine DW.no rfl rfl (by decide) ?_
                    refine DW.no rfl rfl (by decide) ?_
                    refine DW.y rfl rfl (X.pickT rfl rfl rfl) ?_
                    refine DW.nil ?_
                    refine WK.nThen ?_
                    refine WC.condT rfl ?_
                    refine WC.r ?_
                    refine WL.ag rfl ?_
                    refine WL.z ?_
                    refine WC.ret ?_
                    refine WK.rBlock ?_
                    refine WK.rThen ?_
                    refine WK.rThen ?_
                    refine WK.rBlock ?_
                    refine WK.rThen ?_
                    refine WK.ret1 rfl rfl (fun w' hw' => Ret.exact hw' ?_)
                    first | exact bool_false (fun h_ => by have h1_ := h_.1; unfold drawH at h1_; omega) | exact bool_false (fun h_ => by have h1_ := h_.2.1 i (by omega); unfold drawC at h1_; have h2_ := h1_.1; omega) | exact bool_false (fun h_ => by have h1_ := h_.2.1 i (by omega); unfold drawC at h1_; have h2_ := h1_.2.1 (by omega); contradiction) | exact bool_false (fun h_ => by have h1_ := h_.2.1 i (by omega); unfold drawC at h1_; have h2_ := h1_.2.2 (by omega); omega) | exact bool_false (fun h_ => by have h1_ := h_.2.2 t (by omega); unfold drawT at h1_; have h2_ := h1_.1; omega) | exact bool_false (fun h_ => by have h1_ := h_.2.2 t (by omega); unfold drawT at h1_; have h2_ := h1_.2 (by omega); omega) | exact bool_true ⟨by unfold drawH; omega, fun j hj => hall j (by omega), fun j hj => htick j (by omega)⟩
                   ·refine DW.y rfl rfl (X.move rfl) ?_
                    refine DW.y rfl rfl (X.move rfl) ?_
                    refine DW.y rfl rfl (X.neg rfl (by omega) (by omega)) ?_
                    have hp298 := At.Sheet_4 hp26
                    refine DW.y rfl rfl (X.field Tryz.runUnderlying35 rfl Tryz.sizeOf33 rfl) ?_
                    have hp299 := At.Pen_2 hp298
                    refine DW.y rfl rfl (X.field Tryz.runUnderlying33 rfl Tryz.sizeOf3 rfl) ?_
                    refine DW.y rfl rfl (X.loadInt Tryz.isAgg3 rfl hp299) ?_
                    refine DW.cond rfl rfl (X.gtr rfl rfl) (by decide) (fun h300 => ?_) (fun h300 => ?_)
                    ·refine DW.y rfl rfl (X.pickF rfl rfl rfl) ?_
                     refine DW.y rfl rfl (X.move rfl) ?_
                     refine DW.no rfl rfl (by decide) ?_
                     refine DW.no rfl rfl (by decide) ?_
                     refine DW.no rfl rfl (by decide) ?_
                     refine DW.no rfl rfl (by decide) ?_
                     refine DW.no rfl rfl (by decide) ?_
                     refine DW.no rfl rfl (by decide) ?_
                     refine DW.no rfl rfl (by decide) ?_
                     refine DW.no rfl rfl (by decide) ?_
                     refine DW.no rfl rfl (by decide) ?_
                     refine DW.no rfl rfl (by decide) ?_
                     refine DW.no rfl rfl (by decide) ?_
                     refine DW.no rfl rfl (by decide) ?_
                     refine DW.no rfl rfl (by decide) ?_
                     refine DW.y rfl rfl (X.pickT rfl rfl rfl) ?_
                     refine DW.nil ?_
                     refine WK.nThen ?_
                     refine WC.condT rfl ?_
                     refine WC.r ?_
                     refine WL.ag rfl ?_
                     refine WL.z ?_
                     refine WC.ret ?_
                     refine WK.rBlock ?_
                     refine WK.rThen ?_
                     refine WK.rThen ?_
                     refine WK.rBlock ?_
                     refine WK.rThen ?_
                     refine WK.ret1 rfl rfl (fun w' hw' => Ret.exact hw' ?_)
                     first | exact bool_false (fun h_ => by have h1_ := h_.1; unfold drawH at h1_; omega) | exact bool_false (fun h_ => by have h1_ := h_.2.1 i (by omega); unfold drawC at h1_; have h2_ := h1_.1; omega) | exact bool_false (fun h_ => by have h1_ := h_.2.1 i (by omega); unfold drawC at h1_; have h2_ := h1_.2.1 (by omega); contradiction) | exact bool_false (fun h_ => by have h1_ := h_.2.1 i (by omega); unfold drawC at h1_; have h2_ := h1_.2.2 (by omega); omega) | exact bool_false (fun h_ => by have h1_ := h_.2.2 t (by omega); unfold drawT at h1_; have h2_ := h1_.1; omega) | exact bool_false (fun h_ => by have h1_ := h_.2.2 t (by omega); unfold drawT at h1_; have h2_ := h1_.2 (by omega); omega) | exact bool_true ⟨by unfold drawH; omega, fun j hj => hall j (by omega), fun j hj => htick j (by omega)⟩
                    ·refine DW.y rfl rfl (X.pickF rfl rfl rfl) ?_
                     refine DW.y rfl rfl (X.move rfl) ?_
                     refine DW.y rfl rfl (X.move rfl) ?_
                     have hp301 := At.Sheet_4 hp26
                     refine DW.y rfl rfl (X.field Tryz.runUnderlying35 rfl Tryz.sizeOf33 rfl) ?_
                     have hp302 := At.Pen_0 hp301
                     refine DW.y rfl rfl (X.field Tryz.runUnderlying33 rfl Tryz.sizeOf3 rfl) ?_
                     refine DW.y rfl rfl (X.loadInt Tryz.isAgg3 rfl hp302) ?_
                     have hp303 := At.Course_2 hp29
                     refine DW.y rfl rfl (X.field Tryz.runUnderlying37 rfl Tryz.sizeOf27 rfl) ?_
                     refine DW.xe rfl rfl (E.loadSl Tryz.isAgg27 rfl hp303) (by decide) (fun v304 hs305 => ?_)
                     have hl306 := hs305.le
                     refine DW.y rfl rfl (X.move rfl) ?_
                     refine DW.y rfl rfl (X.sub rfl rfl (by omega) (by omega)) ?_
                     refine DW.xe rfl rfl (E.idxE (t - 1) Tryz.runUnderlying27 Tryz.sizeOf3 rfl rfl hs305 (by omega) (by omega)) (by decide) (fun p307 hp308 => ?_)
                     refine DW.y rfl rfl (X.loadInt Tryz.isAgg3 rfl hp308) ?_
                     refine DW.y rfl rfl (X.move rfl) ?_
                     refine DW.y rfl rfl (X.call Tryz.call30 rfl (shows30 _ _ _ _ (by omega) (by omega))) ?_
                     refine DW.condn rfl rfl (X.neq rfl rfl) (by decide) (fun h309 => ?_) (fun h309 => ?_)
                     ·refine DW.y rfl rfl (X.pickF rfl rfl rfl) ?_
                      refine DW.nil ?_
                      refine WK.nThen ?_
                      refine WC.condT rfl ?_
                      refine WC.r ?_
                      refine WL.ag rfl ?_
                      refine WL.z ?_
                      refine WC.ret ?_
                      refine WK.rBlock ?_
                      refine WK.rThen ?_
                      refine WK.rThen ?_
                      refine WK.rBlock ?_
                      refine WK.rThen ?_
                      refine WK.ret1 rfl rfl (fun w' hw' => Ret.exact hw' ?_)
                      first | exact bool_false (fun h_ => by have h1_ := h_.1; unfold drawH at h1_; omega) | exact bool_false (fun h_ => by have h1_ := h_.2.1 i (by omega); unfold drawC at h1_; have h2_ := h1_.1; omega) | exact bool_false (fun h_ => by have h1_ := h_.2.1 i (by omega); unfold drawC at h1_; have h2_ := h1_.2.1 (by omega); contradiction) | exact bool_false (fun h_ => by have h1_ := h_.2.1 i (by omega); unfold drawC at h1_; have h2_ := h1_.2.2 (by omega); omega) | exact bool_false (fun h_ => by have h1_ := h_.2.2 t (by omega); unfold drawT at h1_; have h2_ := h1_.1; omega) | exact bool_false (fun h_ => by have h1_ := h_.2.2 t (by omega); unfold drawT at h1_; have h2_ := h1_.2 (by omega); omega) | exact bool_true ⟨by unfold drawH; omega, fun j hj => hall j (by omega), fun j hj => htick j (by omega)⟩
                     ·refine DW.y rfl rfl (X.pickF rfl rfl rfl) ?_
                      refine DW.nil ?_
                      refine WK.nThen ?_
                      refine WC.condF rfl ?_
                      refine WC.skip ?_
                      refine WK.nBlock ?_
                      refine WK.nThen ?_
                      refine WC.region ?_
                      refine WL.mv rfl ?_
                      refine WL.y (X.add rfl rfl (by omega) (by omega)) ?_
                      refine WL.ag rfl ?_
                      refine WL.z ?_
                      refine WK.next (t + 1) rfl (.refl _) (.cons rfl (.cons rfl (.cons rfl (.cons rfl .nil)))) ?_ ?_
                      ·exact ⟨by omega, fun j hj => by rcases Nat.lt_succ_iff_lt_or_eq.1 hj with h | h; exact htick j h; subst h; unfold drawT; exact ⟨by omega, fun h_ => by first | omega | (exfalso; omega)⟩⟩
                      ·omega
           ·refine WL.z ?_
            refine WC.condF rfl ?_
            refine WC.exit ?_
            refine WK.eThen ?_
            refine WK.eThen ?_
            refine WK.eHit ?_
            refine WK.nThen ?_
            refine WC.r ?_
            refine WL.ag rfl ?_
            refine WL.z ?_
            refine WC.ret ?_
            refine WK.ret1 rfl rfl (fun w' hw' => Ret.exact hw' ?_)
            first | exact bool_false (fun h_ => by have h1_ := h_.1; unfold drawH at h1_; omega) | exact bool_false (fun h_ => by have h1_ := h_.2.1 i (by omega); unfold drawC at h1_; have h2_ := h1_.1; omega) | exact bool_false (fun h_ => by have h1_ := h_.2.1 i (by omega); unfold drawC at h1_; have h2_ := h1_.2.1 (by omega); contradiction) | exact bool_false (fun h_ => by have h1_ := h_.2.1 i (by omega); unfold drawC at h1_; have h2_ := h1_.2.2 (by omega); omega) | exact bool_false (fun h_ => by have h1_ := h_.2.2 t (by omega); unfold drawT at h1_; have h2_ := h1_.1; omega) | exact bool_false (fun h_ => by have h1_ := h_.2.2 t (by omega); unfold drawT at h1_; have h2_ := h1_.2 (by omega); omega) | exact bool_true ⟨by unfold drawH; omega, fun j hj => hall j (by omega), fun j hj => htick j (by omega)⟩

end Go.Proofs.T10
