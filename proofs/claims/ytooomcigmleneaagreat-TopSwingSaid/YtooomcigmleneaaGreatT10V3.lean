import Derived.Test.YtooomcigmleneaaGreatKxW
import Derived.Test.YtooomcigmleneaaGreatT10Br
import Derived.Test.YtooomcigmleneaaGreatT10W22
/- The walk of the statement TopSwing: its function answers true. -/
namespace Go.Proofs.T10
open Go Go.Kx
set_option linter.unusedSimpArgs false
set_option linter.unusedVariables false
set_option maxRecDepth 20000 in
set_option maxHeartbeats 4000000 in
theorem law3 (m : Mem) (cx : List Value) (x : Sheet) (hx : Enc.rd m cx x) (ticks : Int) (cone : List Value) (one : Course) (hone : Enc.rd m cone one) (ctwo : List Value) (two : Course) (htwo : Enc.rd m ctwo two)  (ok0 : Rng.ok x) (lo1 : -9223372036854775808 ≤ ticks) (hi1 : ticks ≤ 9223372036854775807) (ok2 : Rng.ok one) (ok3 : Rng.ok two) : Exact Tryz.prog 3 #[.agg cx.toArray, .int .i64 (ticks), .agg cone.toArray, .agg ctwo.toArray] m (.bool true) := by
 obtain ⟨v1, v3, v5, v7, rfl, hs2, hs4, hs6, hs8⟩ := hx
 have hl9 := hs2.le
 have hl10 := hs4.le
 have hl11 := hs6.le
 have hl12 := hs8.le
 obtain ⟨v13, v15, v17, rfl, hs14, hs16, hs18⟩ := hone
 have hl19 := hs14.le
 have hl20 := hs16.le
 have hl21 := hs18.le
 obtain ⟨v22, v24, v26, rfl, hs23, hs25, hs27⟩ := htwo
 have hl28 := hs23.le
 have hl29 := hs25.le
 have hl30 := hs27.le
 refine Exact.start Tryz.func3 rfl Tryz.ntmps3 rfl fun wld => ?_
 refine WC.r ?_
 refine WL.tn (T.boxB rfl rfl) (by decide) fun b31 => ?_
 refine WL.tn (T.boxB rfl rfl) (by decide) fun b32 => ?_
 refine WL.tn (T.boxB rfl rfl) (by decide) fun b33 => ?_
 refine WL.ag rfl ?_
 refine WL.z ?_
 refine WC.seq ?_
 refine WK.freezeS (α := Sheet) (x := x) 2 rfl rfl (show Enc.rd (α := Sheet) m [.int .i64 (x.Paper.Pitch), .int .i64 (x.Paper.Height), .int .i64 (x.Paper.Radius), .int .i64 (x.Paper.Low), .int .i64 (x.Paper.High), .int .i64 (x.Paper.Columns), .int .i64 (x.Paper.Along.Lo), .int .i64 (x.Paper.Along.Hi), .int .i64 (x.Paper.Across.Lo), .int .i64 (x.Paper.Across.Hi), v1, v3, v5, v7, .int .i64 (x.Pen.Band), .int .i64 (x.Pen.Zero.Lo), .int .i64 (x.Pen.Zero.Hi), .int .i64 (x.Pen.Rate)] x from ⟨_, _, _, _, rfl, hs2, hs4, hs6, hs8⟩) (fun m34 hle35 hp36 => ?_)
 replace hs2 := hs2.mono hle35
 replace hs4 := hs4.mono hle35
 replace hs6 := hs6.mono hle35
 replace hs8 := hs8.mono hle35
 replace hs14 := hs14.mono hle35
 replace hs16 := hs16.mono hle35
 replace hs18 := hs18.mono hle35
 replace hs23 := hs23.mono hle35
 replace hs25 := hs25.mono hle35
 replace hs27 := hs27.mono hle35
 refine WK.freezeS (α := Course) (x := one) 1 rfl rfl (show Enc.rd (α := Course) m34 [.int .i64 (one.Zero), v13, v15, v17] one from ⟨_, _, _, rfl, hs14, hs16, hs18⟩) (fun m37 hle38 hp39 => ?_)
 replace hs2 := hs2.mono hle38
 replace hs4 := hs4.mono hle38
 replace hs6 := hs6.mono hle38
 replace hs8 := hs8.mono hle38
 replace hs14 := hs14.mono hle38
 replace hs16 := hs16.mono hle38
 replace hs18 := hs18.mono hle38
 replace hs23 := hs23.mono hle38
 replace hs25 := hs25.mono hle38
 replace hs27 := hs27.mono hle38
 replace hp36 := hp36.mono hle38
 refine WK.freezeS (α := Course) (x := two) 0 rfl rfl (show Enc.rd (α := Course) m37 [.int .i64 (two.Zero), v22, v24, v26] two from ⟨_, _, _, rfl, hs23, hs25, hs27⟩) (fun m40 hle41 hp42 => ?_)
 replace hs2 := hs2.mono hle41
 replace hs4 := hs4.mono hle41
 replace hs6 := hs6.mono hle41
 replace hs8 := hs8.mono hle41
 replace hs14 := hs14.mono hle41
 replace hs16 := hs16.mono hle41
 replace hs18 := hs18.mono hle41
 replace hs23 := hs23.mono hle41
 replace hs25 := hs25.mono hle41
 replace hs27 := hs27.mono hle41
 replace hp36 := hp36.mono hle41
 replace hp39 := hp39.mono hle41
 refine WC.region ?_
 refine WL.y (X.call Tryz.call7 rfl (awake7 _)) ?_
 refine WL.ag rfl ?_
 refine WL.z ?_
 refine WC.seq ?_
 refine WC.cut (G := Bool) (fun b2_ => m40) (fun b2_ => []) (fun b2_ => [(1, .int .i64 (ticks)), (4, .pointer (some ((⟨b31, 0, none⟩ : Addr)))), (6, .pointer (some ((⟨b32, 0, none⟩ : Addr)))), (7, .pointer (some ((⟨b33, 0, none⟩ : Addr)))), (9, .bool true), (52, .bool (b2_))]) (fun b2_ => b2_ = false → (1 ≤ ticks ∧ ticks ≤ 60) ∧ penP x.Pen ∧ (one.Levels.length : Int) = ticks + 1 ∧ one.Zero = two.Zero ∧ one.Levels = two.Levels) ?_ ?_
 ·refine WC.region ?_
  refine WL.mv rfl ?_
  refine WL.cond (X.lss rfl rfl) (by decide) (fun h43 => ?_) (fun h43 => ?_)
  ·refine WL.mv rfl ?_
   refine WL.no rfl rfl rfl (by decide) ?_
   refine WL.no rfl rfl rfl (by decide) ?_
   refine WL.y (X.pickT rfl rfl rfl) ?_
   refine WL.mv rfl ?_
   refine WL.no rfl rfl rfl (by decide) ?_
   refine WL.no rfl rfl rfl (by decide) ?_
   refine WL.no rfl rfl rfl (by decide) ?_
   refine WL.no rfl rfl rfl (by decide) ?_
   refine WL.y (X.pickT rfl rfl rfl) ?_
   refine WL.mv rfl ?_
   refine WL.no rfl rfl rfl (by decide) ?_
   refine WL.no rfl rfl rfl (by decide) ?_
   refine WL.no rfl rfl rfl (by decide) ?_
   refine WL.no rfl rfl rfl (by decide) ?_
   refine WL.no rfl rfl rfl (by decide) ?_
   refine WL.no rfl rfl rfl (by decide) ?_
   refine WL.y (X.pickT rfl rfl rfl) ?_
   refine WL.mv rfl ?_
   refine WL.no rfl rfl rfl (by decide) ?_
   refine WL.no rfl rfl rfl (by decide) ?_
   refine WL.no rfl rfl rfl (by decide) ?_
   refine WL.no rfl rfl rfl (by decide) ?_
   refine WL.no rfl rfl rfl (by decide) ?_
   refine WL.y (X.pickT rfl rfl rfl) ?_
   refine WL.mv rfl ?_
   refine WL.no rfl rfl rfl (by decide) ?_
   refine WL.no rfl rfl rfl (by decide) ?_
   refine WL.no rfl rfl rfl (by decide) ?_
   refine WL.no rfl rfl rfl (by decide) ?_
   refine WL.no rfl rfl rfl (by decide) ?_
   refine WL.no rfl rfl rfl (by decide) ?_
   refine WL.y (X.pickT rfl rfl rfl) ?_
   refine WL.z ?_
   refine WK.meet true rfl (.refl _) (.cons rfl (.cons rfl (.cons rfl (.cons rfl (.cons rfl (.cons rfl .nil)))))) ?_
   exact fun h_ => by first | (cases h_; done) | exact ⟨⟨by omega, by omega⟩, penP_of (by omega), by omega, by omega, by first | assumption | (apply Classical.byContradiction; assumption)⟩
  refine WL.mv rfl ?_
  refine WL.yes rfl rfl ?_
  refine WL.mv rfl ?_
  refine WL.yes rfl rfl ?_
  refine WL.cond (X.gtr rfl rfl) (by decide) (fun h44 => ?_) (fun h44 => ?_)
  ·refine WL.y (X.pickF rfl rfl rfl) ?_
   refine WL.mv rfl ?_
   refine WL.no rfl rfl rfl (by decide) ?_
   refine WL.no rfl rfl rfl (by decide) ?_
   refine WL.no rfl rfl rfl (by decide) ?_
   refine WL.no rfl rfl rfl (by decide) ?_
   refine WL.y (X.pickT rfl rfl rfl) ?_
   refine WL.mv rfl ?_
   refine WL.no rfl rfl rfl (by decide) ?_
   refine WL.no rfl rfl rfl (by decide) ?_
   refine WL.no rfl rfl rfl (by decide) ?_
   refine WL.no rfl rfl rfl (by decide) ?_
   refine WL.no rfl rfl rfl (by decide) ?_
   refine WL.no rfl rfl rfl (by decide) ?_
   refine WL.y (X.pickT rfl rfl rfl) ?_
   refine WL.mv rfl ?_
   refine WL.no rfl rfl rfl (by decide) ?_
   refine WL.no rfl rfl rfl (by decide) ?_
   refine WL.no rfl rfl rfl (by decide) ?_
   refine WL.no rfl rfl rfl (by decide) ?_
   refine WL.no rfl rfl rfl (by decide) ?_
   refine WL.y (X.pickT rfl rfl rfl) ?_
   refine WL.mv rfl ?_
   refine WL.no rfl rfl rfl (by decide) ?_
   refine WL.no rfl rfl rfl (by decide) ?_
   refine WL.no rfl rfl rfl (by decide) ?_
   refine WL.no rfl rfl rfl (by decide) ?_
   refine WL.no rfl rfl rfl (by decide) ?_
   refine WL.no rfl rfl rfl (by decide) ?_
   refine WL.y (X.pickT rfl rfl rfl) ?_
   refine WL.z ?_
   refine WK.meet true rfl (.refl _) (.cons rfl (.cons rfl (.cons rfl (.cons rfl (.cons rfl (.cons rfl .nil)))))) ?_
   exact fun h_ => by first | (cases h_; done) | exact ⟨⟨by omega, by omega⟩, penP_of (by omega), by omega, by omega, by first | assumption | (apply Classical.byContradiction; assumption)⟩
  refine WL.y (X.pickF rfl rfl rfl) ?_
  refine WL.mv rfl ?_
  refine WL.yes rfl rfl ?_
  have hp45 := At.Sheet_4 hp36
  refine WL.y (X.field Tryz.runUnderlying35 rfl Tryz.sizeOf33 rfl) ?_
  refine WL.yes rfl rfl ?_
  refine WL.xe (E.loadAgg Tryz.isAgg33 Tryz.sizeOf33 rfl hp45) (by decide) (fun c46 hc47 => ?_)
  obtain rfl := hc47
  refine WL.yes rfl rfl ?_
  refine WL.y (X.call Tryz.call8 rfl (check8 _ _ x.Pen rfl )) ?_
  refine WL.yes rfl rfl ?_
  refine WL.condn (X.neq rfl rfl) (by decide) (fun h48 => ?_) (fun h48 => ?_)
  ·refine WL.y (X.pickF rfl rfl rfl) ?_
   refine WL.mv rfl ?_
   refine WL.no rfl rfl rfl (by decide) ?_
   refine WL.no rfl rfl rfl (by decide) ?_
   refine WL.no rfl rfl rfl (by decide) ?_
   refine WL.no rfl rfl rfl (by decide) ?_
   refine WL.no rfl rfl rfl (by decide) ?_
   refine WL.no rfl rfl rfl (by decide) ?_
   refine WL.y (X.pickT rfl rfl rfl) ?_
   refine WL.mv rfl ?_
   refine WL.no rfl rfl rfl (by decide) ?_
   refine WL.no rfl rfl rfl (by decide) ?_
   refine WL.no rfl rfl rfl (by decide) ?_
   refine WL.no rfl rfl rfl (by decide) ?_
   refine WL.no rfl rfl rfl (by decide) ?_
   refine WL.y (X.pickT rfl rfl rfl) ?_
   refine WL.mv rfl ?_
   refine WL.no rfl rfl rfl (by decide) ?_
   refine WL.no rfl rfl rfl (by decide) ?_
   refine WL.no rfl rfl rfl (by decide) ?_
   refine WL.no rfl rfl rfl (by decide) ?_
   refine WL.no rfl rfl rfl (by decide) ?_
   refine WL.no rfl rfl rfl (by decide) ?_
   refine WL.y (X.pickT rfl rfl rfl) ?_
   refine WL.z ?_
   refine WK.meet true rfl (.refl _) (.cons rfl (.cons rfl (.cons rfl (.cons rfl (.cons rfl (.cons rfl .nil)))))) ?_
   exact fun h_ => by first | (cases h_; done) | exact ⟨⟨by omega, by omega⟩, penP_of (by omega), by omega, by omega, by first | assumption | (apply Classical.byContradiction; assumption)⟩
  refine WL.y (X.pickF rfl rfl rfl) ?_
  refine WL.mv rfl ?_
  refine WL.yes rfl rfl ?_
  have hp49 := At.Course_3 hp39
  refine WL.y (X.field Tryz.runUnderlying37 rfl Tryz.sizeOf27 rfl) ?_
  refine WL.yes rfl rfl ?_
  refine WL.xe (E.loadSl Tryz.isAgg27 rfl hp49) (by decide) (fun v50 hs51 => ?_)
  have hl52 := hs51.le
  refine WL.yes rfl rfl ?_
  refine WL.y (X.len Tryz.runUnderlying27 rfl hs51) ?_
  refine WL.yes rfl rfl ?_
  refine WL.mv rfl ?_
  refine WL.yes rfl rfl ?_
  refine WL.y (X.add rfl rfl (by omega) (by omega)) ?_
  refine WL.yes rfl rfl ?_
  refine WL.condn (X.neq rfl rfl) (by decide) (fun h53 => ?_) (fun h53 => ?_)
  ·refine WL.y (X.pickF rfl rfl rfl) ?_
   refine WL.mv rfl ?_
   refine WL.no rfl rfl rfl (by decide) ?_
   refine WL.no rfl rfl rfl (by decide) ?_
   refine WL.no rfl rfl rfl (by decide) ?_
   refine WL.no rfl rfl rfl (by decide) ?_
   refine WL.no rfl rfl rfl (by decide) ?_
   refine WL.y (X.pickT rfl rfl rfl) ?_
   refine WL.mv rfl ?_
   refine WL.no rfl rfl rfl (by decide) ?_
   refine WL.no rfl rfl rfl (by decide) ?_
   refine WL.no rfl rfl rfl (by decide) ?_
   refine WL.no rfl rfl rfl (by decide) ?_
   refine WL.no rfl rfl rfl (by decide) ?_
   refine WL.no rfl rfl rfl (by decide) ?_
   refine WL.y (X.pickT rfl rfl rfl) ?_
   refine WL.z ?_
   refine WK.meet true rfl (.refl _) (.cons rfl (.cons rfl (.cons rfl (.cons rfl (.cons rfl (.cons rfl .nil)))))) ?_
   exact fun h_ => by first | (cases h_; done) | exact ⟨⟨by omega, by omega⟩, penP_of (by omega), by omega, by omega, by first | assumption | (apply Classical.byContradiction; assumption)⟩
  refine WL.y (X.pickF rfl rfl rfl) ?_
  refine WL.mv rfl ?_
  refine WL.yes rfl rfl ?_
  have hp54 := At.Course_0 hp39
  refine WL.y (X.field Tryz.runUnderlying37 rfl Tryz.sizeOf3 rfl) ?_
  refine WL.yes rfl rfl ?_
  refine WL.y (X.loadInt Tryz.isAgg3 rfl hp54) ?_
  refine WL.yes rfl rfl ?_
  have hp55 := At.Course_0 hp42
  refine WL.y (X.field Tryz.runUnderlying37 rfl Tryz.sizeOf3 rfl) ?_
  refine WL.yes rfl rfl ?_
  refine WL.y (X.loadInt Tryz.isAgg3 rfl hp55) ?_
  refine WL.yes rfl rfl ?_
  refine WL.condn (X.neq rfl rfl) (by decide) (fun h56 => ?_) (fun h56 => ?_)
  ·refine WL.y (X.pickF rfl rfl rfl) ?_
   refine WL.mv rfl ?_
   refine WL.no rfl rfl rfl (by decide) ?_
   refine WL.no rfl rfl rfl (by decide) ?_
   refine WL.no rfl rfl rfl (by decide) ?_
   refine WL.no rfl rfl rfl (by decide) ?_
   refine WL.no rfl rfl rfl (by decide) ?_
   refine WL.no rfl rfl rfl (by decide) ?_
   refine WL.y (X.pickT rfl rfl rfl) ?_
   refine WL.z ?_
   refine WK.meet true rfl (.refl _) (.cons rfl (.cons rfl (.cons rfl (.cons rfl (.cons rfl (.cons rfl .nil)))))) ?_
   exact fun h_ => by first | (cases h_; done) | exact ⟨⟨by omega, by omega⟩, penP_of (by omega), by omega, by omega, by first | assumption | (apply Classical.byContradiction; assumption)⟩
  refine WL.y (X.pickF rfl rfl rfl) ?_
  refine WL.mv rfl ?_
  refine WL.yes rfl rfl ?_
  have hp57 := At.Course_3 hp39
  refine WL.y (X.field Tryz.runUnderlying37 rfl Tryz.sizeOf27 rfl) ?_
  refine WL.yes rfl rfl ?_
  refine WL.xe (E.loadSl Tryz.isAgg27 rfl hp57) (by decide) (fun v58 hs59 => ?_)
  have hl60 := hs59.le
  refine WL.yes rfl rfl ?_
  have hp61 := At.Course_3 hp42
  refine WL.y (X.field Tryz.runUnderlying37 rfl Tryz.sizeOf27 rfl) ?_
  refine WL.yes rfl rfl ?_
  refine WL.xe (E.loadSl Tryz.isAgg27 rfl hp61) (by decide) (fun v62 hs63 => ?_)
  have hl64 := hs63.le
  refine WL.yes rfl rfl ?_
  refine WL.cond (X.call Tryz.call9 rfl (same9 _ _ _ hs59 _ _ hs63 )) (by decide) (fun h65 => ?_) (fun h65 => ?_)
  ·refine WL.yes rfl rfl ?_
   refine WL.y (X.not rfl) ?_
   refine WL.y (X.pickF rfl rfl rfl) ?_
   refine WL.z ?_
   refine WK.meet false rfl (.refl _) (.cons rfl (.cons rfl (.cons rfl (.cons rfl (.cons rfl (.cons rfl .nil)))))) ?_
   exact fun h_ => by first | (cases h_; done) | exact ⟨⟨by omega, by omega⟩, penP_of (by omega), by omega, by omega, by first | assumption | (apply Classical.byContradiction; assumption)⟩
  refine WL.yes rfl rfl ?_
  refine WL.y (X.not rfl) ?_
  refine WL.y (X.pickF rfl rfl rfl) ?_
  refine WL.z ?_
  refine WK.meet true rfl (.refl _) (.cons rfl (.cons rfl (.cons rfl (.cons rfl (.cons rfl (.cons rfl .nil)))))) ?_
  exact fun h_ => by first | (cases h_; done) | exact ⟨⟨by omega, by omega⟩, penP_of (by omega), by omega, by omega, by first | assumption | (apply Classical.byContradiction; assumption)⟩
 rintro b2_ hF66
 show WK _ _ m40 [] [(1, .int .i64 (ticks)), (4, .pointer (some ((⟨b31, 0, none⟩ : Addr)))), (6, .pointer (some ((⟨b32, 0, none⟩ : Addr)))), (7, .pointer (some ((⟨b33, 0, none⟩ : Addr)))), (9, .bool true), (52, .bool (b2_))] _
 replace hF66 : b2_ = false → (1 ≤ ticks ∧ ticks ≤ 60) ∧ penP x.Pen ∧ (one.Levels.length : Int) = ticks + 1 ∧ one.Zero = two.Zero ∧ one.Levels = two.Levels := hF66
 have hno2_ := hF66
 refine WC.condb rfl (fun h67 => ?_) (fun h67 => ?_)
 ·refine WC.r ?_
  refine WL.mv rfl ?_
  refine WL.ag rfl ?_
  refine WL.z ?_
  refine WC.ret ?_
  refine WK.rThen ?_
  refine WK.ret1 rfl rfl (fun w' hw' => Ret.exact hw' ?_)
  first | rfl | (exfalso; omega) | (exfalso; contradiction) | exact (bool_true (by omega)).symm
 refine WC.skip ?_
 refine WK.nThen ?_
 refine WC.seq ?_
 refine WC.cut (G := Bool) (fun b4_ => m40) (fun b4_ => []) (fun b4_ => [(1, .int .i64 (ticks)), (4, .pointer (some ((⟨b31, 0, none⟩ : Addr)))), (6, .pointer (some ((⟨b32, 0, none⟩ : Addr)))), (7, .pointer (some ((⟨b33, 0, none⟩ : Addr)))), (9, .bool true), (70, .bool (b4_))]) (fun b4_ => b4_ = false → drawnP x ticks one ∧ drawnP x ticks two) ?_ ?_
 ·have hno2_ := hno2_ (by assumption)
  have hpe_ := hno2_.2.1
  have hpb_ := hpe_
  unfold penP at hpb_
  refine WC.region ?_
  refine WL.xe (E.loadAgg Tryz.isAgg35 Tryz.sizeOf35 rfl hp36) (by decide) (fun c68 hc69 => ?_)
  obtain ⟨v70, v72, v74, v76, rfl, hs71, hs73, hs75, hs77⟩ := hc69
  have hl78 := hs71.le
  have hl79 := hs73.le
  have hl80 := hs75.le
  have hl81 := hs77.le
  refine WL.cond (X.call Tryz.call10 rfl (few10 _ _ x ⟨_, _, _, _, rfl, hs71, hs73, hs75, hs77⟩ hpe_)) (by decide) (fun h82 => ?_) (fun h82 => ?_)
  ·refine WL.y (X.not rfl) ?_
   refine WL.mv rfl ?_
   refine WL.yes rfl rfl ?_
   refine WL.xe (E.loadAgg Tryz.isAgg35 Tryz.sizeOf35 rfl hp36) (by decide) (fun c83 hc84 => ?_)
   obtain ⟨v85, v87, v89, v91, rfl, hs86, hs88, hs90, hs92⟩ := hc84
   have hl93 := hs86.le
   have hl94 := hs88.le
   have hl95 := hs90.le
   have hl96 := hs92.le
   refine WL.yes rfl rfl ?_
   refine WL.mv rfl ?_
   refine WL.yes rfl rfl ?_
   refine WL.xe (E.loadAgg Tryz.isAgg37 Tryz.sizeOf37 rfl hp39) (by decide) (fun c97 hc98 => ?_)
   obtain ⟨v99, v101, v103, rfl, hs100, hs102, hs104⟩ := hc98
   have hl105 := hs100.le
   have hl106 := hs102.le
   have hl107 := hs104.le
   refine WL.yes rfl rfl ?_
   refine WL.cond (X.call Tryz.call11 rfl (drawn11 _ _ x ⟨_, _, _, _, rfl, hs86, hs88, hs90, hs92⟩ _ _ one ⟨_, _, _, rfl, hs100, hs102, hs104⟩ hpe_ (by omega))) (by decide) (fun h108 => ?_) (fun h108 => ?_)
   ·refine WL.yes rfl rfl ?_
    refine WL.y (X.not rfl) ?_
    refine WL.y (X.pickF rfl rfl rfl) ?_
    refine WL.mv rfl ?_
    refine WL.yes rfl rfl ?_
    refine WL.xe (E.loadAgg Tryz.isAgg35 Tryz.sizeOf35 rfl hp36) (by decide) (fun c109 hc110 => ?_)
    obtain ⟨v111, v113, v115, v117, rfl, hs112, hs114, hs116, hs118⟩ := hc110
    have hl119 := hs112.le
    have hl120 := hs114.le
    have hl121 := hs116.le
    have hl122 := hs118.le
    refine WL.yes rfl rfl ?_
    refine WL.mv rfl ?_
    refine WL.yes rfl rfl ?_
    refine WL.xe (E.loadAgg Tryz.isAgg37 Tryz.sizeOf37 rfl hp42) (by decide) (fun c123 hc124 => ?_)
    obtain ⟨v125, v127, v129, rfl, hs126, hs128, hs130⟩ := hc124
    have hl131 := hs126.le
    have hl132 := hs128.le
    have hl133 := hs130.le
    refine WL.yes rfl rfl ?_
    refine WL.cond (X.call Tryz.call11 rfl (drawn11 _ _ x ⟨_, _, _, _, rfl, hs112, hs114, hs116, hs118⟩ _ _ two ⟨_, _, _, rfl, hs126, hs128, hs130⟩ hpe_ (by omega))) (by decide) (fun h134 => ?_) (fun h134 => ?_)
    ·refine WL.yes rfl rfl ?_
     refine WL.y (X.not rfl) ?_
     refine WL.y (X.pickF rfl rfl rfl) ?_
     refine WL.z ?_
     refine WK.meet false rfl (.refl _) (.cons rfl (.cons rfl (.cons rfl (.cons rfl (.cons rfl (.cons rfl .nil)))))) ?_
     exact fun h_ => by first | (cases h_; done) | exact ⟨by first | assumption | (apply Classical.byContradiction; assumption), by first | assumption | (apply Classical.byContradiction; assumption)⟩
    refine WL.yes rfl rfl ?_
    refine WL.y (X.not rfl) ?_
    refine WL.y (X.pickF rfl rfl rfl) ?_
    refine WL.z ?_
    refine WK.meet true rfl (.refl _) (.cons rfl (.cons rfl (.cons rfl (.cons rfl (.cons rfl (.cons rfl .nil)))))) ?_
    exact fun h_ => by first | (cases h_; done) | exact ⟨by first | assumption | (apply Classical.byContradiction; assumption), by first | assumption | (apply Classical.byContradiction; assumption)⟩
   refine WL.yes rfl rfl ?_
   refine WL.y (X.not rfl) ?_
   refine WL.y (X.pickF rfl rfl rfl) ?_
   refine WL.mv rfl ?_
   refine WL.no rfl rfl rfl (by decide) ?_
   refine WL.no rfl rfl rfl (by decide) ?_
   refine WL.no rfl rfl rfl (by decide) ?_
   refine WL.no rfl rfl rfl (by decide) ?_
   refine WL.no rfl rfl rfl (by decide) ?_
   refine WL.y (X.pickT rfl rfl rfl) ?_
   refine WL.z ?_
   refine WK.meet true rfl (.refl _) (.cons rfl (.cons rfl (.cons rfl (.cons rfl (.cons rfl (.cons rfl .nil)))))) ?_
   exact fun h_ => by first | (cases h_; done) | exact ⟨by first | assumption | (apply Classical.byContradiction; assumption), by first | assumption | (apply Classical.byContradiction; assumption)⟩
  refine WL.y (X.not rfl) ?_
  refine WL.mv rfl ?_
  refine WL.no rfl rfl rfl (by decide) ?_
  refine WL.no rfl rfl rfl (by decide) ?_
  refine WL.no rfl rfl rfl (by decide) ?_
  refine WL.no rfl rfl rfl (by decide) ?_
  refine WL.no rfl rfl rfl (by decide) ?_
  refine WL.y (X.pickT rfl rfl rfl) ?_
  refine WL.mv rfl ?_
  refine WL.no rfl rfl rfl (by decide) ?_
  refine WL.no rfl rfl rfl (by decide) ?_
  refine WL.no rfl rfl rfl (by decide) ?_
  refine WL.no rfl rfl rfl (by decide) ?_
  refine WL.no rfl rfl rfl (by decide) ?_
  refine WL.y (X.pickT rfl rfl rfl) ?_
  refine WL.z ?_
  refine WK.meet true rfl (.refl _) (.cons rfl (.cons rfl (.cons rfl (.cons rfl (.cons rfl (.cons rfl .nil)))))) ?_
  exact fun h_ => by first | (cases h_; done) | exact ⟨by first | assumption | (apply Classical.byContradiction; assumption), by first | assumption | (apply Classical.byContradiction; assumption)⟩
 rintro b4_ hF135
 show WK _ _ m40 [] [(1, .int .i64 (ticks)), (4, .pointer (some ((⟨b31, 0, none⟩ : Addr)))), (6, .pointer (some ((⟨b32, 0, none⟩ : Addr)))), (7, .pointer (some ((⟨b33, 0, none⟩ : Addr)))), (9, .bool true), (70, .bool (b4_))] _
 replace hF135 : b4_ = false → drawnP x ticks one ∧ drawnP x ticks two := hF135
 have hno4_ := hF135
 have hno2_ := hno2_ (by assumption)
 have hpe_ := hno2_.2.1
 have hpb_ := hpe_
 unfold penP at hpb_
 refine WC.condb rfl (fun h136 => ?_) (fun h136 => ?_)
 ·refine WC.r ?_
  refine WL.mv rfl ?_
  refine WL.ag rfl ?_
  refine WL.z ?_
  refine WC.ret ?_
  refine WK.rThen ?_
  refine WK.ret1 rfl rfl (fun w' hw' => Ret.exact hw' ?_)
  first | rfl | (exfalso; omega) | (exfalso; contradiction) | exact (bool_true (by omega)).symm
 refine WC.skip ?_
 refine WK.nThen ?_
 refine WC.seq ?_
 have hd_ := hno4_ (by assumption)
 have hdl_ := hd_.1.1.1
 have hdm_ := hd_.2.1.1
 have hzz_ := hd_.1.1.1.2.2
 refine WK.ownF Int 3 ?_
 refine WC.region ?_
 refine WL.ag rfl ?_
 refine WL.z ?_
 refine WC.seq ?_
 refine WC.r ?_
 refine WL.ag rfl ?_
 refine WL.z ?_
 refine WC.block ?_
 refine WC.loop (G := Nat × Value) (fun (k, vr) => (ticks + 1).toNat - k) (fun (k, vr) => m40) (fun (k, vr) => [rowF (vr) 3 (realN one k)]) (fun (k, vr) => [(1, .int .i64 (ticks)), (4, .pointer (some ((⟨b31, 0, none⟩ : Addr)))), (6, .pointer (some ((⟨b32, 0, none⟩ : Addr)))), (7, .pointer (some ((⟨b33, 0, none⟩ : Addr)))), (9, .bool true), (10, vr), (11, .int .i64 (↑k))]) (fun (k, vr) => k ≤ (ticks + 1).toNat) ((0, Value.slice none 0 0)) rfl (.refl _) (.cons rfl (.cons rfl (.cons rfl (.cons rfl (.cons rfl (.cons rfl (.cons rfl .nil))))))) ?_ ?_
 ·exact Nat.zero_le _
 ·rintro ⟨k, vr⟩ hF137
  show WK _ _ m40 [rowF (vr) 3 (realN one k)] [(1, .int .i64 (ticks)), (4, .pointer (some ((⟨b31, 0, none⟩ : Addr)))), (6, .pointer (some ((⟨b32, 0, none⟩ : Addr)))), (7, .pointer (some ((⟨b33, 0, none⟩ : Addr)))), (9, .bool true), (10, vr), (11, .int .i64 (↑k))] _
  replace hF137 : k ≤ (ticks + 1).toNat := hF137
  have hk := hF137
  have hbd_ := fun h_ : (k : Int) ≤ ticks => realN_bd hd_.1 hpe_ (i := k) (by omega)
  have hkl_ : (realN one k).length = k := realN_len _ _
  refine WC.seq ?_
  refine WC.r ?_
  refine WL.mv rfl ?_
  refine WL.mv rfl ?_
  refine WL.cond (X.leq rfl rfl) (by decide) (fun h138 => ?_) (fun h138 => ?_)
  ·refine WL.z ?_
   refine WC.condT rfl ?_
   refine WC.skip ?_
   refine WK.nThen ?_
   refine WC.seq ?_
   refine WC.block ?_
   refine WC.draw (π := (.cons 0 (.cons 1 (.cons 2 (.cons 3 (.cons 4 (.cons 5 (.cons 6 (.cons 7 (.cons 8 (.cons 9 (.cons 10 (.cons 11 .done))))))))))))) [9, 10] [10] rfl (by kernel_rfl) ?_
   refine DW.y rfl rfl (X.move rfl) ?_
   have hp139 := At.Course_3 hp39
   refine DW.y rfl rfl (X.field Tryz.runUnderlying37 rfl Tryz.sizeOf27 rfl) ?_
   refine DW.xe rfl rfl (E.loadSl Tryz.isAgg27 rfl hp139) (by decide) (fun v140 hs141 => ?_)
   have hl142 := hs141.le
   refine DW.y rfl rfl (X.move rfl) ?_
   refine DW.xe rfl rfl (E.idxN k Tryz.runUnderlying27 Tryz.sizeOf3 rfl rfl hs141 (by omega)) (by decide) (fun p143 hp144 => ?_)
   refine DW.y rfl rfl (X.loadInt Tryz.isAgg3 rfl hp144) ?_
   have hp145 := At.Course_0 hp39
   refine DW.y rfl rfl (X.field Tryz.runUnderlying37 rfl Tryz.sizeOf3 rfl) ?_
   refine DW.y rfl rfl (X.loadInt Tryz.isAgg3 rfl hp145) ?_
   refine DW.y rfl rfl (X.sub rfl rfl (by omega) (by omega)) ?_
   refine DW.tl rfl rfl rfl (T.lit1 sl27 rfl rfl rfl (by decide)) (by decide) fun b146 => ?_
   refine DW.ta rfl rfl rfl rfl (T.appendF (k := 0) (a := (gt one.Levels k) - one.Zero) sl27 rfl rfl rfl rfl (by first | omega | (simp; done) | (simp; omega)) (by decide)) (by decide) (fun v147 => ?_)
   refine DW.y rfl rfl (X.assign rfl) ?_
   refine DW.nil ?_
   refine WK.nBlock ?_
   refine WK.nThen ?_
   refine WC.region ?_
   refine WL.mv rfl ?_
   refine WL.y (X.add rfl rfl (by omega) (by omega)) ?_
   refine WL.ag rfl ?_
   refine WL.z ?_
   have he148 : ((realN one k) ++ [(gt one.Levels k) - one.Zero]) = (realN one (k + 1)) := (realN_snoc _ _).symm
   rw [he148]
   refine WK.next ((k + 1, v147)) rfl (.refl _) (.cons rfl (.cons rfl (.cons rfl (.cons rfl (.cons rfl (.cons rfl (.cons rfl .nil))))))) ?_ ?_
   ·omega
   ·(dsimp only; omega)
  refine WL.z ?_
  refine WC.condF rfl ?_
  refine WC.exit ?_
  refine WK.eThen ?_
  refine WK.eThen ?_
  refine WK.eHit ?_
  refine WK.nThen ?_
  refine WC.seq ?_
  have hkk_ : k = (ticks + 1).toNat := (by omega)
  have he149 : (realN one k) = (realN one (ticks + 1).toNat) := (by rw [hkk_])
  rw [he149]
  refine WK.freezeF 0 rfl rfl (by rw [realN_len]; unfold lenB; omega) (fun m150 hle151 hs152 => ?_)
  replace hs2 := hs2.mono hle151
  replace hs4 := hs4.mono hle151
  replace hs6 := hs6.mono hle151
  replace hs8 := hs8.mono hle151
  replace hs14 := hs14.mono hle151
  replace hs16 := hs16.mono hle151
  replace hs18 := hs18.mono hle151
  replace hs23 := hs23.mono hle151
  replace hs25 := hs25.mono hle151
  replace hs27 := hs27.mono hle151
  replace hp36 := hp36.mono hle151
  replace hp39 := hp39.mono hle151
  replace hp42 := hp42.mono hle151
  have hrl_ : (realN one (ticks + 1).toNat).length = (ticks + 1).toNat := realN_len _ _
  refine WC.region ?_
  have hp153 := At.Sheet_4 hp36
  refine WL.y (X.field Tryz.runUnderlying35 rfl Tryz.sizeOf33 rfl) ?_
  refine WL.xe (E.loadAgg Tryz.isAgg33 Tryz.sizeOf33 rfl hp153) (by decide) (fun c154 hc155 => ?_)
  obtain rfl := hc155
  refine WL.mv rfl ?_
  refine WL.tm (T.call Tryz.call12 rfl (forgets12 _ _ x.Pen rfl hs152 (realN_ok hd_.1 hpe_ (by omega)) (realN_step hd_.1))) (by decide) (fun m156 _ hle157 hR_ => ?_)
  obtain ⟨z158, z159, rfl, h160⟩ := hR_
  replace hs2 := hs2.mono hle157
  replace hs4 := hs4.mono hle157
  replace hs6 := hs6.mono hle157
  replace hs8 := hs8.mono hle157
  replace hs14 := hs14.mono hle157
  replace hs16 := hs16.mono hle157
  replace hs18 := hs18.mono hle157
  replace hs23 := hs23.mono hle157
  replace hs25 := hs25.mono hle157
  replace hs27 := hs27.mono hle157
  replace hp36 := hp36.mono hle157
  replace hp39 := hp39.mono hle157
  replace hp42 := hp42.mono hle157
  replace hs152 := hs152.mono hle157
  replace hp153 := hp153.mono hle157
  refine WL.mv rfl ?_
  refine WL.y (X.extract rfl rfl) ?_
  refine WL.y (X.extract rfl rfl) ?_
  refine WL.ag rfl ?_
  refine WL.ag rfl ?_
  refine WL.z ?_
  refine WC.seq ?_
  refine WC.seq ?_
  have he03_ : z159 = 3 ∨ z159 = 0 := h160.elim .inl (fun h_ => .inr h_.1)
  refine WC.region ?_
  refine WL.mv rfl ?_
  refine WL.condn (X.neq rfl rfl) (by decide) (fun h161 => ?_) (fun h161 => ?_)
  ·refine WL.z ?_
   refine WC.condT rfl ?_
   refine WC.r ?_
   refine WL.mv rfl ?_
   refine WL.mv rfl ?_
   refine WL.yes rfl rfl ?_
   refine WL.mv rfl ?_
   refine WL.yes rfl rfl ?_
   refine WL.y (X.eql rfl rfl) ?_
   refine WL.y (X.pickT rfl rfl rfl) ?_
   refine WL.ag rfl ?_
   refine WL.z ?_
   refine WC.ret ?_
   refine WK.rThen ?_
   refine WK.ret1 rfl rfl (fun w' hw' => Ret.exact hw' ?_)
   first | rfl | (exfalso; omega) | (exfalso; contradiction) | exact (bool_true (by omega)).symm
  refine WL.z ?_
  refine WC.condF rfl ?_
  refine WC.skip ?_
  refine WK.nThen ?_
  refine WC.seq ?_
  obtain ⟨fn_, hfz_, hfl_, hfr_⟩ : ∃ k_ : Nat, z158 = k_ ∧ k_ < (realN one (ticks + 1).toNat).length ∧ isFrom x.Pen.Band (realN one (ticks + 1).toNat) k_ := h160.elim (fun h_ => absurd h_ (by omega)) (fun h_ => h_.2)
  subst hfz_
  have hrb_ : ∀ i, i ≤ ticks.toNat → -20000 ≤ gt (realN one (ticks + 1).toNat) i ∧ gt (realN one (ticks + 1).toNat) i ≤ 20000 := fun i hi => by rw [realN_gt (by omega)]; exact realN_bd hd_.1 hpe_ (by omega)
  refine WC.region ?_
  refine WL.mv rfl ?_
  refine WL.xe (E.idxN 0 Tryz.runUnderlying27 Tryz.sizeOf3 rfl rfl hs152 (by omega)) (by decide) (fun p162 hp163 => ?_)
  refine WL.y (X.loadInt Tryz.isAgg3 rfl hp163) ?_
  refine WL.ag rfl ?_
  refine WL.z ?_
  refine WC.r ?_
  refine WL.mv rfl ?_
  refine WL.xe (E.idxN 0 Tryz.runUnderlying27 Tryz.sizeOf3 rfl rfl hs152 (by omega)) (by decide) (fun p164 hp165 => ?_)
  refine WL.y (X.loadInt Tryz.isAgg3 rfl hp165) ?_
  refine WL.ag rfl ?_
  refine WL.z ?_
  refine WC.seq ?_
  refine WC.r ?_
  refine WL.ag rfl ?_
  refine WL.z ?_
  refine WC.block ?_
  refine WC.loop (G := Nat) (fun t => (ticks + 1).toNat - t) (fun t => m156) (fun t => []) (fun t => [(1, .int .i64 (ticks)), (4, .pointer (some ((⟨b31, 0, none⟩ : Addr)))), (6, .pointer (some ((⟨b32, 0, none⟩ : Addr)))), (7, .pointer (some ((⟨b33, 0, none⟩ : Addr)))), (9, .bool true), (10, vr), (12, .int .i64 (↑fn_)), (14, .int .i64 (mnN (realN one (ticks + 1).toNat) (t - 1))), (15, .int .i64 (mxN (realN one (ticks + 1).toNat) (t - 1))), (16, .int .i64 (↑t))]) (fun t => (t : Int) ≤ ticks + 1) 0 rfl (.refl _) (.cons rfl (.cons rfl (.cons rfl (.cons rfl (.cons rfl (.cons rfl (.cons rfl (.cons rfl (.cons rfl (.cons rfl .nil)))))))))) ?_ ?_
  ·omega
  ·rintro t hF166
   show WK _ _ m156 [] [(1, .int .i64 (ticks)), (4, .pointer (some ((⟨b31, 0, none⟩ : Addr)))), (6, .pointer (some ((⟨b32, 0, none⟩ : Addr)))), (7, .pointer (some ((⟨b33, 0, none⟩ : Addr)))), (9, .bool true), (10, vr), (12, .int .i64 (↑fn_)), (14, .int .i64 (mnN (realN one (ticks + 1).toNat) (t - 1))), (15, .int .i64 (mxN (realN one (ticks + 1).toNat) (t - 1))), (16, .int .i64 (↑t))] _
   replace hF166 : (t : Int) ≤ ticks + 1 := hF166
   have ht := hF166
   refine WC.seq ?_
   refine WC.r ?_
   refine WL.mv rfl ?_
   refine WL.mv rfl ?_
   refine WL.cond (X.leq rfl rfl) (by decide) (fun h167 => ?_) (fun h167 => ?_)
   ·refine WL.z ?_
    refine WC.condT rfl ?_
    refine WC.skip ?_
    refine WK.nThen ?_
    refine WC.seq ?_
    refine WC.block ?_
    refine WC.r ?_
    refine WL.mv rfl ?_
    refine WL.mv rfl ?_
    refine WL.mv rfl ?_
    refine WL.xe (E.idxN t Tryz.runUnderlying27 Tryz.sizeOf3 rfl rfl hs152 (by omega)) (by decide) (fun p168 hp169 => ?_)
    refine WL.y (X.loadInt Tryz.isAgg3 rfl hp169) ?_
    refine WL.y (X.mn rfl rfl) ?_
    refine WL.ag rfl ?_
    refine WL.z ?_
    refine WC.r ?_
    refine WL.mv rfl ?_
    refine WL.mv rfl ?_
    refine WL.mv rfl ?_
    refine WL.xe (E.idxN t Tryz.runUnderlying27 Tryz.sizeOf3 rfl rfl hs152 (by omega)) (by decide) (fun p170 hp171 => ?_)
    refine WL.y (X.loadInt Tryz.isAgg3 rfl hp171) ?_
    refine WL.y (X.mx rfl rfl) ?_
    refine WL.ag rfl ?_
    refine WL.z ?_
    refine WC.seq ?_
    rw [mn_step, mx_step]
    have hsw_ := swing_iff (b := x.Pen.Band) (by omega) hfr_ t
    have hsm_ := fun h_ => swing_same hd_.1 hd_.2 hno2_.2.2.2.1 hno2_.2.2.2.2 (by omega) hfr_ (t := t) (by omega) h_
    have hmb_ := mn_bd hrb_ t (by omega)
    have hxb_ := mx_bd hrb_ t (by omega)
    refine WC.draw (π := (.cons 0 (.cons 1 (.cons 2 (.cons 3 (.cons 4 (.cons 5 (.cons 6 (.cons 7 (.cons 8 (.cons 9 (.cons 10 (.cons 11 (.cons 12 (.cons 13 (.cons 14 (.cons 15 (.cons 16 (.cons 17 (.cons 18 (.cons 19 (.cons 20 (.cons 21 (.cons 22 (.cons 23 (.cons 24 (.cons 25 (.cons 26 (.cons 27 (.cons 28 (.cons 29 .done))))))))))))))))))))))))))))))) [] [] rfl (by kernel_rfl) ?_
    refine DW.y rfl rfl (X.move rfl) ?_
    refine DW.y rfl rfl (X.move rfl) ?_
    refine DW.y rfl rfl (X.geq rfl rfl) ?_
    refine DW.y rfl rfl (X.move rfl) ?_
    refine DW.y rfl rfl (X.move rfl) ?_
    refine DW.y rfl rfl (X.sub rfl rfl (by omega) (by omega)) ?_
    have hp172 := At.Sheet_4 hp36
    refine DW.y rfl rfl (X.field Tryz.runUnderlying35 rfl Tryz.sizeOf33 rfl) ?_
    have hp173 := At.Pen_0 hp172
    refine DW.y rfl rfl (X.field Tryz.runUnderlying33 rfl Tryz.sizeOf3 rfl) ?_
    refine DW.y rfl rfl (X.loadInt Tryz.isAgg3 rfl hp173) ?_
    refine DW.y rfl rfl (X.mul rfl rfl (by omega) (by omega)) ?_
    refine DW.y rfl rfl (X.geq rfl rfl) ?_
    refine DW.y rfl rfl (OpX.f (X.neqB Tryz.underlying4 rfl rfl) (fun h => h (decide_eq_decide.2 hsw_))) ?_
    refine DW.y rfl rfl (X.move rfl) ?_
    refine DW.y rfl rfl (X.move rfl) ?_
    refine DW.y rfl rfl (X.move rfl) ?_
    refine DW.cond rfl rfl (X.geq rfl rfl) (by decide) (fun h174 => ?_) (fun h174 => ?_)
    ·refine DW.y rfl rfl (X.move rfl) ?_
     have hp175 := At.Course_2 hp39
     refine DW.y rfl rfl (X.field Tryz.runUnderlying37 rfl Tryz.sizeOf27 rfl) ?_
     refine DW.xe rfl rfl (E.loadSl Tryz.isAgg27 rfl hp175) (by decide) (fun v176 hs177 => ?_)
     have hl178 := hs177.le
     refine DW.y rfl rfl (X.move rfl) ?_
     refine DW.xe rfl rfl (E.idxN t Tryz.runUnderlying27 Tryz.sizeOf3 rfl rfl hs177 (by omega)) (by decide) (fun p179 hp180 => ?_)
     refine DW.y rfl rfl (X.loadInt Tryz.isAgg3 rfl hp180) ?_
     have hp181 := At.Course_2 hp42
     refine DW.y rfl rfl (X.field Tryz.runUnderlying37 rfl Tryz.sizeOf27 rfl) ?_
     refine DW.xe rfl rfl (E.loadSl Tryz.isAgg27 rfl hp181) (by decide) (fun v182 hs183 => ?_)
     have hl184 := hs183.le
     refine DW.y rfl rfl (X.move rfl) ?_
     refine DW.xe rfl rfl (E.idxN t Tryz.runUnderlying27 Tryz.sizeOf3 rfl rfl hs183 (by omega)) (by decide) (fun p185 hp186 => ?_)
     refine DW.y rfl rfl (X.loadInt Tryz.isAgg3 rfl hp186) ?_
     refine DW.y rfl rfl (OpX.f (X.neq rfl rfl) (fun h => h (hsm_ (by assumption)))) ?_
     refine DW.y rfl rfl (X.pickT rfl rfl rfl) ?_
     refine DW.y rfl rfl (X.pickF rfl rfl rfl) ?_
     refine DW.nil ?_
     refine WK.nThen ?_
     refine WC.condF rfl ?_
     refine WC.skip ?_
     refine WK.nBlock ?_
     refine WK.nThen ?_
     refine WC.region ?_
     refine WL.mv rfl ?_
     refine WL.y (X.add rfl rfl (by omega) (by omega)) ?_
     refine WL.ag rfl ?_
     refine WL.z ?_
     refine WK.next (t + 1) rfl (.refl _) (.cons rfl (.cons rfl (.cons rfl (.cons rfl (.cons rfl (.cons rfl (.cons rfl (.cons rfl (.cons rfl (.cons rfl .nil)))))))))) ?_ ?_
     ·omega
     ·omega
    refine DW.y rfl rfl (X.move rfl) ?_
    refine DW.no rfl rfl (by decide) ?_
    refine DW.no rfl rfl (by decide) ?_
    refine DW.no rfl rfl (by decide) ?_
    refine DW.no rfl rfl (by decide) ?_
    refine DW.no rfl rfl (by decide) ?_
    refine DW.no rfl rfl (by decide) ?_
    refine DW.no rfl rfl (by decide) ?_
    refine DW.no rfl rfl (by decide) ?_
    refine DW.no rfl rfl (by decide) ?_
    refine DW.no rfl rfl (by decide) ?_
    refine DW.no rfl rfl (by decide) ?_
    refine DW.y rfl rfl (X.pickF rfl rfl rfl) ?_
    refine DW.y rfl rfl (X.pickF rfl rfl rfl) ?_
    refine DW.nil ?_
    refine WK.nThen ?_
    refine WC.condF rfl ?_
    refine WC.skip ?_
    refine WK.nBlock ?_
    refine WK.nThen ?_
    refine WC.region ?_
    refine WL.mv rfl ?_
    refine WL.y (X.add rfl rfl (by omega) (by omega)) ?_
    refine WL.ag rfl ?_
    refine WL.z ?_
    refine WK.next (t + 1) rfl (.refl _) (.cons rfl (.cons rfl (.cons rfl (.cons rfl (.cons rfl (.cons rfl (.cons rfl (.cons rfl (.cons rfl (.cons rfl .nil)))))))))) ?_ ?_
    ·omega
    ·omega
   refine WL.z ?_
   refine WC.condF rfl ?_
   refine WC.exit ?_
   refine WK.eThen ?_
   refine WK.eThen ?_
   refine WK.eHit ?_
   refine WK.nThen ?_
   refine WC.r ?_
   refine WL.mv rfl ?_
   refine WL.ag rfl ?_
   refine WL.z ?_
   refine WC.ret ?_
   refine WK.ret1 rfl rfl (fun w' hw' => Ret.exact hw' ?_)
   first | rfl | (exfalso; omega) | (exfalso; contradiction) | exact (bool_true (by omega)).symm
end Go.Proofs.T10
