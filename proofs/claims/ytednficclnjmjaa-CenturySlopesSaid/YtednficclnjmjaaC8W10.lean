/- Century: walks, tenth part, by program. -/
import Derived.Test.YtednficclnjmjaaC8Mean
import Derived.Test.YtednficclnjmjaaC8W9
namespace Go.Proofs.C8
open Go Go.Kx
set_option linter.unusedSimpArgs false

theorem nan155 (m : Mem) (x : Int)   : Exact Try.prog 155 #[.int .i64 (x)] m (.bool false) := by
 refine Exact.start Try.func155 rfl Try.ntmps155 rfl fun wld => ?_
 refine WC.seq ?_
 refine WC.region ?_
 refine WL.x (X.assign rfl) (by decide) ?_
 refine WL.nil ?_
 refine WK.nThen ?_
 refine WC.seq ?_
 refine WC.region ?_
 refine WL.x (X.move rfl) (by decide) ?_
 refine WL.x (X.move rfl) (by decide) ?_
 refine WL.x (OpX.f (X.neq rfl rfl) (fun h => h rfl)) (by decide) ?_
 refine WL.x (X.assign rfl) (by decide) ?_
 refine WL.nil ?_
 refine WK.nThen ?_
 refine WC.ret ?_
 refine WK.ret1 rfl rfl (fun w' hw' => Ret.exact hw' ?_)
 rfl

theorem cmp139 (m : Mem) (x : Int) (y : Int)   : Exact Try.prog 139 #[.int .i64 (x), .int .i64 (y)] m (.int .i64 (cmpR x y)) := by
 refine Exact.start Try.func139 rfl Try.ntmps139 rfl fun wld => ?_
 refine WC.seq ?_
 refine WC.region ?_
 refine WL.x (X.assign rfl) (by decide) ?_
 refine WL.nil ?_
 refine WK.nThen ?_
 refine WC.seq ?_
 refine WC.region ?_
 refine WL.x (X.move rfl) (by decide) ?_
 refine WL.x (X.call Try.call155 rfl (nan155 _ _ )) (by decide) ?_
 refine WL.x (X.assign rfl) (by decide) ?_
 refine WL.nil ?_
 refine WK.nThen ?_
 refine WC.seq ?_
 refine WC.region ?_
 refine WL.x (X.move rfl) (by decide) ?_
 refine WL.x (X.call Try.call155 rfl (nan155 _ _ )) (by decide) ?_
 refine WL.x (X.assign rfl) (by decide) ?_
 refine WL.nil ?_
 refine WK.nThen ?_
 refine WC.seq ?_
 refine WC.seq ?_
 refine WC.region ?_
 refine WL.x (X.move rfl) (by decide) ?_
 refine WL.nil ?_
 refine WK.nThen ?_
 refine WC.condF rfl ?_
 refine WC.skip ?_
 refine WK.nThen ?_
 refine WC.seq ?_
 refine WC.seq ?_
 refine WC.region ?_
 refine WL.x (X.move rfl) (by decide) ?_
 refine WL.nil ?_
 refine WK.nThen ?_
 refine WC.condF rfl ?_
 refine WC.skip ?_
 refine WK.nThen ?_
 refine WC.seq ?_
 refine WC.seq ?_
 refine WC.region ?_
 refine WL.x (X.move rfl) (by decide) ?_
 refine WL.x (X.move rfl) (by decide) ?_
 refine WL.cond (X.lss rfl rfl) (by decide) (fun h1 => ?_) (fun h1 => ?_)
 ·refine WL.nil ?_
  refine WK.nThen ?_
  refine WC.condT rfl ?_
  refine WC.seq ?_
  refine WC.region ?_
  refine WL.x (X.assign rfl) (by decide) ?_
  refine WL.nil ?_
  refine WK.nThen ?_
  refine WC.ret ?_
  refine WK.rThen ?_
  refine WK.ret1 rfl rfl (fun w' hw' => Ret.exact hw' ?_)
  first | exact int_eq (by unfold cmpR; rw [if_pos (by omega)]) | exact int_eq (by unfold cmpR; rw [if_neg (by omega), if_pos (by omega)]) | exact int_eq (by unfold cmpR; rw [if_neg (by omega), if_neg (by omega)])
 ·refine WL.nil ?_
  refine WK.nThen ?_
  refine WC.condF rfl ?_
  refine WC.skip ?_
  refine WK.nThen ?_
  refine WC.seq ?_
  refine WC.seq ?_
  refine WC.region ?_
  refine WL.x (X.move rfl) (by decide) ?_
  refine WL.x (X.move rfl) (by decide) ?_
  refine WL.cond (X.gtr rfl rfl) (by decide) (fun h2 => ?_) (fun h2 => ?_)
  ·refine WL.nil ?_
   refine WK.nThen ?_
   refine WC.condT rfl ?_
   refine WC.seq ?_
   refine WC.region ?_
   refine WL.x (X.assign rfl) (by decide) ?_
   refine WL.nil ?_
   refine WK.nThen ?_
   refine WC.ret ?_
   refine WK.rThen ?_
   refine WK.ret1 rfl rfl (fun w' hw' => Ret.exact hw' ?_)
   first | exact int_eq (by unfold cmpR; rw [if_pos (by omega)]) | exact int_eq (by unfold cmpR; rw [if_neg (by omega), if_pos (by omega)]) | exact int_eq (by unfold cmpR; rw [if_neg (by omega), if_neg (by omega)])
  ·refine WL.nil ?_
   refine WK.nThen ?_
   refine WC.condF rfl ?_
   refine WC.skip ?_
   refine WK.nThen ?_
   refine WC.seq ?_
   refine WC.region ?_
   refine WL.x (X.assign rfl) (by decide) ?_
   refine WL.nil ?_
   refine WK.nThen ?_
   refine WC.ret ?_
   refine WK.ret1 rfl rfl (fun w' hw' => Ret.exact hw' ?_)
   first | exact int_eq (by unfold cmpR; rw [if_pos (by omega)]) | exact int_eq (by unfold cmpR; rw [if_neg (by omega), if_pos (by omega)]) | exact int_eq (by unfold cmpR; rw [if_neg (by omega), if_neg (by omega)])

theorem sign125 (m : Mem) (cb : List Value) (b : Span) (hb : Enc.rd m cb b)  (hord : b.Lo ≤ b.Hi) : Exact Try.prog 125 #[.agg cb.toArray] m (.int .i64 (sureS b)) := by
 obtain rfl := hb
 have hc1 : -1 ≤ cmpR b.Lo 0 ∧ cmpR b.Lo 0 ≤ 1 := (by unfold cmpR; (repeat' split) <;> omega)
 have hc2 : -1 ≤ cmpR b.Hi 0 ∧ cmpR b.Hi 0 ≤ 1 := (by unfold cmpR; (repeat' split) <;> omega)
 refine Exact.start Try.func125 rfl Try.ntmps125 rfl fun wld => ?_
 refine WC.seq ?_
 refine WC.region ?_
 refine WL.tn (T.boxB rfl rfl) (by decide) fun b1 => ?_
 refine WL.x (X.assign rfl) (by decide) ?_
 refine WL.nil ?_
 refine WK.nThen ?_
 refine WC.seq ?_
 refine WC.draw (π := (.cons 0 (.cons 1 (.cons 2 (.cons 3 (.cons 4 (.cons 5 (.cons 6 (.cons 7 (.cons 8 (.cons 9 .done))))))))))) [] [] rfl (by kernel_rfl) ?_
 refine DW.x rfl rfl (X.field Try.runUnderlying33 rfl Try.sizeOf3 rfl) (by decide) ?_
 refine DW.x rfl rfl (X.loadB (k := 0) Try.isAgg3 rfl rfl rfl) (by decide) ?_
 refine DW.x rfl rfl (X.call Try.call139 rfl (cmp139 _ _ _ )) (by decide) ?_
 refine DW.x rfl rfl (X.mx rfl rfl) (by decide) ?_
 refine DW.x rfl rfl (X.field Try.runUnderlying33 rfl Try.sizeOf3 rfl) (by decide) ?_
 refine DW.x rfl rfl (X.loadB (k := 0) Try.isAgg3 rfl rfl rfl) (by decide) ?_
 refine DW.x rfl rfl (X.call Try.call139 rfl (cmp139 _ _ _ )) (by decide) ?_
 refine DW.x rfl rfl (X.mn rfl rfl) (by decide) ?_
 refine DW.x rfl rfl (X.add rfl rfl (by omega) (by omega)) (by decide) ?_
 refine DW.x rfl rfl (X.assign rfl) (by decide) ?_
 refine DW.nil ?_
 refine WK.nThen ?_
 refine WC.ret ?_
 refine WK.ret1 rfl rfl (fun w' hw' => Ret.exact hw' ?_)
 exact int_eq (sure_sign hord)

theorem trend61 (m : Mem) (cs : List Value) (s : Ser) (hs : Enc.rd m cs s)   : Exact Try.prog 61 #[.agg cs.toArray] m (.tuple #[.int .i64 ((trendR s).1), .int .i64 ((trendR s).2)]) := by
 obtain ⟨v1, v3, rfl, hs2, hs4⟩ := hs
 have hl5 := hs2.le
 have hl6 := hs4.le
 refine Exact.start Try.func61 rfl Try.ntmps61 rfl fun wld => ?_
 refine WC.seq ?_
 refine WC.region ?_
 refine WL.tn (T.boxB rfl rfl) (by decide) fun b7 => ?_
 refine WL.x (X.assign rfl) (by decide) ?_
 refine WL.x (X.assign rfl) (by decide) ?_
 refine WL.nil ?_
 refine WK.nThen ?_
 refine WC.seq ?_
 refine WC.region ?_
 refine WL.x (X.loadBA (k := 0) Try.isAgg25 Try.sizeOf25 rfl rfl rfl) (by decide) ?_
 refine WL.tm (T.call Try.call103 rfl (sloped103 _ _ s ⟨_, _, rfl, hs2, hs4⟩ )) (by decide) fun m8 r9 hle10 hR11 => ?_
 obtain ⟨c12, rfl, hc13⟩ := hR11
 replace hs2 := hs2.mono hle10
 replace hs4 := hs4.mono hle10
 obtain ⟨v14, v16, v18, v20, rfl, hs15, hs17, hs19, hs21⟩ := hc13
 have hl22 := hs15.le
 have hl23 := hs17.le
 have hl24 := hs19.le
 have hl25 := hs21.le
 refine WL.x (X.move rfl) (by decide) ?_
 refine WL.x (X.extract rfl rfl) (by decide) ?_
 refine WL.x (X.extract rfl rfl) (by decide) ?_
 refine WL.x (X.extract rfl rfl) (by decide) ?_
 refine WL.tn (T.alloc Try.zeroValue139 rfl) (by decide) fun b26 => ?_
 refine WL.ts (T.storeBA (k := 0) Try.sizeOf139 rfl rfl rfl (one_cons hs15.one (one_cons hs17.one (one_cons hs19.one (one_cons hs21.one one_nil)))) rfl rfl) ?_
 refine WL.x (X.assign rfl) (by decide) ?_
 refine WL.x (X.assign rfl) (by decide) ?_
 refine WL.nil ?_
 refine WK.nThen ?_
 refine WC.seq ?_
 refine WC.seq ?_
 refine WC.region ?_
 refine WL.x (X.move rfl) (by decide) ?_
 refine WL.condn (X.neq rfl rfl) (by decide) (fun h27 => ?_) (fun h27 => ?_)
 ·refine WL.nil ?_
  refine WK.nThen ?_
  refine WC.condT rfl ?_
  refine WC.seq ?_
  refine WC.region ?_
  refine WL.x (X.move rfl) (by decide) ?_
  refine WL.x (X.assign rfl) (by decide) ?_
  refine WL.x (X.assign rfl) (by decide) ?_
  refine WL.nil ?_
  refine WK.nThen ?_
  refine WC.ret ?_
  refine WK.rThen ?_
  refine WK.ret2 rfl rfl rfl (fun w' hw' => Ret.exact hw' ?_)
  first | exact tup2 (int_eq (by rw [trendR_err (by omega)])) (int_eq (by rw [trendR_err (by omega)])) | (have hq_ := trendR_ok (s := s) (by omega); unfold bdX at hq_; exact tup2 (int_eq (by rw [hq_])) (int_eq (by rw [hq_])))
 ·refine WL.nil ?_
  refine WK.nThen ?_
  refine WC.condF rfl ?_
  refine WC.skip ?_
  refine WK.nThen ?_
  refine WC.seq ?_
  have hsw := slpS_w (s := s) (by omega)
  have hso := bdX_order hsw
  unfold bdX at hso
  refine WC.region ?_
  refine WL.x (X.loadBA (k := 0) Try.isAgg139 Try.sizeOf139 rfl rfl rfl) (by decide) ?_
  refine WL.x (X.call Try.call104 rfl (bounds104 _ _ (slpS s) ⟨_, _, _, _, rfl, hs15, hs17, hs19, hs21⟩ hsw)) (by decide) ?_
  refine WL.x (X.call Try.call125 rfl (sign125 _ _ (bdS ((slpS s)).run ((slpS s)).levels ((slpS s)).shifts) rfl (by first | assumption | omega))) (by decide) ?_
  refine WL.x (X.assign rfl) (by decide) ?_
  refine WL.x (X.assign rfl) (by decide) ?_
  refine WL.nil ?_
  refine WK.nThen ?_
  refine WC.ret ?_
  refine WK.ret2 rfl rfl rfl (fun w' hw' => Ret.exact hw' ?_)
  first | exact tup2 (int_eq (by rw [trendR_err (by omega)])) (int_eq (by rw [trendR_err (by omega)])) | (have hq_ := trendR_ok (s := s) (by omega); unfold bdX at hq_; exact tup2 (int_eq (by rw [hq_])) (int_eq (by rw [hq_])))

theorem slopeAt63 (m : Mem) (cs : List Value) (s : Ser) (hs : Enc.rd m cs s) (high : Bool)   : Pure Try.prog 63 #[.agg cs.toArray, .bool (high)] m (fun m' v => ∃ r0 r1, v = .tuple #[r0, r1, .int .i64 ((satR s high).2.2)] ∧ Sl m' r0 ((satR s high).1) ∧ Sl m' r1 ((satR s high).2.1)) := by
 obtain ⟨v1, v3, rfl, hs2, hs4⟩ := hs
 have hl5 := hs2.le
 have hl6 := hs4.le
 refine Pure.start Try.func63 rfl Try.ntmps63 rfl fun wld => ?_
 refine WC.seq ?_
 refine WC.region ?_
 refine WL.tn (T.boxB rfl rfl) (by decide) fun b7 => ?_
 refine WL.x (X.assign rfl) (by decide) ?_
 refine WL.x (X.assign rfl) (by decide) ?_
 refine WL.x (X.assign rfl) (by decide) ?_
 refine WL.nil ?_
 refine WK.nThen ?_
 refine WC.seq ?_
 refine WC.region ?_
 refine WL.x (X.loadBA (k := 0) Try.isAgg25 Try.sizeOf25 rfl rfl rfl) (by decide) ?_
 refine WL.tm (T.call Try.call103 rfl (sloped103 _ _ s ⟨_, _, rfl, hs2, hs4⟩ )) (by decide) fun m8 r9 hle10 hR11 => ?_
 obtain ⟨c12, rfl, hc13⟩ := hR11
 replace hs2 := hs2.mono hle10
 replace hs4 := hs4.mono hle10
 obtain ⟨v14, v16, v18, v20, rfl, hs15, hs17, hs19, hs21⟩ := hc13
 have hl22 := hs15.le
 have hl23 := hs17.le
 have hl24 := hs19.le
 have hl25 := hs21.le
 refine WL.x (X.move rfl) (by decide) ?_
 refine WL.x (X.extract rfl rfl) (by decide) ?_
 refine WL.x (X.extract rfl rfl) (by decide) ?_
 refine WL.x (X.extract rfl rfl) (by decide) ?_
 refine WL.tn (T.alloc Try.zeroValue139 rfl) (by decide) fun b26 => ?_
 refine WL.ts (T.storeBA (k := 0) Try.sizeOf139 rfl rfl rfl (one_cons hs15.one (one_cons hs17.one (one_cons hs19.one (one_cons hs21.one one_nil)))) rfl rfl) ?_
 refine WL.x (X.assign rfl) (by decide) ?_
 refine WL.x (X.assign rfl) (by decide) ?_
 refine WL.nil ?_
 refine WK.nThen ?_
 refine WC.seq ?_
 refine WC.seq ?_
 refine WC.region ?_
 refine WL.x (X.move rfl) (by decide) ?_
 refine WL.condn (X.neq rfl rfl) (by decide) (fun h27 => ?_) (fun h27 => ?_)
 ·refine WL.nil ?_
  refine WK.nThen ?_
  refine WC.condT rfl ?_
  refine WC.seq ?_
  refine WC.region ?_
  refine WL.x (X.move rfl) (by decide) ?_
  refine WL.x (X.assign rfl) (by decide) ?_
  refine WL.x (X.assign rfl) (by decide) ?_
  refine WL.x (X.assign rfl) (by decide) ?_
  refine WL.nil ?_
  refine WK.nThen ?_
  refine WC.ret ?_
  refine WK.rThen ?_
  refine WK.ret3 rfl rfl rfl rfl (fun w' hw' => Ret.mem hw' ?_)
  first | exact ⟨_, _, tup3 rfl rfl (int_eq (by rw [satR_err (by omega)])), by rw [satR_err (by omega)]; exact .nil, by rw [satR_err (by omega)]; exact .nil⟩
 ·refine WL.nil ?_
  refine WK.nThen ?_
  refine WC.condF rfl ?_
  refine WC.skip ?_
  refine WK.nThen ?_
  refine WC.seq ?_
  have hsw := slpS_w (s := s) (by omega)
  refine WC.region ?_
  refine WL.x (X.loadBA (k := 0) Try.isAgg139 Try.sizeOf139 rfl rfl rfl) (by decide) ?_
  refine WL.x (X.move rfl) (by decide) ?_
  refine WL.tm (T.call Try.call127 rfl (at127 _ _ (slpS s) ⟨_, _, _, _, rfl, hs15, hs17, hs19, hs21⟩ _ hsw)) (by decide) fun m28 r29 hle30 hR31 => ?_
  obtain ⟨c32, rfl, hc33⟩ := hR31
  replace hs2 := hs2.mono hle30
  replace hs4 := hs4.mono hle30
  replace hs15 := hs15.mono hle30
  replace hs17 := hs17.mono hle30
  replace hs19 := hs19.mono hle30
  replace hs21 := hs21.mono hle30
  obtain ⟨v34, v36, rfl, hs35, hs37⟩ := hc33
  have hl38 := hs35.le
  have hl39 := hs37.le
  refine WL.tn (T.alloc Try.zeroValue151 rfl) (by decide) fun b40 => ?_
  refine WL.ts (T.storeBA (k := 0) Try.sizeOf151 rfl rfl rfl (one_cons hs35.one (one_cons hs37.one one_nil)) rfl rfl) ?_
  refine WL.nil ?_
  refine WK.nThen ?_
  refine WC.seq ?_
  refine WC.draw (π := (.cons 0 (.cons 1 (.cons 2 (.cons 3 (.cons 4 (.cons 5 (.cons 6 .done)))))))) [] [] rfl (by kernel_rfl) ?_
  refine DW.x rfl rfl (X.field Try.runUnderlying151 rfl Try.sizeOf28 rfl) (by decide) ?_
  refine DW.x rfl rfl (X.loadB (k := 0) Try.isAgg28 rfl rfl rfl) (by decide) ?_
  refine DW.x rfl rfl (X.field Try.runUnderlying151 rfl Try.sizeOf28 rfl) (by decide) ?_
  refine DW.x rfl rfl (X.loadB (k := 0) Try.isAgg28 rfl rfl rfl) (by decide) ?_
  refine DW.x rfl rfl (X.assign rfl) (by decide) ?_
  refine DW.x rfl rfl (X.assign rfl) (by decide) ?_
  refine DW.x rfl rfl (X.assign rfl) (by decide) ?_
  refine DW.nil ?_
  refine WK.nThen ?_
  refine WC.ret ?_
  refine WK.ret3 rfl rfl rfl rfl (fun w' hw' => Ret.mem hw' ?_)
  exact ⟨_, _, tup3 rfl rfl (int_eq (by rw [satR_ok (by omega)])), by rw [satR_ok (by omega)]; exact hs35, by rw [satR_ok (by omega)]; exact hs37⟩

end Go.Proofs.C8
