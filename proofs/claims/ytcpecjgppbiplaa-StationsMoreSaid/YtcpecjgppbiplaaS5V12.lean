/- The walk of the statement StationsMore. -/
import Derived.Test.YtcpecjgppbiplaaS5Law
import Derived.Test.YtcpecjgppbiplaaS5W7
import Derived.Test.YtcpecjgppbiplaaS5More
import Derived.Test.YtcpecjgppbiplaaKxS
import Derived.Test.YtcpecjgppbiplaaS5Br
namespace Go.Proofs.S5
open Go Go.Kx
set_option linter.unusedVariables false

set_option maxHeartbeats 4000000 in
theorem law12 (m : Mem) (cw : List Value) (w : Wind) (hw : Enc.rd m cw w) (cmore : List Value) (more : Wind) (hmore : Enc.rd m cmore more) (vl : Value) (l : List Station) (hl : Sl m vl l) (week : Int) (vlevels : Value) (levels : List Int) (hlevels : Sl m vlevels levels) (at_ : Int) (cmetres : List Value) (metres : Span) (hmetres : Enc.rd m cmetres metres)  (ok0 : Rng.ok w) (ok1 : Rng.ok more) (ok2 : Rng.ok l) (lo3 : -9223372036854775808 ≤ week) (hi3 : week ≤ 9223372036854775807) (ok4 : Rng.ok levels) (lo5 : -9223372036854775808 ≤ at_) (hi5 : at_ ≤ 9223372036854775807) (ok6 : Rng.ok metres) : Exact Try.prog 12 #[.agg cw.toArray, .agg cmore.toArray, vl, .int .i64 (week), vlevels, .int .i64 (at_), .agg cmetres.toArray] m (.bool true) := by
  obtain rfl := hw
  obtain rfl := hmore
  have ll := hl.le
  have llevels := hlevels.le
  obtain rfl := hmetres
  refine Exact.start Try.func12 rfl Try.ntmps12 rfl fun wld => ?_
  refine WC.seq ?_
  refine WC.region ?_
  refine WL.tn (T.boxB rfl rfl) (by decide) fun b1 => ?_
  refine WL.tn (T.boxB rfl rfl) (by decide) fun b2 => ?_
  refine WL.tn (T.boxB rfl rfl) (by decide) fun b3 => ?_
  refine WL.x (X.assign rfl) (by decide) ?_
  refine WL.nil ?_
  refine WK.nThen ?_
  refine WC.seq ?_
  refine WC.region ?_
  refine WL.x (X.call Try.call17 rfl (awake17 _  )) (by decide) ?_
  refine WL.x (X.assign rfl) (by decide) ?_
  refine WL.nil ?_
  refine WK.nThen ?_
  refine WC.seq ?_
  refine WC.seq ?_
  refine WC.region ?_
  refine WL.x (X.move rfl) (by decide) ?_
  refine WL.cond (X.call Try.call18 rfl (few18 _ _ _ hl )) (by decide) (fun h4 => ?_) (fun h4 => ?_)
  · refine WL.x (X.not rfl) (by decide) ?_
    refine WL.x (X.move rfl) (by decide) ?_
    refine WL.yes rfl rfl ?_
    refine WL.x (X.move rfl) (by decide) ?_
    refine WL.yes rfl rfl ?_
    refine WL.x (X.len Try.runUnderlying31 rfl hlevels) (by decide) ?_
    refine WL.yes rfl rfl ?_
    refine WL.cond (X.gtr rfl rfl) (by decide) (fun h5 => ?_) (fun h5 => ?_)
    · refine WL.x (X.pickF rfl rfl rfl) (by decide) ?_
      refine WL.nil ?_
      refine WK.nThen ?_
      refine WC.condT rfl ?_
      refine WC.seq ?_
      refine WC.region ?_
      refine WL.x (X.move rfl) (by decide) ?_
      refine WL.x (X.assign rfl) (by decide) ?_
      refine WL.nil ?_
      refine WK.nThen ?_
      refine WC.ret ?_
      refine WK.rThen ?_
      refine WK.ret1 rfl rfl (fun w' hw' => Ret.exact hw' ?_)
      first | rfl | (exfalso; omega) | (exfalso; have q_ := hmw (by omega) (by omega) (by omega); simp_all; done) | exact congrArg Value.bool (hwk (by omega)) | exact (bool_true (by omega)).symm
    refine WL.x (X.pickF rfl rfl rfl) (by decide) ?_
    refine WL.nil ?_
    refine WK.nThen ?_
    refine WC.condF rfl ?_
    refine WC.skip ?_
    refine WK.nThen ?_
    refine WC.seq ?_
    refine WC.region ?_
    refine WL.x (X.loadBA (k := 2) Try.isAgg23 Try.sizeOf23 rfl rfl rfl) (by decide) ?_
    refine WL.x (X.move rfl) (by decide) ?_
    refine WL.x (X.move rfl) (by decide) ?_
    refine WL.x (X.move rfl) (by decide) ?_
    refine WL.x (X.call Try.call25 rfl (keeps25 _ _ w rfl _ _ hl _ _ _ hlevels )) (by decide) ?_
    refine WL.x (X.move rfl) (by decide) ?_
    refine WL.x (X.extract rfl rfl) (by decide) ?_
    refine WL.x (X.extract rfl rfl) (by decide) ?_
    refine WL.x (X.assign rfl) (by decide) ?_
    refine WL.x (X.assign rfl) (by decide) ?_
    refine WL.nil ?_
    refine WK.nThen ?_
    refine WC.seq ?_
    refine WC.seq ?_
    refine WC.region ?_
    refine WL.x (X.move rfl) (by decide) ?_
    refine WL.condn (X.neq rfl rfl) (by decide) (fun h6 => ?_) (fun h6 => ?_)
    · refine WL.x (X.move rfl) (by decide) ?_
      refine WL.no rfl rfl rfl (by decide) ?_
      refine WL.no rfl rfl rfl (by decide) ?_
      refine WL.x (X.pickT rfl rfl rfl) (by decide) ?_
      refine WL.nil ?_
      refine WK.nThen ?_
      refine WC.condT rfl ?_
      refine WC.seq ?_
      refine WC.region ?_
      refine WL.x (X.move rfl) (by decide) ?_
      refine WL.x (X.assign rfl) (by decide) ?_
      refine WL.nil ?_
      refine WK.nThen ?_
      refine WC.ret ?_
      refine WK.rThen ?_
      refine WK.ret1 rfl rfl (fun w' hw' => Ret.exact hw' ?_)
      first | rfl | (exfalso; omega) | (exfalso; have q_ := hmw (by omega) (by omega) (by omega); simp_all; done) | exact congrArg Value.bool (hwk (by omega)) | exact (bool_true (by omega)).symm
    refine WL.x (X.move rfl) (by decide) ?_
    refine WL.yes rfl rfl ?_
    refine WL.x (X.move rfl) (by decide) ?_
    refine WL.yes rfl rfl ?_
    refine WL.condb (X.not rfl) (by decide) (fun h7 => ?_) (fun h7 => ?_)
    · refine WL.x (X.pickF rfl rfl rfl) (by decide) ?_
      refine WL.nil ?_
      refine WK.nThen ?_
      refine WC.condT rfl ?_
      refine WC.seq ?_
      refine WC.region ?_
      refine WL.x (X.move rfl) (by decide) ?_
      refine WL.x (X.assign rfl) (by decide) ?_
      refine WL.nil ?_
      refine WK.nThen ?_
      refine WC.ret ?_
      refine WK.rThen ?_
      refine WK.ret1 rfl rfl (fun w' hw' => Ret.exact hw' ?_)
      first | rfl | (exfalso; omega) | (exfalso; have q_ := hmw (by omega) (by omega) (by omega); simp_all; done) | exact congrArg Value.bool (hwk (by omega)) | exact (bool_true (by omega)).symm
    refine WL.x (X.pickF rfl rfl rfl) (by decide) ?_
    refine WL.nil ?_
    refine WK.nThen ?_
    refine WC.condF rfl ?_
    refine WC.skip ?_
    refine WK.nThen ?_
    refine WC.seq ?_
    have hk : (keepsR w l week levels).1 = true := (by simpa using (‹(!(keepsR w l week levels).1) = false› : (!(keepsR w l week levels).1) = false))
    have hz := levelsE_zero (keepsR_true hk).1
    have hlz := hz.2.2.1
    have hfw := (‹fewOk l› : fewOk l).1
    have hmw := fun h1_ h2_ h3_ => more_wind (more := more) hk h1_ h2_ h3_
    refine WC.region ?_
    refine WL.x (X.loadBA (k := 1) Try.isAgg23 Try.sizeOf23 rfl rfl rfl) (by decide) ?_
    refine WL.x (X.move rfl) (by decide) ?_
    refine WL.x (X.move rfl) (by decide) ?_
    refine WL.x (X.move rfl) (by decide) ?_
    refine WL.x (X.call Try.call25 rfl (keeps25 _ _ more rfl _ _ hl _ _ _ hlevels )) (by decide) ?_
    refine WL.x (X.move rfl) (by decide) ?_
    refine WL.x (X.extract rfl rfl) (by decide) ?_
    refine WL.x (X.extract rfl rfl) (by decide) ?_
    refine WL.x (X.assign rfl) (by decide) ?_
    refine WL.x (X.assign rfl) (by decide) ?_
    refine WL.nil ?_
    refine WK.nThen ?_
    refine WC.seq ?_
    refine WC.seq ?_
    refine WC.region ?_
    refine WL.x (X.move rfl) (by decide) ?_
    refine WL.cond (X.eql rfl rfl) (by decide) (fun h8 => ?_) (fun h8 => ?_)
    · refine WL.x (X.move rfl) (by decide) ?_
      refine WL.yes rfl rfl ?_
      refine WL.x (X.field Try.runUnderlying23 rfl Try.sizeOf3 rfl) (by decide) ?_
      refine WL.yes rfl rfl ?_
      refine WL.x (X.loadB (k := 1) Try.isAgg3 rfl rfl rfl) (by decide) ?_
      refine WL.yes rfl rfl ?_
      refine WL.x (X.field Try.runUnderlying23 rfl Try.sizeOf3 rfl) (by decide) ?_
      refine WL.yes rfl rfl ?_
      refine WL.x (X.loadB (k := 2) Try.isAgg3 rfl rfl rfl) (by decide) ?_
      refine WL.yes rfl rfl ?_
      refine WL.cond (X.geq rfl rfl) (by decide) (fun h9 => ?_) (fun h9 => ?_)
      · refine WL.x (X.pickT rfl rfl rfl) (by decide) ?_
        refine WL.x (X.move rfl) (by decide) ?_
        refine WL.yes rfl rfl ?_
        refine WL.x (X.field Try.runUnderlying23 rfl Try.sizeOf3 rfl) (by decide) ?_
        refine WL.yes rfl rfl ?_
        refine WL.x (X.loadB (k := 1) Try.isAgg3 rfl rfl rfl) (by decide) ?_
        refine WL.yes rfl rfl ?_
        refine WL.x (X.field Try.runUnderlying23 rfl Try.sizeOf3 rfl) (by decide) ?_
        refine WL.yes rfl rfl ?_
        refine WL.x (X.loadB (k := 2) Try.isAgg3 rfl rfl rfl) (by decide) ?_
        refine WL.yes rfl rfl ?_
        refine WL.cond (X.geq rfl rfl) (by decide) (fun h10 => ?_) (fun h10 => ?_)
        · refine WL.x (X.pickT rfl rfl rfl) (by decide) ?_
          refine WL.x (X.move rfl) (by decide) ?_
          refine WL.yes rfl rfl ?_
          refine WL.x (X.move rfl) (by decide) ?_
          refine WL.yes rfl rfl ?_
          refine WL.condb (X.not rfl) (by decide) (fun h11 => ?_) (fun h11 => ?_)
          · refine WL.x (X.pickT rfl rfl rfl) (by decide) ?_
            refine WL.nil ?_
            refine WK.nThen ?_
            refine WC.condT rfl ?_
            refine WC.seq ?_
            refine WC.region ?_
            refine WL.x (X.assign rfl) (by decide) ?_
            refine WL.nil ?_
            refine WK.nThen ?_
            refine WC.ret ?_
            refine WK.rThen ?_
            refine WK.ret1 rfl rfl (fun w' hw' => Ret.exact hw' ?_)
            first | rfl | (exfalso; omega) | (exfalso; have q_ := hmw (by omega) (by omega) (by omega); simp_all; done) | exact congrArg Value.bool (hwk (by omega)) | exact (bool_true (by omega)).symm
          refine WL.x (X.pickT rfl rfl rfl) (by decide) ?_
          refine WL.nil ?_
          refine WK.nThen ?_
          refine WC.condF rfl ?_
          refine WC.skip ?_
          refine WK.nThen ?_
          refine WC.seq ?_
          refine WC.seq ?_
          refine WC.region ?_
          refine WL.x (X.move rfl) (by decide) ?_
          refine WL.cond (X.lss rfl rfl) (by decide) (fun h12 => ?_) (fun h12 => ?_)
          · refine WL.x (X.move rfl) (by decide) ?_
            refine WL.no rfl rfl rfl (by decide) ?_
            refine WL.no rfl rfl rfl (by decide) ?_
            refine WL.no rfl rfl rfl (by decide) ?_
            refine WL.no rfl rfl rfl (by decide) ?_
            refine WL.x (X.pickT rfl rfl rfl) (by decide) ?_
            refine WL.nil ?_
            refine WK.nThen ?_
            refine WC.condT rfl ?_
            refine WC.seq ?_
            refine WC.region ?_
            refine WL.x (X.move rfl) (by decide) ?_
            refine WL.x (X.assign rfl) (by decide) ?_
            refine WL.nil ?_
            refine WK.nThen ?_
            refine WC.ret ?_
            refine WK.rThen ?_
            refine WK.ret1 rfl rfl (fun w' hw' => Ret.exact hw' ?_)
            first | rfl | (exfalso; omega) | (exfalso; have q_ := hmw (by omega) (by omega) (by omega); simp_all; done) | exact congrArg Value.bool (hwk (by omega)) | exact (bool_true (by omega)).symm
          refine WL.x (X.move rfl) (by decide) ?_
          refine WL.yes rfl rfl ?_
          refine WL.x (X.move rfl) (by decide) ?_
          refine WL.yes rfl rfl ?_
          refine WL.x (X.move rfl) (by decide) ?_
          refine WL.yes rfl rfl ?_
          refine WL.x (X.len Try.runUnderlying24 rfl hl) (by decide) ?_
          refine WL.yes rfl rfl ?_
          refine WL.cond (X.geq rfl rfl) (by decide) (fun h13 => ?_) (fun h13 => ?_)
          · refine WL.x (X.pickF rfl rfl rfl) (by decide) ?_
            refine WL.nil ?_
            refine WK.nThen ?_
            refine WC.condT rfl ?_
            refine WC.seq ?_
            refine WC.region ?_
            refine WL.x (X.move rfl) (by decide) ?_
            refine WL.x (X.assign rfl) (by decide) ?_
            refine WL.nil ?_
            refine WK.nThen ?_
            refine WC.ret ?_
            refine WK.rThen ?_
            refine WK.ret1 rfl rfl (fun w' hw' => Ret.exact hw' ?_)
            first | rfl | (exfalso; omega) | (exfalso; have q_ := hmw (by omega) (by omega) (by omega); simp_all; done) | exact congrArg Value.bool (hwk (by omega)) | exact (bool_true (by omega)).symm
          refine WL.x (X.pickF rfl rfl rfl) (by decide) ?_
          refine WL.nil ?_
          refine WK.nThen ?_
          refine WC.condF rfl ?_
          refine WC.skip ?_
          refine WK.nThen ?_
          refine WK.freezeS (α := Wind) (x := w) 2 rfl rfl (show Enc.rd (α := Wind) m [.int .i64 (w.Fixed), .int .i64 (w.Each)] w from rfl) (fun m14 hle15 hp16 => ?_)
          replace hl := hl.mono hle15
          replace hlevels := hlevels.mono hle15
          refine WC.cut (G := Mem) (fun m17 => m17) (fun m17 => [blk b3 49 [.int .i64 (metres.Lo), .int .i64 (metres.Hi)], blk b2 23 [.int .i64 (more.Fixed), .int .i64 (more.Each)]]) (fun m17 => [(2, vl), (3, .int .i64 (week)), (4, vlevels), (5, .int .i64 (at_)), (7, .pointer (some (⟨b1, 0, none⟩))), (13, .pointer (some ⟨b3, 0, none⟩)), (15, .bool true), (20, .bool ((keepsR w (([] ++ (l.take ((at_ : Int).toNat))) ++ (l.drop ((at_ + 1 : Int).toNat))) week (([] ++ (levels.take ((at_ : Int).toNat))) ++ (levels.drop ((at_ + 1 : Int).toNat)))).1)), (21, .int .i64 ((keepsR w (([] ++ (l.take ((at_ : Int).toNat))) ++ (l.drop ((at_ + 1 : Int).toNat))) week (([] ++ (levels.take ((at_ : Int).toNat))) ++ (levels.drop ((at_ + 1 : Int).toNat)))).2))]) (fun m17 => m14.le m17) ?_ ?_
          · refine WC.draw (π := (.cons 0 (.cons 2 (.cons 3 (.cons 4 (.cons 6 (.cons 7 (.cons 8 (.cons 9 (.cons 11 (.cons 13 (.cons 14 (.cons 15 (.cons 17 (.cons 18 (.cons 19 (.cons 20 (.fork (.cons 1 (.fork (.cons 5 (.fork (.cons 10 (.cons 12 (.cons 16 (.cons 21 (.cons 22 (.cons 23 (.cons 24 (.cons 25 (.cons 26 (.cons 27 .done)))))))))) (.cons 12 (.cons 10 (.cons 16 (.cons 21 (.cons 22 (.cons 23 (.cons 24 (.cons 25 (.cons 26 (.cons 27 .done)))))))))))) (.cons 12 (.cons 5 (.cons 10 (.cons 16 (.cons 21 (.cons 22 (.cons 23 (.cons 24 (.cons 25 (.cons 26 (.cons 27 .done))))))))))))) (.cons 12 (.cons 1 (.cons 5 (.cons 10 (.cons 16 (.cons 21 (.cons 22 (.cons 23 (.cons 24 (.cons 25 (.cons 26 (.cons 27 .done)))))))))))))))))))))))))))))) [1, 5, 10, 12, 16, 21] [5, 10, 16, 21, 100000, 100008, 100009, 100015, 100019, 100020] rfl (by kernel_rfl) ?_
            refine DW.xfe rfl rfl rfl (EF.loadAgg Try.isAgg23 Try.sizeOf23 rfl hp16) (by decide) (fun c18 hc19 => ?_)
            obtain rfl := hc19
            refine DW.x rfl rfl (X.move rfl) (by decide) ?_
            refine DW.x rfl rfl (X.move rfl) (by decide) ?_
            refine DW.xe rfl rfl (E.slH ((at_ : Int).toNat) Try.underlying24 Try.sizeOf58 rfl rfl hl (by omega) (by omega)) (by decide) (fun v20 hs21 => ?_)
            refine DW.x rfl rfl (X.move rfl) (by decide) ?_
            refine DW.x rfl rfl (X.move rfl) (by decide) ?_
            refine DW.xf rfl rfl rfl (fun _ _ hle_ => (X.add rfl rfl (by omega) (by omega))) (by decide) ?_
            refine DW.xfe rfl rfl rfl (EF.slL ((at_ + 1 : Int).toNat) Try.underlying24 Try.sizeOf58 rfl rfl hl (by omega) (by omega)) (by decide) (fun v22 hs23 => ?_)
            refine DW.x rfl rfl (X.move rfl) (by decide) ?_
            refine DW.x rfl rfl (X.move rfl) (by decide) ?_
            refine DW.x rfl rfl (X.move rfl) (by decide) ?_
            refine DW.xfe rfl rfl rfl (EF.slH ((at_ : Int).toNat) Try.underlying31 Try.sizeOf3 rfl rfl hlevels (by omega) (by omega)) (by decide) (fun v24 hs25 => ?_)
            refine DW.x rfl rfl (X.move rfl) (by decide) ?_
            refine DW.x rfl rfl (X.move rfl) (by decide) ?_
            refine DW.xf rfl rfl rfl (fun _ _ hle_ => (X.add rfl rfl (by omega) (by omega))) (by decide) ?_
            refine DW.xfe rfl rfl rfl (EF.slL ((at_ + 1 : Int).toNat) Try.underlying31 Try.sizeOf3 rfl rfl hlevels (by omega) (by omega)) (by decide) (fun v26 hs27 => ?_)
            refine DW.fork (List.cons_ne_nil _ _) ?_ ?_
            · refine DW.tO rfl rfl rfl (OpTo.taO (T.lit0R sl24)) (by decide) (fun m29 Es_ v28 hle30 hR_ => ?_)
              subst hR_
              replace hl := hl.mono hle30
              replace hlevels := hlevels.mono hle30
              replace hp16 := hp16.mono hle30
              replace hs21 := hs21.mono hle30
              replace hs23 := hs23.mono hle30
              replace hs25 := hs25.mono hle30
              replace hs27 := hs27.mono hle30
              refine DW.fork (List.cons_ne_nil _ _) ?_ ?_
              · refine DW.te rfl rfl rfl rfl (T.appendR (α := Station) (k := 0) sl24 rfl rfl hs21 rfl RdL.nil (by first | omega | (simp; done) | (simp; omega)) (by first | omega | (simp; done) | (simp; omega))) (by decide) (fun v31 ys32 hx33 => ?_)
                refine DW.fork (List.cons_ne_nil _ _) ?_ ?_
                · refine DW.te rfl rfl rfl rfl (T.appendR (α := Station) (k := 0) sl24 rfl rfl hs23 rfl hx33 (by first | omega | (simp; done) | (simp; omega)) (by first | omega | (simp; done) | (simp; omega))) (by decide) (fun v34 ys35 hx36 => ?_)
                  refine DW.tO rfl rfl rfl (OpTo.taO (T.lit0 (α := Int) sl31 rfl)) (by decide) (fun m38 Es_ v37 hle39 hR_ => ?_)
                  subst hR_
                  replace hl := hl.mono hle39
                  replace hlevels := hlevels.mono hle39
                  replace hp16 := hp16.mono hle39
                  replace hs21 := hs21.mono hle39
                  replace hs23 := hs23.mono hle39
                  replace hs25 := hs25.mono hle39
                  replace hs27 := hs27.mono hle39
                  replace hx36 := hx36.mono hle39
                  refine DW.ta rfl rfl rfl rfl (T.appendI (k := 0) sl31 rfl rfl hs25 rfl (by first | omega | (simp; omega)) (by first | omega | (simp; omega))) (by decide) (fun v40 => ?_)
                  refine DW.ta rfl rfl rfl rfl (T.appendI (k := 0) sl31 rfl rfl hs27 rfl (by first | omega | (simp; omega)) (by first | omega | (simp; omega))) (by decide) (fun v41 => ?_)
                  refine DW.x rfl rfl (X.callL Try.call25 rfl (fun w_ hw_ => keeps25 _ _ w rfl _ _ (hw_.rowSl (k := 1) rfl (hx36) (by unfold lenB; first | (rw [wideL_len]; omega) | (simp; omega))) _ _ _ (hw_.rowFSl (k := 0) rfl (by unfold lenB; first | (rw [wideL_len]; omega) | (simp; omega))))) (by decide) ?_
                  refine DW.x rfl rfl (X.move rfl) (by decide) ?_
                  refine DW.x rfl rfl (X.extract rfl rfl) (by decide) ?_
                  refine DW.x rfl rfl (X.extract rfl rfl) (by decide) ?_
                  refine DW.x rfl rfl (X.assign rfl) (by decide) ?_
                  refine DW.x rfl rfl (X.assign rfl) (by decide) ?_
                  refine DW.nil ?_
                  refine WK.nThen ?_
                  refine WK.drop (H' := [blk b3 49 [.int .i64 (metres.Lo), .int .i64 (metres.Hi)], blk b2 23 [.int .i64 (more.Fixed), .int .i64 (more.Each)]]) (.cons _ (.cons _ (.cons_cons _ (.cons_cons _ (.refl _))))) ?_
                  exact WK.meet m38 rfl (.refl _) (.cons rfl (.cons rfl (.cons rfl (.cons rfl (.cons rfl (.cons rfl (.cons rfl (.cons rfl (.cons rfl .nil))))))))) (Mem.le_trans hle30 hle39)
                refine DW.tO rfl rfl rfl (OpTo.taO (T.lit0 (α := Int) sl31 rfl)) (by decide) (fun m43 Es_ v42 hle44 hR_ => ?_)
                subst hR_
                replace hl := hl.mono hle44
                replace hlevels := hlevels.mono hle44
                replace hp16 := hp16.mono hle44
                replace hs21 := hs21.mono hle44
                replace hs23 := hs23.mono hle44
                replace hs25 := hs25.mono hle44
                replace hs27 := hs27.mono hle44
                replace hx33 := hx33.mono hle44
                refine DW.te rfl rfl rfl rfl (T.appendR (α := Station) (k := 1) sl24 rfl rfl hs23 rfl hx33 (by first | omega | (simp; done) | (simp; omega)) (by first | omega | (simp; done) | (simp; omega))) (by decide) (fun v45 ys46 hx47 => ?_)
                refine DW.ta rfl rfl rfl rfl (T.appendI (k := 0) sl31 rfl rfl hs25 rfl (by first | omega | (simp; omega)) (by first | omega | (simp; omega))) (by decide) (fun v48 => ?_)
                refine DW.ta rfl rfl rfl rfl (T.appendI (k := 0) sl31 rfl rfl hs27 rfl (by first | omega | (simp; omega)) (by first | omega | (simp; omega))) (by decide) (fun v49 => ?_)
                refine DW.x rfl rfl (X.callL Try.call25 rfl (fun w_ hw_ => keeps25 _ _ w rfl _ _ (hw_.rowSl (k := 1) rfl (hx47) (by unfold lenB; first | (rw [wideL_len]; omega) | (simp; omega))) _ _ _ (hw_.rowFSl (k := 0) rfl (by unfold lenB; first | (rw [wideL_len]; omega) | (simp; omega))))) (by decide) ?_
                refine DW.x rfl rfl (X.move rfl) (by decide) ?_
                refine DW.x rfl rfl (X.extract rfl rfl) (by decide) ?_
                refine DW.x rfl rfl (X.extract rfl rfl) (by decide) ?_
                refine DW.x rfl rfl (X.assign rfl) (by decide) ?_
                refine DW.x rfl rfl (X.assign rfl) (by decide) ?_
                refine DW.nil ?_
                refine WK.nThen ?_
                refine WK.drop (H' := [blk b3 49 [.int .i64 (metres.Lo), .int .i64 (metres.Hi)], blk b2 23 [.int .i64 (more.Fixed), .int .i64 (more.Each)]]) (.cons _ (.cons _ (.cons_cons _ (.cons_cons _ (.refl _))))) ?_
                exact WK.meet m43 rfl (.refl _) (.cons rfl (.cons rfl (.cons rfl (.cons rfl (.cons rfl (.cons rfl (.cons rfl (.cons rfl (.cons rfl .nil))))))))) (Mem.le_trans hle30 hle44)
              refine DW.tO rfl rfl rfl (OpTo.taO (T.lit0 (α := Int) sl31 rfl)) (by decide) (fun m51 Es_ v50 hle52 hR_ => ?_)
              subst hR_
              replace hl := hl.mono hle52
              replace hlevels := hlevels.mono hle52
              replace hp16 := hp16.mono hle52
              replace hs21 := hs21.mono hle52
              replace hs23 := hs23.mono hle52
              replace hs25 := hs25.mono hle52
              replace hs27 := hs27.mono hle52
              refine DW.te rfl rfl rfl rfl (T.appendR (α := Station) (k := 1) sl24 rfl rfl hs21 rfl RdL.nil (by first | omega | (simp; done) | (simp; omega)) (by first | omega | (simp; done) | (simp; omega))) (by decide) (fun v53 ys54 hx55 => ?_)
              refine DW.te rfl rfl rfl rfl (T.appendR (α := Station) (k := 1) sl24 rfl rfl hs23 rfl hx55 (by first | omega | (simp; done) | (simp; omega)) (by first | omega | (simp; done) | (simp; omega))) (by decide) (fun v56 ys57 hx58 => ?_)
              refine DW.ta rfl rfl rfl rfl (T.appendI (k := 0) sl31 rfl rfl hs25 rfl (by first | omega | (simp; omega)) (by first | omega | (simp; omega))) (by decide) (fun v59 => ?_)
              refine DW.ta rfl rfl rfl rfl (T.appendI (k := 0) sl31 rfl rfl hs27 rfl (by first | omega | (simp; omega)) (by first | omega | (simp; omega))) (by decide) (fun v60 => ?_)
              refine DW.x rfl rfl (X.callL Try.call25 rfl (fun w_ hw_ => keeps25 _ _ w rfl _ _ (hw_.rowSl (k := 1) rfl (hx58) (by unfold lenB; first | (rw [wideL_len]; omega) | (simp; omega))) _ _ _ (hw_.rowFSl (k := 0) rfl (by unfold lenB; first | (rw [wideL_len]; omega) | (simp; omega))))) (by decide) ?_
              refine DW.x rfl rfl (X.move rfl) (by decide) ?_
              refine DW.x rfl rfl (X.extract rfl rfl) (by decide) ?_
              refine DW.x rfl rfl (X.extract rfl rfl) (by decide) ?_
              refine DW.x rfl rfl (X.assign rfl) (by decide) ?_
              refine DW.x rfl rfl (X.assign rfl) (by decide) ?_
              refine DW.nil ?_
              refine WK.nThen ?_
              refine WK.drop (H' := [blk b3 49 [.int .i64 (metres.Lo), .int .i64 (metres.Hi)], blk b2 23 [.int .i64 (more.Fixed), .int .i64 (more.Each)]]) (.cons _ (.cons _ (.cons_cons _ (.cons_cons _ (.refl _))))) ?_
              exact WK.meet m51 rfl (.refl _) (.cons rfl (.cons rfl (.cons rfl (.cons rfl (.cons rfl (.cons rfl (.cons rfl (.cons rfl (.cons rfl .nil))))))))) (Mem.le_trans hle30 hle52)
            refine DW.tO rfl rfl rfl (OpTo.taO (T.lit0 (α := Int) sl31 rfl)) (by decide) (fun m62 Es_ v61 hle63 hR_ => ?_)
            subst hR_
            replace hl := hl.mono hle63
            replace hlevels := hlevels.mono hle63
            replace hp16 := hp16.mono hle63
            replace hs21 := hs21.mono hle63
            replace hs23 := hs23.mono hle63
            replace hs25 := hs25.mono hle63
            replace hs27 := hs27.mono hle63
            refine DW.tO rfl rfl rfl (OpTo.taO (T.lit0R sl24)) (by decide) (fun m65 Es_ v64 hle66 hR_ => ?_)
            subst hR_
            replace hl := hl.mono hle66
            replace hlevels := hlevels.mono hle66
            replace hp16 := hp16.mono hle66
            replace hs21 := hs21.mono hle66
            replace hs23 := hs23.mono hle66
            replace hs25 := hs25.mono hle66
            replace hs27 := hs27.mono hle66
            refine DW.te rfl rfl rfl rfl (T.appendR (α := Station) (k := 0) sl24 rfl rfl hs21 rfl RdL.nil (by first | omega | (simp; done) | (simp; omega)) (by first | omega | (simp; done) | (simp; omega))) (by decide) (fun v67 ys68 hx69 => ?_)
            refine DW.te rfl rfl rfl rfl (T.appendR (α := Station) (k := 0) sl24 rfl rfl hs23 rfl hx69 (by first | omega | (simp; done) | (simp; omega)) (by first | omega | (simp; done) | (simp; omega))) (by decide) (fun v70 ys71 hx72 => ?_)
            refine DW.ta rfl rfl rfl rfl (T.appendI (k := 1) sl31 rfl rfl hs25 rfl (by first | omega | (simp; omega)) (by first | omega | (simp; omega))) (by decide) (fun v73 => ?_)
            refine DW.ta rfl rfl rfl rfl (T.appendI (k := 1) sl31 rfl rfl hs27 rfl (by first | omega | (simp; omega)) (by first | omega | (simp; omega))) (by decide) (fun v74 => ?_)
            refine DW.x rfl rfl (X.callL Try.call25 rfl (fun w_ hw_ => keeps25 _ _ w rfl _ _ (hw_.rowSl (k := 0) rfl (hx72) (by unfold lenB; first | (rw [wideL_len]; omega) | (simp; omega))) _ _ _ (hw_.rowFSl (k := 1) rfl (by unfold lenB; first | (rw [wideL_len]; omega) | (simp; omega))))) (by decide) ?_
            refine DW.x rfl rfl (X.move rfl) (by decide) ?_
            refine DW.x rfl rfl (X.extract rfl rfl) (by decide) ?_
            refine DW.x rfl rfl (X.extract rfl rfl) (by decide) ?_
            refine DW.x rfl rfl (X.assign rfl) (by decide) ?_
            refine DW.x rfl rfl (X.assign rfl) (by decide) ?_
            refine DW.nil ?_
            refine WK.nThen ?_
            refine WK.drop (H' := [blk b3 49 [.int .i64 (metres.Lo), .int .i64 (metres.Hi)], blk b2 23 [.int .i64 (more.Fixed), .int .i64 (more.Each)]]) (.cons _ (.cons _ (.cons_cons _ (.cons_cons _ (.refl _))))) ?_
            exact WK.meet m65 rfl (.refl _) (.cons rfl (.cons rfl (.cons rfl (.cons rfl (.cons rfl (.cons rfl (.cons rfl (.cons rfl (.cons rfl .nil))))))))) (Mem.le_trans hle63 hle66)
          rintro m17 hle75
          show WK _ _ m17 [blk b3 49 [.int .i64 (metres.Lo), .int .i64 (metres.Hi)], blk b2 23 [.int .i64 (more.Fixed), .int .i64 (more.Each)]] [(2, vl), (3, .int .i64 (week)), (4, vlevels), (5, .int .i64 (at_)), (7, .pointer (some (⟨b1, 0, none⟩))), (13, .pointer (some ⟨b3, 0, none⟩)), (15, .bool true), (20, .bool ((keepsR w (([] ++ (l.take ((at_ : Int).toNat))) ++ (l.drop ((at_ + 1 : Int).toNat))) week (([] ++ (levels.take ((at_ : Int).toNat))) ++ (levels.drop ((at_ + 1 : Int).toNat)))).1)), (21, .int .i64 ((keepsR w (([] ++ (l.take ((at_ : Int).toNat))) ++ (l.drop ((at_ + 1 : Int).toNat))) week (([] ++ (levels.take ((at_ : Int).toNat))) ++ (levels.drop ((at_ + 1 : Int).toNat)))).2))] _
          replace hl := hl.mono hle75
          replace hlevels := hlevels.mono hle75
          replace hp16 := hp16.mono hle75
          refine WC.seq ?_
          refine WC.seq ?_
          have hk2 : keepsR w (([] ++ (l.take ((at_ : Int).toNat))) ++ (l.drop ((at_ + 1 : Int).toNat))) week (([] ++ (levels.take ((at_ : Int).toNat))) ++ (levels.drop ((at_ + 1 : Int).toNat))) = (true, 0) := (by have e1_ := out_keeps hk (a := at_.toNat) (by omega); unfold outL at e1_; simpa [show (at_ + 1).toNat = at_.toNat + 1 by omega] using e1_)
          rw [(by rw [hk2] : (keepsR w (([] ++ (l.take ((at_ : Int).toNat))) ++ (l.drop ((at_ + 1 : Int).toNat))) week (([] ++ (levels.take ((at_ : Int).toNat))) ++ (levels.drop ((at_ + 1 : Int).toNat)))).1 = true)]
          rw [(by rw [hk2] : (keepsR w (([] ++ (l.take ((at_ : Int).toNat))) ++ (l.drop ((at_ + 1 : Int).toNat))) week (([] ++ (levels.take ((at_ : Int).toNat))) ++ (levels.drop ((at_ + 1 : Int).toNat)))).2 = 0)]
          refine WC.region ?_
          refine WL.x (X.move rfl) (by decide) ?_
          refine WL.x (X.neq rfl rfl) (by decide) ?_
          refine WL.x (X.move rfl) (by decide) ?_
          refine WL.yes rfl rfl ?_
          refine WL.x (X.move rfl) (by decide) ?_
          refine WL.yes rfl rfl ?_
          refine WL.x (X.not rfl) (by decide) ?_
          refine WL.x (X.pickF rfl rfl rfl) (by decide) ?_
          refine WL.nil ?_
          refine WK.nThen ?_
          refine WC.condF rfl ?_
          refine WC.skip ?_
          refine WK.nThen ?_
          refine WC.seq ?_
          refine WC.region ?_
          refine WL.x (X.move rfl) (by decide) ?_
          refine WL.x (X.move rfl) (by decide) ?_
          refine WL.xe (E.idx Try.runUnderlying24 Try.sizeOf58 rfl rfl hl (by omega) (by omega)) (by decide) (fun p76 hp77 => ?_)
          refine WL.xe (E.loadAgg Try.isAgg58 Try.sizeOf58 rfl hp77) (by decide) (fun c78 hc79 => ?_)
          obtain ⟨v80, rfl, hs81⟩ := hc79
          have hl82 := hs81.le
          refine WL.x (X.move rfl) (by decide) ?_
          refine WL.x (X.call Try.call49 rfl (height49 _ _ (gt l ((at_ : Int).toNat)) ⟨_, rfl, hs81⟩ _ )) (by decide) ?_
          refine WL.x (X.move rfl) (by decide) ?_
          refine WL.x (X.extract rfl rfl) (by decide) ?_
          refine WL.x (X.extract rfl rfl) (by decide) ?_
          refine WL.tn (T.alloc Try.zeroValue49 rfl) (by decide) fun b83 => ?_
          refine WL.ts (T.storeBA (k := 0) Try.sizeOf49 rfl rfl rfl (one_cons rfl (one_cons rfl one_nil)) rfl rfl) ?_
          refine WL.x (X.assign rfl) (by decide) ?_
          refine WL.nil ?_
          refine WK.nThen ?_
          refine WC.seq ?_
          refine WC.seq ?_
          have hh := more_height hk (a := at_.toNat) (by omega)
          have hh1 : (heightR (gt l at_.toNat) week).2 = 0 := (by rw [hh])
          have hh2 : (heightR (gt l at_.toNat) week).1.Lo = (heightS (gt l at_.toNat) week).Lo := (by rw [hh])
          have hh3 : (heightR (gt l at_.toNat) week).1.Hi = (heightS (gt l at_.toNat) week).Hi := (by rw [hh])
          refine WC.region ?_
          refine WL.x (X.move rfl) (by decide) ?_
          refine WL.condn (X.neq rfl rfl) (by decide) (fun h84 => ?_) (fun h84 => ?_)
          · refine WL.x (X.move rfl) (by decide) ?_
            refine WL.no rfl rfl rfl (by decide) ?_
            refine WL.no rfl rfl rfl (by decide) ?_
            refine WL.no rfl rfl rfl (by decide) ?_
            refine WL.no rfl rfl rfl (by decide) ?_
            refine WL.no rfl rfl rfl (by decide) ?_
            refine WL.x (X.pickT rfl rfl rfl) (by decide) ?_
            refine WL.x (X.move rfl) (by decide) ?_
            refine WL.no rfl rfl rfl (by decide) ?_
            refine WL.no rfl rfl rfl (by decide) ?_
            refine WL.no rfl rfl rfl (by decide) ?_
            refine WL.no rfl rfl rfl (by decide) ?_
            refine WL.no rfl rfl rfl (by decide) ?_
            refine WL.x (X.pickT rfl rfl rfl) (by decide) ?_
            refine WL.nil ?_
            refine WK.nThen ?_
            refine WC.condT rfl ?_
            refine WC.seq ?_
            refine WC.region ?_
            refine WL.x (X.move rfl) (by decide) ?_
            refine WL.x (X.move rfl) (by decide) ?_
            refine WL.yes rfl rfl ?_
            refine WL.x (X.move rfl) (by decide) ?_
            refine WL.yes rfl rfl ?_
            refine WL.x (X.eql rfl rfl) (by decide) ?_
            refine WL.x (X.pickT rfl rfl rfl) (by decide) ?_
            refine WL.x (X.assign rfl) (by decide) ?_
            refine WL.nil ?_
            refine WK.nThen ?_
            refine WC.ret ?_
            refine WK.rThen ?_
            refine WK.ret1 rfl rfl (fun w' hw' => Ret.exact hw' ?_)
            first | rfl | (exfalso; omega) | (exfalso; have q_ := hmw (by omega) (by omega) (by omega); simp_all; done) | exact congrArg Value.bool (hwk (by omega)) | exact (bool_true (by omega)).symm
          refine WL.x (X.move rfl) (by decide) ?_
          refine WL.yes rfl rfl ?_
          refine WL.x (X.field Try.runUnderlying49 rfl Try.sizeOf3 rfl) (by decide) ?_
          refine WL.yes rfl rfl ?_
          refine WL.x (X.loadB (k := 1) Try.isAgg3 rfl rfl rfl) (by decide) ?_
          refine WL.yes rfl rfl ?_
          refine WL.x (X.field Try.runUnderlying49 rfl Try.sizeOf3 rfl) (by decide) ?_
          refine WL.yes rfl rfl ?_
          refine WL.x (X.loadB (k := 0) Try.isAgg3 rfl rfl rfl) (by decide) ?_
          refine WL.yes rfl rfl ?_
          refine WL.cond (X.gtr rfl rfl) (by decide) (fun h85 => ?_) (fun h85 => ?_)
          · refine WL.x (X.pickF rfl rfl rfl) (by decide) ?_
            refine WL.x (X.move rfl) (by decide) ?_
            refine WL.no rfl rfl rfl (by decide) ?_
            refine WL.no rfl rfl rfl (by decide) ?_
            refine WL.no rfl rfl rfl (by decide) ?_
            refine WL.no rfl rfl rfl (by decide) ?_
            refine WL.no rfl rfl rfl (by decide) ?_
            refine WL.x (X.pickT rfl rfl rfl) (by decide) ?_
            refine WL.nil ?_
            refine WK.nThen ?_
            refine WC.condT rfl ?_
            refine WC.seq ?_
            refine WC.region ?_
            refine WL.x (X.move rfl) (by decide) ?_
            refine WL.x (X.move rfl) (by decide) ?_
            refine WL.yes rfl rfl ?_
            refine WL.x (X.move rfl) (by decide) ?_
            refine WL.yes rfl rfl ?_
            refine WL.x (X.eql rfl rfl) (by decide) ?_
            refine WL.x (X.pickT rfl rfl rfl) (by decide) ?_
            refine WL.x (X.assign rfl) (by decide) ?_
            refine WL.nil ?_
            refine WK.nThen ?_
            refine WC.ret ?_
            refine WK.rThen ?_
            refine WK.ret1 rfl rfl (fun w' hw' => Ret.exact hw' ?_)
            first | rfl | (exfalso; omega) | (exfalso; have q_ := hmw (by omega) (by omega) (by omega); simp_all; done) | exact congrArg Value.bool (hwk (by omega)) | exact (bool_true (by omega)).symm
          refine WL.x (X.pickF rfl rfl rfl) (by decide) ?_
          refine WL.x (X.move rfl) (by decide) ?_
          refine WL.yes rfl rfl ?_
          refine WL.x (X.field Try.runUnderlying49 rfl Try.sizeOf3 rfl) (by decide) ?_
          refine WL.yes rfl rfl ?_
          refine WL.x (X.loadB (k := 1) Try.isAgg3 rfl rfl rfl) (by decide) ?_
          refine WL.yes rfl rfl ?_
          refine WL.x (X.field Try.runUnderlying49 rfl Try.sizeOf3 rfl) (by decide) ?_
          refine WL.yes rfl rfl ?_
          refine WL.x (X.loadB (k := 0) Try.isAgg3 rfl rfl rfl) (by decide) ?_
          refine WL.yes rfl rfl ?_
          refine WL.cond (X.lss rfl rfl) (by decide) (fun h86 => ?_) (fun h86 => ?_)
          · refine WL.x (X.pickF rfl rfl rfl) (by decide) ?_
            refine WL.nil ?_
            refine WK.nThen ?_
            refine WC.condT rfl ?_
            refine WC.seq ?_
            refine WC.region ?_
            refine WL.x (X.move rfl) (by decide) ?_
            refine WL.x (X.move rfl) (by decide) ?_
            refine WL.yes rfl rfl ?_
            refine WL.x (X.move rfl) (by decide) ?_
            refine WL.yes rfl rfl ?_
            refine WL.x (X.eql rfl rfl) (by decide) ?_
            refine WL.x (X.pickT rfl rfl rfl) (by decide) ?_
            refine WL.x (X.assign rfl) (by decide) ?_
            refine WL.nil ?_
            refine WK.nThen ?_
            refine WC.ret ?_
            refine WK.rThen ?_
            refine WK.ret1 rfl rfl (fun w' hw' => Ret.exact hw' ?_)
            first | rfl | (exfalso; omega) | (exfalso; have q_ := hmw (by omega) (by omega) (by omega); simp_all; done) | exact congrArg Value.bool (hwk (by omega)) | exact (bool_true (by omega)).symm
          refine WL.x (X.pickF rfl rfl rfl) (by decide) ?_
          refine WL.nil ?_
          refine WK.nThen ?_
          refine WC.condF rfl ?_
          refine WC.skip ?_
          refine WK.nThen ?_
          refine WC.seq ?_
          refine WC.region ?_
          refine WL.ta (T.lit0R sl24) (by decide) (fun v87 => ?_)
          refine WL.x (X.move rfl) (by decide) ?_
          refine WL.te (T.appendR (α := Station) (k := 0) sl24 rfl rfl hl rfl RdL.nil (by first | omega | (simp; done) | (simp; omega)) (by first | omega | (simp; done) | (simp; omega))) (by decide) (fun v88 ys89 hx90 => ?_)
          refine WL.x (X.assign rfl) (by decide) ?_
          refine WL.nil ?_
          refine WK.nThen ?_
          refine WC.seq ?_
          refine WK.freezeS (α := Span) (x := metres) 2 rfl rfl (show Enc.rd (α := Span) m17 [.int .i64 (metres.Lo), .int .i64 (metres.Hi)] metres from rfl) (fun m91 hle92 hp93 => ?_)
          replace hl := hl.mono hle92
          replace hlevels := hlevels.mono hle92
          replace hp16 := hp16.mono hle92
          replace hp77 := hp77.mono hle92
          replace hs81 := hs81.mono hle92
          replace hx90 := hx90.mono hle92
          refine WC.draw (π := (.cons 0 (.cons 1 (.cons 2 (.cons 3 (.cons 4 (.cons 5 (.cons 6 (.cons 7 (.cons 8 (.cons 9 (.cons 10 (.cons 11 (.cons 12 (.cons 13 (.cons 14 (.cons 15 (.cons 16 (.cons 17 (.cons 18 (.cons 19 (.cons 20 (.cons 21 (.cons 22 .done)))))))))))))))))))))))) [19, 22] [22] rfl (by kernel_rfl) ?_
          refine DW.x rfl rfl (X.move rfl) (by decide) ?_
          refine DW.x rfl rfl (X.move rfl) (by decide) ?_
          refine DW.x rfl rfl (X.move rfl) (by decide) ?_
          refine DW.x rfl rfl (X.move rfl) (by decide) ?_
          refine DW.xe rfl rfl (E.idx Try.runUnderlying24 Try.sizeOf58 rfl rfl hl (by omega) (by omega)) (by decide) (fun p94 hp95 => ?_)
          have hp96 := At.Station_0 hp95
          refine DW.x rfl rfl (X.field Try.runUnderlying58 rfl Try.sizeOf3 rfl) (by decide) ?_
          refine DW.x rfl rfl (X.loadInt Try.isAgg3 rfl hp96) (by decide) ?_
          refine DW.x rfl rfl (X.move rfl) (by decide) ?_
          refine DW.x rfl rfl (X.move rfl) (by decide) ?_
          refine DW.xe rfl rfl (E.idx Try.runUnderlying24 Try.sizeOf58 rfl rfl hl (by omega) (by omega)) (by decide) (fun p97 hp98 => ?_)
          have hp99 := At.Station_1 hp98
          refine DW.x rfl rfl (X.field Try.runUnderlying58 rfl Try.sizeOf3 rfl) (by decide) ?_
          refine DW.x rfl rfl (X.loadInt Try.isAgg3 rfl hp99) (by decide) ?_
          refine DW.x rfl rfl (X.move rfl) (by decide) ?_
          refine DW.x rfl rfl (X.move rfl) (by decide) ?_
          refine DW.xe rfl rfl (E.idx Try.runUnderlying24 Try.sizeOf58 rfl rfl hl (by omega) (by omega)) (by decide) (fun p100 hp101 => ?_)
          have hp102 := At.Station_2 hp101
          refine DW.x rfl rfl (X.field Try.runUnderlying58 rfl Try.sizeOf3 rfl) (by decide) ?_
          refine DW.x rfl rfl (X.loadInt Try.isAgg3 rfl hp102) (by decide) ?_
          refine DW.xe rfl rfl (E.loadAgg Try.isAgg49 Try.sizeOf49 rfl hp93) (by decide) (fun c103 hc104 => ?_)
          obtain rfl := hc104
          refine DW.x (V := Value.agg [.int .i64 (0), .int .i64 (metres.Lo), .int .i64 (metres.Hi)].toArray) rfl rfl (X.build Try.zeroValue71 Try.runUnderlying71 (places71 _ Try.underlying71) rfl rfl) (by decide) ?_
          refine DW.tm rfl rfl rfl (T.litM (α := Height) (vals := [.agg [.int .i64 (0), .int .i64 (metres.Lo), .int .i64 (metres.Hi)].toArray]) (L := [(Height.mk (0) (metres))]) sl56 rfl (.cons rfl rfl .nil) rfl rfl) (by decide) (fun m105 v106 hle107 hs108 => ?_)
          replace hl := hl.mono hle107
          replace hlevels := hlevels.mono hle107
          replace hp16 := hp16.mono hle107
          replace hp77 := hp77.mono hle107
          replace hs81 := hs81.mono hle107
          replace hx90 := hx90.mono hle107
          replace hp93 := hp93.mono hle107
          replace hp95 := hp95.mono hle107
          replace hp96 := hp96.mono hle107
          replace hp98 := hp98.mono hle107
          replace hp99 := hp99.mono hle107
          replace hp101 := hp101.mono hle107
          replace hp102 := hp102.mono hle107
          refine DW.x (V := Value.agg [.int .i64 ((gt l ((at_ : Int).toNat)).ID), .int .i64 ((gt l ((at_ : Int).toNat)).X), .int .i64 ((gt l ((at_ : Int).toNat)).Y), v106].toArray) rfl rfl (X.build Try.zeroValue58 Try.runUnderlying58 (places58 _ Try.underlying58) rfl (by simp only [Instr.fill, one_cells hs108.one]; rfl)) (by decide) ?_
          refine DW.x rfl rfl (X.idxRow (k := 0) Try.runUnderlying24 Try.sizeOf58 rfl rfl rfl (by first | omega | (simp; omega) | simp) (by first | omega | (simp; omega) | simp)) (by decide) ?_
          refine DW.te0 rfl rfl rfl rfl (T.storeRs (k := 0) (i := ((at_ : Int).toNat)) (us := [.int .i64 ((gt l ((at_ : Int).toNat)).ID), .int .i64 ((gt l ((at_ : Int).toNat)).X), .int .i64 ((gt l ((at_ : Int).toNat)).Y), v106]) (a := ((Station.mk ((gt l ((at_ : Int).toNat)).ID) ((gt l ((at_ : Int).toNat)).X) ((gt l ((at_ : Int).toNat)).Y) ([(Height.mk (0) (metres))])))) Try.sizeOf58 rfl rfl rfl rfl (Nat.zero_lt_succ _) rfl (by first | omega | (simp; omega) | simp) hx90 ⟨_, rfl, hs108⟩ (one_cons rfl (one_cons rfl (one_cons rfl (one_cons hs108.one one_nil))))) (fun ys109 hx110 => ?_)
          refine DW.nil ?_
          refine WK.nThen ?_
          refine WC.seq ?_
          have he111 : (([] ++ l).set ((at_ : Int).toNat) ((Station.mk ((gt l ((at_ : Int).toNat)).ID) ((gt l ((at_ : Int).toNat)).X) ((gt l ((at_ : Int).toNat)).Y) ([(Height.mk (0) (metres))])))) = ((wideL l at_.toNat metres)) := (by unfold wideL; rw [List.nil_append])
          rw [he111]
          rw [he111] at hx110
          refine WC.region ?_
          refine WL.xe (E.loadAgg Try.isAgg23 Try.sizeOf23 rfl hp16) (by decide) (fun c112 hc113 => ?_)
          obtain rfl := hc113
          refine WL.x (X.move rfl) (by decide) ?_
          refine WL.x (X.move rfl) (by decide) ?_
          refine WL.x (X.move rfl) (by decide) ?_
          refine WL.x (X.callL Try.call25 rfl (fun w_ hw_ => keeps25 _ _ w rfl _ _ (hw_.rowSl (k := 0) rfl (hx110) (by unfold lenB; first | (rw [wideL_len]; omega) | (simp; omega))) _ _ _ (hlevels.mono hw_.leAll))) (by decide) ?_
          refine WL.x (X.move rfl) (by decide) ?_
          refine WL.x (X.extract rfl rfl) (by decide) ?_
          refine WL.x (X.extract rfl rfl) (by decide) ?_
          refine WL.x (X.assign rfl) (by decide) ?_
          refine WL.x (X.assign rfl) (by decide) ?_
          refine WL.nil ?_
          refine WK.nThen ?_
          refine WC.seq ?_
          have hwk := fun h_ => wide_keeps hk (a := at_.toNat) (by omega) (m := metres) (by omega) (by omega) h_
          refine WC.region ?_
          refine WL.x (X.move rfl) (by decide) ?_
          refine WL.x (X.move rfl) (by decide) ?_
          refine WL.yes rfl rfl ?_
          refine WL.x (X.move rfl) (by decide) ?_
          refine WL.yes rfl rfl ?_
          refine WL.condn (X.neq rfl rfl) (by decide) (fun h114 => ?_) (fun h114 => ?_)
          · refine WL.yes rfl rfl ?_
            refine WL.x (X.move rfl) (by decide) ?_
            refine WL.no rfl rfl rfl (by decide) ?_
            refine WL.yes rfl rfl ?_
            refine WL.x (X.pickT rfl rfl rfl) (by decide) ?_
            refine WL.x (X.pickT rfl rfl rfl) (by decide) ?_
            refine WL.x (X.assign rfl) (by decide) ?_
            refine WL.nil ?_
            refine WK.nThen ?_
            refine WC.ret ?_
            refine WK.ret1 rfl rfl (fun w' hw' => Ret.exact hw' ?_)
            first | rfl | (exfalso; omega) | (exfalso; have q_ := hmw (by omega) (by omega) (by omega); simp_all; done) | exact congrArg Value.bool (hwk (by omega)) | exact (bool_true (by omega)).symm
          refine WL.yes rfl rfl ?_
          refine WL.x (X.move rfl) (by decide) ?_
          refine WL.yes rfl rfl ?_
          refine WL.x (X.move rfl) (by decide) ?_
          refine WL.yes rfl rfl ?_
          refine WL.x (X.pickF rfl rfl rfl) (by decide) ?_
          refine WL.x (X.pickT rfl rfl rfl) (by decide) ?_
          refine WL.x (X.assign rfl) (by decide) ?_
          refine WL.nil ?_
          refine WK.nThen ?_
          refine WC.ret ?_
          refine WK.ret1 rfl rfl (fun w' hw' => Ret.exact hw' ?_)
          first | rfl | (exfalso; omega) | (exfalso; have q_ := hmw (by omega) (by omega) (by omega); simp_all; done) | exact congrArg Value.bool (hwk (by omega)) | exact (bool_true (by omega)).symm
        refine WL.x (X.pickT rfl rfl rfl) (by decide) ?_
        refine WL.x (X.move rfl) (by decide) ?_
        refine WL.no rfl rfl rfl (by decide) ?_
        refine WL.no rfl rfl rfl (by decide) ?_
        refine WL.x (X.pickF rfl rfl rfl) (by decide) ?_
        refine WL.nil ?_
        refine WK.nThen ?_
        refine WC.condF rfl ?_
        refine WC.skip ?_
        refine WK.nThen ?_
        refine WC.seq ?_
        refine WC.seq ?_
        refine WC.region ?_
        refine WL.x (X.move rfl) (by decide) ?_
        refine WL.cond (X.lss rfl rfl) (by decide) (fun h115 => ?_) (fun h115 => ?_)
        · refine WL.x (X.move rfl) (by decide) ?_
          refine WL.no rfl rfl rfl (by decide) ?_
          refine WL.no rfl rfl rfl (by decide) ?_
          refine WL.no rfl rfl rfl (by decide) ?_
          refine WL.no rfl rfl rfl (by decide) ?_
          refine WL.x (X.pickT rfl rfl rfl) (by decide) ?_
          refine WL.nil ?_
          refine WK.nThen ?_
          refine WC.condT rfl ?_
          refine WC.seq ?_
          refine WC.region ?_
          refine WL.x (X.move rfl) (by decide) ?_
          refine WL.x (X.assign rfl) (by decide) ?_
          refine WL.nil ?_
          refine WK.nThen ?_
          refine WC.ret ?_
          refine WK.rThen ?_
          refine WK.ret1 rfl rfl (fun w' hw' => Ret.exact hw' ?_)
          first | rfl | (exfalso; omega) | (exfalso; have q_ := hmw (by omega) (by omega) (by omega); simp_all; done) | exact congrArg Value.bool (hwk (by omega)) | exact (bool_true (by omega)).symm
        refine WL.x (X.move rfl) (by decide) ?_
        refine WL.yes rfl rfl ?_
        refine WL.x (X.move rfl) (by decide) ?_
        refine WL.yes rfl rfl ?_
        refine WL.x (X.move rfl) (by decide) ?_
        refine WL.yes rfl rfl ?_
        refine WL.x (X.len Try.runUnderlying24 rfl hl) (by decide) ?_
        refine WL.yes rfl rfl ?_
        refine WL.cond (X.geq rfl rfl) (by decide) (fun h116 => ?_) (fun h116 => ?_)
        · refine WL.x (X.pickF rfl rfl rfl) (by decide) ?_
          refine WL.nil ?_
          refine WK.nThen ?_
          refine WC.condT rfl ?_
          refine WC.seq ?_
          refine WC.region ?_
          refine WL.x (X.move rfl) (by decide) ?_
          refine WL.x (X.assign rfl) (by decide) ?_
          refine WL.nil ?_
          refine WK.nThen ?_
          refine WC.ret ?_
          refine WK.rThen ?_
          refine WK.ret1 rfl rfl (fun w' hw' => Ret.exact hw' ?_)
          first | rfl | (exfalso; omega) | (exfalso; have q_ := hmw (by omega) (by omega) (by omega); simp_all; done) | exact congrArg Value.bool (hwk (by omega)) | exact (bool_true (by omega)).symm
        refine WL.x (X.pickF rfl rfl rfl) (by decide) ?_
        refine WL.nil ?_
        refine WK.nThen ?_
        refine WC.condF rfl ?_
        refine WC.skip ?_
        refine WK.nThen ?_
        refine WK.freezeS (α := Wind) (x := w) 2 rfl rfl (show Enc.rd (α := Wind) m [.int .i64 (w.Fixed), .int .i64 (w.Each)] w from rfl) (fun m117 hle118 hp119 => ?_)
        replace hl := hl.mono hle118
        replace hlevels := hlevels.mono hle118
        refine WC.cut (G := Mem) (fun m120 => m120) (fun m120 => [blk b3 49 [.int .i64 (metres.Lo), .int .i64 (metres.Hi)], blk b2 23 [.int .i64 (more.Fixed), .int .i64 (more.Each)]]) (fun m120 => [(2, vl), (3, .int .i64 (week)), (4, vlevels), (5, .int .i64 (at_)), (7, .pointer (some (⟨b1, 0, none⟩))), (13, .pointer (some ⟨b3, 0, none⟩)), (15, .bool true), (20, .bool ((keepsR w (([] ++ (l.take ((at_ : Int).toNat))) ++ (l.drop ((at_ + 1 : Int).toNat))) week (([] ++ (levels.take ((at_ : Int).toNat))) ++ (levels.drop ((at_ + 1 : Int).toNat)))).1)), (21, .int .i64 ((keepsR w (([] ++ (l.take ((at_ : Int).toNat))) ++ (l.drop ((at_ + 1 : Int).toNat))) week (([] ++ (levels.take ((at_ : Int).toNat))) ++ (levels.drop ((at_ + 1 : Int).toNat)))).2))]) (fun m120 => m117.le m120) ?_ ?_
        · refine WC.draw (π := (.cons 0 (.cons 2 (.cons 3 (.cons 4 (.cons 6 (.cons 7 (.cons 8 (.cons 9 (.cons 11 (.cons 13 (.cons 14 (.cons 15 (.cons 17 (.cons 18 (.cons 19 (.cons 20 (.fork (.cons 1 (.fork (.cons 5 (.fork (.cons 10 (.cons 12 (.cons 16 (.cons 21 (.cons 22 (.cons 23 (.cons 24 (.cons 25 (.cons 26 (.cons 27 .done)))))))))) (.cons 12 (.cons 10 (.cons 16 (.cons 21 (.cons 22 (.cons 23 (.cons 24 (.cons 25 (.cons 26 (.cons 27 .done)))))))))))) (.cons 12 (.cons 5 (.cons 10 (.cons 16 (.cons 21 (.cons 22 (.cons 23 (.cons 24 (.cons 25 (.cons 26 (.cons 27 .done))))))))))))) (.cons 12 (.cons 1 (.cons 5 (.cons 10 (.cons 16 (.cons 21 (.cons 22 (.cons 23 (.cons 24 (.cons 25 (.cons 26 (.cons 27 .done)))))))))))))))))))))))))))))) [1, 5, 10, 12, 16, 21] [5, 10, 16, 21, 100000, 100008, 100009, 100015, 100019, 100020] rfl (by kernel_rfl) ?_
          refine DW.xfe rfl rfl rfl (EF.loadAgg Try.isAgg23 Try.sizeOf23 rfl hp119) (by decide) (fun c121 hc122 => ?_)
          obtain rfl := hc122
          refine DW.x rfl rfl (X.move rfl) (by decide) ?_
          refine DW.x rfl rfl (X.move rfl) (by decide) ?_
          refine DW.xe rfl rfl (E.slH ((at_ : Int).toNat) Try.underlying24 Try.sizeOf58 rfl rfl hl (by omega) (by omega)) (by decide) (fun v123 hs124 => ?_)
          refine DW.x rfl rfl (X.move rfl) (by decide) ?_
          refine DW.x rfl rfl (X.move rfl) (by decide) ?_
          refine DW.xf rfl rfl rfl (fun _ _ hle_ => (X.add rfl rfl (by omega) (by omega))) (by decide) ?_
          refine DW.xfe rfl rfl rfl (EF.slL ((at_ + 1 : Int).toNat) Try.underlying24 Try.sizeOf58 rfl rfl hl (by omega) (by omega)) (by decide) (fun v125 hs126 => ?_)
          refine DW.x rfl rfl (X.move rfl) (by decide) ?_
          refine DW.x rfl rfl (X.move rfl) (by decide) ?_
          refine DW.x rfl rfl (X.move rfl) (by decide) ?_
          refine DW.xfe rfl rfl rfl (EF.slH ((at_ : Int).toNat) Try.underlying31 Try.sizeOf3 rfl rfl hlevels (by omega) (by omega)) (by decide) (fun v127 hs128 => ?_)
          refine DW.x rfl rfl (X.move rfl) (by decide) ?_
          refine DW.x rfl rfl (X.move rfl) (by decide) ?_
          refine DW.xf rfl rfl rfl (fun _ _ hle_ => (X.add rfl rfl (by omega) (by omega))) (by decide) ?_
          refine DW.xfe rfl rfl rfl (EF.slL ((at_ + 1 : Int).toNat) Try.underlying31 Try.sizeOf3 rfl rfl hlevels (by omega) (by omega)) (by decide) (fun v129 hs130 => ?_)
          refine DW.fork (List.cons_ne_nil _ _) ?_ ?_
          · refine DW.tO rfl rfl rfl (OpTo.taO (T.lit0R sl24)) (by decide) (fun m132 Es_ v131 hle133 hR_ => ?_)
            subst hR_
            replace hl := hl.mono hle133
            replace hlevels := hlevels.mono hle133
            replace hp119 := hp119.mono hle133
            replace hs124 := hs124.mono hle133
            replace hs126 := hs126.mono hle133
            replace hs128 := hs128.mono hle133
            replace hs130 := hs130.mono hle133
            refine DW.fork (List.cons_ne_nil _ _) ?_ ?_
            · refine DW.te rfl rfl rfl rfl (T.appendR (α := Station) (k := 0) sl24 rfl rfl hs124 rfl RdL.nil (by first | omega | (simp; done) | (simp; omega)) (by first | omega | (simp; done) | (simp; omega))) (by decide) (fun v134 ys135 hx136 => ?_)
              refine DW.fork (List.cons_ne_nil _ _) ?_ ?_
              · refine DW.te rfl rfl rfl rfl (T.appendR (α := Station) (k := 0) sl24 rfl rfl hs126 rfl hx136 (by first | omega | (simp; done) | (simp; omega)) (by first | omega | (simp; done) | (simp; omega))) (by decide) (fun v137 ys138 hx139 => ?_)
                refine DW.tO rfl rfl rfl (OpTo.taO (T.lit0 (α := Int) sl31 rfl)) (by decide) (fun m141 Es_ v140 hle142 hR_ => ?_)
                subst hR_
                replace hl := hl.mono hle142
                replace hlevels := hlevels.mono hle142
                replace hp119 := hp119.mono hle142
                replace hs124 := hs124.mono hle142
                replace hs126 := hs126.mono hle142
                replace hs128 := hs128.mono hle142
                replace hs130 := hs130.mono hle142
                replace hx139 := hx139.mono hle142
                refine DW.ta rfl rfl rfl rfl (T.appendI (k := 0) sl31 rfl rfl hs128 rfl (by first | omega | (simp; omega)) (by first | omega | (simp; omega))) (by decide) (fun v143 => ?_)
                refine DW.ta rfl rfl rfl rfl (T.appendI (k := 0) sl31 rfl rfl hs130 rfl (by first | omega | (simp; omega)) (by first | omega | (simp; omega))) (by decide) (fun v144 => ?_)
                refine DW.x rfl rfl (X.callL Try.call25 rfl (fun w_ hw_ => keeps25 _ _ w rfl _ _ (hw_.rowSl (k := 1) rfl (hx139) (by unfold lenB; first | (rw [wideL_len]; omega) | (simp; omega))) _ _ _ (hw_.rowFSl (k := 0) rfl (by unfold lenB; first | (rw [wideL_len]; omega) | (simp; omega))))) (by decide) ?_
                refine DW.x rfl rfl (X.move rfl) (by decide) ?_
                refine DW.x rfl rfl (X.extract rfl rfl) (by decide) ?_
                refine DW.x rfl rfl (X.extract rfl rfl) (by decide) ?_
                refine DW.x rfl rfl (X.assign rfl) (by decide) ?_
                refine DW.x rfl rfl (X.assign rfl) (by decide) ?_
                refine DW.nil ?_
                refine WK.nThen ?_
                refine WK.drop (H' := [blk b3 49 [.int .i64 (metres.Lo), .int .i64 (metres.Hi)], blk b2 23 [.int .i64 (more.Fixed), .int .i64 (more.Each)]]) (.cons _ (.cons _ (.cons_cons _ (.cons_cons _ (.refl _))))) ?_
                exact WK.meet m141 rfl (.refl _) (.cons rfl (.cons rfl (.cons rfl (.cons rfl (.cons rfl (.cons rfl (.cons rfl (.cons rfl (.cons rfl .nil))))))))) (Mem.le_trans hle133 hle142)
              refine DW.tO rfl rfl rfl (OpTo.taO (T.lit0 (α := Int) sl31 rfl)) (by decide) (fun m146 Es_ v145 hle147 hR_ => ?_)
              subst hR_
              replace hl := hl.mono hle147
              replace hlevels := hlevels.mono hle147
              replace hp119 := hp119.mono hle147
              replace hs124 := hs124.mono hle147
              replace hs126 := hs126.mono hle147
              replace hs128 := hs128.mono hle147
              replace hs130 := hs130.mono hle147
              replace hx136 := hx136.mono hle147
              refine DW.te rfl rfl rfl rfl (T.appendR (α := Station) (k := 1) sl24 rfl rfl hs126 rfl hx136 (by first | omega | (simp; done) | (simp; omega)) (by first | omega | (simp; done) | (simp; omega))) (by decide) (fun v148 ys149 hx150 => ?_)
              refine DW.ta rfl rfl rfl rfl (T.appendI (k := 0) sl31 rfl rfl hs128 rfl (by first | omega | (simp; omega)) (by first | omega | (simp; omega))) (by decide) (fun v151 => ?_)
              refine DW.ta rfl rfl rfl rfl (T.appendI (k := 0) sl31 rfl rfl hs130 rfl (by first | omega | (simp; omega)) (by first | omega | (simp; omega))) (by decide) (fun v152 => ?_)
              refine DW.x rfl rfl (X.callL Try.call25 rfl (fun w_ hw_ => keeps25 _ _ w rfl _ _ (hw_.rowSl (k := 1) rfl (hx150) (by unfold lenB; first | (rw [wideL_len]; omega) | (simp; omega))) _ _ _ (hw_.rowFSl (k := 0) rfl (by unfold lenB; first | (rw [wideL_len]; omega) | (simp; omega))))) (by decide) ?_
              refine DW.x rfl rfl (X.move rfl) (by decide) ?_
              refine DW.x rfl rfl (X.extract rfl rfl) (by decide) ?_
              refine DW.x rfl rfl (X.extract rfl rfl) (by decide) ?_
              refine DW.x rfl rfl (X.assign rfl) (by decide) ?_
              refine DW.x rfl rfl (X.assign rfl) (by decide) ?_
              refine DW.nil ?_
              refine WK.nThen ?_
              refine WK.drop (H' := [blk b3 49 [.int .i64 (metres.Lo), .int .i64 (metres.Hi)], blk b2 23 [.int .i64 (more.Fixed), .int .i64 (more.Each)]]) (.cons _ (.cons _ (.cons_cons _ (.cons_cons _ (.refl _))))) ?_
              exact WK.meet m146 rfl (.refl _) (.cons rfl (.cons rfl (.cons rfl (.cons rfl (.cons rfl (.cons rfl (.cons rfl (.cons rfl (.cons rfl .nil))))))))) (Mem.le_trans hle133 hle147)
            refine DW.tO rfl rfl rfl (OpTo.taO (T.lit0 (α := Int) sl31 rfl)) (by decide) (fun m154 Es_ v153 hle155 hR_ => ?_)
            subst hR_
            replace hl := hl.mono hle155
            replace hlevels := hlevels.mono hle155
            replace hp119 := hp119.mono hle155
            replace hs124 := hs124.mono hle155
            replace hs126 := hs126.mono hle155
            replace hs128 := hs128.mono hle155
            replace hs130 := hs130.mono hle155
            refine DW.te rfl rfl rfl rfl (T.appendR (α := Station) (k := 1) sl24 rfl rfl hs124 rfl RdL.nil (by first | omega | (simp; done) | (simp; omega)) (by first | omega | (simp; done) | (simp; omega))) (by decide) (fun v156 ys157 hx158 => ?_)
            refine DW.te rfl rfl rfl rfl (T.appendR (α := Station) (k := 1) sl24 rfl rfl hs126 rfl hx158 (by first | omega | (simp; done) | (simp; omega)) (by first | omega | (simp; done) | (simp; omega))) (by decide) (fun v159 ys160 hx161 => ?_)
            refine DW.ta rfl rfl rfl rfl (T.appendI (k := 0) sl31 rfl rfl hs128 rfl (by first | omega | (simp; omega)) (by first | omega | (simp; omega))) (by decide) (fun v162 => ?_)
            refine DW.ta rfl rfl rfl rfl (T.appendI (k := 0) sl31 rfl rfl hs130 rfl (by first | omega | (simp; omega)) (by first | omega | (simp; omega))) (by decide) (fun v163 => ?_)
            refine DW.x rfl rfl (X.callL Try.call25 rfl (fun w_ hw_ => keeps25 _ _ w rfl _ _ (hw_.rowSl (k := 1) rfl (hx161) (by unfold lenB; first | (rw [wideL_len]; omega) | (simp; omega))) _ _ _ (hw_.rowFSl (k := 0) rfl (by unfold lenB; first | (rw [wideL_len]; omega) | (simp; omega))))) (by decide) ?_
            refine DW.x rfl rfl (X.move rfl) (by decide) ?_
            refine DW.x rfl rfl (X.extract rfl rfl) (by decide) ?_
            refine DW.x rfl rfl (X.extract rfl rfl) (by decide) ?_
            refine DW.x rfl rfl (X.assign rfl) (by decide) ?_
            refine DW.x rfl rfl (X.assign rfl) (by decide) ?_
            refine DW.nil ?_
            refine WK.nThen ?_
            refine WK.drop (H' := [blk b3 49 [.int .i64 (metres.Lo), .int .i64 (metres.Hi)], blk b2 23 [.int .i64 (more.Fixed), .int .i64 (more.Each)]]) (.cons _ (.cons _ (.cons_cons _ (.cons_cons _ (.refl _))))) ?_
            exact WK.meet m154 rfl (.refl _) (.cons rfl (.cons rfl (.cons rfl (.cons rfl (.cons rfl (.cons rfl (.cons rfl (.cons rfl (.cons rfl .nil))))))))) (Mem.le_trans hle133 hle155)
          refine DW.tO rfl rfl rfl (OpTo.taO (T.lit0 (α := Int) sl31 rfl)) (by decide) (fun m165 Es_ v164 hle166 hR_ => ?_)
          subst hR_
          replace hl := hl.mono hle166
          replace hlevels := hlevels.mono hle166
          replace hp119 := hp119.mono hle166
          replace hs124 := hs124.mono hle166
          replace hs126 := hs126.mono hle166
          replace hs128 := hs128.mono hle166
          replace hs130 := hs130.mono hle166
          refine DW.tO rfl rfl rfl (OpTo.taO (T.lit0R sl24)) (by decide) (fun m168 Es_ v167 hle169 hR_ => ?_)
          subst hR_
          replace hl := hl.mono hle169
          replace hlevels := hlevels.mono hle169
          replace hp119 := hp119.mono hle169
          replace hs124 := hs124.mono hle169
          replace hs126 := hs126.mono hle169
          replace hs128 := hs128.mono hle169
          replace hs130 := hs130.mono hle169
          refine DW.te rfl rfl rfl rfl (T.appendR (α := Station) (k := 0) sl24 rfl rfl hs124 rfl RdL.nil (by first | omega | (simp; done) | (simp; omega)) (by first | omega | (simp; done) | (simp; omega))) (by decide) (fun v170 ys171 hx172 => ?_)
          refine DW.te rfl rfl rfl rfl (T.appendR (α := Station) (k := 0) sl24 rfl rfl hs126 rfl hx172 (by first | omega | (simp; done) | (simp; omega)) (by first | omega | (simp; done) | (simp; omega))) (by decide) (fun v173 ys174 hx175 => ?_)
          refine DW.ta rfl rfl rfl rfl (T.appendI (k := 1) sl31 rfl rfl hs128 rfl (by first | omega | (simp; omega)) (by first | omega | (simp; omega))) (by decide) (fun v176 => ?_)
          refine DW.ta rfl rfl rfl rfl (T.appendI (k := 1) sl31 rfl rfl hs130 rfl (by first | omega | (simp; omega)) (by first | omega | (simp; omega))) (by decide) (fun v177 => ?_)
          refine DW.x rfl rfl (X.callL Try.call25 rfl (fun w_ hw_ => keeps25 _ _ w rfl _ _ (hw_.rowSl (k := 0) rfl (hx175) (by unfold lenB; first | (rw [wideL_len]; omega) | (simp; omega))) _ _ _ (hw_.rowFSl (k := 1) rfl (by unfold lenB; first | (rw [wideL_len]; omega) | (simp; omega))))) (by decide) ?_
          refine DW.x rfl rfl (X.move rfl) (by decide) ?_
          refine DW.x rfl rfl (X.extract rfl rfl) (by decide) ?_
          refine DW.x rfl rfl (X.extract rfl rfl) (by decide) ?_
          refine DW.x rfl rfl (X.assign rfl) (by decide) ?_
          refine DW.x rfl rfl (X.assign rfl) (by decide) ?_
          refine DW.nil ?_
          refine WK.nThen ?_
          refine WK.drop (H' := [blk b3 49 [.int .i64 (metres.Lo), .int .i64 (metres.Hi)], blk b2 23 [.int .i64 (more.Fixed), .int .i64 (more.Each)]]) (.cons _ (.cons _ (.cons_cons _ (.cons_cons _ (.refl _))))) ?_
          exact WK.meet m168 rfl (.refl _) (.cons rfl (.cons rfl (.cons rfl (.cons rfl (.cons rfl (.cons rfl (.cons rfl (.cons rfl (.cons rfl .nil))))))))) (Mem.le_trans hle166 hle169)
        rintro m120 hle178
        show WK _ _ m120 [blk b3 49 [.int .i64 (metres.Lo), .int .i64 (metres.Hi)], blk b2 23 [.int .i64 (more.Fixed), .int .i64 (more.Each)]] [(2, vl), (3, .int .i64 (week)), (4, vlevels), (5, .int .i64 (at_)), (7, .pointer (some (⟨b1, 0, none⟩))), (13, .pointer (some ⟨b3, 0, none⟩)), (15, .bool true), (20, .bool ((keepsR w (([] ++ (l.take ((at_ : Int).toNat))) ++ (l.drop ((at_ + 1 : Int).toNat))) week (([] ++ (levels.take ((at_ : Int).toNat))) ++ (levels.drop ((at_ + 1 : Int).toNat)))).1)), (21, .int .i64 ((keepsR w (([] ++ (l.take ((at_ : Int).toNat))) ++ (l.drop ((at_ + 1 : Int).toNat))) week (([] ++ (levels.take ((at_ : Int).toNat))) ++ (levels.drop ((at_ + 1 : Int).toNat)))).2))] _
        replace hl := hl.mono hle178
        replace hlevels := hlevels.mono hle178
        replace hp119 := hp119.mono hle178
        refine WC.seq ?_
        refine WC.seq ?_
        have hk2 : keepsR w (([] ++ (l.take ((at_ : Int).toNat))) ++ (l.drop ((at_ + 1 : Int).toNat))) week (([] ++ (levels.take ((at_ : Int).toNat))) ++ (levels.drop ((at_ + 1 : Int).toNat))) = (true, 0) := (by have e1_ := out_keeps hk (a := at_.toNat) (by omega); unfold outL at e1_; simpa [show (at_ + 1).toNat = at_.toNat + 1 by omega] using e1_)
        rw [(by rw [hk2] : (keepsR w (([] ++ (l.take ((at_ : Int).toNat))) ++ (l.drop ((at_ + 1 : Int).toNat))) week (([] ++ (levels.take ((at_ : Int).toNat))) ++ (levels.drop ((at_ + 1 : Int).toNat)))).1 = true)]
        rw [(by rw [hk2] : (keepsR w (([] ++ (l.take ((at_ : Int).toNat))) ++ (l.drop ((at_ + 1 : Int).toNat))) week (([] ++ (levels.take ((at_ : Int).toNat))) ++ (levels.drop ((at_ + 1 : Int).toNat)))).2 = 0)]
        refine WC.region ?_
        refine WL.x (X.move rfl) (by decide) ?_
        refine WL.x (X.neq rfl rfl) (by decide) ?_
        refine WL.x (X.move rfl) (by decide) ?_
        refine WL.yes rfl rfl ?_
        refine WL.x (X.move rfl) (by decide) ?_
        refine WL.yes rfl rfl ?_
        refine WL.x (X.not rfl) (by decide) ?_
        refine WL.x (X.pickF rfl rfl rfl) (by decide) ?_
        refine WL.nil ?_
        refine WK.nThen ?_
        refine WC.condF rfl ?_
        refine WC.skip ?_
        refine WK.nThen ?_
        refine WC.seq ?_
        refine WC.region ?_
        refine WL.x (X.move rfl) (by decide) ?_
        refine WL.x (X.move rfl) (by decide) ?_
        refine WL.xe (E.idx Try.runUnderlying24 Try.sizeOf58 rfl rfl hl (by omega) (by omega)) (by decide) (fun p179 hp180 => ?_)
        refine WL.xe (E.loadAgg Try.isAgg58 Try.sizeOf58 rfl hp180) (by decide) (fun c181 hc182 => ?_)
        obtain ⟨v183, rfl, hs184⟩ := hc182
        have hl185 := hs184.le
        refine WL.x (X.move rfl) (by decide) ?_
        refine WL.x (X.call Try.call49 rfl (height49 _ _ (gt l ((at_ : Int).toNat)) ⟨_, rfl, hs184⟩ _ )) (by decide) ?_
        refine WL.x (X.move rfl) (by decide) ?_
        refine WL.x (X.extract rfl rfl) (by decide) ?_
        refine WL.x (X.extract rfl rfl) (by decide) ?_
        refine WL.tn (T.alloc Try.zeroValue49 rfl) (by decide) fun b186 => ?_
        refine WL.ts (T.storeBA (k := 0) Try.sizeOf49 rfl rfl rfl (one_cons rfl (one_cons rfl one_nil)) rfl rfl) ?_
        refine WL.x (X.assign rfl) (by decide) ?_
        refine WL.nil ?_
        refine WK.nThen ?_
        refine WC.seq ?_
        refine WC.seq ?_
        have hh := more_height hk (a := at_.toNat) (by omega)
        have hh1 : (heightR (gt l at_.toNat) week).2 = 0 := (by rw [hh])
        have hh2 : (heightR (gt l at_.toNat) week).1.Lo = (heightS (gt l at_.toNat) week).Lo := (by rw [hh])
        have hh3 : (heightR (gt l at_.toNat) week).1.Hi = (heightS (gt l at_.toNat) week).Hi := (by rw [hh])
        refine WC.region ?_
        refine WL.x (X.move rfl) (by decide) ?_
        refine WL.condn (X.neq rfl rfl) (by decide) (fun h187 => ?_) (fun h187 => ?_)
        · refine WL.x (X.move rfl) (by decide) ?_
          refine WL.no rfl rfl rfl (by decide) ?_
          refine WL.no rfl rfl rfl (by decide) ?_
          refine WL.no rfl rfl rfl (by decide) ?_
          refine WL.no rfl rfl rfl (by decide) ?_
          refine WL.no rfl rfl rfl (by decide) ?_
          refine WL.x (X.pickT rfl rfl rfl) (by decide) ?_
          refine WL.x (X.move rfl) (by decide) ?_
          refine WL.no rfl rfl rfl (by decide) ?_
          refine WL.no rfl rfl rfl (by decide) ?_
          refine WL.no rfl rfl rfl (by decide) ?_
          refine WL.no rfl rfl rfl (by decide) ?_
          refine WL.no rfl rfl rfl (by decide) ?_
          refine WL.x (X.pickT rfl rfl rfl) (by decide) ?_
          refine WL.nil ?_
          refine WK.nThen ?_
          refine WC.condT rfl ?_
          refine WC.seq ?_
          refine WC.region ?_
          refine WL.x (X.move rfl) (by decide) ?_
          refine WL.x (X.move rfl) (by decide) ?_
          refine WL.yes rfl rfl ?_
          refine WL.x (X.move rfl) (by decide) ?_
          refine WL.yes rfl rfl ?_
          refine WL.x (X.eql rfl rfl) (by decide) ?_
          refine WL.x (X.pickT rfl rfl rfl) (by decide) ?_
          refine WL.x (X.assign rfl) (by decide) ?_
          refine WL.nil ?_
          refine WK.nThen ?_
          refine WC.ret ?_
          refine WK.rThen ?_
          refine WK.ret1 rfl rfl (fun w' hw' => Ret.exact hw' ?_)
          first | rfl | (exfalso; omega) | (exfalso; have q_ := hmw (by omega) (by omega) (by omega); simp_all; done) | exact congrArg Value.bool (hwk (by omega)) | exact (bool_true (by omega)).symm
        refine WL.x (X.move rfl) (by decide) ?_
        refine WL.yes rfl rfl ?_
        refine WL.x (X.field Try.runUnderlying49 rfl Try.sizeOf3 rfl) (by decide) ?_
        refine WL.yes rfl rfl ?_
        refine WL.x (X.loadB (k := 1) Try.isAgg3 rfl rfl rfl) (by decide) ?_
        refine WL.yes rfl rfl ?_
        refine WL.x (X.field Try.runUnderlying49 rfl Try.sizeOf3 rfl) (by decide) ?_
        refine WL.yes rfl rfl ?_
        refine WL.x (X.loadB (k := 0) Try.isAgg3 rfl rfl rfl) (by decide) ?_
        refine WL.yes rfl rfl ?_
        refine WL.cond (X.gtr rfl rfl) (by decide) (fun h188 => ?_) (fun h188 => ?_)
        · refine WL.x (X.pickF rfl rfl rfl) (by decide) ?_
          refine WL.x (X.move rfl) (by decide) ?_
          refine WL.no rfl rfl rfl (by decide) ?_
          refine WL.no rfl rfl rfl (by decide) ?_
          refine WL.no rfl rfl rfl (by decide) ?_
          refine WL.no rfl rfl rfl (by decide) ?_
          refine WL.no rfl rfl rfl (by decide) ?_
          refine WL.x (X.pickT rfl rfl rfl) (by decide) ?_
          refine WL.nil ?_
          refine WK.nThen ?_
          refine WC.condT rfl ?_
          refine WC.seq ?_
          refine WC.region ?_
          refine WL.x (X.move rfl) (by decide) ?_
          refine WL.x (X.move rfl) (by decide) ?_
          refine WL.yes rfl rfl ?_
          refine WL.x (X.move rfl) (by decide) ?_
          refine WL.yes rfl rfl ?_
          refine WL.x (X.eql rfl rfl) (by decide) ?_
          refine WL.x (X.pickT rfl rfl rfl) (by decide) ?_
          refine WL.x (X.assign rfl) (by decide) ?_
          refine WL.nil ?_
          refine WK.nThen ?_
          refine WC.ret ?_
          refine WK.rThen ?_
          refine WK.ret1 rfl rfl (fun w' hw' => Ret.exact hw' ?_)
          first | rfl | (exfalso; omega) | (exfalso; have q_ := hmw (by omega) (by omega) (by omega); simp_all; done) | exact congrArg Value.bool (hwk (by omega)) | exact (bool_true (by omega)).symm
        refine WL.x (X.pickF rfl rfl rfl) (by decide) ?_
        refine WL.x (X.move rfl) (by decide) ?_
        refine WL.yes rfl rfl ?_
        refine WL.x (X.field Try.runUnderlying49 rfl Try.sizeOf3 rfl) (by decide) ?_
        refine WL.yes rfl rfl ?_
        refine WL.x (X.loadB (k := 1) Try.isAgg3 rfl rfl rfl) (by decide) ?_
        refine WL.yes rfl rfl ?_
        refine WL.x (X.field Try.runUnderlying49 rfl Try.sizeOf3 rfl) (by decide) ?_
        refine WL.yes rfl rfl ?_
        refine WL.x (X.loadB (k := 0) Try.isAgg3 rfl rfl rfl) (by decide) ?_
        refine WL.yes rfl rfl ?_
        refine WL.cond (X.lss rfl rfl) (by decide) (fun h189 => ?_) (fun h189 => ?_)
        · refine WL.x (X.pickF rfl rfl rfl) (by decide) ?_
          refine WL.nil ?_
          refine WK.nThen ?_
          refine WC.condT rfl ?_
          refine WC.seq ?_
          refine WC.region ?_
          refine WL.x (X.move rfl) (by decide) ?_
          refine WL.x (X.move rfl) (by decide) ?_
          refine WL.yes rfl rfl ?_
          refine WL.x (X.move rfl) (by decide) ?_
          refine WL.yes rfl rfl ?_
          refine WL.x (X.eql rfl rfl) (by decide) ?_
          refine WL.x (X.pickT rfl rfl rfl) (by decide) ?_
          refine WL.x (X.assign rfl) (by decide) ?_
          refine WL.nil ?_
          refine WK.nThen ?_
          refine WC.ret ?_
          refine WK.rThen ?_
          refine WK.ret1 rfl rfl (fun w' hw' => Ret.exact hw' ?_)
          first | rfl | (exfalso; omega) | (exfalso; have q_ := hmw (by omega) (by omega) (by omega); simp_all; done) | exact congrArg Value.bool (hwk (by omega)) | exact (bool_true (by omega)).symm
        refine WL.x (X.pickF rfl rfl rfl) (by decide) ?_
        refine WL.nil ?_
        refine WK.nThen ?_
        refine WC.condF rfl ?_
        refine WC.skip ?_
        refine WK.nThen ?_
        refine WC.seq ?_
        refine WC.region ?_
        refine WL.ta (T.lit0R sl24) (by decide) (fun v190 => ?_)
        refine WL.x (X.move rfl) (by decide) ?_
        refine WL.te (T.appendR (α := Station) (k := 0) sl24 rfl rfl hl rfl RdL.nil (by first | omega | (simp; done) | (simp; omega)) (by first | omega | (simp; done) | (simp; omega))) (by decide) (fun v191 ys192 hx193 => ?_)
        refine WL.x (X.assign rfl) (by decide) ?_
        refine WL.nil ?_
        refine WK.nThen ?_
        refine WC.seq ?_
        refine WK.freezeS (α := Span) (x := metres) 2 rfl rfl (show Enc.rd (α := Span) m120 [.int .i64 (metres.Lo), .int .i64 (metres.Hi)] metres from rfl) (fun m194 hle195 hp196 => ?_)
        replace hl := hl.mono hle195
        replace hlevels := hlevels.mono hle195
        replace hp119 := hp119.mono hle195
        replace hp180 := hp180.mono hle195
        replace hs184 := hs184.mono hle195
        replace hx193 := hx193.mono hle195
        refine WC.draw (π := (.cons 0 (.cons 1 (.cons 2 (.cons 3 (.cons 4 (.cons 5 (.cons 6 (.cons 7 (.cons 8 (.cons 9 (.cons 10 (.cons 11 (.cons 12 (.cons 13 (.cons 14 (.cons 15 (.cons 16 (.cons 17 (.cons 18 (.cons 19 (.cons 20 (.cons 21 (.cons 22 .done)))))))))))))))))))))))) [19, 22] [22] rfl (by kernel_rfl) ?_
        refine DW.x rfl rfl (X.move rfl) (by decide) ?_
        refine DW.x rfl rfl (X.move rfl) (by decide) ?_
        refine DW.x rfl rfl (X.move rfl) (by decide) ?_
        refine DW.x rfl rfl (X.move rfl) (by decide) ?_
        refine DW.xe rfl rfl (E.idx Try.runUnderlying24 Try.sizeOf58 rfl rfl hl (by omega) (by omega)) (by decide) (fun p197 hp198 => ?_)
        have hp199 := At.Station_0 hp198
        refine DW.x rfl rfl (X.field Try.runUnderlying58 rfl Try.sizeOf3 rfl) (by decide) ?_
        refine DW.x rfl rfl (X.loadInt Try.isAgg3 rfl hp199) (by decide) ?_
        refine DW.x rfl rfl (X.move rfl) (by decide) ?_
        refine DW.x rfl rfl (X.move rfl) (by decide) ?_
        refine DW.xe rfl rfl (E.idx Try.runUnderlying24 Try.sizeOf58 rfl rfl hl (by omega) (by omega)) (by decide) (fun p200 hp201 => ?_)
        have hp202 := At.Station_1 hp201
        refine DW.x rfl rfl (X.field Try.runUnderlying58 rfl Try.sizeOf3 rfl) (by decide) ?_
        refine DW.x rfl rfl (X.loadInt Try.isAgg3 rfl hp202) (by decide) ?_
        refine DW.x rfl rfl (X.move rfl) (by decide) ?_
        refine DW.x rfl rfl (X.move rfl) (by decide) ?_
        refine DW.xe rfl rfl (E.idx Try.runUnderlying24 Try.sizeOf58 rfl rfl hl (by omega) (by omega)) (by decide) (fun p203 hp204 => ?_)
        have hp205 := At.Station_2 hp204
        refine DW.x rfl rfl (X.field Try.runUnderlying58 rfl Try.sizeOf3 rfl) (by decide) ?_
        refine DW.x rfl rfl (X.loadInt Try.isAgg3 rfl hp205) (by decide) ?_
        refine DW.xe rfl rfl (E.loadAgg Try.isAgg49 Try.sizeOf49 rfl hp196) (by decide) (fun c206 hc207 => ?_)
        obtain rfl := hc207
        refine DW.x (V := Value.agg [.int .i64 (0), .int .i64 (metres.Lo), .int .i64 (metres.Hi)].toArray) rfl rfl (X.build Try.zeroValue71 Try.runUnderlying71 (places71 _ Try.underlying71) rfl rfl) (by decide) ?_
        refine DW.tm rfl rfl rfl (T.litM (α := Height) (vals := [.agg [.int .i64 (0), .int .i64 (metres.Lo), .int .i64 (metres.Hi)].toArray]) (L := [(Height.mk (0) (metres))]) sl56 rfl (.cons rfl rfl .nil) rfl rfl) (by decide) (fun m208 v209 hle210 hs211 => ?_)
        replace hl := hl.mono hle210
        replace hlevels := hlevels.mono hle210
        replace hp119 := hp119.mono hle210
        replace hp180 := hp180.mono hle210
        replace hs184 := hs184.mono hle210
        replace hx193 := hx193.mono hle210
        replace hp196 := hp196.mono hle210
        replace hp198 := hp198.mono hle210
        replace hp199 := hp199.mono hle210
        replace hp201 := hp201.mono hle210
        replace hp202 := hp202.mono hle210
        replace hp204 := hp204.mono hle210
        replace hp205 := hp205.mono hle210
        refine DW.x (V := Value.agg [.int .i64 ((gt l ((at_ : Int).toNat)).ID), .int .i64 ((gt l ((at_ : Int).toNat)).X), .int .i64 ((gt l ((at_ : Int).toNat)).Y), v209].toArray) rfl rfl (X.build Try.zeroValue58 Try.runUnderlying58 (places58 _ Try.underlying58) rfl (by simp only [Instr.fill, one_cells hs211.one]; rfl)) (by decide) ?_
        refine DW.x rfl rfl (X.idxRow (k := 0) Try.runUnderlying24 Try.sizeOf58 rfl rfl rfl (by first | omega | (simp; omega) | simp) (by first | omega | (simp; omega) | simp)) (by decide) ?_
        refine DW.te0 rfl rfl rfl rfl (T.storeRs (k := 0) (i := ((at_ : Int).toNat)) (us := [.int .i64 ((gt l ((at_ : Int).toNat)).ID), .int .i64 ((gt l ((at_ : Int).toNat)).X), .int .i64 ((gt l ((at_ : Int).toNat)).Y), v209]) (a := ((Station.mk ((gt l ((at_ : Int).toNat)).ID) ((gt l ((at_ : Int).toNat)).X) ((gt l ((at_ : Int).toNat)).Y) ([(Height.mk (0) (metres))])))) Try.sizeOf58 rfl rfl rfl rfl (Nat.zero_lt_succ _) rfl (by first | omega | (simp; omega) | simp) hx193 ⟨_, rfl, hs211⟩ (one_cons rfl (one_cons rfl (one_cons rfl (one_cons hs211.one one_nil))))) (fun ys212 hx213 => ?_)
        refine DW.nil ?_
        refine WK.nThen ?_
        refine WC.seq ?_
        have he214 : (([] ++ l).set ((at_ : Int).toNat) ((Station.mk ((gt l ((at_ : Int).toNat)).ID) ((gt l ((at_ : Int).toNat)).X) ((gt l ((at_ : Int).toNat)).Y) ([(Height.mk (0) (metres))])))) = ((wideL l at_.toNat metres)) := (by unfold wideL; rw [List.nil_append])
        rw [he214]
        rw [he214] at hx213
        refine WC.region ?_
        refine WL.xe (E.loadAgg Try.isAgg23 Try.sizeOf23 rfl hp119) (by decide) (fun c215 hc216 => ?_)
        obtain rfl := hc216
        refine WL.x (X.move rfl) (by decide) ?_
        refine WL.x (X.move rfl) (by decide) ?_
        refine WL.x (X.move rfl) (by decide) ?_
        refine WL.x (X.callL Try.call25 rfl (fun w_ hw_ => keeps25 _ _ w rfl _ _ (hw_.rowSl (k := 0) rfl (hx213) (by unfold lenB; first | (rw [wideL_len]; omega) | (simp; omega))) _ _ _ (hlevels.mono hw_.leAll))) (by decide) ?_
        refine WL.x (X.move rfl) (by decide) ?_
        refine WL.x (X.extract rfl rfl) (by decide) ?_
        refine WL.x (X.extract rfl rfl) (by decide) ?_
        refine WL.x (X.assign rfl) (by decide) ?_
        refine WL.x (X.assign rfl) (by decide) ?_
        refine WL.nil ?_
        refine WK.nThen ?_
        refine WC.seq ?_
        have hwk := fun h_ => wide_keeps hk (a := at_.toNat) (by omega) (m := metres) (by omega) (by omega) h_
        refine WC.region ?_
        refine WL.x (X.move rfl) (by decide) ?_
        refine WL.x (X.move rfl) (by decide) ?_
        refine WL.yes rfl rfl ?_
        refine WL.x (X.move rfl) (by decide) ?_
        refine WL.yes rfl rfl ?_
        refine WL.condn (X.neq rfl rfl) (by decide) (fun h217 => ?_) (fun h217 => ?_)
        · refine WL.yes rfl rfl ?_
          refine WL.x (X.move rfl) (by decide) ?_
          refine WL.no rfl rfl rfl (by decide) ?_
          refine WL.yes rfl rfl ?_
          refine WL.x (X.pickT rfl rfl rfl) (by decide) ?_
          refine WL.x (X.pickT rfl rfl rfl) (by decide) ?_
          refine WL.x (X.assign rfl) (by decide) ?_
          refine WL.nil ?_
          refine WK.nThen ?_
          refine WC.ret ?_
          refine WK.ret1 rfl rfl (fun w' hw' => Ret.exact hw' ?_)
          first | rfl | (exfalso; omega) | (exfalso; have q_ := hmw (by omega) (by omega) (by omega); simp_all; done) | exact congrArg Value.bool (hwk (by omega)) | exact (bool_true (by omega)).symm
        refine WL.yes rfl rfl ?_
        refine WL.x (X.move rfl) (by decide) ?_
        refine WL.yes rfl rfl ?_
        refine WL.x (X.move rfl) (by decide) ?_
        refine WL.yes rfl rfl ?_
        refine WL.x (X.pickF rfl rfl rfl) (by decide) ?_
        refine WL.x (X.pickT rfl rfl rfl) (by decide) ?_
        refine WL.x (X.assign rfl) (by decide) ?_
        refine WL.nil ?_
        refine WK.nThen ?_
        refine WC.ret ?_
        refine WK.ret1 rfl rfl (fun w' hw' => Ret.exact hw' ?_)
        first | rfl | (exfalso; omega) | (exfalso; have q_ := hmw (by omega) (by omega) (by omega); simp_all; done) | exact congrArg Value.bool (hwk (by omega)) | exact (bool_true (by omega)).symm
      refine WL.x (X.pickT rfl rfl rfl) (by decide) ?_
      refine WL.x (X.move rfl) (by decide) ?_
      refine WL.no rfl rfl rfl (by decide) ?_
      refine WL.no rfl rfl rfl (by decide) ?_
      refine WL.no rfl rfl rfl (by decide) ?_
      refine WL.no rfl rfl rfl (by decide) ?_
      refine WL.no rfl rfl rfl (by decide) ?_
      refine WL.x (X.pickF rfl rfl rfl) (by decide) ?_
      refine WL.x (X.move rfl) (by decide) ?_
      refine WL.no rfl rfl rfl (by decide) ?_
      refine WL.no rfl rfl rfl (by decide) ?_
      refine WL.x (X.pickF rfl rfl rfl) (by decide) ?_
      refine WL.nil ?_
      refine WK.nThen ?_
      refine WC.condF rfl ?_
      refine WC.skip ?_
      refine WK.nThen ?_
      refine WC.seq ?_
      refine WC.seq ?_
      refine WC.region ?_
      refine WL.x (X.move rfl) (by decide) ?_
      refine WL.cond (X.lss rfl rfl) (by decide) (fun h218 => ?_) (fun h218 => ?_)
      · refine WL.x (X.move rfl) (by decide) ?_
        refine WL.no rfl rfl rfl (by decide) ?_
        refine WL.no rfl rfl rfl (by decide) ?_
        refine WL.no rfl rfl rfl (by decide) ?_
        refine WL.no rfl rfl rfl (by decide) ?_
        refine WL.x (X.pickT rfl rfl rfl) (by decide) ?_
        refine WL.nil ?_
        refine WK.nThen ?_
        refine WC.condT rfl ?_
        refine WC.seq ?_
        refine WC.region ?_
        refine WL.x (X.move rfl) (by decide) ?_
        refine WL.x (X.assign rfl) (by decide) ?_
        refine WL.nil ?_
        refine WK.nThen ?_
        refine WC.ret ?_
        refine WK.rThen ?_
        refine WK.ret1 rfl rfl (fun w' hw' => Ret.exact hw' ?_)
        first | rfl | (exfalso; omega) | (exfalso; have q_ := hmw (by omega) (by omega) (by omega); simp_all; done) | exact congrArg Value.bool (hwk (by omega)) | exact (bool_true (by omega)).symm
      refine WL.x (X.move rfl) (by decide) ?_
      refine WL.yes rfl rfl ?_
      refine WL.x (X.move rfl) (by decide) ?_
      refine WL.yes rfl rfl ?_
      refine WL.x (X.move rfl) (by decide) ?_
      refine WL.yes rfl rfl ?_
      refine WL.x (X.len Try.runUnderlying24 rfl hl) (by decide) ?_
      refine WL.yes rfl rfl ?_
      refine WL.cond (X.geq rfl rfl) (by decide) (fun h219 => ?_) (fun h219 => ?_)
      · refine WL.x (X.pickF rfl rfl rfl) (by decide) ?_
        refine WL.nil ?_
        refine WK.nThen ?_
        refine WC.condT rfl ?_
        refine WC.seq ?_
        refine WC.region ?_
        refine WL.x (X.move rfl) (by decide) ?_
        refine WL.x (X.assign rfl) (by decide) ?_
        refine WL.nil ?_
        refine WK.nThen ?_
        refine WC.ret ?_
        refine WK.rThen ?_
        refine WK.ret1 rfl rfl (fun w' hw' => Ret.exact hw' ?_)
        first | rfl | (exfalso; omega) | (exfalso; have q_ := hmw (by omega) (by omega) (by omega); simp_all; done) | exact congrArg Value.bool (hwk (by omega)) | exact (bool_true (by omega)).symm
      refine WL.x (X.pickF rfl rfl rfl) (by decide) ?_
      refine WL.nil ?_
      refine WK.nThen ?_
      refine WC.condF rfl ?_
      refine WC.skip ?_
      refine WK.nThen ?_
      refine WK.freezeS (α := Wind) (x := w) 2 rfl rfl (show Enc.rd (α := Wind) m [.int .i64 (w.Fixed), .int .i64 (w.Each)] w from rfl) (fun m220 hle221 hp222 => ?_)
      replace hl := hl.mono hle221
      replace hlevels := hlevels.mono hle221
      refine WC.cut (G := Mem) (fun m223 => m223) (fun m223 => [blk b3 49 [.int .i64 (metres.Lo), .int .i64 (metres.Hi)], blk b2 23 [.int .i64 (more.Fixed), .int .i64 (more.Each)]]) (fun m223 => [(2, vl), (3, .int .i64 (week)), (4, vlevels), (5, .int .i64 (at_)), (7, .pointer (some (⟨b1, 0, none⟩))), (13, .pointer (some ⟨b3, 0, none⟩)), (15, .bool true), (20, .bool ((keepsR w (([] ++ (l.take ((at_ : Int).toNat))) ++ (l.drop ((at_ + 1 : Int).toNat))) week (([] ++ (levels.take ((at_ : Int).toNat))) ++ (levels.drop ((at_ + 1 : Int).toNat)))).1)), (21, .int .i64 ((keepsR w (([] ++ (l.take ((at_ : Int).toNat))) ++ (l.drop ((at_ + 1 : Int).toNat))) week (([] ++ (levels.take ((at_ : Int).toNat))) ++ (levels.drop ((at_ + 1 : Int).toNat)))).2))]) (fun m223 => m220.le m223) ?_ ?_
      · refine WC.draw (π := (.cons 0 (.cons 2 (.cons 3 (.cons 4 (.cons 6 (.cons 7 (.cons 8 (.cons 9 (.cons 11 (.cons 13 (.cons 14 (.cons 15 (.cons 17 (.cons 18 (.cons 19 (.cons 20 (.fork (.cons 1 (.fork (.cons 5 (.fork (.cons 10 (.cons 12 (.cons 16 (.cons 21 (.cons 22 (.cons 23 (.cons 24 (.cons 25 (.cons 26 (.cons 27 .done)))))))))) (.cons 12 (.cons 10 (.cons 16 (.cons 21 (.cons 22 (.cons 23 (.cons 24 (.cons 25 (.cons 26 (.cons 27 .done)))))))))))) (.cons 12 (.cons 5 (.cons 10 (.cons 16 (.cons 21 (.cons 22 (.cons 23 (.cons 24 (.cons 25 (.cons 26 (.cons 27 .done))))))))))))) (.cons 12 (.cons 1 (.cons 5 (.cons 10 (.cons 16 (.cons 21 (.cons 22 (.cons 23 (.cons 24 (.cons 25 (.cons 26 (.cons 27 .done)))))))))))))))))))))))))))))) [1, 5, 10, 12, 16, 21] [5, 10, 16, 21, 100000, 100008, 100009, 100015, 100019, 100020] rfl (by kernel_rfl) ?_
        refine DW.xfe rfl rfl rfl (EF.loadAgg Try.isAgg23 Try.sizeOf23 rfl hp222) (by decide) (fun c224 hc225 => ?_)
        obtain rfl := hc225
        refine DW.x rfl rfl (X.move rfl) (by decide) ?_
        refine DW.x rfl rfl (X.move rfl) (by decide) ?_
        refine DW.xe rfl rfl (E.slH ((at_ : Int).toNat) Try.underlying24 Try.sizeOf58 rfl rfl hl (by omega) (by omega)) (by decide) (fun v226 hs227 => ?_)
        refine DW.x rfl rfl (X.move rfl) (by decide) ?_
        refine DW.x rfl rfl (X.move rfl) (by decide) ?_
        refine DW.xf rfl rfl rfl (fun _ _ hle_ => (X.add rfl rfl (by omega) (by omega))) (by decide) ?_
        refine DW.xfe rfl rfl rfl (EF.slL ((at_ + 1 : Int).toNat) Try.underlying24 Try.sizeOf58 rfl rfl hl (by omega) (by omega)) (by decide) (fun v228 hs229 => ?_)
        refine DW.x rfl rfl (X.move rfl) (by decide) ?_
        refine DW.x rfl rfl (X.move rfl) (by decide) ?_
        refine DW.x rfl rfl (X.move rfl) (by decide) ?_
        refine DW.xfe rfl rfl rfl (EF.slH ((at_ : Int).toNat) Try.underlying31 Try.sizeOf3 rfl rfl hlevels (by omega) (by omega)) (by decide) (fun v230 hs231 => ?_)
        refine DW.x rfl rfl (X.move rfl) (by decide) ?_
        refine DW.x rfl rfl (X.move rfl) (by decide) ?_
        refine DW.xf rfl rfl rfl (fun _ _ hle_ => (X.add rfl rfl (by omega) (by omega))) (by decide) ?_
        refine DW.xfe rfl rfl rfl (EF.slL ((at_ + 1 : Int).toNat) Try.underlying31 Try.sizeOf3 rfl rfl hlevels (by omega) (by omega)) (by decide) (fun v232 hs233 => ?_)
        refine DW.fork (List.cons_ne_nil _ _) ?_ ?_
        · refine DW.tO rfl rfl rfl (OpTo.taO (T.lit0R sl24)) (by decide) (fun m235 Es_ v234 hle236 hR_ => ?_)
          subst hR_
          replace hl := hl.mono hle236
          replace hlevels := hlevels.mono hle236
          replace hp222 := hp222.mono hle236
          replace hs227 := hs227.mono hle236
          replace hs229 := hs229.mono hle236
          replace hs231 := hs231.mono hle236
          replace hs233 := hs233.mono hle236
          refine DW.fork (List.cons_ne_nil _ _) ?_ ?_
          · refine DW.te rfl rfl rfl rfl (T.appendR (α := Station) (k := 0) sl24 rfl rfl hs227 rfl RdL.nil (by first | omega | (simp; done) | (simp; omega)) (by first | omega | (simp; done) | (simp; omega))) (by decide) (fun v237 ys238 hx239 => ?_)
            refine DW.fork (List.cons_ne_nil _ _) ?_ ?_
            · refine DW.te rfl rfl rfl rfl (T.appendR (α := Station) (k := 0) sl24 rfl rfl hs229 rfl hx239 (by first | omega | (simp; done) | (simp; omega)) (by first | omega | (simp; done) | (simp; omega))) (by decide) (fun v240 ys241 hx242 => ?_)
              refine DW.tO rfl rfl rfl (OpTo.taO (T.lit0 (α := Int) sl31 rfl)) (by decide) (fun m244 Es_ v243 hle245 hR_ => ?_)
              subst hR_
              replace hl := hl.mono hle245
              replace hlevels := hlevels.mono hle245
              replace hp222 := hp222.mono hle245
              replace hs227 := hs227.mono hle245
              replace hs229 := hs229.mono hle245
              replace hs231 := hs231.mono hle245
              replace hs233 := hs233.mono hle245
              replace hx242 := hx242.mono hle245
              refine DW.ta rfl rfl rfl rfl (T.appendI (k := 0) sl31 rfl rfl hs231 rfl (by first | omega | (simp; omega)) (by first | omega | (simp; omega))) (by decide) (fun v246 => ?_)
              refine DW.ta rfl rfl rfl rfl (T.appendI (k := 0) sl31 rfl rfl hs233 rfl (by first | omega | (simp; omega)) (by first | omega | (simp; omega))) (by decide) (fun v247 => ?_)
              refine DW.x rfl rfl (X.callL Try.call25 rfl (fun w_ hw_ => keeps25 _ _ w rfl _ _ (hw_.rowSl (k := 1) rfl (hx242) (by unfold lenB; first | (rw [wideL_len]; omega) | (simp; omega))) _ _ _ (hw_.rowFSl (k := 0) rfl (by unfold lenB; first | (rw [wideL_len]; omega) | (simp; omega))))) (by decide) ?_
              refine DW.x rfl rfl (X.move rfl) (by decide) ?_
              refine DW.x rfl rfl (X.extract rfl rfl) (by decide) ?_
              refine DW.x rfl rfl (X.extract rfl rfl) (by decide) ?_
              refine DW.x rfl rfl (X.assign rfl) (by decide) ?_
              refine DW.x rfl rfl (X.assign rfl) (by decide) ?_
              refine DW.nil ?_
              refine WK.nThen ?_
              refine WK.drop (H' := [blk b3 49 [.int .i64 (metres.Lo), .int .i64 (metres.Hi)], blk b2 23 [.int .i64 (more.Fixed), .int .i64 (more.Each)]]) (.cons _ (.cons _ (.cons_cons _ (.cons_cons _ (.refl _))))) ?_
              exact WK.meet m244 rfl (.refl _) (.cons rfl (.cons rfl (.cons rfl (.cons rfl (.cons rfl (.cons rfl (.cons rfl (.cons rfl (.cons rfl .nil))))))))) (Mem.le_trans hle236 hle245)
            refine DW.tO rfl rfl rfl (OpTo.taO (T.lit0 (α := Int) sl31 rfl)) (by decide) (fun m249 Es_ v248 hle250 hR_ => ?_)
            subst hR_
            replace hl := hl.mono hle250
            replace hlevels := hlevels.mono hle250
            replace hp222 := hp222.mono hle250
            replace hs227 := hs227.mono hle250
            replace hs229 := hs229.mono hle250
            replace hs231 := hs231.mono hle250
            replace hs233 := hs233.mono hle250
            replace hx239 := hx239.mono hle250
            refine DW.te rfl rfl rfl rfl (T.appendR (α := Station) (k := 1) sl24 rfl rfl hs229 rfl hx239 (by first | omega | (simp; done) | (simp; omega)) (by first | omega | (simp; done) | (simp; omega))) (by decide) (fun v251 ys252 hx253 => ?_)
            refine DW.ta rfl rfl rfl rfl (T.appendI (k := 0) sl31 rfl rfl hs231 rfl (by first | omega | (simp; omega)) (by first | omega | (simp; omega))) (by decide) (fun v254 => ?_)
            refine DW.ta rfl rfl rfl rfl (T.appendI (k := 0) sl31 rfl rfl hs233 rfl (by first | omega | (simp; omega)) (by first | omega | (simp; omega))) (by decide) (fun v255 => ?_)
            refine DW.x rfl rfl (X.callL Try.call25 rfl (fun w_ hw_ => keeps25 _ _ w rfl _ _ (hw_.rowSl (k := 1) rfl (hx253) (by unfold lenB; first | (rw [wideL_len]; omega) | (simp; omega))) _ _ _ (hw_.rowFSl (k := 0) rfl (by unfold lenB; first | (rw [wideL_len]; omega) | (simp; omega))))) (by decide) ?_
            refine DW.x rfl rfl (X.move rfl) (by decide) ?_
            refine DW.x rfl rfl (X.extract rfl rfl) (by decide) ?_
            refine DW.x rfl rfl (X.extract rfl rfl) (by decide) ?_
            refine DW.x rfl rfl (X.assign rfl) (by decide) ?_
            refine DW.x rfl rfl (X.assign rfl) (by decide) ?_
            refine DW.nil ?_
            refine WK.nThen ?_
            refine WK.drop (H' := [blk b3 49 [.int .i64 (metres.Lo), .int .i64 (metres.Hi)], blk b2 23 [.int .i64 (more.Fixed), .int .i64 (more.Each)]]) (.cons _ (.cons _ (.cons_cons _ (.cons_cons _ (.refl _))))) ?_
            exact WK.meet m249 rfl (.refl _) (.cons rfl (.cons rfl (.cons rfl (.cons rfl (.cons rfl (.cons rfl (.cons rfl (.cons rfl (.cons rfl .nil))))))))) (Mem.le_trans hle236 hle250)
          refine DW.tO rfl rfl rfl (OpTo.taO (T.lit0 (α := Int) sl31 rfl)) (by decide) (fun m257 Es_ v256 hle258 hR_ => ?_)
          subst hR_
          replace hl := hl.mono hle258
          replace hlevels := hlevels.mono hle258
          replace hp222 := hp222.mono hle258
          replace hs227 := hs227.mono hle258
          replace hs229 := hs229.mono hle258
          replace hs231 := hs231.mono hle258
          replace hs233 := hs233.mono hle258
          refine DW.te rfl rfl rfl rfl (T.appendR (α := Station) (k := 1) sl24 rfl rfl hs227 rfl RdL.nil (by first | omega | (simp; done) | (simp; omega)) (by first | omega | (simp; done) | (simp; omega))) (by decide) (fun v259 ys260 hx261 => ?_)
          refine DW.te rfl rfl rfl rfl (T.appendR (α := Station) (k := 1) sl24 rfl rfl hs229 rfl hx261 (by first | omega | (simp; done) | (simp; omega)) (by first | omega | (simp; done) | (simp; omega))) (by decide) (fun v262 ys263 hx264 => ?_)
          refine DW.ta rfl rfl rfl rfl (T.appendI (k := 0) sl31 rfl rfl hs231 rfl (by first | omega | (simp; omega)) (by first | omega | (simp; omega))) (by decide) (fun v265 => ?_)
          refine DW.ta rfl rfl rfl rfl (T.appendI (k := 0) sl31 rfl rfl hs233 rfl (by first | omega | (simp; omega)) (by first | omega | (simp; omega))) (by decide) (fun v266 => ?_)
          refine DW.x rfl rfl (X.callL Try.call25 rfl (fun w_ hw_ => keeps25 _ _ w rfl _ _ (hw_.rowSl (k := 1) rfl (hx264) (by unfold lenB; first | (rw [wideL_len]; omega) | (simp; omega))) _ _ _ (hw_.rowFSl (k := 0) rfl (by unfold lenB; first | (rw [wideL_len]; omega) | (simp; omega))))) (by decide) ?_
          refine DW.x rfl rfl (X.move rfl) (by decide) ?_
          refine DW.x rfl rfl (X.extract rfl rfl) (by decide) ?_
          refine DW.x rfl rfl (X.extract rfl rfl) (by decide) ?_
          refine DW.x rfl rfl (X.assign rfl) (by decide) ?_
          refine DW.x rfl rfl (X.assign rfl) (by decide) ?_
          refine DW.nil ?_
          refine WK.nThen ?_
          refine WK.drop (H' := [blk b3 49 [.int .i64 (metres.Lo), .int .i64 (metres.Hi)], blk b2 23 [.int .i64 (more.Fixed), .int .i64 (more.Each)]]) (.cons _ (.cons _ (.cons_cons _ (.cons_cons _ (.refl _))))) ?_
          exact WK.meet m257 rfl (.refl _) (.cons rfl (.cons rfl (.cons rfl (.cons rfl (.cons rfl (.cons rfl (.cons rfl (.cons rfl (.cons rfl .nil))))))))) (Mem.le_trans hle236 hle258)
        refine DW.tO rfl rfl rfl (OpTo.taO (T.lit0 (α := Int) sl31 rfl)) (by decide) (fun m268 Es_ v267 hle269 hR_ => ?_)
        subst hR_
        replace hl := hl.mono hle269
        replace hlevels := hlevels.mono hle269
        replace hp222 := hp222.mono hle269
        replace hs227 := hs227.mono hle269
        replace hs229 := hs229.mono hle269
        replace hs231 := hs231.mono hle269
        replace hs233 := hs233.mono hle269
        refine DW.tO rfl rfl rfl (OpTo.taO (T.lit0R sl24)) (by decide) (fun m271 Es_ v270 hle272 hR_ => ?_)
        subst hR_
        replace hl := hl.mono hle272
        replace hlevels := hlevels.mono hle272
        replace hp222 := hp222.mono hle272
        replace hs227 := hs227.mono hle272
        replace hs229 := hs229.mono hle272
        replace hs231 := hs231.mono hle272
        replace hs233 := hs233.mono hle272
        refine DW.te rfl rfl rfl rfl (T.appendR (α := Station) (k := 0) sl24 rfl rfl hs227 rfl RdL.nil (by first | omega | (simp; done) | (simp; omega)) (by first | omega | (simp; done) | (simp; omega))) (by decide) (fun v273 ys274 hx275 => ?_)
        refine DW.te rfl rfl rfl rfl (T.appendR (α := Station) (k := 0) sl24 rfl rfl hs229 rfl hx275 (by first | omega | (simp; done) | (simp; omega)) (by first | omega | (simp; done) | (simp; omega))) (by decide) (fun v276 ys277 hx278 => ?_)
        refine DW.ta rfl rfl rfl rfl (T.appendI (k := 1) sl31 rfl rfl hs231 rfl (by first | omega | (simp; omega)) (by first | omega | (simp; omega))) (by decide) (fun v279 => ?_)
        refine DW.ta rfl rfl rfl rfl (T.appendI (k := 1) sl31 rfl rfl hs233 rfl (by first | omega | (simp; omega)) (by first | omega | (simp; omega))) (by decide) (fun v280 => ?_)
        refine DW.x rfl rfl (X.callL Try.call25 rfl (fun w_ hw_ => keeps25 _ _ w rfl _ _ (hw_.rowSl (k := 0) rfl (hx278) (by unfold lenB; first | (rw [wideL_len]; omega) | (simp; omega))) _ _ _ (hw_.rowFSl (k := 1) rfl (by unfold lenB; first | (rw [wideL_len]; omega) | (simp; omega))))) (by decide) ?_
        refine DW.x rfl rfl (X.move rfl) (by decide) ?_
        refine DW.x rfl rfl (X.extract rfl rfl) (by decide) ?_
        refine DW.x rfl rfl (X.extract rfl rfl) (by decide) ?_
        refine DW.x rfl rfl (X.assign rfl) (by decide) ?_
        refine DW.x rfl rfl (X.assign rfl) (by decide) ?_
        refine DW.nil ?_
        refine WK.nThen ?_
        refine WK.drop (H' := [blk b3 49 [.int .i64 (metres.Lo), .int .i64 (metres.Hi)], blk b2 23 [.int .i64 (more.Fixed), .int .i64 (more.Each)]]) (.cons _ (.cons _ (.cons_cons _ (.cons_cons _ (.refl _))))) ?_
        exact WK.meet m271 rfl (.refl _) (.cons rfl (.cons rfl (.cons rfl (.cons rfl (.cons rfl (.cons rfl (.cons rfl (.cons rfl (.cons rfl .nil))))))))) (Mem.le_trans hle269 hle272)
      rintro m223 hle281
      show WK _ _ m223 [blk b3 49 [.int .i64 (metres.Lo), .int .i64 (metres.Hi)], blk b2 23 [.int .i64 (more.Fixed), .int .i64 (more.Each)]] [(2, vl), (3, .int .i64 (week)), (4, vlevels), (5, .int .i64 (at_)), (7, .pointer (some (⟨b1, 0, none⟩))), (13, .pointer (some ⟨b3, 0, none⟩)), (15, .bool true), (20, .bool ((keepsR w (([] ++ (l.take ((at_ : Int).toNat))) ++ (l.drop ((at_ + 1 : Int).toNat))) week (([] ++ (levels.take ((at_ : Int).toNat))) ++ (levels.drop ((at_ + 1 : Int).toNat)))).1)), (21, .int .i64 ((keepsR w (([] ++ (l.take ((at_ : Int).toNat))) ++ (l.drop ((at_ + 1 : Int).toNat))) week (([] ++ (levels.take ((at_ : Int).toNat))) ++ (levels.drop ((at_ + 1 : Int).toNat)))).2))] _
      replace hl := hl.mono hle281
      replace hlevels := hlevels.mono hle281
      replace hp222 := hp222.mono hle281
      refine WC.seq ?_
      refine WC.seq ?_
      have hk2 : keepsR w (([] ++ (l.take ((at_ : Int).toNat))) ++ (l.drop ((at_ + 1 : Int).toNat))) week (([] ++ (levels.take ((at_ : Int).toNat))) ++ (levels.drop ((at_ + 1 : Int).toNat))) = (true, 0) := (by have e1_ := out_keeps hk (a := at_.toNat) (by omega); unfold outL at e1_; simpa [show (at_ + 1).toNat = at_.toNat + 1 by omega] using e1_)
      rw [(by rw [hk2] : (keepsR w (([] ++ (l.take ((at_ : Int).toNat))) ++ (l.drop ((at_ + 1 : Int).toNat))) week (([] ++ (levels.take ((at_ : Int).toNat))) ++ (levels.drop ((at_ + 1 : Int).toNat)))).1 = true)]
      rw [(by rw [hk2] : (keepsR w (([] ++ (l.take ((at_ : Int).toNat))) ++ (l.drop ((at_ + 1 : Int).toNat))) week (([] ++ (levels.take ((at_ : Int).toNat))) ++ (levels.drop ((at_ + 1 : Int).toNat)))).2 = 0)]
      refine WC.region ?_
      refine WL.x (X.move rfl) (by decide) ?_
      refine WL.x (X.neq rfl rfl) (by decide) ?_
      refine WL.x (X.move rfl) (by decide) ?_
      refine WL.yes rfl rfl ?_
      refine WL.x (X.move rfl) (by decide) ?_
      refine WL.yes rfl rfl ?_
      refine WL.x (X.not rfl) (by decide) ?_
      refine WL.x (X.pickF rfl rfl rfl) (by decide) ?_
      refine WL.nil ?_
      refine WK.nThen ?_
      refine WC.condF rfl ?_
      refine WC.skip ?_
      refine WK.nThen ?_
      refine WC.seq ?_
      refine WC.region ?_
      refine WL.x (X.move rfl) (by decide) ?_
      refine WL.x (X.move rfl) (by decide) ?_
      refine WL.xe (E.idx Try.runUnderlying24 Try.sizeOf58 rfl rfl hl (by omega) (by omega)) (by decide) (fun p282 hp283 => ?_)
      refine WL.xe (E.loadAgg Try.isAgg58 Try.sizeOf58 rfl hp283) (by decide) (fun c284 hc285 => ?_)
      obtain ⟨v286, rfl, hs287⟩ := hc285
      have hl288 := hs287.le
      refine WL.x (X.move rfl) (by decide) ?_
      refine WL.x (X.call Try.call49 rfl (height49 _ _ (gt l ((at_ : Int).toNat)) ⟨_, rfl, hs287⟩ _ )) (by decide) ?_
      refine WL.x (X.move rfl) (by decide) ?_
      refine WL.x (X.extract rfl rfl) (by decide) ?_
      refine WL.x (X.extract rfl rfl) (by decide) ?_
      refine WL.tn (T.alloc Try.zeroValue49 rfl) (by decide) fun b289 => ?_
      refine WL.ts (T.storeBA (k := 0) Try.sizeOf49 rfl rfl rfl (one_cons rfl (one_cons rfl one_nil)) rfl rfl) ?_
      refine WL.x (X.assign rfl) (by decide) ?_
      refine WL.nil ?_
      refine WK.nThen ?_
      refine WC.seq ?_
      refine WC.seq ?_
      have hh := more_height hk (a := at_.toNat) (by omega)
      have hh1 : (heightR (gt l at_.toNat) week).2 = 0 := (by rw [hh])
      have hh2 : (heightR (gt l at_.toNat) week).1.Lo = (heightS (gt l at_.toNat) week).Lo := (by rw [hh])
      have hh3 : (heightR (gt l at_.toNat) week).1.Hi = (heightS (gt l at_.toNat) week).Hi := (by rw [hh])
      refine WC.region ?_
      refine WL.x (X.move rfl) (by decide) ?_
      refine WL.condn (X.neq rfl rfl) (by decide) (fun h290 => ?_) (fun h290 => ?_)
      · refine WL.x (X.move rfl) (by decide) ?_
        refine WL.no rfl rfl rfl (by decide) ?_
        refine WL.no rfl rfl rfl (by decide) ?_
        refine WL.no rfl rfl rfl (by decide) ?_
        refine WL.no rfl rfl rfl (by decide) ?_
        refine WL.no rfl rfl rfl (by decide) ?_
        refine WL.x (X.pickT rfl rfl rfl) (by decide) ?_
        refine WL.x (X.move rfl) (by decide) ?_
        refine WL.no rfl rfl rfl (by decide) ?_
        refine WL.no rfl rfl rfl (by decide) ?_
        refine WL.no rfl rfl rfl (by decide) ?_
        refine WL.no rfl rfl rfl (by decide) ?_
        refine WL.no rfl rfl rfl (by decide) ?_
        refine WL.x (X.pickT rfl rfl rfl) (by decide) ?_
        refine WL.nil ?_
        refine WK.nThen ?_
        refine WC.condT rfl ?_
        refine WC.seq ?_
        refine WC.region ?_
        refine WL.x (X.move rfl) (by decide) ?_
        refine WL.x (X.move rfl) (by decide) ?_
        refine WL.yes rfl rfl ?_
        refine WL.x (X.move rfl) (by decide) ?_
        refine WL.yes rfl rfl ?_
        refine WL.x (X.eql rfl rfl) (by decide) ?_
        refine WL.x (X.pickT rfl rfl rfl) (by decide) ?_
        refine WL.x (X.assign rfl) (by decide) ?_
        refine WL.nil ?_
        refine WK.nThen ?_
        refine WC.ret ?_
        refine WK.rThen ?_
        refine WK.ret1 rfl rfl (fun w' hw' => Ret.exact hw' ?_)
        first | rfl | (exfalso; omega) | (exfalso; have q_ := hmw (by omega) (by omega) (by omega); simp_all; done) | exact congrArg Value.bool (hwk (by omega)) | exact (bool_true (by omega)).symm
      refine WL.x (X.move rfl) (by decide) ?_
      refine WL.yes rfl rfl ?_
      refine WL.x (X.field Try.runUnderlying49 rfl Try.sizeOf3 rfl) (by decide) ?_
      refine WL.yes rfl rfl ?_
      refine WL.x (X.loadB (k := 1) Try.isAgg3 rfl rfl rfl) (by decide) ?_
      refine WL.yes rfl rfl ?_
      refine WL.x (X.field Try.runUnderlying49 rfl Try.sizeOf3 rfl) (by decide) ?_
      refine WL.yes rfl rfl ?_
      refine WL.x (X.loadB (k := 0) Try.isAgg3 rfl rfl rfl) (by decide) ?_
      refine WL.yes rfl rfl ?_
      refine WL.cond (X.gtr rfl rfl) (by decide) (fun h291 => ?_) (fun h291 => ?_)
      · refine WL.x (X.pickF rfl rfl rfl) (by decide) ?_
        refine WL.x (X.move rfl) (by decide) ?_
        refine WL.no rfl rfl rfl (by decide) ?_
        refine WL.no rfl rfl rfl (by decide) ?_
        refine WL.no rfl rfl rfl (by decide) ?_
        refine WL.no rfl rfl rfl (by decide) ?_
        refine WL.no rfl rfl rfl (by decide) ?_
        refine WL.x (X.pickT rfl rfl rfl) (by decide) ?_
        refine WL.nil ?_
        refine WK.nThen ?_
        refine WC.condT rfl ?_
        refine WC.seq ?_
        refine WC.region ?_
        refine WL.x (X.move rfl) (by decide) ?_
        refine WL.x (X.move rfl) (by decide) ?_
        refine WL.yes rfl rfl ?_
        refine WL.x (X.move rfl) (by decide) ?_
        refine WL.yes rfl rfl ?_
        refine WL.x (X.eql rfl rfl) (by decide) ?_
        refine WL.x (X.pickT rfl rfl rfl) (by decide) ?_
        refine WL.x (X.assign rfl) (by decide) ?_
        refine WL.nil ?_
        refine WK.nThen ?_
        refine WC.ret ?_
        refine WK.rThen ?_
        refine WK.ret1 rfl rfl (fun w' hw' => Ret.exact hw' ?_)
        first | rfl | (exfalso; omega) | (exfalso; have q_ := hmw (by omega) (by omega) (by omega); simp_all; done) | exact congrArg Value.bool (hwk (by omega)) | exact (bool_true (by omega)).symm
      refine WL.x (X.pickF rfl rfl rfl) (by decide) ?_
      refine WL.x (X.move rfl) (by decide) ?_
      refine WL.yes rfl rfl ?_
      refine WL.x (X.field Try.runUnderlying49 rfl Try.sizeOf3 rfl) (by decide) ?_
      refine WL.yes rfl rfl ?_
      refine WL.x (X.loadB (k := 1) Try.isAgg3 rfl rfl rfl) (by decide) ?_
      refine WL.yes rfl rfl ?_
      refine WL.x (X.field Try.runUnderlying49 rfl Try.sizeOf3 rfl) (by decide) ?_
      refine WL.yes rfl rfl ?_
      refine WL.x (X.loadB (k := 0) Try.isAgg3 rfl rfl rfl) (by decide) ?_
      refine WL.yes rfl rfl ?_
      refine WL.cond (X.lss rfl rfl) (by decide) (fun h292 => ?_) (fun h292 => ?_)
      · refine WL.x (X.pickF rfl rfl rfl) (by decide) ?_
        refine WL.nil ?_
        refine WK.nThen ?_
        refine WC.condT rfl ?_
        refine WC.seq ?_
        refine WC.region ?_
        refine WL.x (X.move rfl) (by decide) ?_
        refine WL.x (X.move rfl) (by decide) ?_
        refine WL.yes rfl rfl ?_
        refine WL.x (X.move rfl) (by decide) ?_
        refine WL.yes rfl rfl ?_
        refine WL.x (X.eql rfl rfl) (by decide) ?_
        refine WL.x (X.pickT rfl rfl rfl) (by decide) ?_
        refine WL.x (X.assign rfl) (by decide) ?_
        refine WL.nil ?_
        refine WK.nThen ?_
        refine WC.ret ?_
        refine WK.rThen ?_
        refine WK.ret1 rfl rfl (fun w' hw' => Ret.exact hw' ?_)
        first | rfl | (exfalso; omega) | (exfalso; have q_ := hmw (by omega) (by omega) (by omega); simp_all; done) | exact congrArg Value.bool (hwk (by omega)) | exact (bool_true (by omega)).symm
      refine WL.x (X.pickF rfl rfl rfl) (by decide) ?_
      refine WL.nil ?_
      refine WK.nThen ?_
      refine WC.condF rfl ?_
      refine WC.skip ?_
      refine WK.nThen ?_
      refine WC.seq ?_
      refine WC.region ?_
      refine WL.ta (T.lit0R sl24) (by decide) (fun v293 => ?_)
      refine WL.x (X.move rfl) (by decide) ?_
      refine WL.te (T.appendR (α := Station) (k := 0) sl24 rfl rfl hl rfl RdL.nil (by first | omega | (simp; done) | (simp; omega)) (by first | omega | (simp; done) | (simp; omega))) (by decide) (fun v294 ys295 hx296 => ?_)
      refine WL.x (X.assign rfl) (by decide) ?_
      refine WL.nil ?_
      refine WK.nThen ?_
      refine WC.seq ?_
      refine WK.freezeS (α := Span) (x := metres) 2 rfl rfl (show Enc.rd (α := Span) m223 [.int .i64 (metres.Lo), .int .i64 (metres.Hi)] metres from rfl) (fun m297 hle298 hp299 => ?_)
      replace hl := hl.mono hle298
      replace hlevels := hlevels.mono hle298
      replace hp222 := hp222.mono hle298
      replace hp283 := hp283.mono hle298
      replace hs287 := hs287.mono hle298
      replace hx296 := hx296.mono hle298
      refine WC.draw (π := (.cons 0 (.cons 1 (.cons 2 (.cons 3 (.cons 4 (.cons 5 (.cons 6 (.cons 7 (.cons 8 (.cons 9 (.cons 10 (.cons 11 (.cons 12 (.cons 13 (.cons 14 (.cons 15 (.cons 16 (.cons 17 (.cons 18 (.cons 19 (.cons 20 (.cons 21 (.cons 22 .done)))))))))))))))))))))))) [19, 22] [22] rfl (by kernel_rfl) ?_
      refine DW.x rfl rfl (X.move rfl) (by decide) ?_
      refine DW.x rfl rfl (X.move rfl) (by decide) ?_
      refine DW.x rfl rfl (X.move rfl) (by decide) ?_
      refine DW.x rfl rfl (X.move rfl) (by decide) ?_
      refine DW.xe rfl rfl (E.idx Try.runUnderlying24 Try.sizeOf58 rfl rfl hl (by omega) (by omega)) (by decide) (fun p300 hp301 => ?_)
      have hp302 := At.Station_0 hp301
      refine DW.x rfl rfl (X.field Try.runUnderlying58 rfl Try.sizeOf3 rfl) (by decide) ?_
      refine DW.x rfl rfl (X.loadInt Try.isAgg3 rfl hp302) (by decide) ?_
      refine DW.x rfl rfl (X.move rfl) (by decide) ?_
      refine DW.x rfl rfl (X.move rfl) (by decide) ?_
      refine DW.xe rfl rfl (E.idx Try.runUnderlying24 Try.sizeOf58 rfl rfl hl (by omega) (by omega)) (by decide) (fun p303 hp304 => ?_)
      have hp305 := At.Station_1 hp304
      refine DW.x rfl rfl (X.field Try.runUnderlying58 rfl Try.sizeOf3 rfl) (by decide) ?_
      refine DW.x rfl rfl (X.loadInt Try.isAgg3 rfl hp305) (by decide) ?_
      refine DW.x rfl rfl (X.move rfl) (by decide) ?_
      refine DW.x rfl rfl (X.move rfl) (by decide) ?_
      refine DW.xe rfl rfl (E.idx Try.runUnderlying24 Try.sizeOf58 rfl rfl hl (by omega) (by omega)) (by decide) (fun p306 hp307 => ?_)
      have hp308 := At.Station_2 hp307
      refine DW.x rfl rfl (X.field Try.runUnderlying58 rfl Try.sizeOf3 rfl) (by decide) ?_
      refine DW.x rfl rfl (X.loadInt Try.isAgg3 rfl hp308) (by decide) ?_
      refine DW.xe rfl rfl (E.loadAgg Try.isAgg49 Try.sizeOf49 rfl hp299) (by decide) (fun c309 hc310 => ?_)
      obtain rfl := hc310
      refine DW.x (V := Value.agg [.int .i64 (0), .int .i64 (metres.Lo), .int .i64 (metres.Hi)].toArray) rfl rfl (X.build Try.zeroValue71 Try.runUnderlying71 (places71 _ Try.underlying71) rfl rfl) (by decide) ?_
      refine DW.tm rfl rfl rfl (T.litM (α := Height) (vals := [.agg [.int .i64 (0), .int .i64 (metres.Lo), .int .i64 (metres.Hi)].toArray]) (L := [(Height.mk (0) (metres))]) sl56 rfl (.cons rfl rfl .nil) rfl rfl) (by decide) (fun m311 v312 hle313 hs314 => ?_)
      replace hl := hl.mono hle313
      replace hlevels := hlevels.mono hle313
      replace hp222 := hp222.mono hle313
      replace hp283 := hp283.mono hle313
      replace hs287 := hs287.mono hle313
      replace hx296 := hx296.mono hle313
      replace hp299 := hp299.mono hle313
      replace hp301 := hp301.mono hle313
      replace hp302 := hp302.mono hle313
      replace hp304 := hp304.mono hle313
      replace hp305 := hp305.mono hle313
      replace hp307 := hp307.mono hle313
      replace hp308 := hp308.mono hle313
      refine DW.x (V := Value.agg [.int .i64 ((gt l ((at_ : Int).toNat)).ID), .int .i64 ((gt l ((at_ : Int).toNat)).X), .int .i64 ((gt l ((at_ : Int).toNat)).Y), v312].toArray) rfl rfl (X.build Try.zeroValue58 Try.runUnderlying58 (places58 _ Try.underlying58) rfl (by simp only [Instr.fill, one_cells hs314.one]; rfl)) (by decide) ?_
      refine DW.x rfl rfl (X.idxRow (k := 0) Try.runUnderlying24 Try.sizeOf58 rfl rfl rfl (by first | omega | (simp; omega) | simp) (by first | omega | (simp; omega) | simp)) (by decide) ?_
      refine DW.te0 rfl rfl rfl rfl (T.storeRs (k := 0) (i := ((at_ : Int).toNat)) (us := [.int .i64 ((gt l ((at_ : Int).toNat)).ID), .int .i64 ((gt l ((at_ : Int).toNat)).X), .int .i64 ((gt l ((at_ : Int).toNat)).Y), v312]) (a := ((Station.mk ((gt l ((at_ : Int).toNat)).ID) ((gt l ((at_ : Int).toNat)).X) ((gt l ((at_ : Int).toNat)).Y) ([(Height.mk (0) (metres))])))) Try.sizeOf58 rfl rfl rfl rfl (Nat.zero_lt_succ _) rfl (by first | omega | (simp; omega) | simp) hx296 ⟨_, rfl, hs314⟩ (one_cons rfl (one_cons rfl (one_cons rfl (one_cons hs314.one one_nil))))) (fun ys315 hx316 => ?_)
      refine DW.nil ?_
      refine WK.nThen ?_
      refine WC.seq ?_
      have he317 : (([] ++ l).set ((at_ : Int).toNat) ((Station.mk ((gt l ((at_ : Int).toNat)).ID) ((gt l ((at_ : Int).toNat)).X) ((gt l ((at_ : Int).toNat)).Y) ([(Height.mk (0) (metres))])))) = ((wideL l at_.toNat metres)) := (by unfold wideL; rw [List.nil_append])
      rw [he317]
      rw [he317] at hx316
      refine WC.region ?_
      refine WL.xe (E.loadAgg Try.isAgg23 Try.sizeOf23 rfl hp222) (by decide) (fun c318 hc319 => ?_)
      obtain rfl := hc319
      refine WL.x (X.move rfl) (by decide) ?_
      refine WL.x (X.move rfl) (by decide) ?_
      refine WL.x (X.move rfl) (by decide) ?_
      refine WL.x (X.callL Try.call25 rfl (fun w_ hw_ => keeps25 _ _ w rfl _ _ (hw_.rowSl (k := 0) rfl (hx316) (by unfold lenB; first | (rw [wideL_len]; omega) | (simp; omega))) _ _ _ (hlevels.mono hw_.leAll))) (by decide) ?_
      refine WL.x (X.move rfl) (by decide) ?_
      refine WL.x (X.extract rfl rfl) (by decide) ?_
      refine WL.x (X.extract rfl rfl) (by decide) ?_
      refine WL.x (X.assign rfl) (by decide) ?_
      refine WL.x (X.assign rfl) (by decide) ?_
      refine WL.nil ?_
      refine WK.nThen ?_
      refine WC.seq ?_
      have hwk := fun h_ => wide_keeps hk (a := at_.toNat) (by omega) (m := metres) (by omega) (by omega) h_
      refine WC.region ?_
      refine WL.x (X.move rfl) (by decide) ?_
      refine WL.x (X.move rfl) (by decide) ?_
      refine WL.yes rfl rfl ?_
      refine WL.x (X.move rfl) (by decide) ?_
      refine WL.yes rfl rfl ?_
      refine WL.condn (X.neq rfl rfl) (by decide) (fun h320 => ?_) (fun h320 => ?_)
      · refine WL.yes rfl rfl ?_
        refine WL.x (X.move rfl) (by decide) ?_
        refine WL.no rfl rfl rfl (by decide) ?_
        refine WL.yes rfl rfl ?_
        refine WL.x (X.pickT rfl rfl rfl) (by decide) ?_
        refine WL.x (X.pickT rfl rfl rfl) (by decide) ?_
        refine WL.x (X.assign rfl) (by decide) ?_
        refine WL.nil ?_
        refine WK.nThen ?_
        refine WC.ret ?_
        refine WK.ret1 rfl rfl (fun w' hw' => Ret.exact hw' ?_)
        first | rfl | (exfalso; omega) | (exfalso; have q_ := hmw (by omega) (by omega) (by omega); simp_all; done) | exact congrArg Value.bool (hwk (by omega)) | exact (bool_true (by omega)).symm
      refine WL.yes rfl rfl ?_
      refine WL.x (X.move rfl) (by decide) ?_
      refine WL.yes rfl rfl ?_
      refine WL.x (X.move rfl) (by decide) ?_
      refine WL.yes rfl rfl ?_
      refine WL.x (X.pickF rfl rfl rfl) (by decide) ?_
      refine WL.x (X.pickT rfl rfl rfl) (by decide) ?_
      refine WL.x (X.assign rfl) (by decide) ?_
      refine WL.nil ?_
      refine WK.nThen ?_
      refine WC.ret ?_
      refine WK.ret1 rfl rfl (fun w' hw' => Ret.exact hw' ?_)
      first | rfl | (exfalso; omega) | (exfalso; have q_ := hmw (by omega) (by omega) (by omega); simp_all; done) | exact congrArg Value.bool (hwk (by omega)) | exact (bool_true (by omega)).symm
    refine WL.x (X.move rfl) (by decide) ?_
    refine WL.no rfl rfl rfl (by decide) ?_
    refine WL.no rfl rfl rfl (by decide) ?_
    refine WL.no rfl rfl rfl (by decide) ?_
    refine WL.no rfl rfl rfl (by decide) ?_
    refine WL.no rfl rfl rfl (by decide) ?_
    refine WL.x (X.pickF rfl rfl rfl) (by decide) ?_
    refine WL.x (X.move rfl) (by decide) ?_
    refine WL.no rfl rfl rfl (by decide) ?_
    refine WL.no rfl rfl rfl (by decide) ?_
    refine WL.no rfl rfl rfl (by decide) ?_
    refine WL.no rfl rfl rfl (by decide) ?_
    refine WL.no rfl rfl rfl (by decide) ?_
    refine WL.x (X.pickF rfl rfl rfl) (by decide) ?_
    refine WL.x (X.move rfl) (by decide) ?_
    refine WL.no rfl rfl rfl (by decide) ?_
    refine WL.no rfl rfl rfl (by decide) ?_
    refine WL.x (X.pickF rfl rfl rfl) (by decide) ?_
    refine WL.nil ?_
    refine WK.nThen ?_
    refine WC.condF rfl ?_
    refine WC.skip ?_
    refine WK.nThen ?_
    refine WC.seq ?_
    refine WC.seq ?_
    refine WC.region ?_
    refine WL.x (X.move rfl) (by decide) ?_
    refine WL.cond (X.lss rfl rfl) (by decide) (fun h321 => ?_) (fun h321 => ?_)
    · refine WL.x (X.move rfl) (by decide) ?_
      refine WL.no rfl rfl rfl (by decide) ?_
      refine WL.no rfl rfl rfl (by decide) ?_
      refine WL.no rfl rfl rfl (by decide) ?_
      refine WL.no rfl rfl rfl (by decide) ?_
      refine WL.x (X.pickT rfl rfl rfl) (by decide) ?_
      refine WL.nil ?_
      refine WK.nThen ?_
      refine WC.condT rfl ?_
      refine WC.seq ?_
      refine WC.region ?_
      refine WL.x (X.move rfl) (by decide) ?_
      refine WL.x (X.assign rfl) (by decide) ?_
      refine WL.nil ?_
      refine WK.nThen ?_
      refine WC.ret ?_
      refine WK.rThen ?_
      refine WK.ret1 rfl rfl (fun w' hw' => Ret.exact hw' ?_)
      first | rfl | (exfalso; omega) | (exfalso; have q_ := hmw (by omega) (by omega) (by omega); simp_all; done) | exact congrArg Value.bool (hwk (by omega)) | exact (bool_true (by omega)).symm
    refine WL.x (X.move rfl) (by decide) ?_
    refine WL.yes rfl rfl ?_
    refine WL.x (X.move rfl) (by decide) ?_
    refine WL.yes rfl rfl ?_
    refine WL.x (X.move rfl) (by decide) ?_
    refine WL.yes rfl rfl ?_
    refine WL.x (X.len Try.runUnderlying24 rfl hl) (by decide) ?_
    refine WL.yes rfl rfl ?_
    refine WL.cond (X.geq rfl rfl) (by decide) (fun h322 => ?_) (fun h322 => ?_)
    · refine WL.x (X.pickF rfl rfl rfl) (by decide) ?_
      refine WL.nil ?_
      refine WK.nThen ?_
      refine WC.condT rfl ?_
      refine WC.seq ?_
      refine WC.region ?_
      refine WL.x (X.move rfl) (by decide) ?_
      refine WL.x (X.assign rfl) (by decide) ?_
      refine WL.nil ?_
      refine WK.nThen ?_
      refine WC.ret ?_
      refine WK.rThen ?_
      refine WK.ret1 rfl rfl (fun w' hw' => Ret.exact hw' ?_)
      first | rfl | (exfalso; omega) | (exfalso; have q_ := hmw (by omega) (by omega) (by omega); simp_all; done) | exact congrArg Value.bool (hwk (by omega)) | exact (bool_true (by omega)).symm
    refine WL.x (X.pickF rfl rfl rfl) (by decide) ?_
    refine WL.nil ?_
    refine WK.nThen ?_
    refine WC.condF rfl ?_
    refine WC.skip ?_
    refine WK.nThen ?_
    refine WK.freezeS (α := Wind) (x := w) 2 rfl rfl (show Enc.rd (α := Wind) m [.int .i64 (w.Fixed), .int .i64 (w.Each)] w from rfl) (fun m323 hle324 hp325 => ?_)
    replace hl := hl.mono hle324
    replace hlevels := hlevels.mono hle324
    refine WC.cut (G := Mem) (fun m326 => m326) (fun m326 => [blk b3 49 [.int .i64 (metres.Lo), .int .i64 (metres.Hi)], blk b2 23 [.int .i64 (more.Fixed), .int .i64 (more.Each)]]) (fun m326 => [(2, vl), (3, .int .i64 (week)), (4, vlevels), (5, .int .i64 (at_)), (7, .pointer (some (⟨b1, 0, none⟩))), (13, .pointer (some ⟨b3, 0, none⟩)), (15, .bool true), (20, .bool ((keepsR w (([] ++ (l.take ((at_ : Int).toNat))) ++ (l.drop ((at_ + 1 : Int).toNat))) week (([] ++ (levels.take ((at_ : Int).toNat))) ++ (levels.drop ((at_ + 1 : Int).toNat)))).1)), (21, .int .i64 ((keepsR w (([] ++ (l.take ((at_ : Int).toNat))) ++ (l.drop ((at_ + 1 : Int).toNat))) week (([] ++ (levels.take ((at_ : Int).toNat))) ++ (levels.drop ((at_ + 1 : Int).toNat)))).2))]) (fun m326 => m323.le m326) ?_ ?_
    · refine WC.draw (π := (.cons 0 (.cons 2 (.cons 3 (.cons 4 (.cons 6 (.cons 7 (.cons 8 (.cons 9 (.cons 11 (.cons 13 (.cons 14 (.cons 15 (.cons 17 (.cons 18 (.cons 19 (.cons 20 (.fork (.cons 1 (.fork (.cons 5 (.fork (.cons 10 (.cons 12 (.cons 16 (.cons 21 (.cons 22 (.cons 23 (.cons 24 (.cons 25 (.cons 26 (.cons 27 .done)))))))))) (.cons 12 (.cons 10 (.cons 16 (.cons 21 (.cons 22 (.cons 23 (.cons 24 (.cons 25 (.cons 26 (.cons 27 .done)))))))))))) (.cons 12 (.cons 5 (.cons 10 (.cons 16 (.cons 21 (.cons 22 (.cons 23 (.cons 24 (.cons 25 (.cons 26 (.cons 27 .done))))))))))))) (.cons 12 (.cons 1 (.cons 5 (.cons 10 (.cons 16 (.cons 21 (.cons 22 (.cons 23 (.cons 24 (.cons 25 (.cons 26 (.cons 27 .done)))))))))))))))))))))))))))))) [1, 5, 10, 12, 16, 21] [5, 10, 16, 21, 100000, 100008, 100009, 100015, 100019, 100020] rfl (by kernel_rfl) ?_
      refine DW.xfe rfl rfl rfl (EF.loadAgg Try.isAgg23 Try.sizeOf23 rfl hp325) (by decide) (fun c327 hc328 => ?_)
      obtain rfl := hc328
      refine DW.x rfl rfl (X.move rfl) (by decide) ?_
      refine DW.x rfl rfl (X.move rfl) (by decide) ?_
      refine DW.xe rfl rfl (E.slH ((at_ : Int).toNat) Try.underlying24 Try.sizeOf58 rfl rfl hl (by omega) (by omega)) (by decide) (fun v329 hs330 => ?_)
      refine DW.x rfl rfl (X.move rfl) (by decide) ?_
      refine DW.x rfl rfl (X.move rfl) (by decide) ?_
      refine DW.xf rfl rfl rfl (fun _ _ hle_ => (X.add rfl rfl (by omega) (by omega))) (by decide) ?_
      refine DW.xfe rfl rfl rfl (EF.slL ((at_ + 1 : Int).toNat) Try.underlying24 Try.sizeOf58 rfl rfl hl (by omega) (by omega)) (by decide) (fun v331 hs332 => ?_)
      refine DW.x rfl rfl (X.move rfl) (by decide) ?_
      refine DW.x rfl rfl (X.move rfl) (by decide) ?_
      refine DW.x rfl rfl (X.move rfl) (by decide) ?_
      refine DW.xfe rfl rfl rfl (EF.slH ((at_ : Int).toNat) Try.underlying31 Try.sizeOf3 rfl rfl hlevels (by omega) (by omega)) (by decide) (fun v333 hs334 => ?_)
      refine DW.x rfl rfl (X.move rfl) (by decide) ?_
      refine DW.x rfl rfl (X.move rfl) (by decide) ?_
      refine DW.xf rfl rfl rfl (fun _ _ hle_ => (X.add rfl rfl (by omega) (by omega))) (by decide) ?_
      refine DW.xfe rfl rfl rfl (EF.slL ((at_ + 1 : Int).toNat) Try.underlying31 Try.sizeOf3 rfl rfl hlevels (by omega) (by omega)) (by decide) (fun v335 hs336 => ?_)
      refine DW.fork (List.cons_ne_nil _ _) ?_ ?_
      · refine DW.tO rfl rfl rfl (OpTo.taO (T.lit0R sl24)) (by decide) (fun m338 Es_ v337 hle339 hR_ => ?_)
        subst hR_
        replace hl := hl.mono hle339
        replace hlevels := hlevels.mono hle339
        replace hp325 := hp325.mono hle339
        replace hs330 := hs330.mono hle339
        replace hs332 := hs332.mono hle339
        replace hs334 := hs334.mono hle339
        replace hs336 := hs336.mono hle339
        refine DW.fork (List.cons_ne_nil _ _) ?_ ?_
        · refine DW.te rfl rfl rfl rfl (T.appendR (α := Station) (k := 0) sl24 rfl rfl hs330 rfl RdL.nil (by first | omega | (simp; done) | (simp; omega)) (by first | omega | (simp; done) | (simp; omega))) (by decide) (fun v340 ys341 hx342 => ?_)
          refine DW.fork (List.cons_ne_nil _ _) ?_ ?_
          · refine DW.te rfl rfl rfl rfl (T.appendR (α := Station) (k := 0) sl24 rfl rfl hs332 rfl hx342 (by first | omega | (simp; done) | (simp; omega)) (by first | omega | (simp; done) | (simp; omega))) (by decide) (fun v343 ys344 hx345 => ?_)
            refine DW.tO rfl rfl rfl (OpTo.taO (T.lit0 (α := Int) sl31 rfl)) (by decide) (fun m347 Es_ v346 hle348 hR_ => ?_)
            subst hR_
            replace hl := hl.mono hle348
            replace hlevels := hlevels.mono hle348
            replace hp325 := hp325.mono hle348
            replace hs330 := hs330.mono hle348
            replace hs332 := hs332.mono hle348
            replace hs334 := hs334.mono hle348
            replace hs336 := hs336.mono hle348
            replace hx345 := hx345.mono hle348
            refine DW.ta rfl rfl rfl rfl (T.appendI (k := 0) sl31 rfl rfl hs334 rfl (by first | omega | (simp; omega)) (by first | omega | (simp; omega))) (by decide) (fun v349 => ?_)
            refine DW.ta rfl rfl rfl rfl (T.appendI (k := 0) sl31 rfl rfl hs336 rfl (by first | omega | (simp; omega)) (by first | omega | (simp; omega))) (by decide) (fun v350 => ?_)
            refine DW.x rfl rfl (X.callL Try.call25 rfl (fun w_ hw_ => keeps25 _ _ w rfl _ _ (hw_.rowSl (k := 1) rfl (hx345) (by unfold lenB; first | (rw [wideL_len]; omega) | (simp; omega))) _ _ _ (hw_.rowFSl (k := 0) rfl (by unfold lenB; first | (rw [wideL_len]; omega) | (simp; omega))))) (by decide) ?_
            refine DW.x rfl rfl (X.move rfl) (by decide) ?_
            refine DW.x rfl rfl (X.extract rfl rfl) (by decide) ?_
            refine DW.x rfl rfl (X.extract rfl rfl) (by decide) ?_
            refine DW.x rfl rfl (X.assign rfl) (by decide) ?_
            refine DW.x rfl rfl (X.assign rfl) (by decide) ?_
            refine DW.nil ?_
            refine WK.nThen ?_
            refine WK.drop (H' := [blk b3 49 [.int .i64 (metres.Lo), .int .i64 (metres.Hi)], blk b2 23 [.int .i64 (more.Fixed), .int .i64 (more.Each)]]) (.cons _ (.cons _ (.cons_cons _ (.cons_cons _ (.refl _))))) ?_
            exact WK.meet m347 rfl (.refl _) (.cons rfl (.cons rfl (.cons rfl (.cons rfl (.cons rfl (.cons rfl (.cons rfl (.cons rfl (.cons rfl .nil))))))))) (Mem.le_trans hle339 hle348)
          refine DW.tO rfl rfl rfl (OpTo.taO (T.lit0 (α := Int) sl31 rfl)) (by decide) (fun m352 Es_ v351 hle353 hR_ => ?_)
          subst hR_
          replace hl := hl.mono hle353
          replace hlevels := hlevels.mono hle353
          replace hp325 := hp325.mono hle353
          replace hs330 := hs330.mono hle353
          replace hs332 := hs332.mono hle353
          replace hs334 := hs334.mono hle353
          replace hs336 := hs336.mono hle353
          replace hx342 := hx342.mono hle353
          refine DW.te rfl rfl rfl rfl (T.appendR (α := Station) (k := 1) sl24 rfl rfl hs332 rfl hx342 (by first | omega | (simp; done) | (simp; omega)) (by first | omega | (simp; done) | (simp; omega))) (by decide) (fun v354 ys355 hx356 => ?_)
          refine DW.ta rfl rfl rfl rfl (T.appendI (k := 0) sl31 rfl rfl hs334 rfl (by first | omega | (simp; omega)) (by first | omega | (simp; omega))) (by decide) (fun v357 => ?_)
          refine DW.ta rfl rfl rfl rfl (T.appendI (k := 0) sl31 rfl rfl hs336 rfl (by first | omega | (simp; omega)) (by first | omega | (simp; omega))) (by decide) (fun v358 => ?_)
          refine DW.x rfl rfl (X.callL Try.call25 rfl (fun w_ hw_ => keeps25 _ _ w rfl _ _ (hw_.rowSl (k := 1) rfl (hx356) (by unfold lenB; first | (rw [wideL_len]; omega) | (simp; omega))) _ _ _ (hw_.rowFSl (k := 0) rfl (by unfold lenB; first | (rw [wideL_len]; omega) | (simp; omega))))) (by decide) ?_
          refine DW.x rfl rfl (X.move rfl) (by decide) ?_
          refine DW.x rfl rfl (X.extract rfl rfl) (by decide) ?_
          refine DW.x rfl rfl (X.extract rfl rfl) (by decide) ?_
          refine DW.x rfl rfl (X.assign rfl) (by decide) ?_
          refine DW.x rfl rfl (X.assign rfl) (by decide) ?_
          refine DW.nil ?_
          refine WK.nThen ?_
          refine WK.drop (H' := [blk b3 49 [.int .i64 (metres.Lo), .int .i64 (metres.Hi)], blk b2 23 [.int .i64 (more.Fixed), .int .i64 (more.Each)]]) (.cons _ (.cons _ (.cons_cons _ (.cons_cons _ (.refl _))))) ?_
          exact WK.meet m352 rfl (.refl _) (.cons rfl (.cons rfl (.cons rfl (.cons rfl (.cons rfl (.cons rfl (.cons rfl (.cons rfl (.cons rfl .nil))))))))) (Mem.le_trans hle339 hle353)
        refine DW.tO rfl rfl rfl (OpTo.taO (T.lit0 (α := Int) sl31 rfl)) (by decide) (fun m360 Es_ v359 hle361 hR_ => ?_)
        subst hR_
        replace hl := hl.mono hle361
        replace hlevels := hlevels.mono hle361
        replace hp325 := hp325.mono hle361
        replace hs330 := hs330.mono hle361
        replace hs332 := hs332.mono hle361
        replace hs334 := hs334.mono hle361
        replace hs336 := hs336.mono hle361
        refine DW.te rfl rfl rfl rfl (T.appendR (α := Station) (k := 1) sl24 rfl rfl hs330 rfl RdL.nil (by first | omega | (simp; done) | (simp; omega)) (by first | omega | (simp; done) | (simp; omega))) (by decide) (fun v362 ys363 hx364 => ?_)
        refine DW.te rfl rfl rfl rfl (T.appendR (α := Station) (k := 1) sl24 rfl rfl hs332 rfl hx364 (by first | omega | (simp; done) | (simp; omega)) (by first | omega | (simp; done) | (simp; omega))) (by decide) (fun v365 ys366 hx367 => ?_)
        refine DW.ta rfl rfl rfl rfl (T.appendI (k := 0) sl31 rfl rfl hs334 rfl (by first | omega | (simp; omega)) (by first | omega | (simp; omega))) (by decide) (fun v368 => ?_)
        refine DW.ta rfl rfl rfl rfl (T.appendI (k := 0) sl31 rfl rfl hs336 rfl (by first | omega | (simp; omega)) (by first | omega | (simp; omega))) (by decide) (fun v369 => ?_)
        refine DW.x rfl rfl (X.callL Try.call25 rfl (fun w_ hw_ => keeps25 _ _ w rfl _ _ (hw_.rowSl (k := 1) rfl (hx367) (by unfold lenB; first | (rw [wideL_len]; omega) | (simp; omega))) _ _ _ (hw_.rowFSl (k := 0) rfl (by unfold lenB; first | (rw [wideL_len]; omega) | (simp; omega))))) (by decide) ?_
        refine DW.x rfl rfl (X.move rfl) (by decide) ?_
        refine DW.x rfl rfl (X.extract rfl rfl) (by decide) ?_
        refine DW.x rfl rfl (X.extract rfl rfl) (by decide) ?_
        refine DW.x rfl rfl (X.assign rfl) (by decide) ?_
        refine DW.x rfl rfl (X.assign rfl) (by decide) ?_
        refine DW.nil ?_
        refine WK.nThen ?_
        refine WK.drop (H' := [blk b3 49 [.int .i64 (metres.Lo), .int .i64 (metres.Hi)], blk b2 23 [.int .i64 (more.Fixed), .int .i64 (more.Each)]]) (.cons _ (.cons _ (.cons_cons _ (.cons_cons _ (.refl _))))) ?_
        exact WK.meet m360 rfl (.refl _) (.cons rfl (.cons rfl (.cons rfl (.cons rfl (.cons rfl (.cons rfl (.cons rfl (.cons rfl (.cons rfl .nil))))))))) (Mem.le_trans hle339 hle361)
      refine DW.tO rfl rfl rfl (OpTo.taO (T.lit0 (α := Int) sl31 rfl)) (by decide) (fun m371 Es_ v370 hle372 hR_ => ?_)
      subst hR_
      replace hl := hl.mono hle372
      replace hlevels := hlevels.mono hle372
      replace hp325 := hp325.mono hle372
      replace hs330 := hs330.mono hle372
      replace hs332 := hs332.mono hle372
      replace hs334 := hs334.mono hle372
      replace hs336 := hs336.mono hle372
      refine DW.tO rfl rfl rfl (OpTo.taO (T.lit0R sl24)) (by decide) (fun m374 Es_ v373 hle375 hR_ => ?_)
      subst hR_
      replace hl := hl.mono hle375
      replace hlevels := hlevels.mono hle375
      replace hp325 := hp325.mono hle375
      replace hs330 := hs330.mono hle375
      replace hs332 := hs332.mono hle375
      replace hs334 := hs334.mono hle375
      replace hs336 := hs336.mono hle375
      refine DW.te rfl rfl rfl rfl (T.appendR (α := Station) (k := 0) sl24 rfl rfl hs330 rfl RdL.nil (by first | omega | (simp; done) | (simp; omega)) (by first | omega | (simp; done) | (simp; omega))) (by decide) (fun v376 ys377 hx378 => ?_)
      refine DW.te rfl rfl rfl rfl (T.appendR (α := Station) (k := 0) sl24 rfl rfl hs332 rfl hx378 (by first | omega | (simp; done) | (simp; omega)) (by first | omega | (simp; done) | (simp; omega))) (by decide) (fun v379 ys380 hx381 => ?_)
      refine DW.ta rfl rfl rfl rfl (T.appendI (k := 1) sl31 rfl rfl hs334 rfl (by first | omega | (simp; omega)) (by first | omega | (simp; omega))) (by decide) (fun v382 => ?_)
      refine DW.ta rfl rfl rfl rfl (T.appendI (k := 1) sl31 rfl rfl hs336 rfl (by first | omega | (simp; omega)) (by first | omega | (simp; omega))) (by decide) (fun v383 => ?_)
      refine DW.x rfl rfl (X.callL Try.call25 rfl (fun w_ hw_ => keeps25 _ _ w rfl _ _ (hw_.rowSl (k := 0) rfl (hx381) (by unfold lenB; first | (rw [wideL_len]; omega) | (simp; omega))) _ _ _ (hw_.rowFSl (k := 1) rfl (by unfold lenB; first | (rw [wideL_len]; omega) | (simp; omega))))) (by decide) ?_
      refine DW.x rfl rfl (X.move rfl) (by decide) ?_
      refine DW.x rfl rfl (X.extract rfl rfl) (by decide) ?_
      refine DW.x rfl rfl (X.extract rfl rfl) (by decide) ?_
      refine DW.x rfl rfl (X.assign rfl) (by decide) ?_
      refine DW.x rfl rfl (X.assign rfl) (by decide) ?_
      refine DW.nil ?_
      refine WK.nThen ?_
      refine WK.drop (H' := [blk b3 49 [.int .i64 (metres.Lo), .int .i64 (metres.Hi)], blk b2 23 [.int .i64 (more.Fixed), .int .i64 (more.Each)]]) (.cons _ (.cons _ (.cons_cons _ (.cons_cons _ (.refl _))))) ?_
      exact WK.meet m374 rfl (.refl _) (.cons rfl (.cons rfl (.cons rfl (.cons rfl (.cons rfl (.cons rfl (.cons rfl (.cons rfl (.cons rfl .nil))))))))) (Mem.le_trans hle372 hle375)
    rintro m326 hle384
    show WK _ _ m326 [blk b3 49 [.int .i64 (metres.Lo), .int .i64 (metres.Hi)], blk b2 23 [.int .i64 (more.Fixed), .int .i64 (more.Each)]] [(2, vl), (3, .int .i64 (week)), (4, vlevels), (5, .int .i64 (at_)), (7, .pointer (some (⟨b1, 0, none⟩))), (13, .pointer (some ⟨b3, 0, none⟩)), (15, .bool true), (20, .bool ((keepsR w (([] ++ (l.take ((at_ : Int).toNat))) ++ (l.drop ((at_ + 1 : Int).toNat))) week (([] ++ (levels.take ((at_ : Int).toNat))) ++ (levels.drop ((at_ + 1 : Int).toNat)))).1)), (21, .int .i64 ((keepsR w (([] ++ (l.take ((at_ : Int).toNat))) ++ (l.drop ((at_ + 1 : Int).toNat))) week (([] ++ (levels.take ((at_ : Int).toNat))) ++ (levels.drop ((at_ + 1 : Int).toNat)))).2))] _
    replace hl := hl.mono hle384
    replace hlevels := hlevels.mono hle384
    replace hp325 := hp325.mono hle384
    refine WC.seq ?_
    refine WC.seq ?_
    have hk2 : keepsR w (([] ++ (l.take ((at_ : Int).toNat))) ++ (l.drop ((at_ + 1 : Int).toNat))) week (([] ++ (levels.take ((at_ : Int).toNat))) ++ (levels.drop ((at_ + 1 : Int).toNat))) = (true, 0) := (by have e1_ := out_keeps hk (a := at_.toNat) (by omega); unfold outL at e1_; simpa [show (at_ + 1).toNat = at_.toNat + 1 by omega] using e1_)
    rw [(by rw [hk2] : (keepsR w (([] ++ (l.take ((at_ : Int).toNat))) ++ (l.drop ((at_ + 1 : Int).toNat))) week (([] ++ (levels.take ((at_ : Int).toNat))) ++ (levels.drop ((at_ + 1 : Int).toNat)))).1 = true)]
    rw [(by rw [hk2] : (keepsR w (([] ++ (l.take ((at_ : Int).toNat))) ++ (l.drop ((at_ + 1 : Int).toNat))) week (([] ++ (levels.take ((at_ : Int).toNat))) ++ (levels.drop ((at_ + 1 : Int).toNat)))).2 = 0)]
    refine WC.region ?_
    refine WL.x (X.move rfl) (by decide) ?_
    refine WL.x (X.neq rfl rfl) (by decide) ?_
    refine WL.x (X.move rfl) (by decide) ?_
    refine WL.yes rfl rfl ?_
    refine WL.x (X.move rfl) (by decide) ?_
    refine WL.yes rfl rfl ?_
    refine WL.x (X.not rfl) (by decide) ?_
    refine WL.x (X.pickF rfl rfl rfl) (by decide) ?_
    refine WL.nil ?_
    refine WK.nThen ?_
    refine WC.condF rfl ?_
    refine WC.skip ?_
    refine WK.nThen ?_
    refine WC.seq ?_
    refine WC.region ?_
    refine WL.x (X.move rfl) (by decide) ?_
    refine WL.x (X.move rfl) (by decide) ?_
    refine WL.xe (E.idx Try.runUnderlying24 Try.sizeOf58 rfl rfl hl (by omega) (by omega)) (by decide) (fun p385 hp386 => ?_)
    refine WL.xe (E.loadAgg Try.isAgg58 Try.sizeOf58 rfl hp386) (by decide) (fun c387 hc388 => ?_)
    obtain ⟨v389, rfl, hs390⟩ := hc388
    have hl391 := hs390.le
    refine WL.x (X.move rfl) (by decide) ?_
    refine WL.x (X.call Try.call49 rfl (height49 _ _ (gt l ((at_ : Int).toNat)) ⟨_, rfl, hs390⟩ _ )) (by decide) ?_
    refine WL.x (X.move rfl) (by decide) ?_
    refine WL.x (X.extract rfl rfl) (by decide) ?_
    refine WL.x (X.extract rfl rfl) (by decide) ?_
    refine WL.tn (T.alloc Try.zeroValue49 rfl) (by decide) fun b392 => ?_
    refine WL.ts (T.storeBA (k := 0) Try.sizeOf49 rfl rfl rfl (one_cons rfl (one_cons rfl one_nil)) rfl rfl) ?_
    refine WL.x (X.assign rfl) (by decide) ?_
    refine WL.nil ?_
    refine WK.nThen ?_
    refine WC.seq ?_
    refine WC.seq ?_
    have hh := more_height hk (a := at_.toNat) (by omega)
    have hh1 : (heightR (gt l at_.toNat) week).2 = 0 := (by rw [hh])
    have hh2 : (heightR (gt l at_.toNat) week).1.Lo = (heightS (gt l at_.toNat) week).Lo := (by rw [hh])
    have hh3 : (heightR (gt l at_.toNat) week).1.Hi = (heightS (gt l at_.toNat) week).Hi := (by rw [hh])
    refine WC.region ?_
    refine WL.x (X.move rfl) (by decide) ?_
    refine WL.condn (X.neq rfl rfl) (by decide) (fun h393 => ?_) (fun h393 => ?_)
    · refine WL.x (X.move rfl) (by decide) ?_
      refine WL.no rfl rfl rfl (by decide) ?_
      refine WL.no rfl rfl rfl (by decide) ?_
      refine WL.no rfl rfl rfl (by decide) ?_
      refine WL.no rfl rfl rfl (by decide) ?_
      refine WL.no rfl rfl rfl (by decide) ?_
      refine WL.x (X.pickT rfl rfl rfl) (by decide) ?_
      refine WL.x (X.move rfl) (by decide) ?_
      refine WL.no rfl rfl rfl (by decide) ?_
      refine WL.no rfl rfl rfl (by decide) ?_
      refine WL.no rfl rfl rfl (by decide) ?_
      refine WL.no rfl rfl rfl (by decide) ?_
      refine WL.no rfl rfl rfl (by decide) ?_
      refine WL.x (X.pickT rfl rfl rfl) (by decide) ?_
      refine WL.nil ?_
      refine WK.nThen ?_
      refine WC.condT rfl ?_
      refine WC.seq ?_
      refine WC.region ?_
      refine WL.x (X.move rfl) (by decide) ?_
      refine WL.x (X.move rfl) (by decide) ?_
      refine WL.yes rfl rfl ?_
      refine WL.x (X.move rfl) (by decide) ?_
      refine WL.yes rfl rfl ?_
      refine WL.x (X.eql rfl rfl) (by decide) ?_
      refine WL.x (X.pickT rfl rfl rfl) (by decide) ?_
      refine WL.x (X.assign rfl) (by decide) ?_
      refine WL.nil ?_
      refine WK.nThen ?_
      refine WC.ret ?_
      refine WK.rThen ?_
      refine WK.ret1 rfl rfl (fun w' hw' => Ret.exact hw' ?_)
      first | rfl | (exfalso; omega) | (exfalso; have q_ := hmw (by omega) (by omega) (by omega); simp_all; done) | exact congrArg Value.bool (hwk (by omega)) | exact (bool_true (by omega)).symm
    refine WL.x (X.move rfl) (by decide) ?_
    refine WL.yes rfl rfl ?_
    refine WL.x (X.field Try.runUnderlying49 rfl Try.sizeOf3 rfl) (by decide) ?_
    refine WL.yes rfl rfl ?_
    refine WL.x (X.loadB (k := 1) Try.isAgg3 rfl rfl rfl) (by decide) ?_
    refine WL.yes rfl rfl ?_
    refine WL.x (X.field Try.runUnderlying49 rfl Try.sizeOf3 rfl) (by decide) ?_
    refine WL.yes rfl rfl ?_
    refine WL.x (X.loadB (k := 0) Try.isAgg3 rfl rfl rfl) (by decide) ?_
    refine WL.yes rfl rfl ?_
    refine WL.cond (X.gtr rfl rfl) (by decide) (fun h394 => ?_) (fun h394 => ?_)
    · refine WL.x (X.pickF rfl rfl rfl) (by decide) ?_
      refine WL.x (X.move rfl) (by decide) ?_
      refine WL.no rfl rfl rfl (by decide) ?_
      refine WL.no rfl rfl rfl (by decide) ?_
      refine WL.no rfl rfl rfl (by decide) ?_
      refine WL.no rfl rfl rfl (by decide) ?_
      refine WL.no rfl rfl rfl (by decide) ?_
      refine WL.x (X.pickT rfl rfl rfl) (by decide) ?_
      refine WL.nil ?_
      refine WK.nThen ?_
      refine WC.condT rfl ?_
      refine WC.seq ?_
      refine WC.region ?_
      refine WL.x (X.move rfl) (by decide) ?_
      refine WL.x (X.move rfl) (by decide) ?_
      refine WL.yes rfl rfl ?_
      refine WL.x (X.move rfl) (by decide) ?_
      refine WL.yes rfl rfl ?_
      refine WL.x (X.eql rfl rfl) (by decide) ?_
      refine WL.x (X.pickT rfl rfl rfl) (by decide) ?_
      refine WL.x (X.assign rfl) (by decide) ?_
      refine WL.nil ?_
      refine WK.nThen ?_
      refine WC.ret ?_
      refine WK.rThen ?_
      refine WK.ret1 rfl rfl (fun w' hw' => Ret.exact hw' ?_)
      first | rfl | (exfalso; omega) | (exfalso; have q_ := hmw (by omega) (by omega) (by omega); simp_all; done) | exact congrArg Value.bool (hwk (by omega)) | exact (bool_true (by omega)).symm
    refine WL.x (X.pickF rfl rfl rfl) (by decide) ?_
    refine WL.x (X.move rfl) (by decide) ?_
    refine WL.yes rfl rfl ?_
    refine WL.x (X.field Try.runUnderlying49 rfl Try.sizeOf3 rfl) (by decide) ?_
    refine WL.yes rfl rfl ?_
    refine WL.x (X.loadB (k := 1) Try.isAgg3 rfl rfl rfl) (by decide) ?_
    refine WL.yes rfl rfl ?_
    refine WL.x (X.field Try.runUnderlying49 rfl Try.sizeOf3 rfl) (by decide) ?_
    refine WL.yes rfl rfl ?_
    refine WL.x (X.loadB (k := 0) Try.isAgg3 rfl rfl rfl) (by decide) ?_
    refine WL.yes rfl rfl ?_
    refine WL.cond (X.lss rfl rfl) (by decide) (fun h395 => ?_) (fun h395 => ?_)
    · refine WL.x (X.pickF rfl rfl rfl) (by decide) ?_
      refine WL.nil ?_
      refine WK.nThen ?_
      refine WC.condT rfl ?_
      refine WC.seq ?_
      refine WC.region ?_
      refine WL.x (X.move rfl) (by decide) ?_
      refine WL.x (X.move rfl) (by decide) ?_
      refine WL.yes rfl rfl ?_
      refine WL.x (X.move rfl) (by decide) ?_
      refine WL.yes rfl rfl ?_
      refine WL.x (X.eql rfl rfl) (by decide) ?_
      refine WL.x (X.pickT rfl rfl rfl) (by decide) ?_
      refine WL.x (X.assign rfl) (by decide) ?_
      refine WL.nil ?_
      refine WK.nThen ?_
      refine WC.ret ?_
      refine WK.rThen ?_
      refine WK.ret1 rfl rfl (fun w' hw' => Ret.exact hw' ?_)
      first | rfl | (exfalso; omega) | (exfalso; have q_ := hmw (by omega) (by omega) (by omega); simp_all; done) | exact congrArg Value.bool (hwk (by omega)) | exact (bool_true (by omega)).symm
    refine WL.x (X.pickF rfl rfl rfl) (by decide) ?_
    refine WL.nil ?_
    refine WK.nThen ?_
    refine WC.condF rfl ?_
    refine WC.skip ?_
    refine WK.nThen ?_
    refine WC.seq ?_
    refine WC.region ?_
    refine WL.ta (T.lit0R sl24) (by decide) (fun v396 => ?_)
    refine WL.x (X.move rfl) (by decide) ?_
    refine WL.te (T.appendR (α := Station) (k := 0) sl24 rfl rfl hl rfl RdL.nil (by first | omega | (simp; done) | (simp; omega)) (by first | omega | (simp; done) | (simp; omega))) (by decide) (fun v397 ys398 hx399 => ?_)
    refine WL.x (X.assign rfl) (by decide) ?_
    refine WL.nil ?_
    refine WK.nThen ?_
    refine WC.seq ?_
    refine WK.freezeS (α := Span) (x := metres) 2 rfl rfl (show Enc.rd (α := Span) m326 [.int .i64 (metres.Lo), .int .i64 (metres.Hi)] metres from rfl) (fun m400 hle401 hp402 => ?_)
    replace hl := hl.mono hle401
    replace hlevels := hlevels.mono hle401
    replace hp325 := hp325.mono hle401
    replace hp386 := hp386.mono hle401
    replace hs390 := hs390.mono hle401
    replace hx399 := hx399.mono hle401
    refine WC.draw (π := (.cons 0 (.cons 1 (.cons 2 (.cons 3 (.cons 4 (.cons 5 (.cons 6 (.cons 7 (.cons 8 (.cons 9 (.cons 10 (.cons 11 (.cons 12 (.cons 13 (.cons 14 (.cons 15 (.cons 16 (.cons 17 (.cons 18 (.cons 19 (.cons 20 (.cons 21 (.cons 22 .done)))))))))))))))))))))))) [19, 22] [22] rfl (by kernel_rfl) ?_
    refine DW.x rfl rfl (X.move rfl) (by decide) ?_
    refine DW.x rfl rfl (X.move rfl) (by decide) ?_
    refine DW.x rfl rfl (X.move rfl) (by decide) ?_
    refine DW.x rfl rfl (X.move rfl) (by decide) ?_
    refine DW.xe rfl rfl (E.idx Try.runUnderlying24 Try.sizeOf58 rfl rfl hl (by omega) (by omega)) (by decide) (fun p403 hp404 => ?_)
    have hp405 := At.Station_0 hp404
    refine DW.x rfl rfl (X.field Try.runUnderlying58 rfl Try.sizeOf3 rfl) (by decide) ?_
    refine DW.x rfl rfl (X.loadInt Try.isAgg3 rfl hp405) (by decide) ?_
    refine DW.x rfl rfl (X.move rfl) (by decide) ?_
    refine DW.x rfl rfl (X.move rfl) (by decide) ?_
    refine DW.xe rfl rfl (E.idx Try.runUnderlying24 Try.sizeOf58 rfl rfl hl (by omega) (by omega)) (by decide) (fun p406 hp407 => ?_)
    have hp408 := At.Station_1 hp407
    refine DW.x rfl rfl (X.field Try.runUnderlying58 rfl Try.sizeOf3 rfl) (by decide) ?_
    refine DW.x rfl rfl (X.loadInt Try.isAgg3 rfl hp408) (by decide) ?_
    refine DW.x rfl rfl (X.move rfl) (by decide) ?_
    refine DW.x rfl rfl (X.move rfl) (by decide) ?_
    refine DW.xe rfl rfl (E.idx Try.runUnderlying24 Try.sizeOf58 rfl rfl hl (by omega) (by omega)) (by decide) (fun p409 hp410 => ?_)
    have hp411 := At.Station_2 hp410
    refine DW.x rfl rfl (X.field Try.runUnderlying58 rfl Try.sizeOf3 rfl) (by decide) ?_
    refine DW.x rfl rfl (X.loadInt Try.isAgg3 rfl hp411) (by decide) ?_
    refine DW.xe rfl rfl (E.loadAgg Try.isAgg49 Try.sizeOf49 rfl hp402) (by decide) (fun c412 hc413 => ?_)
    obtain rfl := hc413
    refine DW.x (V := Value.agg [.int .i64 (0), .int .i64 (metres.Lo), .int .i64 (metres.Hi)].toArray) rfl rfl (X.build Try.zeroValue71 Try.runUnderlying71 (places71 _ Try.underlying71) rfl rfl) (by decide) ?_
    refine DW.tm rfl rfl rfl (T.litM (α := Height) (vals := [.agg [.int .i64 (0), .int .i64 (metres.Lo), .int .i64 (metres.Hi)].toArray]) (L := [(Height.mk (0) (metres))]) sl56 rfl (.cons rfl rfl .nil) rfl rfl) (by decide) (fun m414 v415 hle416 hs417 => ?_)
    replace hl := hl.mono hle416
    replace hlevels := hlevels.mono hle416
    replace hp325 := hp325.mono hle416
    replace hp386 := hp386.mono hle416
    replace hs390 := hs390.mono hle416
    replace hx399 := hx399.mono hle416
    replace hp402 := hp402.mono hle416
    replace hp404 := hp404.mono hle416
    replace hp405 := hp405.mono hle416
    replace hp407 := hp407.mono hle416
    replace hp408 := hp408.mono hle416
    replace hp410 := hp410.mono hle416
    replace hp411 := hp411.mono hle416
    refine DW.x (V := Value.agg [.int .i64 ((gt l ((at_ : Int).toNat)).ID), .int .i64 ((gt l ((at_ : Int).toNat)).X), .int .i64 ((gt l ((at_ : Int).toNat)).Y), v415].toArray) rfl rfl (X.build Try.zeroValue58 Try.runUnderlying58 (places58 _ Try.underlying58) rfl (by simp only [Instr.fill, one_cells hs417.one]; rfl)) (by decide) ?_
    refine DW.x rfl rfl (X.idxRow (k := 0) Try.runUnderlying24 Try.sizeOf58 rfl rfl rfl (by first | omega | (simp; omega) | simp) (by first | omega | (simp; omega) | simp)) (by decide) ?_
    refine DW.te0 rfl rfl rfl rfl (T.storeRs (k := 0) (i := ((at_ : Int).toNat)) (us := [.int .i64 ((gt l ((at_ : Int).toNat)).ID), .int .i64 ((gt l ((at_ : Int).toNat)).X), .int .i64 ((gt l ((at_ : Int).toNat)).Y), v415]) (a := ((Station.mk ((gt l ((at_ : Int).toNat)).ID) ((gt l ((at_ : Int).toNat)).X) ((gt l ((at_ : Int).toNat)).Y) ([(Height.mk (0) (metres))])))) Try.sizeOf58 rfl rfl rfl rfl (Nat.zero_lt_succ _) rfl (by first | omega | (simp; omega) | simp) hx399 ⟨_, rfl, hs417⟩ (one_cons rfl (one_cons rfl (one_cons rfl (one_cons hs417.one one_nil))))) (fun ys418 hx419 => ?_)
    refine DW.nil ?_
    refine WK.nThen ?_
    refine WC.seq ?_
    have he420 : (([] ++ l).set ((at_ : Int).toNat) ((Station.mk ((gt l ((at_ : Int).toNat)).ID) ((gt l ((at_ : Int).toNat)).X) ((gt l ((at_ : Int).toNat)).Y) ([(Height.mk (0) (metres))])))) = ((wideL l at_.toNat metres)) := (by unfold wideL; rw [List.nil_append])
    rw [he420]
    rw [he420] at hx419
    refine WC.region ?_
    refine WL.xe (E.loadAgg Try.isAgg23 Try.sizeOf23 rfl hp325) (by decide) (fun c421 hc422 => ?_)
    obtain rfl := hc422
    refine WL.x (X.move rfl) (by decide) ?_
    refine WL.x (X.move rfl) (by decide) ?_
    refine WL.x (X.move rfl) (by decide) ?_
    refine WL.x (X.callL Try.call25 rfl (fun w_ hw_ => keeps25 _ _ w rfl _ _ (hw_.rowSl (k := 0) rfl (hx419) (by unfold lenB; first | (rw [wideL_len]; omega) | (simp; omega))) _ _ _ (hlevels.mono hw_.leAll))) (by decide) ?_
    refine WL.x (X.move rfl) (by decide) ?_
    refine WL.x (X.extract rfl rfl) (by decide) ?_
    refine WL.x (X.extract rfl rfl) (by decide) ?_
    refine WL.x (X.assign rfl) (by decide) ?_
    refine WL.x (X.assign rfl) (by decide) ?_
    refine WL.nil ?_
    refine WK.nThen ?_
    refine WC.seq ?_
    have hwk := fun h_ => wide_keeps hk (a := at_.toNat) (by omega) (m := metres) (by omega) (by omega) h_
    refine WC.region ?_
    refine WL.x (X.move rfl) (by decide) ?_
    refine WL.x (X.move rfl) (by decide) ?_
    refine WL.yes rfl rfl ?_
    refine WL.x (X.move rfl) (by decide) ?_
    refine WL.yes rfl rfl ?_
    refine WL.condn (X.neq rfl rfl) (by decide) (fun h423 => ?_) (fun h423 => ?_)
    · refine WL.yes rfl rfl ?_
      refine WL.x (X.move rfl) (by decide) ?_
      refine WL.no rfl rfl rfl (by decide) ?_
      refine WL.yes rfl rfl ?_
      refine WL.x (X.pickT rfl rfl rfl) (by decide) ?_
      refine WL.x (X.pickT rfl rfl rfl) (by decide) ?_
      refine WL.x (X.assign rfl) (by decide) ?_
      refine WL.nil ?_
      refine WK.nThen ?_
      refine WC.ret ?_
      refine WK.ret1 rfl rfl (fun w' hw' => Ret.exact hw' ?_)
      first | rfl | (exfalso; omega) | (exfalso; have q_ := hmw (by omega) (by omega) (by omega); simp_all; done) | exact congrArg Value.bool (hwk (by omega)) | exact (bool_true (by omega)).symm
    refine WL.yes rfl rfl ?_
    refine WL.x (X.move rfl) (by decide) ?_
    refine WL.yes rfl rfl ?_
    refine WL.x (X.move rfl) (by decide) ?_
    refine WL.yes rfl rfl ?_
    refine WL.x (X.pickF rfl rfl rfl) (by decide) ?_
    refine WL.x (X.pickT rfl rfl rfl) (by decide) ?_
    refine WL.x (X.assign rfl) (by decide) ?_
    refine WL.nil ?_
    refine WK.nThen ?_
    refine WC.ret ?_
    refine WK.ret1 rfl rfl (fun w' hw' => Ret.exact hw' ?_)
    first | rfl | (exfalso; omega) | (exfalso; have q_ := hmw (by omega) (by omega) (by omega); simp_all; done) | exact congrArg Value.bool (hwk (by omega)) | exact (bool_true (by omega)).symm
  refine WL.x (X.not rfl) (by decide) ?_
  refine WL.x (X.move rfl) (by decide) ?_
  refine WL.no rfl rfl rfl (by decide) ?_
  refine WL.no rfl rfl rfl (by decide) ?_
  refine WL.no rfl rfl rfl (by decide) ?_
  refine WL.x (X.pickT rfl rfl rfl) (by decide) ?_
  refine WL.nil ?_
  refine WK.nThen ?_
  refine WC.condT rfl ?_
  refine WC.seq ?_
  refine WC.region ?_
  refine WL.x (X.move rfl) (by decide) ?_
  refine WL.x (X.assign rfl) (by decide) ?_
  refine WL.nil ?_
  refine WK.nThen ?_
  refine WC.ret ?_
  refine WK.rThen ?_
  refine WK.ret1 rfl rfl (fun w' hw' => Ret.exact hw' ?_)
  first | rfl | (exfalso; omega) | (exfalso; have q_ := hmw (by omega) (by omega) (by omega); simp_all; done) | exact congrArg Value.bool (hwk (by omega)) | exact (bool_true (by omega)).symm
end Go.Proofs.S5
