/- The walk of the statement StationsMoved. -/
import Derived.Test.YtcpecjgppbiplaaS5Law
import Derived.Test.YtcpecjgppbiplaaS5W10
import Derived.Test.YtcpecjgppbiplaaS5LMoved
import Derived.Test.YtcpecjgppbiplaaS5Br
namespace Go.Proofs.S5
open Go Go.Kx
set_option linter.unusedVariables false

set_option maxHeartbeats 4000000 in
theorem law15 (m : Mem) (cs : List Value) (s : Station) (hs : Enc.rd m cs s) (ch : List Value) (h : Height) (hh : Enc.rd m ch h) (cg : List Value) (g : Height) (hg : Enc.rd m cg g) (week : Int)  (ok0 : Rng.ok s) (ok1 : Rng.ok h) (ok2 : Rng.ok g) (lo3 : -9223372036854775808 ≤ week) (hi3 : week ≤ 9223372036854775807) : Exact Try.prog 15 #[.agg cs.toArray, .agg ch.toArray, .agg cg.toArray, .int .i64 (week)] m (.bool true) := by
  obtain ⟨v1, rfl, hs2⟩ := hs
  have hl3 := hs2.le
  obtain rfl := hh
  obtain rfl := hg
  refine Exact.start Try.func15 rfl Try.ntmps15 rfl fun wld => ?_
  refine WC.seq ?_
  refine WC.region ?_
  refine WL.tn (T.boxB rfl rfl) (by decide) fun b4 => ?_
  refine WL.tn (T.boxB rfl rfl) (by decide) fun b5 => ?_
  refine WL.tn (T.boxB rfl rfl) (by decide) fun b6 => ?_
  refine WL.x (X.assign rfl) (by decide) ?_
  refine WL.nil ?_
  refine WK.nThen ?_
  refine WC.seq ?_
  refine WC.region ?_
  refine WL.x (X.call Try.call17 rfl (awake17 _  )) (by decide) ?_
  refine WL.x (X.assign rfl) (by decide) ?_
  refine WL.nil ?_
  refine WK.nThen ?_
  refine WC.seq ?_
  refine WC.seq ?_
  refine WC.region ?_
  refine WL.x (X.loadBA (k := 2) Try.isAgg58 Try.sizeOf58 rfl rfl rfl) (by decide) ?_
  refine WL.cond (X.call Try.call40 rfl (one40 _ _ s ⟨_, rfl, hs2⟩ )) (by decide) (fun h7 => ?_) (fun h7 => ?_)
  · refine WL.x (X.not rfl) (by decide) ?_
    refine WL.nil ?_
    refine WK.nThen ?_
    refine WC.condF rfl ?_
    refine WC.skip ?_
    refine WK.nThen ?_
    refine WC.seq ?_
    refine WC.region ?_
    refine WL.x (X.loadBA (k := 2) Try.isAgg58 Try.sizeOf58 rfl rfl rfl) (by decide) ?_
    refine WL.x (X.loadBA (k := 1) Try.isAgg71 Try.sizeOf71 rfl rfl rfl) (by decide) ?_
    refine WL.tm (T.call Try.call51 rfl (move51 _ _ s ⟨_, rfl, hs2⟩ _ h rfl )) (by decide) fun m8 r9 hle10 hR11 => ?_
    obtain ⟨c12, rfl, hc13⟩ := hR11
    replace hs2 := hs2.mono hle10
    obtain ⟨v14, rfl, hs15⟩ := hc13
    have hl16 := hs15.le
    refine WL.x (X.move rfl) (by decide) ?_
    refine WL.x (X.extract rfl rfl) (by decide) ?_
    refine WL.x (X.extract rfl rfl) (by decide) ?_
    refine WL.tn (T.alloc Try.zeroValue58 rfl) (by decide) fun b17 => ?_
    refine WL.ts (T.storeBA (k := 0) Try.sizeOf58 rfl rfl rfl (one_cons rfl (one_cons rfl (one_cons rfl (one_cons hs15.one one_nil)))) rfl rfl) ?_
    refine WL.x (X.assign rfl) (by decide) ?_
    refine WL.nil ?_
    refine WK.nThen ?_
    refine WC.seq ?_
    refine WC.seq ?_
    refine WC.region ?_
    refine WL.x (X.move rfl) (by decide) ?_
    refine WL.condn (X.neq rfl rfl) (by decide) (fun h18 => ?_) (fun h18 => ?_)
    · refine WL.nil ?_
      refine WK.nThen ?_
      refine WC.condT rfl ?_
      refine WC.seq ?_
      refine WC.region ?_
      refine WL.x (X.move rfl) (by decide) ?_
      refine WL.x (X.assign rfl) (by decide) ?_
      refine WL.nil ?_
      refine WK.nThen ?_
      refine WC.ret ?_
      refine WK.rThen ?_
      refine WK.ret1 rfl rfl (fun w' hw' => Ret.exact hw' ?_)
      first | rfl | (exfalso; omega) | exact (bool_true (by omega)).symm
    · refine WL.nil ?_
      refine WK.nThen ?_
      refine WC.condF rfl ?_
      refine WC.skip ?_
      refine WK.nThen ?_
      refine WC.seq ?_
      have hmz : (moveR s h).2 = 0 := (by omega)
      obtain ⟨hm1, hm2, hm3⟩ := moveR_zero hmz
      have hone := oneE_zero hm1
      have hhl := hone.2.1
      have hme := moved_err (week := week) hmz
      refine WC.region ?_
      refine WL.x (X.loadBA (k := 3) Try.isAgg58 Try.sizeOf58 rfl rfl rfl) (by decide) ?_
      refine WL.x (X.move rfl) (by decide) ?_
      refine WL.x (X.call Try.call49 rfl (height49 _ _ s ⟨_, rfl, hs2⟩ _ )) (by decide) ?_
      refine WL.x (X.move rfl) (by decide) ?_
      refine WL.x (X.extract rfl rfl) (by decide) ?_
      refine WL.x (X.extract rfl rfl) (by decide) ?_
      refine WL.tn (T.alloc Try.zeroValue49 rfl) (by decide) fun b19 => ?_
      refine WL.ts (T.storeBA (k := 0) Try.sizeOf49 rfl rfl rfl (one_cons rfl (one_cons rfl one_nil)) rfl rfl) ?_
      refine WL.x (X.assign rfl) (by decide) ?_
      refine WL.nil ?_
      refine WK.nThen ?_
      refine WC.seq ?_
      refine WC.region ?_
      refine WL.x (X.loadBA (k := 1) Try.isAgg58 Try.sizeOf58 rfl rfl rfl) (by decide) ?_
      refine WL.x (X.move rfl) (by decide) ?_
      refine WL.x (X.call Try.call49 rfl (height49 _ _ ((moveR s h).1) ⟨_, rfl, hs15⟩ _ )) (by decide) ?_
      refine WL.x (X.move rfl) (by decide) ?_
      refine WL.x (X.extract rfl rfl) (by decide) ?_
      refine WL.x (X.extract rfl rfl) (by decide) ?_
      refine WL.tn (T.alloc Try.zeroValue49 rfl) (by decide) fun b20 => ?_
      refine WL.ts (T.storeBA (k := 0) Try.sizeOf49 rfl rfl rfl (one_cons rfl (one_cons rfl one_nil)) rfl rfl) ?_
      refine WL.x (X.assign rfl) (by decide) ?_
      refine WL.nil ?_
      refine WK.nThen ?_
      refine WC.seq ?_
      refine WC.seq ?_
      refine WC.region ?_
      refine WL.x (X.move rfl) (by decide) ?_
      refine WL.x (X.move rfl) (by decide) ?_
      refine WL.x (OpX.f (X.neq rfl rfl) (fun h_ => h_ hme)) (by decide) ?_
      refine WL.nil ?_
      refine WK.nThen ?_
      refine WC.condF rfl ?_
      refine WC.skip ?_
      refine WK.nThen ?_
      refine WC.seq ?_
      refine WC.region ?_
      refine WL.x (X.assign rfl) (by decide) ?_
      refine WL.nil ?_
      refine WK.nThen ?_
      refine WC.seq ?_
      refine WC.seq ?_
      refine WC.region ?_
      refine WL.x (X.field Try.runUnderlying58 rfl Try.sizeOf56 rfl) (by decide) ?_
      refine WL.x (X.loadB (k := 5) Try.isAgg56 rfl rfl rfl) (by decide) ?_
      refine WL.x (X.len Try.runUnderlying56 rfl hs2) (by decide) ?_
      refine WL.x (X.sub rfl rfl (by omega) (by omega)) (by decide) ?_
      refine WL.x (X.assign rfl) (by decide) ?_
      refine WL.nil ?_
      refine WK.nThen ?_
      refine WC.block ?_
      refine WC.loop (G := Int × Int) (fun (k, nx) => (k + 1).toNat) (fun (k, nx) => m8) (fun (k, nx) => [blk b20 49 [.int .i64 ((heightR ((moveR s h).1) week).1.Lo), .int .i64 ((heightR ((moveR s h).1) week).1.Hi)], blk b19 49 [.int .i64 ((heightR s week).1.Lo), .int .i64 ((heightR s week).1.Hi)], blk b17 58 [.int .i64 (((moveR s h).1).ID), .int .i64 (((moveR s h).1).X), .int .i64 (((moveR s h).1).Y), v14], blk b6 71 [.int .i64 (g.Week), .int .i64 (g.Metres.Lo), .int .i64 (g.Metres.Hi)], blk b5 71 [.int .i64 (h.Week), .int .i64 (h.Metres.Lo), .int .i64 (h.Metres.Hi)], blk b4 58 [.int .i64 (s.ID), .int .i64 (s.X), .int .i64 (s.Y), v1]]) (fun (k, nx) => [(3, .int .i64 (week)), (4, .pointer (some ⟨b4, 0, none⟩)), (5, .pointer (some ⟨b5, 0, none⟩)), (6, .pointer (some ⟨b6, 0, none⟩)), (9, .bool true), (10, .pointer (some ⟨b17, 0, none⟩)), (12, .pointer (some ⟨b19, 0, none⟩)), (13, .int .i64 ((heightR s week).2)), (14, .pointer (some ⟨b20, 0, none⟩)), (16, .int .i64 (nx)), (17, .int .i64 (k))]) (fun (k, nx) => (-1 ≤ k ∧ k < s.Heights.length) ∧ nextP s.Heights h (k + 1).toNat nx) ((↑s.Heights.length - 1, 10001)) rfl (.refl _) (.cons rfl (.cons rfl (.cons rfl (.cons rfl (.cons rfl (.cons rfl (.cons rfl (.cons rfl (.cons rfl (.cons rfl (.cons rfl .nil))))))))))) ?_ ?_
      · exact ⟨by omega, nextP_start _ _ (by omega)⟩
      · rintro ⟨k, nx⟩ hF21
        show WK _ _ m8 [blk b20 49 [.int .i64 ((heightR ((moveR s h).1) week).1.Lo), .int .i64 ((heightR ((moveR s h).1) week).1.Hi)], blk b19 49 [.int .i64 ((heightR s week).1.Lo), .int .i64 ((heightR s week).1.Hi)], blk b17 58 [.int .i64 (((moveR s h).1).ID), .int .i64 (((moveR s h).1).X), .int .i64 (((moveR s h).1).Y), v14], blk b6 71 [.int .i64 (g.Week), .int .i64 (g.Metres.Lo), .int .i64 (g.Metres.Hi)], blk b5 71 [.int .i64 (h.Week), .int .i64 (h.Metres.Lo), .int .i64 (h.Metres.Hi)], blk b4 58 [.int .i64 (s.ID), .int .i64 (s.X), .int .i64 (s.Y), v1]] [(3, .int .i64 (week)), (4, .pointer (some ⟨b4, 0, none⟩)), (5, .pointer (some ⟨b5, 0, none⟩)), (6, .pointer (some ⟨b6, 0, none⟩)), (9, .bool true), (10, .pointer (some ⟨b17, 0, none⟩)), (12, .pointer (some ⟨b19, 0, none⟩)), (13, .int .i64 ((heightR s week).2)), (14, .pointer (some ⟨b20, 0, none⟩)), (16, .int .i64 (nx)), (17, .int .i64 (k))] _
        replace hF21 : (-1 ≤ k ∧ k < s.Heights.length) ∧ nextP s.Heights h (k + 1).toNat nx := hF21
        obtain ⟨hk, hnp⟩ := hF21
        refine WC.seq ?_
        refine WC.seq ?_
        refine WC.region ?_
        refine WL.x (X.move rfl) (by decide) ?_
        refine WL.cond (X.geq rfl rfl) (by decide) (fun h22 => ?_) (fun h22 => ?_)
        · refine WL.nil ?_
          refine WK.nThen ?_
          refine WC.condT rfl ?_
          refine WC.skip ?_
          refine WK.nThen ?_
          refine WC.seq ?_
          refine WC.block ?_
          refine WC.seq ?_
          refine WC.draw (π := (.cons 0 (.cons 1 (.cons 2 (.cons 3 (.cons 4 (.cons 5 (.cons 6 (.cons 7 (.cons 8 .done)))))))))) [] [] rfl (by kernel_rfl) ?_
          refine DW.x rfl rfl (X.field Try.runUnderlying58 rfl Try.sizeOf56 rfl) (by decide) ?_
          refine DW.x rfl rfl (X.loadB (k := 5) Try.isAgg56 rfl rfl rfl) (by decide) ?_
          refine DW.x rfl rfl (X.move rfl) (by decide) ?_
          refine DW.xe rfl rfl (E.idx Try.runUnderlying56 Try.sizeOf71 rfl rfl hs2 (by omega) (by omega)) (by decide) (fun p23 hp24 => ?_)
          have hp25 := At.Height_0 hp24
          refine DW.x rfl rfl (X.field Try.runUnderlying71 rfl Try.sizeOf3 rfl) (by decide) ?_
          refine DW.x rfl rfl (X.loadInt Try.isAgg3 rfl hp25) (by decide) ?_
          refine DW.x rfl rfl (X.field Try.runUnderlying71 rfl Try.sizeOf3 rfl) (by decide) ?_
          refine DW.x rfl rfl (X.loadB (k := 4) Try.isAgg3 rfl rfl rfl) (by decide) ?_
          refine DW.cond rfl rfl (X.gtr rfl rfl) (by decide) (fun h26 => ?_) (fun h26 => ?_)
          · refine DW.nil ?_
            refine WK.nThen ?_
            refine WC.condT rfl ?_
            refine WC.region ?_
            refine WL.x (X.field Try.runUnderlying58 rfl Try.sizeOf56 rfl) (by decide) ?_
            refine WL.x (X.loadB (k := 5) Try.isAgg56 rfl rfl rfl) (by decide) ?_
            refine WL.x (X.move rfl) (by decide) ?_
            refine WL.xe (E.idx Try.runUnderlying56 Try.sizeOf71 rfl rfl hs2 (by omega) (by omega)) (by decide) (fun p27 hp28 => ?_)
            have hp29 := At.Height_0 hp28
            refine WL.x (X.field Try.runUnderlying71 rfl Try.sizeOf3 rfl) (by decide) ?_
            refine WL.x (X.loadInt Try.isAgg3 rfl hp29) (by decide) ?_
            refine WL.x (X.assign rfl) (by decide) ?_
            refine WL.nil ?_
            refine WK.nBlock ?_
            refine WK.nThen ?_
            refine WC.region ?_
            refine WL.x (X.move rfl) (by decide) ?_
            refine WL.x (X.sub rfl rfl (by omega) (by omega)) (by decide) ?_
            refine WL.x (X.assign rfl) (by decide) ?_
            refine WL.nil ?_
            refine WK.nThen ?_
            refine WK.next ((k - 1, (gt s.Heights ((k : Int).toNat)).Week)) rfl (.refl _) (.cons rfl (.cons rfl (.cons rfl (.cons rfl (.cons rfl (.cons rfl (.cons rfl (.cons rfl (.cons rfl (.cons rfl (.cons rfl .nil))))))))))) ?_ ?_
            · exact ⟨by omega, by rw [show (k - 1 + 1).toNat = k.toNat by omega]; first | exact nextP_yes hone.2 (by omega) (by assumption) | exact nextP_no (by rw [show k.toNat + 1 = (k + 1).toNat by omega]; exact hnp) (by assumption)⟩
            · (dsimp only; omega)
          · refine DW.nil ?_
            refine WK.nThen ?_
            refine WC.condF rfl ?_
            refine WC.skip ?_
            refine WK.nBlock ?_
            refine WK.nThen ?_
            refine WC.region ?_
            refine WL.x (X.move rfl) (by decide) ?_
            refine WL.x (X.sub rfl rfl (by omega) (by omega)) (by decide) ?_
            refine WL.x (X.assign rfl) (by decide) ?_
            refine WL.nil ?_
            refine WK.nThen ?_
            refine WK.next ((k - 1, nx)) rfl (.refl _) (.cons rfl (.cons rfl (.cons rfl (.cons rfl (.cons rfl (.cons rfl (.cons rfl (.cons rfl (.cons rfl (.cons rfl (.cons rfl .nil))))))))))) ?_ ?_
            · exact ⟨by omega, by rw [show (k - 1 + 1).toNat = k.toNat by omega]; first | exact nextP_yes hone.2 (by omega) (by assumption) | exact nextP_no (by rw [show k.toNat + 1 = (k + 1).toNat by omega]; exact hnp) (by assumption)⟩
            · (dsimp only; omega)
        · refine WL.nil ?_
          refine WK.nThen ?_
          refine WC.condF rfl ?_
          refine WC.exit ?_
          refine WK.eThen ?_
          refine WK.eThen ?_
          refine WK.eHit ?_
          refine WK.nThen ?_
          refine WC.seq ?_
          refine WC.cut (G := Unit) (fun u_ => m8) (fun u_ => [blk b20 49 [.int .i64 ((heightR ((moveR s h).1) week).1.Lo), .int .i64 ((heightR ((moveR s h).1) week).1.Hi)], blk b19 49 [.int .i64 ((heightR s week).1.Lo), .int .i64 ((heightR s week).1.Hi)], blk b17 58 [.int .i64 (((moveR s h).1).ID), .int .i64 (((moveR s h).1).X), .int .i64 (((moveR s h).1).Y), v14], blk b6 71 [.int .i64 (g.Week), .int .i64 (g.Metres.Lo), .int .i64 (g.Metres.Hi)], blk b5 71 [.int .i64 (h.Week), .int .i64 (h.Metres.Lo), .int .i64 (h.Metres.Hi)], blk b4 58 [.int .i64 (s.ID), .int .i64 (s.X), .int .i64 (s.Y), v1]]) (fun u_ => [(4, .pointer (some ⟨b4, 0, none⟩)), (5, .pointer (some ⟨b5, 0, none⟩)), (6, .pointer (some ⟨b6, 0, none⟩)), (9, .bool true), (10, .pointer (some ⟨b17, 0, none⟩)), (114, .bool false)]) (fun u_ => True) ?_ ?_
          · have hnx : nextP s.Heights h 0 nx := (by rw [show (0 : Nat) = (k + 1).toNat by omega]; exact hnp)
            refine WC.region ?_
            refine WL.x (X.move rfl) (by decide) ?_
            refine WL.cond (X.eql rfl rfl) (by decide) (fun h30 => ?_) (fun h30 => ?_)
            · refine WL.x (X.move rfl) (by decide) ?_
              refine WL.yes rfl rfl ?_
              refine WL.x (X.move rfl) (by decide) ?_
              refine WL.yes rfl rfl ?_
              refine WL.x (X.field Try.runUnderlying71 rfl Try.sizeOf3 rfl) (by decide) ?_
              refine WL.yes rfl rfl ?_
              refine WL.x (X.loadB (k := 4) Try.isAgg3 rfl rfl rfl) (by decide) ?_
              refine WL.yes rfl rfl ?_
              refine WL.cond (X.lss rfl rfl) (by decide) (fun h31 => ?_) (fun h31 => ?_)
              · refine WL.yes rfl rfl ?_
                refine WL.x (X.move rfl) (by decide) ?_
                refine WL.no rfl rfl rfl (by decide) ?_
                refine WL.no rfl rfl rfl (by decide) ?_
                refine WL.no rfl rfl rfl (by decide) ?_
                refine WL.yes rfl rfl ?_
                refine WL.x (X.pickT rfl rfl rfl) (by decide) ?_
                refine WL.x (X.pickT rfl rfl rfl) (by decide) ?_
                refine WL.x (X.move rfl) (by decide) ?_
                refine WL.yes rfl rfl ?_
                refine WL.x (X.loadBA (k := 1) Try.isAgg49 Try.sizeOf49 rfl rfl rfl) (by decide) ?_
                refine WL.yes rfl rfl ?_
                refine WL.x (X.loadBA (k := 0) Try.isAgg49 Try.sizeOf49 rfl rfl rfl) (by decide) ?_
                refine WL.yes rfl rfl ?_
                refine WL.x (OpX.f (X.neqS (a := (heightR s week).1) (b := (heightR ((moveR s h).1) week).1) gd49 (fun w => eqS49 9998 _ _ w) rfl rfl) (fun h_ => h_ (moved_out hmz (by omega) hnx (by omega)))) (by decide) ?_
                refine WL.x (X.pickT rfl rfl rfl) (by decide) ?_
                refine WL.x (X.move rfl) (by decide) ?_
                refine WL.yes rfl rfl ?_
                refine WL.x (X.move rfl) (by decide) ?_
                refine WL.yes rfl rfl ?_
                refine WL.cond (X.eql rfl rfl) (by decide) (fun h32 => ?_) (fun h32 => ?_)
                · refine WL.yes rfl rfl ?_
                  refine WL.x (X.move rfl) (by decide) ?_
                  refine WL.yes rfl rfl ?_
                  refine WL.x (X.move rfl) (by decide) ?_
                  refine WL.yes rfl rfl ?_
                  refine WL.x (X.field Try.runUnderlying71 rfl Try.sizeOf3 rfl) (by decide) ?_
                  refine WL.yes rfl rfl ?_
                  refine WL.x (X.loadB (k := 4) Try.isAgg3 rfl rfl rfl) (by decide) ?_
                  refine WL.yes rfl rfl ?_
                  refine WL.cond (X.geq rfl rfl) (by decide) (fun h33 => ?_) (fun h33 => ?_)
                  · refine WL.yes rfl rfl ?_
                    refine WL.x (X.pickT rfl rfl rfl) (by decide) ?_
                    refine WL.yes rfl rfl ?_
                    refine WL.x (X.move rfl) (by decide) ?_
                    refine WL.yes rfl rfl ?_
                    refine WL.x (X.move rfl) (by decide) ?_
                    refine WL.yes rfl rfl ?_
                    refine WL.x (X.move rfl) (by decide) ?_
                    refine WL.yes rfl rfl ?_
                    refine WL.cond (X.lss rfl rfl) (by decide) (fun h34 => ?_) (fun h34 => ?_)
                    · refine WL.yes rfl rfl ?_
                      refine WL.x (X.pickT rfl rfl rfl) (by decide) ?_
                      refine WL.yes rfl rfl ?_
                      refine WL.x (X.move rfl) (by decide) ?_
                      refine WL.yes rfl rfl ?_
                      refine WL.x (X.loadBA (k := 0) Try.isAgg49 Try.sizeOf49 rfl rfl rfl) (by decide) ?_
                      refine WL.yes rfl rfl ?_
                      refine WL.x (X.field Try.runUnderlying71 rfl Try.sizeOf49 rfl) (by decide) ?_
                      refine WL.yes rfl rfl ?_
                      refine WL.x (X.loadBP (k := 4) (vs := [.int .i64 (h.Metres.Lo), .int .i64 (h.Metres.Hi)]) Try.isAgg49 Try.sizeOf49 rfl rfl rfl rfl) (by decide) ?_
                      refine WL.yes rfl rfl ?_
                      refine WL.x (OpX.f (X.neqS (a := (heightR ((moveR s h).1) week).1) (b := h.Metres) gd49 (fun w => eqS49 9998 _ _ w) rfl rfl) (fun h_ => h_ (moved_in hmz (by omega) hnx (by omega) (by omega)))) (by decide) ?_
                      refine WL.yes rfl rfl ?_
                      refine WL.x (X.pickT rfl rfl rfl) (by decide) ?_
                      refine WL.x (X.pickF rfl rfl rfl) (by decide) ?_
                      refine WL.nil ?_
                      refine WK.nThen ?_
                      refine WK.meet (()) rfl (.refl _) (.cons rfl (.cons rfl (.cons rfl (.cons rfl (.cons rfl (.cons rfl .nil)))))) ?_
                      trivial
                    · refine WL.yes rfl rfl ?_
                      refine WL.x (X.pickT rfl rfl rfl) (by decide) ?_
                      refine WL.yes rfl rfl ?_
                      refine WL.x (X.move rfl) (by decide) ?_
                      refine WL.no rfl rfl rfl (by decide) ?_
                      refine WL.no rfl rfl rfl (by decide) ?_
                      refine WL.no rfl rfl rfl (by decide) ?_
                      refine WL.no rfl rfl rfl (by decide) ?_
                      refine WL.yes rfl rfl ?_
                      refine WL.x (X.pickF rfl rfl rfl) (by decide) ?_
                      refine WL.x (X.pickF rfl rfl rfl) (by decide) ?_
                      refine WL.nil ?_
                      refine WK.nThen ?_
                      refine WK.meet (()) rfl (.refl _) (.cons rfl (.cons rfl (.cons rfl (.cons rfl (.cons rfl (.cons rfl .nil)))))) ?_
                      trivial
                  · refine WL.yes rfl rfl ?_
                    refine WL.x (X.pickT rfl rfl rfl) (by decide) ?_
                    refine WL.yes rfl rfl ?_
                    refine WL.x (X.move rfl) (by decide) ?_
                    refine WL.no rfl rfl rfl (by decide) ?_
                    refine WL.no rfl rfl rfl (by decide) ?_
                    refine WL.no rfl rfl rfl (by decide) ?_
                    refine WL.yes rfl rfl ?_
                    refine WL.x (X.pickF rfl rfl rfl) (by decide) ?_
                    refine WL.yes rfl rfl ?_
                    refine WL.x (X.move rfl) (by decide) ?_
                    refine WL.no rfl rfl rfl (by decide) ?_
                    refine WL.no rfl rfl rfl (by decide) ?_
                    refine WL.no rfl rfl rfl (by decide) ?_
                    refine WL.no rfl rfl rfl (by decide) ?_
                    refine WL.yes rfl rfl ?_
                    refine WL.x (X.pickF rfl rfl rfl) (by decide) ?_
                    refine WL.x (X.pickF rfl rfl rfl) (by decide) ?_
                    refine WL.nil ?_
                    refine WK.nThen ?_
                    refine WK.meet (()) rfl (.refl _) (.cons rfl (.cons rfl (.cons rfl (.cons rfl (.cons rfl (.cons rfl .nil)))))) ?_
                    trivial
                · refine WL.yes rfl rfl ?_
                  refine WL.x (X.move rfl) (by decide) ?_
                  refine WL.no rfl rfl rfl (by decide) ?_
                  refine WL.no rfl rfl rfl (by decide) ?_
                  refine WL.no rfl rfl rfl (by decide) ?_
                  refine WL.no rfl rfl rfl (by decide) ?_
                  refine WL.yes rfl rfl ?_
                  refine WL.x (X.pickF rfl rfl rfl) (by decide) ?_
                  refine WL.yes rfl rfl ?_
                  refine WL.x (X.move rfl) (by decide) ?_
                  refine WL.no rfl rfl rfl (by decide) ?_
                  refine WL.no rfl rfl rfl (by decide) ?_
                  refine WL.no rfl rfl rfl (by decide) ?_
                  refine WL.yes rfl rfl ?_
                  refine WL.x (X.pickF rfl rfl rfl) (by decide) ?_
                  refine WL.yes rfl rfl ?_
                  refine WL.x (X.move rfl) (by decide) ?_
                  refine WL.no rfl rfl rfl (by decide) ?_
                  refine WL.no rfl rfl rfl (by decide) ?_
                  refine WL.no rfl rfl rfl (by decide) ?_
                  refine WL.no rfl rfl rfl (by decide) ?_
                  refine WL.yes rfl rfl ?_
                  refine WL.x (X.pickF rfl rfl rfl) (by decide) ?_
                  refine WL.x (X.pickF rfl rfl rfl) (by decide) ?_
                  refine WL.nil ?_
                  refine WK.nThen ?_
                  refine WK.meet (()) rfl (.refl _) (.cons rfl (.cons rfl (.cons rfl (.cons rfl (.cons rfl (.cons rfl .nil)))))) ?_
                  trivial
              · refine WL.yes rfl rfl ?_
                refine WL.x (X.move rfl) (by decide) ?_
                refine WL.yes rfl rfl ?_
                refine WL.x (X.move rfl) (by decide) ?_
                refine WL.yes rfl rfl ?_
                refine WL.x (X.move rfl) (by decide) ?_
                refine WL.yes rfl rfl ?_
                refine WL.cond (X.geq rfl rfl) (by decide) (fun h35 => ?_) (fun h35 => ?_)
                · refine WL.yes rfl rfl ?_
                  refine WL.x (X.pickF rfl rfl rfl) (by decide) ?_
                  refine WL.x (X.pickT rfl rfl rfl) (by decide) ?_
                  refine WL.x (X.move rfl) (by decide) ?_
                  refine WL.yes rfl rfl ?_
                  refine WL.x (X.loadBA (k := 1) Try.isAgg49 Try.sizeOf49 rfl rfl rfl) (by decide) ?_
                  refine WL.yes rfl rfl ?_
                  refine WL.x (X.loadBA (k := 0) Try.isAgg49 Try.sizeOf49 rfl rfl rfl) (by decide) ?_
                  refine WL.yes rfl rfl ?_
                  refine WL.x (OpX.f (X.neqS (a := (heightR s week).1) (b := (heightR ((moveR s h).1) week).1) gd49 (fun w => eqS49 9998 _ _ w) rfl rfl) (fun h_ => h_ (moved_out hmz (by omega) hnx (by omega)))) (by decide) ?_
                  refine WL.x (X.pickT rfl rfl rfl) (by decide) ?_
                  refine WL.x (X.move rfl) (by decide) ?_
                  refine WL.yes rfl rfl ?_
                  refine WL.x (X.move rfl) (by decide) ?_
                  refine WL.yes rfl rfl ?_
                  refine WL.cond (X.eql rfl rfl) (by decide) (fun h36 => ?_) (fun h36 => ?_)
                  · refine WL.yes rfl rfl ?_
                    refine WL.x (X.move rfl) (by decide) ?_
                    refine WL.yes rfl rfl ?_
                    refine WL.x (X.move rfl) (by decide) ?_
                    refine WL.yes rfl rfl ?_
                    refine WL.x (X.field Try.runUnderlying71 rfl Try.sizeOf3 rfl) (by decide) ?_
                    refine WL.yes rfl rfl ?_
                    refine WL.x (X.loadB (k := 4) Try.isAgg3 rfl rfl rfl) (by decide) ?_
                    refine WL.yes rfl rfl ?_
                    refine WL.cond (X.geq rfl rfl) (by decide) (fun h37 => ?_) (fun h37 => ?_)
                    · refine WL.yes rfl rfl ?_
                      refine WL.x (X.pickT rfl rfl rfl) (by decide) ?_
                      refine WL.yes rfl rfl ?_
                      refine WL.x (X.move rfl) (by decide) ?_
                      refine WL.yes rfl rfl ?_
                      refine WL.x (X.move rfl) (by decide) ?_
                      refine WL.yes rfl rfl ?_
                      refine WL.x (X.move rfl) (by decide) ?_
                      refine WL.yes rfl rfl ?_
                      refine WL.cond (X.lss rfl rfl) (by decide) (fun h38 => ?_) (fun h38 => ?_)
                      · refine WL.yes rfl rfl ?_
                        refine WL.x (X.pickT rfl rfl rfl) (by decide) ?_
                        refine WL.yes rfl rfl ?_
                        refine WL.x (X.move rfl) (by decide) ?_
                        refine WL.yes rfl rfl ?_
                        refine WL.x (X.loadBA (k := 0) Try.isAgg49 Try.sizeOf49 rfl rfl rfl) (by decide) ?_
                        refine WL.yes rfl rfl ?_
                        refine WL.x (X.field Try.runUnderlying71 rfl Try.sizeOf49 rfl) (by decide) ?_
                        refine WL.yes rfl rfl ?_
                        refine WL.x (X.loadBP (k := 4) (vs := [.int .i64 (h.Metres.Lo), .int .i64 (h.Metres.Hi)]) Try.isAgg49 Try.sizeOf49 rfl rfl rfl rfl) (by decide) ?_
                        refine WL.yes rfl rfl ?_
                        refine WL.x (OpX.f (X.neqS (a := (heightR ((moveR s h).1) week).1) (b := h.Metres) gd49 (fun w => eqS49 9998 _ _ w) rfl rfl) (fun h_ => h_ (moved_in hmz (by omega) hnx (by omega) (by omega)))) (by decide) ?_
                        refine WL.yes rfl rfl ?_
                        refine WL.x (X.pickT rfl rfl rfl) (by decide) ?_
                        refine WL.x (X.pickF rfl rfl rfl) (by decide) ?_
                        refine WL.nil ?_
                        refine WK.nThen ?_
                        refine WK.meet (()) rfl (.refl _) (.cons rfl (.cons rfl (.cons rfl (.cons rfl (.cons rfl (.cons rfl .nil)))))) ?_
                        trivial
                      · refine WL.yes rfl rfl ?_
                        refine WL.x (X.pickT rfl rfl rfl) (by decide) ?_
                        refine WL.yes rfl rfl ?_
                        refine WL.x (X.move rfl) (by decide) ?_
                        refine WL.no rfl rfl rfl (by decide) ?_
                        refine WL.no rfl rfl rfl (by decide) ?_
                        refine WL.no rfl rfl rfl (by decide) ?_
                        refine WL.no rfl rfl rfl (by decide) ?_
                        refine WL.yes rfl rfl ?_
                        refine WL.x (X.pickF rfl rfl rfl) (by decide) ?_
                        refine WL.x (X.pickF rfl rfl rfl) (by decide) ?_
                        refine WL.nil ?_
                        refine WK.nThen ?_
                        refine WK.meet (()) rfl (.refl _) (.cons rfl (.cons rfl (.cons rfl (.cons rfl (.cons rfl (.cons rfl .nil)))))) ?_
                        trivial
                    · refine WL.yes rfl rfl ?_
                      refine WL.x (X.pickT rfl rfl rfl) (by decide) ?_
                      refine WL.yes rfl rfl ?_
                      refine WL.x (X.move rfl) (by decide) ?_
                      refine WL.no rfl rfl rfl (by decide) ?_
                      refine WL.no rfl rfl rfl (by decide) ?_
                      refine WL.no rfl rfl rfl (by decide) ?_
                      refine WL.yes rfl rfl ?_
                      refine WL.x (X.pickF rfl rfl rfl) (by decide) ?_
                      refine WL.yes rfl rfl ?_
                      refine WL.x (X.move rfl) (by decide) ?_
                      refine WL.no rfl rfl rfl (by decide) ?_
                      refine WL.no rfl rfl rfl (by decide) ?_
                      refine WL.no rfl rfl rfl (by decide) ?_
                      refine WL.no rfl rfl rfl (by decide) ?_
                      refine WL.yes rfl rfl ?_
                      refine WL.x (X.pickF rfl rfl rfl) (by decide) ?_
                      refine WL.x (X.pickF rfl rfl rfl) (by decide) ?_
                      refine WL.nil ?_
                      refine WK.nThen ?_
                      refine WK.meet (()) rfl (.refl _) (.cons rfl (.cons rfl (.cons rfl (.cons rfl (.cons rfl (.cons rfl .nil)))))) ?_
                      trivial
                  · refine WL.yes rfl rfl ?_
                    refine WL.x (X.move rfl) (by decide) ?_
                    refine WL.no rfl rfl rfl (by decide) ?_
                    refine WL.no rfl rfl rfl (by decide) ?_
                    refine WL.no rfl rfl rfl (by decide) ?_
                    refine WL.no rfl rfl rfl (by decide) ?_
                    refine WL.yes rfl rfl ?_
                    refine WL.x (X.pickF rfl rfl rfl) (by decide) ?_
                    refine WL.yes rfl rfl ?_
                    refine WL.x (X.move rfl) (by decide) ?_
                    refine WL.no rfl rfl rfl (by decide) ?_
                    refine WL.no rfl rfl rfl (by decide) ?_
                    refine WL.no rfl rfl rfl (by decide) ?_
                    refine WL.yes rfl rfl ?_
                    refine WL.x (X.pickF rfl rfl rfl) (by decide) ?_
                    refine WL.yes rfl rfl ?_
                    refine WL.x (X.move rfl) (by decide) ?_
                    refine WL.no rfl rfl rfl (by decide) ?_
                    refine WL.no rfl rfl rfl (by decide) ?_
                    refine WL.no rfl rfl rfl (by decide) ?_
                    refine WL.no rfl rfl rfl (by decide) ?_
                    refine WL.yes rfl rfl ?_
                    refine WL.x (X.pickF rfl rfl rfl) (by decide) ?_
                    refine WL.x (X.pickF rfl rfl rfl) (by decide) ?_
                    refine WL.nil ?_
                    refine WK.nThen ?_
                    refine WK.meet (()) rfl (.refl _) (.cons rfl (.cons rfl (.cons rfl (.cons rfl (.cons rfl (.cons rfl .nil)))))) ?_
                    trivial
                · refine WL.yes rfl rfl ?_
                  refine WL.x (X.pickF rfl rfl rfl) (by decide) ?_
                  refine WL.x (X.pickT rfl rfl rfl) (by decide) ?_
                  refine WL.x (X.move rfl) (by decide) ?_
                  refine WL.no rfl rfl rfl (by decide) ?_
                  refine WL.no rfl rfl rfl (by decide) ?_
                  refine WL.no rfl rfl rfl (by decide) ?_
                  refine WL.x (X.pickF rfl rfl rfl) (by decide) ?_
                  refine WL.x (X.move rfl) (by decide) ?_
                  refine WL.yes rfl rfl ?_
                  refine WL.x (X.move rfl) (by decide) ?_
                  refine WL.yes rfl rfl ?_
                  refine WL.cond (X.eql rfl rfl) (by decide) (fun h39 => ?_) (fun h39 => ?_)
                  · refine WL.yes rfl rfl ?_
                    refine WL.x (X.move rfl) (by decide) ?_
                    refine WL.yes rfl rfl ?_
                    refine WL.x (X.move rfl) (by decide) ?_
                    refine WL.yes rfl rfl ?_
                    refine WL.x (X.field Try.runUnderlying71 rfl Try.sizeOf3 rfl) (by decide) ?_
                    refine WL.yes rfl rfl ?_
                    refine WL.x (X.loadB (k := 4) Try.isAgg3 rfl rfl rfl) (by decide) ?_
                    refine WL.yes rfl rfl ?_
                    refine WL.cond (X.geq rfl rfl) (by decide) (fun h40 => ?_) (fun h40 => ?_)
                    · refine WL.yes rfl rfl ?_
                      refine WL.x (X.pickT rfl rfl rfl) (by decide) ?_
                      refine WL.yes rfl rfl ?_
                      refine WL.x (X.move rfl) (by decide) ?_
                      refine WL.yes rfl rfl ?_
                      refine WL.x (X.move rfl) (by decide) ?_
                      refine WL.yes rfl rfl ?_
                      refine WL.x (X.move rfl) (by decide) ?_
                      refine WL.yes rfl rfl ?_
                      refine WL.cond (X.lss rfl rfl) (by decide) (fun h41 => ?_) (fun h41 => ?_)
                      · refine WL.yes rfl rfl ?_
                        refine WL.x (X.pickT rfl rfl rfl) (by decide) ?_
                        refine WL.yes rfl rfl ?_
                        refine WL.x (X.move rfl) (by decide) ?_
                        refine WL.yes rfl rfl ?_
                        refine WL.x (X.loadBA (k := 0) Try.isAgg49 Try.sizeOf49 rfl rfl rfl) (by decide) ?_
                        refine WL.yes rfl rfl ?_
                        refine WL.x (X.field Try.runUnderlying71 rfl Try.sizeOf49 rfl) (by decide) ?_
                        refine WL.yes rfl rfl ?_
                        refine WL.x (X.loadBP (k := 4) (vs := [.int .i64 (h.Metres.Lo), .int .i64 (h.Metres.Hi)]) Try.isAgg49 Try.sizeOf49 rfl rfl rfl rfl) (by decide) ?_
                        refine WL.yes rfl rfl ?_
                        refine WL.x (OpX.f (X.neqS (a := (heightR ((moveR s h).1) week).1) (b := h.Metres) gd49 (fun w => eqS49 9998 _ _ w) rfl rfl) (fun h_ => h_ (moved_in hmz (by omega) hnx (by omega) (by omega)))) (by decide) ?_
                        refine WL.yes rfl rfl ?_
                        refine WL.x (X.pickT rfl rfl rfl) (by decide) ?_
                        refine WL.x (X.pickF rfl rfl rfl) (by decide) ?_
                        refine WL.nil ?_
                        refine WK.nThen ?_
                        refine WK.meet (()) rfl (.refl _) (.cons rfl (.cons rfl (.cons rfl (.cons rfl (.cons rfl (.cons rfl .nil)))))) ?_
                        trivial
                      · refine WL.yes rfl rfl ?_
                        refine WL.x (X.pickT rfl rfl rfl) (by decide) ?_
                        refine WL.yes rfl rfl ?_
                        refine WL.x (X.move rfl) (by decide) ?_
                        refine WL.no rfl rfl rfl (by decide) ?_
                        refine WL.no rfl rfl rfl (by decide) ?_
                        refine WL.no rfl rfl rfl (by decide) ?_
                        refine WL.no rfl rfl rfl (by decide) ?_
                        refine WL.yes rfl rfl ?_
                        refine WL.x (X.pickF rfl rfl rfl) (by decide) ?_
                        refine WL.x (X.pickF rfl rfl rfl) (by decide) ?_
                        refine WL.nil ?_
                        refine WK.nThen ?_
                        refine WK.meet (()) rfl (.refl _) (.cons rfl (.cons rfl (.cons rfl (.cons rfl (.cons rfl (.cons rfl .nil)))))) ?_
                        trivial
                    · refine WL.yes rfl rfl ?_
                      refine WL.x (X.pickT rfl rfl rfl) (by decide) ?_
                      refine WL.yes rfl rfl ?_
                      refine WL.x (X.move rfl) (by decide) ?_
                      refine WL.no rfl rfl rfl (by decide) ?_
                      refine WL.no rfl rfl rfl (by decide) ?_
                      refine WL.no rfl rfl rfl (by decide) ?_
                      refine WL.yes rfl rfl ?_
                      refine WL.x (X.pickF rfl rfl rfl) (by decide) ?_
                      refine WL.yes rfl rfl ?_
                      refine WL.x (X.move rfl) (by decide) ?_
                      refine WL.no rfl rfl rfl (by decide) ?_
                      refine WL.no rfl rfl rfl (by decide) ?_
                      refine WL.no rfl rfl rfl (by decide) ?_
                      refine WL.no rfl rfl rfl (by decide) ?_
                      refine WL.yes rfl rfl ?_
                      refine WL.x (X.pickF rfl rfl rfl) (by decide) ?_
                      refine WL.x (X.pickF rfl rfl rfl) (by decide) ?_
                      refine WL.nil ?_
                      refine WK.nThen ?_
                      refine WK.meet (()) rfl (.refl _) (.cons rfl (.cons rfl (.cons rfl (.cons rfl (.cons rfl (.cons rfl .nil)))))) ?_
                      trivial
                  · refine WL.yes rfl rfl ?_
                    refine WL.x (X.move rfl) (by decide) ?_
                    refine WL.no rfl rfl rfl (by decide) ?_
                    refine WL.no rfl rfl rfl (by decide) ?_
                    refine WL.no rfl rfl rfl (by decide) ?_
                    refine WL.no rfl rfl rfl (by decide) ?_
                    refine WL.yes rfl rfl ?_
                    refine WL.x (X.pickF rfl rfl rfl) (by decide) ?_
                    refine WL.yes rfl rfl ?_
                    refine WL.x (X.move rfl) (by decide) ?_
                    refine WL.no rfl rfl rfl (by decide) ?_
                    refine WL.no rfl rfl rfl (by decide) ?_
                    refine WL.no rfl rfl rfl (by decide) ?_
                    refine WL.yes rfl rfl ?_
                    refine WL.x (X.pickF rfl rfl rfl) (by decide) ?_
                    refine WL.yes rfl rfl ?_
                    refine WL.x (X.move rfl) (by decide) ?_
                    refine WL.no rfl rfl rfl (by decide) ?_
                    refine WL.no rfl rfl rfl (by decide) ?_
                    refine WL.no rfl rfl rfl (by decide) ?_
                    refine WL.no rfl rfl rfl (by decide) ?_
                    refine WL.yes rfl rfl ?_
                    refine WL.x (X.pickF rfl rfl rfl) (by decide) ?_
                    refine WL.x (X.pickF rfl rfl rfl) (by decide) ?_
                    refine WL.nil ?_
                    refine WK.nThen ?_
                    refine WK.meet (()) rfl (.refl _) (.cons rfl (.cons rfl (.cons rfl (.cons rfl (.cons rfl (.cons rfl .nil)))))) ?_
                    trivial
            · refine WL.x (X.move rfl) (by decide) ?_
              refine WL.no rfl rfl rfl (by decide) ?_
              refine WL.no rfl rfl rfl (by decide) ?_
              refine WL.no rfl rfl rfl (by decide) ?_
              refine WL.no rfl rfl rfl (by decide) ?_
              refine WL.no rfl rfl rfl (by decide) ?_
              refine WL.noU rfl rfl (by decide) ?_
              refine WL.noU rfl rfl (by decide) ?_
              refine WL.noU rfl rfl (by decide) ?_
              refine WL.no rfl rfl rfl (by decide) ?_
              refine WL.x (X.pickF rfl rfl rfl) (by decide) ?_
              refine WL.x (X.move rfl) (by decide) ?_
              refine WL.no rfl rfl rfl (by decide) ?_
              refine WL.no rfl rfl rfl (by decide) ?_
              refine WL.no rfl rfl rfl (by decide) ?_
              refine WL.x (X.pickF rfl rfl rfl) (by decide) ?_
              refine WL.x (X.move rfl) (by decide) ?_
              refine WL.yes rfl rfl ?_
              refine WL.x (X.move rfl) (by decide) ?_
              refine WL.yes rfl rfl ?_
              refine WL.cond (X.eql rfl rfl) (by decide) (fun h42 => ?_) (fun h42 => ?_)
              · refine WL.yes rfl rfl ?_
                refine WL.x (X.move rfl) (by decide) ?_
                refine WL.yes rfl rfl ?_
                refine WL.x (X.move rfl) (by decide) ?_
                refine WL.yes rfl rfl ?_
                refine WL.x (X.field Try.runUnderlying71 rfl Try.sizeOf3 rfl) (by decide) ?_
                refine WL.yes rfl rfl ?_
                refine WL.x (X.loadB (k := 4) Try.isAgg3 rfl rfl rfl) (by decide) ?_
                refine WL.yes rfl rfl ?_
                refine WL.cond (X.geq rfl rfl) (by decide) (fun h43 => ?_) (fun h43 => ?_)
                · refine WL.yes rfl rfl ?_
                  refine WL.x (X.pickT rfl rfl rfl) (by decide) ?_
                  refine WL.yes rfl rfl ?_
                  refine WL.x (X.move rfl) (by decide) ?_
                  refine WL.yes rfl rfl ?_
                  refine WL.x (X.move rfl) (by decide) ?_
                  refine WL.yes rfl rfl ?_
                  refine WL.x (X.move rfl) (by decide) ?_
                  refine WL.yes rfl rfl ?_
                  refine WL.cond (X.lss rfl rfl) (by decide) (fun h44 => ?_) (fun h44 => ?_)
                  · refine WL.yes rfl rfl ?_
                    refine WL.x (X.pickT rfl rfl rfl) (by decide) ?_
                    refine WL.yes rfl rfl ?_
                    refine WL.x (X.move rfl) (by decide) ?_
                    refine WL.yes rfl rfl ?_
                    refine WL.x (X.loadBA (k := 0) Try.isAgg49 Try.sizeOf49 rfl rfl rfl) (by decide) ?_
                    refine WL.yes rfl rfl ?_
                    refine WL.x (X.field Try.runUnderlying71 rfl Try.sizeOf49 rfl) (by decide) ?_
                    refine WL.yes rfl rfl ?_
                    refine WL.x (X.loadBP (k := 4) (vs := [.int .i64 (h.Metres.Lo), .int .i64 (h.Metres.Hi)]) Try.isAgg49 Try.sizeOf49 rfl rfl rfl rfl) (by decide) ?_
                    refine WL.yes rfl rfl ?_
                    refine WL.x (OpX.f (X.neqS (a := (heightR ((moveR s h).1) week).1) (b := h.Metres) gd49 (fun w => eqS49 9998 _ _ w) rfl rfl) (fun h_ => h_ (moved_in hmz (by omega) hnx (by omega) (by omega)))) (by decide) ?_
                    refine WL.yes rfl rfl ?_
                    refine WL.x (X.pickT rfl rfl rfl) (by decide) ?_
                    refine WL.x (X.pickF rfl rfl rfl) (by decide) ?_
                    refine WL.nil ?_
                    refine WK.nThen ?_
                    refine WK.meet (()) rfl (.refl _) (.cons rfl (.cons rfl (.cons rfl (.cons rfl (.cons rfl (.cons rfl .nil)))))) ?_
                    trivial
                  · refine WL.yes rfl rfl ?_
                    refine WL.x (X.pickT rfl rfl rfl) (by decide) ?_
                    refine WL.yes rfl rfl ?_
                    refine WL.x (X.move rfl) (by decide) ?_
                    refine WL.no rfl rfl rfl (by decide) ?_
                    refine WL.no rfl rfl rfl (by decide) ?_
                    refine WL.no rfl rfl rfl (by decide) ?_
                    refine WL.no rfl rfl rfl (by decide) ?_
                    refine WL.yes rfl rfl ?_
                    refine WL.x (X.pickF rfl rfl rfl) (by decide) ?_
                    refine WL.x (X.pickF rfl rfl rfl) (by decide) ?_
                    refine WL.nil ?_
                    refine WK.nThen ?_
                    refine WK.meet (()) rfl (.refl _) (.cons rfl (.cons rfl (.cons rfl (.cons rfl (.cons rfl (.cons rfl .nil)))))) ?_
                    trivial
                · refine WL.yes rfl rfl ?_
                  refine WL.x (X.pickT rfl rfl rfl) (by decide) ?_
                  refine WL.yes rfl rfl ?_
                  refine WL.x (X.move rfl) (by decide) ?_
                  refine WL.no rfl rfl rfl (by decide) ?_
                  refine WL.no rfl rfl rfl (by decide) ?_
                  refine WL.no rfl rfl rfl (by decide) ?_
                  refine WL.yes rfl rfl ?_
                  refine WL.x (X.pickF rfl rfl rfl) (by decide) ?_
                  refine WL.yes rfl rfl ?_
                  refine WL.x (X.move rfl) (by decide) ?_
                  refine WL.no rfl rfl rfl (by decide) ?_
                  refine WL.no rfl rfl rfl (by decide) ?_
                  refine WL.no rfl rfl rfl (by decide) ?_
                  refine WL.no rfl rfl rfl (by decide) ?_
                  refine WL.yes rfl rfl ?_
                  refine WL.x (X.pickF rfl rfl rfl) (by decide) ?_
                  refine WL.x (X.pickF rfl rfl rfl) (by decide) ?_
                  refine WL.nil ?_
                  refine WK.nThen ?_
                  refine WK.meet (()) rfl (.refl _) (.cons rfl (.cons rfl (.cons rfl (.cons rfl (.cons rfl (.cons rfl .nil)))))) ?_
                  trivial
              · refine WL.yes rfl rfl ?_
                refine WL.x (X.move rfl) (by decide) ?_
                refine WL.no rfl rfl rfl (by decide) ?_
                refine WL.no rfl rfl rfl (by decide) ?_
                refine WL.no rfl rfl rfl (by decide) ?_
                refine WL.no rfl rfl rfl (by decide) ?_
                refine WL.yes rfl rfl ?_
                refine WL.x (X.pickF rfl rfl rfl) (by decide) ?_
                refine WL.yes rfl rfl ?_
                refine WL.x (X.move rfl) (by decide) ?_
                refine WL.no rfl rfl rfl (by decide) ?_
                refine WL.no rfl rfl rfl (by decide) ?_
                refine WL.no rfl rfl rfl (by decide) ?_
                refine WL.yes rfl rfl ?_
                refine WL.x (X.pickF rfl rfl rfl) (by decide) ?_
                refine WL.yes rfl rfl ?_
                refine WL.x (X.move rfl) (by decide) ?_
                refine WL.no rfl rfl rfl (by decide) ?_
                refine WL.no rfl rfl rfl (by decide) ?_
                refine WL.no rfl rfl rfl (by decide) ?_
                refine WL.no rfl rfl rfl (by decide) ?_
                refine WL.yes rfl rfl ?_
                refine WL.x (X.pickF rfl rfl rfl) (by decide) ?_
                refine WL.x (X.pickF rfl rfl rfl) (by decide) ?_
                refine WL.nil ?_
                refine WK.nThen ?_
                refine WK.meet (()) rfl (.refl _) (.cons rfl (.cons rfl (.cons rfl (.cons rfl (.cons rfl (.cons rfl .nil)))))) ?_
                trivial
          · rintro u_ hF45
            show WK _ _ m8 [blk b20 49 [.int .i64 ((heightR ((moveR s h).1) week).1.Lo), .int .i64 ((heightR ((moveR s h).1) week).1.Hi)], blk b19 49 [.int .i64 ((heightR s week).1.Lo), .int .i64 ((heightR s week).1.Hi)], blk b17 58 [.int .i64 (((moveR s h).1).ID), .int .i64 (((moveR s h).1).X), .int .i64 (((moveR s h).1).Y), v14], blk b6 71 [.int .i64 (g.Week), .int .i64 (g.Metres.Lo), .int .i64 (g.Metres.Hi)], blk b5 71 [.int .i64 (h.Week), .int .i64 (h.Metres.Lo), .int .i64 (h.Metres.Hi)], blk b4 58 [.int .i64 (s.ID), .int .i64 (s.X), .int .i64 (s.Y), v1]] [(4, .pointer (some ⟨b4, 0, none⟩)), (5, .pointer (some ⟨b5, 0, none⟩)), (6, .pointer (some ⟨b6, 0, none⟩)), (9, .bool true), (10, .pointer (some ⟨b17, 0, none⟩)), (114, .bool false)] _
            replace hF45 : True := hF45
            refine WC.condF rfl ?_
            refine WC.skip ?_
            refine WK.nThen ?_
            refine WC.seq ?_
            refine WC.region ?_
            refine WL.x (X.loadBA (k := 5) Try.isAgg58 Try.sizeOf58 rfl rfl rfl) (by decide) ?_
            refine WL.x (X.loadBA (k := 3) Try.isAgg71 Try.sizeOf71 rfl rfl rfl) (by decide) ?_
            refine WL.tm (T.call Try.call51 rfl (move51 _ _ s ⟨_, rfl, hs2⟩ _ g rfl )) (by decide) fun m46 r47 hle48 hR49 => ?_
            obtain ⟨c50, rfl, hc51⟩ := hR49
            replace hs2 := hs2.mono hle48
            replace hs15 := hs15.mono hle48
            obtain ⟨v52, rfl, hs53⟩ := hc51
            have hl54 := hs53.le
            refine WL.x (X.move rfl) (by decide) ?_
            refine WL.x (X.extract rfl rfl) (by decide) ?_
            refine WL.x (X.extract rfl rfl) (by decide) ?_
            refine WL.tn (T.alloc Try.zeroValue58 rfl) (by decide) fun b55 => ?_
            refine WL.ts (T.storeBA (k := 0) Try.sizeOf58 rfl rfl rfl (one_cons rfl (one_cons rfl (one_cons rfl (one_cons hs53.one one_nil)))) rfl rfl) ?_
            refine WL.x (X.assign rfl) (by decide) ?_
            refine WL.nil ?_
            refine WK.nThen ?_
            refine WC.seq ?_
            refine WC.region ?_
            refine WL.x (X.loadBA (k := 3) Try.isAgg58 Try.sizeOf58 rfl rfl rfl) (by decide) ?_
            refine WL.x (X.loadBA (k := 4) Try.isAgg71 Try.sizeOf71 rfl rfl rfl) (by decide) ?_
            refine WL.tm (T.call Try.call51 rfl (move51 _ _ ((moveR s h).1) ⟨_, rfl, hs15⟩ _ g rfl )) (by decide) fun m56 r57 hle58 hR59 => ?_
            obtain ⟨c60, rfl, hc61⟩ := hR59
            replace hs2 := hs2.mono hle58
            replace hs15 := hs15.mono hle58
            replace hs53 := hs53.mono hle58
            obtain ⟨v62, rfl, hs63⟩ := hc61
            have hl64 := hs63.le
            refine WL.x (X.move rfl) (by decide) ?_
            refine WL.x (X.extract rfl rfl) (by decide) ?_
            refine WL.x (X.extract rfl rfl) (by decide) ?_
            refine WL.tn (T.alloc Try.zeroValue58 rfl) (by decide) fun b65 => ?_
            refine WL.ts (T.storeBA (k := 0) Try.sizeOf58 rfl rfl rfl (one_cons rfl (one_cons rfl (one_cons rfl (one_cons hs63.one one_nil)))) rfl rfl) ?_
            refine WL.x (X.assign rfl) (by decide) ?_
            refine WL.nil ?_
            refine WK.nThen ?_
            refine WC.seq ?_
            refine WC.region ?_
            refine WL.x (X.loadBA (k := 1) Try.isAgg58 Try.sizeOf58 rfl rfl rfl) (by decide) ?_
            refine WL.x (X.loadBA (k := 6) Try.isAgg71 Try.sizeOf71 rfl rfl rfl) (by decide) ?_
            refine WL.tm (T.call Try.call51 rfl (move51 _ _ ((moveR s g).1) ⟨_, rfl, hs53⟩ _ h rfl )) (by decide) fun m66 r67 hle68 hR69 => ?_
            obtain ⟨c70, rfl, hc71⟩ := hR69
            replace hs2 := hs2.mono hle68
            replace hs15 := hs15.mono hle68
            replace hs53 := hs53.mono hle68
            replace hs63 := hs63.mono hle68
            obtain ⟨v72, rfl, hs73⟩ := hc71
            have hl74 := hs73.le
            refine WL.x (X.move rfl) (by decide) ?_
            refine WL.x (X.extract rfl rfl) (by decide) ?_
            refine WL.x (X.extract rfl rfl) (by decide) ?_
            refine WL.tn (T.alloc Try.zeroValue58 rfl) (by decide) fun b75 => ?_
            refine WL.ts (T.storeBA (k := 0) Try.sizeOf58 rfl rfl rfl (one_cons rfl (one_cons rfl (one_cons rfl (one_cons hs73.one one_nil)))) rfl rfl) ?_
            refine WL.x (X.assign rfl) (by decide) ?_
            refine WL.nil ?_
            refine WK.nThen ?_
            refine WC.seq ?_
            refine WC.seq ?_
            refine WC.region ?_
            refine WL.x (X.move rfl) (by decide) ?_
            refine WL.condn (X.neq rfl rfl) (by decide) (fun h76 => ?_) (fun h76 => ?_)
            · refine WL.x (X.move rfl) (by decide) ?_
              refine WL.no rfl rfl rfl (by decide) ?_
              refine WL.no rfl rfl rfl (by decide) ?_
              refine WL.no rfl rfl rfl (by decide) ?_
              refine WL.no rfl rfl rfl (by decide) ?_
              refine WL.no rfl rfl rfl (by decide) ?_
              refine WL.x (X.pickT rfl rfl rfl) (by decide) ?_
              refine WL.nil ?_
              refine WK.nThen ?_
              refine WC.condT rfl ?_
              refine WC.seq ?_
              refine WC.region ?_
              refine WL.x (X.move rfl) (by decide) ?_
              refine WL.x (X.assign rfl) (by decide) ?_
              refine WL.nil ?_
              refine WK.nThen ?_
              refine WC.ret ?_
              refine WK.rThen ?_
              refine WK.ret1 rfl rfl (fun w' hw' => Ret.exact hw' ?_)
              first | rfl | (exfalso; omega) | exact (bool_true (by omega)).symm
            · refine WL.x (X.move rfl) (by decide) ?_
              refine WL.yes rfl rfl ?_
              refine WL.x (X.field Try.runUnderlying71 rfl Try.sizeOf3 rfl) (by decide) ?_
              refine WL.yes rfl rfl ?_
              refine WL.x (X.loadB (k := 7) Try.isAgg3 rfl rfl rfl) (by decide) ?_
              refine WL.yes rfl rfl ?_
              refine WL.x (X.field Try.runUnderlying71 rfl Try.sizeOf3 rfl) (by decide) ?_
              refine WL.yes rfl rfl ?_
              refine WL.x (X.loadB (k := 6) Try.isAgg3 rfl rfl rfl) (by decide) ?_
              refine WL.yes rfl rfl ?_
              refine WL.cond (X.eql rfl rfl) (by decide) (fun h77 => ?_) (fun h77 => ?_)
              · refine WL.x (X.pickF rfl rfl rfl) (by decide) ?_
                refine WL.nil ?_
                refine WK.nThen ?_
                refine WC.condT rfl ?_
                refine WC.seq ?_
                refine WC.region ?_
                refine WL.x (X.move rfl) (by decide) ?_
                refine WL.x (X.assign rfl) (by decide) ?_
                refine WL.nil ?_
                refine WK.nThen ?_
                refine WC.ret ?_
                refine WK.rThen ?_
                refine WK.ret1 rfl rfl (fun w' hw' => Ret.exact hw' ?_)
                first | rfl | (exfalso; omega) | exact (bool_true (by omega)).symm
              · refine WL.x (X.pickF rfl rfl rfl) (by decide) ?_
                refine WL.nil ?_
                refine WK.nThen ?_
                refine WC.condF rfl ?_
                refine WC.skip ?_
                refine WK.nThen ?_
                refine WC.seq ?_
                have hjz : (moveR s g).2 = 0 := (by omega)
                have hne : h.Week ≠ g.Week := (by omega)
                refine WC.region ?_
                refine WL.x (X.move rfl) (by decide) ?_
                refine WL.x (X.move rfl) (by decide) ?_
                refine WL.yes rfl rfl ?_
                refine WL.x (X.move rfl) (by decide) ?_
                refine WL.yes rfl rfl ?_
                refine WL.x (X.move rfl) (by decide) ?_
                refine WL.yes rfl rfl ?_
                refine WL.x (OpX.t (X.eql rfl rfl) (by rw [moved_comm hmz hjz hne])) (by decide) ?_
                refine WL.x (X.pickT rfl rfl rfl) (by decide) ?_
                refine WL.x (X.move rfl) (by decide) ?_
                refine WL.yes rfl rfl ?_
                refine WL.x (X.loadBA (k := 1) Try.isAgg58 Try.sizeOf58 rfl rfl rfl) (by decide) ?_
                refine WL.yes rfl rfl ?_
                refine WL.x (X.loadBA (k := 0) Try.isAgg58 Try.sizeOf58 rfl rfl rfl) (by decide) ?_
                refine WL.yes rfl rfl ?_
                refine WL.x (OpX.t (X.call Try.call52 rfl (sameStation52 _ _ ((moveR (((moveR s h).1)) g).1) ⟨_, rfl, hs63⟩ _ ((moveR (((moveR s g).1)) h).1) ⟨_, rfl, hs73⟩ )) (by rw [moved_comm hmz hjz hne])) (by decide) ?_
                refine WL.x (X.pickT rfl rfl rfl) (by decide) ?_
                refine WL.x (X.assign rfl) (by decide) ?_
                refine WL.nil ?_
                refine WK.nThen ?_
                refine WC.ret ?_
                refine WK.ret1 rfl rfl (fun w' hw' => Ret.exact hw' ?_)
                first | rfl | (exfalso; omega) | exact (bool_true (by omega)).symm
  · refine WL.x (X.not rfl) (by decide) ?_
    refine WL.nil ?_
    refine WK.nThen ?_
    refine WC.condT rfl ?_
    refine WC.seq ?_
    refine WC.region ?_
    refine WL.x (X.move rfl) (by decide) ?_
    refine WL.x (X.assign rfl) (by decide) ?_
    refine WL.nil ?_
    refine WK.nThen ?_
    refine WC.ret ?_
    refine WK.rThen ?_
    refine WK.ret1 rfl rfl (fun w' hw' => Ret.exact hw' ?_)
    first | rfl | (exfalso; omega) | exact (bool_true (by omega)).symm
end Go.Proofs.S5
