/- The law StationsExact: it returns true for every input; its arguments read as before. No condition beyond what the given row says. -/
import Derived.Test.YtcpecjgppbiplaaS5Law
import Derived.Test.YtcpecjgppbiplaaS5W7
import Derived.Test.YtcpecjgppbiplaaS5Mix2
import Derived.Test.YtcpecjgppbiplaaS5Br
import Derived.Test.YtcpecjgppbiplaaKxO
import Derived.Test.YtcpecjgppbiplaaKxN
import Derived.Test.YtcpecjgppbiplaaRows
import Derived.WalkKit
import Derived.ProofKit
import Derived.OpenShut
import Derived.ShutString
import Derived.ChangeOld
import Derived.Below
namespace Go.Proofs.S5
open Go Go.Kx
set_option linter.unusedVariables false

set_option maxHeartbeats 4000000 in
theorem law6 (m : Mem) (cw : List Value) (w : Wind) (hw : Enc.rd m cw w) (vl : Value) (l : List Station) (hl : Sl m vl l) (vs : Value) (s : List Int) (hs : Sl m vs s)  (ok0 : Rng.ok w) (ok1 : Rng.ok l) (ok2 : Rng.ok s) : Exact Try.prog 6 #[.agg cw.toArray, vl, vs] m (.bool true) := by
  obtain rfl := hw
  have ll := hl.le
  have ls := hs.le
  refine Exact.start Try.func6 rfl Try.ntmps6 rfl fun wld => ?_
  refine WC.seq ?_
  refine WC.region ?_
  refine WL.tn (T.boxB rfl rfl) (by decide) fun b1 => ?_
  refine WL.x (X.assign rfl) (by decide) ?_
  refine WL.nil ?_
  refine WK.nThen ?_
  refine WC.seq ?_
  refine WC.region ?_
  refine WL.x (X.call Try.call17 rfl (awake17 _  )) (by decide) ?_
  refine WL.x (X.assign rfl) (by decide) ?_
  refine WL.nil ?_
  refine WK.nThen ?_
  refine WC.seq ?_
  refine WC.seq ?_
  refine WC.region ?_
  refine WL.x (X.move rfl) (by decide) ?_
  refine WL.cond (X.call Try.call18 rfl (few18 _ _ _ hl )) (by decide) (fun h2 => ?_) (fun h2 => ?_)
  · refine WL.x (X.not rfl) (by decide) ?_
    refine WL.nil ?_
    refine WK.nThen ?_
    refine WC.condF rfl ?_
    refine WC.skip ?_
    refine WK.nThen ?_
    refine WC.seq ?_
    refine WC.region ?_
    refine WL.x (X.loadBA (k := 0) Try.isAgg23 Try.sizeOf23 rfl rfl rfl) (by decide) ?_
    refine WL.x (X.move rfl) (by decide) ?_
    refine WL.tm (T.call Try.call19 rfl (tight19 _ _ w rfl _ _ hl )) (by decide) fun m3 r4 hle5 hR6 => ?_
    obtain ⟨v7, rfl, hs8⟩ := hR6
    replace hl := hl.mono hle5
    replace hs := hs.mono hle5
    have hl9 := hs8.le
    refine WL.x (X.move rfl) (by decide) ?_
    refine WL.x (X.extract rfl rfl) (by decide) ?_
    refine WL.x (X.extract rfl rfl) (by decide) ?_
    refine WL.x (X.assign rfl) (by decide) ?_
    refine WL.x (X.assign rfl) (by decide) ?_
    refine WL.nil ?_
    refine WK.nThen ?_
    refine WC.seq ?_
    refine WC.seq ?_
    refine WC.region ?_
    refine WL.x (X.move rfl) (by decide) ?_
    refine WL.condn (X.neq rfl rfl) (by decide) (fun h10 => ?_) (fun h10 => ?_)
    · refine WL.nil ?_
      refine WK.nThen ?_
      refine WC.condT rfl ?_
      refine WC.seq ?_
      refine WC.region ?_
      refine WL.x (X.move rfl) (by decide) ?_
      refine WL.x (X.move rfl) (by decide) ?_
      refine WL.yes rfl rfl ?_
      refine WL.x (X.move rfl) (by decide) ?_
      refine WL.yes rfl rfl ?_
      refine WL.x (X.len Try.runUnderlying27 rfl hs8) (by decide) ?_
      refine WL.yes rfl rfl ?_
      refine WL.x (X.eql rfl rfl) (by decide) ?_
      refine WL.x (X.pickT rfl rfl rfl) (by decide) ?_
      refine WL.x (X.assign rfl) (by decide) ?_
      refine WL.nil ?_
      refine WK.nThen ?_
      refine WC.ret ?_
      refine WK.rThen ?_
      refine WK.ret1 rfl rfl (fun w' hw' => Ret.exact hw' ?_)
      first | rfl | (exfalso; omega) | exact (bool_true (by rw [show tightR w l = [] from if_neg (by omega)]; rfl)).symm
    · refine WL.nil ?_
      refine WK.nThen ?_
      refine WC.condF rfl ?_
      refine WC.skip ?_
      refine WK.nThen ?_
      refine WC.seq ?_
      refine WC.seq ?_
      have hw0 : windedE w l = 0 := (by omega)
      have htr : tightR w l = tightL w l := if_pos hw0
      have htl := tightL_len w l
      have hl32 := (checkS_zero (l := l) (windedE_zero hw0).1).1
      rw [htr] at hs8
      refine WC.region ?_
      refine WL.x (X.move rfl) (by decide) ?_
      refine WL.x (X.len Try.runUnderlying27 rfl hs8) (by decide) ?_
      refine WL.x (X.move rfl) (by decide) ?_
      refine WL.x (X.len Try.runUnderlying24 rfl hl) (by decide) ?_
      refine WL.condn (X.neq rfl rfl) (by decide) (fun h11 => ?_) (fun h11 => ?_)
      · refine WL.nil ?_
        refine WK.nThen ?_
        refine WC.condT rfl ?_
        refine WC.seq ?_
        refine WC.region ?_
        refine WL.x (X.assign rfl) (by decide) ?_
        refine WL.nil ?_
        refine WK.nThen ?_
        refine WC.ret ?_
        refine WK.rThen ?_
        refine WK.ret1 rfl rfl (fun w' hw' => Ret.exact hw' ?_)
        first | rfl | (exfalso; omega) | exact (bool_true (by rw [show tightR w l = [] from if_neg (by omega)]; rfl)).symm
      · refine WL.nil ?_
        refine WK.nThen ?_
        refine WC.condF rfl ?_
        refine WC.skip ?_
        refine WK.nThen ?_
        refine WC.seq ?_
        refine WC.region ?_
        refine WL.x (X.loadBA (k := 0) Try.isAgg23 Try.sizeOf23 rfl rfl rfl) (by decide) ?_
        refine WL.x (X.move rfl) (by decide) ?_
        refine WL.x (X.move rfl) (by decide) ?_
        refine WL.cond (X.call Try.call32 rfl (windy32 _ _ w rfl _ _ hl _ _ hs )) (by decide) (fun h12 => ?_) (fun h12 => ?_)
        · refine WL.x (X.assign rfl) (by decide) ?_
          refine WL.nil ?_
          refine WK.nThen ?_
          refine WC.seq ?_
          refine WC.seq ?_
          refine WC.region ?_
          refine WL.x (X.assign rfl) (by decide) ?_
          refine WL.nil ?_
          refine WK.nThen ?_
          refine WC.block ?_
          refine WC.loop (G := Nat) (fun i => l.length - i) (fun i => m3) (fun i => [blk b1 23 [.int .i64 (w.Fixed), .int .i64 (w.Each)]]) (fun i => [(1, vl), (2, vs), (3, .pointer (some ⟨b1, 0, none⟩)), (7, .bool true), (8, v7), (10, .bool true), (11, .int .i64 (↑i))]) (fun i => i ≤ l.length) 0 rfl (.refl _) (.cons rfl (.cons rfl (.cons rfl (.cons rfl (.cons rfl (.cons rfl (.cons rfl .nil))))))) ?_ ?_
          · exact Nat.zero_le _
          · rintro i hF13
            show WK _ _ m3 [blk b1 23 [.int .i64 (w.Fixed), .int .i64 (w.Each)]] [(1, vl), (2, vs), (3, .pointer (some ⟨b1, 0, none⟩)), (7, .bool true), (8, v7), (10, .bool true), (11, .int .i64 (↑i))] _
            replace hF13 : i ≤ l.length := hF13
            have hi := hF13
            refine WC.seq ?_
            refine WC.seq ?_
            refine WC.region ?_
            refine WL.x (X.move rfl) (by decide) ?_
            refine WL.x (X.move rfl) (by decide) ?_
            refine WL.x (X.len Try.runUnderlying24 rfl hl) (by decide) ?_
            refine WL.cond (X.lss rfl rfl) (by decide) (fun h14 => ?_) (fun h14 => ?_)
            · refine WL.nil ?_
              refine WK.nThen ?_
              refine WC.condT rfl ?_
              refine WC.skip ?_
              refine WK.nThen ?_
              refine WC.seq ?_
              refine WC.block ?_
              refine WC.seq ?_
              refine WC.seq ?_
              have tri := tightL_row (w := w) (l := l) (i := i) (by omega)
              have taii := tightL_at (w := w) (l := l) (i := i) (k := i) (by omega) (by omega)
              have tsii := tight_small hw0 (i := i) (k := i) (by omega) (by omega)
              have z0 := tight_zero hw0 (i := i) (by omega)
              refine WC.draw (π := (.cons 0 (.cons 1 (.cons 2 (.cons 3 (.cons 4 (.cons 5 (.cons 6 (.cons 7 (.cons 8 (.cons 9 (.cons 10 (.cons 11 (.cons 12 (.cons 13 (.cons 14 (.cons 15 (.cons 16 (.cons 17 (.cons 18 (.cons 19 (.cons 20 (.cons 21 (.cons 22 (.cons 23 (.cons 24 (.cons 25 (.cons 26 (.cons 27 .done))))))))))))))))))))))))))))) [] [] rfl (by kernel_rfl) ?_
              refine DW.x rfl rfl (X.move rfl) (by decide) ?_
              refine DW.x rfl rfl (X.move rfl) (by decide) ?_
              refine DW.xe rfl rfl (E.idxN i Try.runUnderlying27 Try.sizeOf31 rfl rfl hs8 (by omega)) (by decide) (fun p15 hp16 => ?_)
              refine DW.xe rfl rfl (E.loadSl Try.isAgg31 rfl hp16) (by decide) (fun v17 hs18 => ?_)
              have hl19 := hs18.le
              refine DW.x rfl rfl (X.len Try.runUnderlying31 rfl hs18) (by decide) ?_
              refine DW.x rfl rfl (X.move rfl) (by decide) ?_
              refine DW.x rfl rfl (X.len Try.runUnderlying24 rfl hl) (by decide) ?_
              refine DW.condn rfl rfl (X.neq rfl rfl) (by decide) (fun h20 => ?_) (fun h20 => ?_)
              · refine DW.x rfl rfl (X.move rfl) (by decide) ?_
                refine DW.no rfl rfl (by decide) ?_
                refine DW.no rfl rfl (by decide) ?_
                refine DW.no rfl rfl (by decide) ?_
                refine DW.no rfl rfl (by decide) ?_
                refine DW.no rfl rfl (by decide) ?_
                refine DW.no rfl rfl (by decide) ?_
                refine DW.no rfl rfl (by decide) ?_
                refine DW.no rfl rfl (by decide) ?_
                refine DW.x rfl rfl (X.pickT rfl rfl rfl) (by decide) ?_
                refine DW.x rfl rfl (X.move rfl) (by decide) ?_
                refine DW.no rfl rfl (by decide) ?_
                refine DW.no rfl rfl (by decide) ?_
                refine DW.no rfl rfl (by decide) ?_
                refine DW.no rfl rfl (by decide) ?_
                refine DW.no rfl rfl (by decide) ?_
                refine DW.no rfl rfl (by decide) ?_
                refine DW.no rfl rfl (by decide) ?_
                refine DW.no rfl rfl (by decide) ?_
                refine DW.x rfl rfl (X.pickT rfl rfl rfl) (by decide) ?_
                refine DW.nil ?_
                refine WK.nThen ?_
                refine WC.condT rfl ?_
                refine WC.seq ?_
                refine WC.region ?_
                refine WL.x (X.assign rfl) (by decide) ?_
                refine WL.nil ?_
                refine WK.nThen ?_
                refine WC.ret ?_
                refine WK.rThen ?_
                refine WK.rBlock ?_
                refine WK.rThen ?_
                refine WK.rThen ?_
                refine WK.rBlock ?_
                refine WK.rThen ?_
                refine WK.ret1 rfl rfl (fun w' hw' => Ret.exact hw' ?_)
                first | rfl | (exfalso; omega) | exact (bool_true (by rw [show tightR w l = [] from if_neg (by omega)]; rfl)).symm
              · refine DW.x rfl rfl (X.move rfl) (by decide) ?_
                refine DW.x rfl rfl (X.move rfl) (by decide) ?_
                refine DW.x rfl rfl (X.move rfl) (by decide) ?_
                refine DW.xe rfl rfl (E.idxN i Try.runUnderlying27 Try.sizeOf31 rfl rfl hs8 (by omega)) (by decide) (fun p21 hp22 => ?_)
                refine DW.xe rfl rfl (E.loadSl Try.isAgg31 rfl hp22) (by decide) (fun v23 hs24 => ?_)
                have hl25 := hs24.le
                refine DW.x rfl rfl (X.move rfl) (by decide) ?_
                refine DW.xe rfl rfl (E.idxN i Try.runUnderlying31 Try.sizeOf3 rfl rfl hs24 (by omega)) (by decide) (fun p26 hp27 => ?_)
                refine DW.x rfl rfl (X.loadInt Try.isAgg3 rfl hp27) (by decide) ?_
                refine DW.condn rfl rfl (X.neq rfl rfl) (by decide) (fun h28 => ?_) (fun h28 => ?_)
                · refine DW.x rfl rfl (X.pickF rfl rfl rfl) (by decide) ?_
                  refine DW.x rfl rfl (X.move rfl) (by decide) ?_
                  refine DW.no rfl rfl (by decide) ?_
                  refine DW.no rfl rfl (by decide) ?_
                  refine DW.no rfl rfl (by decide) ?_
                  refine DW.no rfl rfl (by decide) ?_
                  refine DW.no rfl rfl (by decide) ?_
                  refine DW.no rfl rfl (by decide) ?_
                  refine DW.no rfl rfl (by decide) ?_
                  refine DW.no rfl rfl (by decide) ?_
                  refine DW.x rfl rfl (X.pickT rfl rfl rfl) (by decide) ?_
                  refine DW.nil ?_
                  refine WK.nThen ?_
                  refine WC.condT rfl ?_
                  refine WC.seq ?_
                  refine WC.region ?_
                  refine WL.x (X.assign rfl) (by decide) ?_
                  refine WL.nil ?_
                  refine WK.nThen ?_
                  refine WC.ret ?_
                  refine WK.rThen ?_
                  refine WK.rBlock ?_
                  refine WK.rThen ?_
                  refine WK.rThen ?_
                  refine WK.rBlock ?_
                  refine WK.rThen ?_
                  refine WK.ret1 rfl rfl (fun w' hw' => Ret.exact hw' ?_)
                  first | rfl | (exfalso; omega) | exact (bool_true (by rw [show tightR w l = [] from if_neg (by omega)]; rfl)).symm
                · refine DW.x rfl rfl (X.pickF rfl rfl rfl) (by decide) ?_
                  refine DW.x rfl rfl (X.move rfl) (by decide) ?_
                  refine DW.x rfl rfl (X.loadBA (k := 0) Try.isAgg23 Try.sizeOf23 rfl rfl rfl) (by decide) ?_
                  refine DW.x rfl rfl (X.move rfl) (by decide) ?_
                  refine DW.x rfl rfl (X.move rfl) (by decide) ?_
                  refine DW.x rfl rfl (X.move rfl) (by decide) ?_
                  refine DW.xe rfl rfl (E.idxN i Try.runUnderlying27 Try.sizeOf31 rfl rfl hs8 (by omega)) (by decide) (fun p29 hp30 => ?_)
                  refine DW.xe rfl rfl (E.loadSl Try.isAgg31 rfl hp30) (by decide) (fun v31 hs32 => ?_)
                  have hl33 := hs32.le
                  refine DW.x rfl rfl (OpX.t (X.call Try.call32 rfl (windy32 _ _ w rfl _ _ hl _ _ hs32 )) (windy_row hw0 (by omega))) (by decide) ?_
                  refine DW.x rfl rfl (X.not rfl) (by decide) ?_
                  refine DW.x rfl rfl (X.pickF rfl rfl rfl) (by decide) ?_
                  refine DW.nil ?_
                  refine WK.nThen ?_
                  refine WC.condF rfl ?_
                  refine WC.skip ?_
                  refine WK.nThen ?_
                  refine WC.seq ?_
                  refine WC.region ?_
                  refine WL.x (X.assign rfl) (by decide) ?_
                  refine WL.nil ?_
                  refine WK.nThen ?_
                  refine WC.block ?_
                  refine WC.loop (G := Nat) (fun k => l.length - k) (fun k => m3) (fun k => [blk b1 23 [.int .i64 (w.Fixed), .int .i64 (w.Each)]]) (fun k => [(1, vl), (2, vs), (3, .pointer (some ⟨b1, 0, none⟩)), (7, .bool true), (8, v7), (10, .bool true), (11, .int .i64 (↑i)), (12, .int .i64 (↑k)), (57, v7), (58, .int .i64 (↑i)), (59, .pointer (some (p21))), (60, v23), (61, .int .i64 (↑i)), (62, .pointer (some (p26))), (63, .int .i64 (gt (gt (tightL w l) i) i)), (64, .bool false), (67, .agg [.int .i64 (w.Fixed), .int .i64 (w.Each)].toArray), (68, vl), (69, v7), (70, .int .i64 (↑i)), (71, .pointer (some (p29))), (72, v31), (73, .bool true), (74, .bool false)]) (fun k => k ≤ l.length) 0 rfl (.refl _) (.cons rfl (.cons rfl (.cons rfl (.cons rfl (.cons rfl (.cons rfl (.cons rfl (.cons rfl (.cons rfl (.cons rfl (.cons rfl (.cons rfl (.cons rfl (.cons rfl (.cons rfl (.cons rfl (.cons rfl (.cons rfl (.cons rfl (.cons rfl (.cons rfl (.cons rfl (.cons rfl (.cons rfl .nil)))))))))))))))))))))))) ?_ ?_
                  · exact Nat.zero_le _
                  · rintro k hF34
                    show WK _ _ m3 [blk b1 23 [.int .i64 (w.Fixed), .int .i64 (w.Each)]] [(1, vl), (2, vs), (3, .pointer (some ⟨b1, 0, none⟩)), (7, .bool true), (8, v7), (10, .bool true), (11, .int .i64 (↑i)), (12, .int .i64 (↑k)), (57, v7), (58, .int .i64 (↑i)), (59, .pointer (some (p21))), (60, v23), (61, .int .i64 (↑i)), (62, .pointer (some (p26))), (63, .int .i64 (gt (gt (tightL w l) i) i)), (64, .bool false), (67, .agg [.int .i64 (w.Fixed), .int .i64 (w.Each)].toArray), (68, vl), (69, v7), (70, .int .i64 (↑i)), (71, .pointer (some (p29))), (72, v31), (73, .bool true), (74, .bool false)] _
                    replace hF34 : k ≤ l.length := hF34
                    have hk := hF34
                    refine WC.seq ?_
                    refine WC.seq ?_
                    refine WC.region ?_
                    refine WL.x (X.move rfl) (by decide) ?_
                    refine WL.x (X.move rfl) (by decide) ?_
                    refine WL.x (X.len Try.runUnderlying24 rfl hl) (by decide) ?_
                    refine WL.cond (X.lss rfl rfl) (by decide) (fun h35 => ?_) (fun h35 => ?_)
                    · refine WL.nil ?_
                      refine WK.nThen ?_
                      refine WC.condT rfl ?_
                      refine WC.skip ?_
                      refine WK.nThen ?_
                      refine WC.seq ?_
                      refine WC.block ?_
                      refine WC.seq ?_
                      refine WC.seq ?_
                      have tri := tightL_row (w := w) (l := l) (i := i) (by omega)
                      have trk := tightL_row (w := w) (l := l) (i := k) (by omega)
                      have taik := tightL_at (w := w) (l := l) (i := i) (k := k) (by omega) (by omega)
                      have tsik := tight_small hw0 (i := i) (k := k) (by omega) (by omega)
                      have taki := tightL_at (w := w) (l := l) (i := k) (k := i) (by omega) (by omega)
                      have tski := tight_small hw0 (i := k) (k := i) (by omega) (by omega)
                      have hcm := tight_comm hw0 (i := i) (j := k) (by omega) (by omega)
                      have hkw : windyP w l s := (by assumption)
                      have hkl := hkw.2.2
                      have hkd := windy_diff hw0 hkw (i := i) (k := k) (by omega) (by omega)
                      have hks1 := hkw.1 i (by omega)
                      have hks2 := hkw.1 k (by omega)
                      refine WC.draw (π := (.cons 0 (.cons 1 (.cons 2 (.cons 3 (.cons 4 (.cons 5 (.cons 6 (.cons 7 (.cons 8 (.cons 9 (.cons 10 (.cons 11 (.cons 12 (.cons 13 (.cons 14 (.cons 15 (.cons 16 (.cons 17 (.cons 18 (.cons 19 (.cons 20 (.cons 21 (.cons 22 (.cons 23 (.cons 24 (.cons 25 (.cons 26 (.cons 27 (.cons 28 (.cons 29 (.cons 30 (.cons 31 (.cons 32 (.cons 33 (.cons 34 (.cons 35 (.cons 36 .done)))))))))))))))))))))))))))))))))))))) [] [] rfl (by kernel_rfl) ?_
                      refine DW.x rfl rfl (X.move rfl) (by decide) ?_
                      refine DW.x rfl rfl (X.move rfl) (by decide) ?_
                      refine DW.xe rfl rfl (E.idxN i Try.runUnderlying27 Try.sizeOf31 rfl rfl hs8 (by omega)) (by decide) (fun p36 hp37 => ?_)
                      refine DW.xe rfl rfl (E.loadSl Try.isAgg31 rfl hp37) (by decide) (fun v38 hs39 => ?_)
                      have hl40 := hs39.le
                      refine DW.x rfl rfl (X.move rfl) (by decide) ?_
                      refine DW.xe rfl rfl (E.idxN k Try.runUnderlying31 Try.sizeOf3 rfl rfl hs39 (by omega)) (by decide) (fun p41 hp42 => ?_)
                      refine DW.x rfl rfl (X.loadInt Try.isAgg3 rfl hp42) (by decide) ?_
                      refine DW.x rfl rfl (X.move rfl) (by decide) ?_
                      refine DW.x rfl rfl (X.move rfl) (by decide) ?_
                      refine DW.xe rfl rfl (E.idxN k Try.runUnderlying27 Try.sizeOf31 rfl rfl hs8 (by omega)) (by decide) (fun p43 hp44 => ?_)
                      refine DW.xe rfl rfl (E.loadSl Try.isAgg31 rfl hp44) (by decide) (fun v45 hs46 => ?_)
                      have hl47 := hs46.le
                      refine DW.x rfl rfl (X.move rfl) (by decide) ?_
                      refine DW.xe rfl rfl (E.idxN i Try.runUnderlying31 Try.sizeOf3 rfl rfl hs46 (by omega)) (by decide) (fun p48 hp49 => ?_)
                      refine DW.x rfl rfl (X.loadInt Try.isAgg3 rfl hp49) (by decide) ?_
                      refine DW.condn rfl rfl (X.neq rfl rfl) (by decide) (fun h50 => ?_) (fun h50 => ?_)
                      · refine DW.x rfl rfl (X.move rfl) (by decide) ?_
                        refine DW.no rfl rfl (by decide) ?_
                        refine DW.no rfl rfl (by decide) ?_
                        refine DW.no rfl rfl (by decide) ?_
                        refine DW.no rfl rfl (by decide) ?_
                        refine DW.no rfl rfl (by decide) ?_
                        refine DW.no rfl rfl (by decide) ?_
                        refine DW.no rfl rfl (by decide) ?_
                        refine DW.no rfl rfl (by decide) ?_
                        refine DW.no rfl rfl (by decide) ?_
                        refine DW.no rfl rfl (by decide) ?_
                        refine DW.no rfl rfl (by decide) ?_
                        refine DW.no rfl rfl (by decide) ?_
                        refine DW.no rfl rfl (by decide) ?_
                        refine DW.no rfl rfl (by decide) ?_
                        refine DW.no rfl rfl (by decide) ?_
                        refine DW.no rfl rfl (by decide) ?_
                        refine DW.no rfl rfl (by decide) ?_
                        refine DW.no rfl rfl (by decide) ?_
                        refine DW.no rfl rfl (by decide) ?_
                        refine DW.no rfl rfl (by decide) ?_
                        refine DW.x rfl rfl (X.pickT rfl rfl rfl) (by decide) ?_
                        refine DW.nil ?_
                        refine WK.nThen ?_
                        refine WC.condT rfl ?_
                        refine WC.seq ?_
                        refine WC.region ?_
                        refine WL.x (X.assign rfl) (by decide) ?_
                        refine WL.nil ?_
                        refine WK.nThen ?_
                        refine WC.ret ?_
                        refine WK.rThen ?_
                        refine WK.rBlock ?_
                        refine WK.rThen ?_
                        refine WK.rThen ?_
                        refine WK.rBlock ?_
                        refine WK.rBlock ?_
                        refine WK.rThen ?_
                        refine WK.rThen ?_
                        refine WK.rBlock ?_
                        refine WK.rThen ?_
                        refine WK.ret1 rfl rfl (fun w' hw' => Ret.exact hw' ?_)
                        first | rfl | (exfalso; omega) | exact (bool_true (by rw [show tightR w l = [] from if_neg (by omega)]; rfl)).symm
                      · refine DW.x rfl rfl (X.move rfl) (by decide) ?_
                        refine DW.x rfl rfl (X.move rfl) (by decide) ?_
                        refine DW.x rfl rfl (X.move rfl) (by decide) ?_
                        refine DW.x rfl rfl (X.move rfl) (by decide) ?_
                        refine DW.x rfl rfl (X.move rfl) (by decide) ?_
                        refine DW.xe rfl rfl (E.idxN i Try.runUnderlying31 Try.sizeOf3 rfl rfl hs (by omega)) (by decide) (fun p51 hp52 => ?_)
                        refine DW.x rfl rfl (X.loadInt Try.isAgg3 rfl hp52) (by decide) ?_
                        refine DW.x rfl rfl (X.move rfl) (by decide) ?_
                        refine DW.x rfl rfl (X.move rfl) (by decide) ?_
                        refine DW.xe rfl rfl (E.idxN k Try.runUnderlying31 Try.sizeOf3 rfl rfl hs (by omega)) (by decide) (fun p53 hp54 => ?_)
                        refine DW.x rfl rfl (X.loadInt Try.isAgg3 rfl hp54) (by decide) ?_
                        refine DW.x rfl rfl (X.sub rfl rfl (by omega) (by omega)) (by decide) ?_
                        refine DW.x rfl rfl (X.move rfl) (by decide) ?_
                        refine DW.x rfl rfl (X.move rfl) (by decide) ?_
                        refine DW.xe rfl rfl (E.idxN i Try.runUnderlying27 Try.sizeOf31 rfl rfl hs8 (by omega)) (by decide) (fun p55 hp56 => ?_)
                        refine DW.xe rfl rfl (E.loadSl Try.isAgg31 rfl hp56) (by decide) (fun v57 hs58 => ?_)
                        have hl59 := hs58.le
                        refine DW.x rfl rfl (X.move rfl) (by decide) ?_
                        refine DW.xe rfl rfl (E.idxN k Try.runUnderlying31 Try.sizeOf3 rfl rfl hs58 (by omega)) (by decide) (fun p60 hp61 => ?_)
                        refine DW.x rfl rfl (X.loadInt Try.isAgg3 rfl hp61) (by decide) ?_
                        refine DW.cond rfl rfl (X.gtr rfl rfl) (by decide) (fun h62 => ?_) (fun h62 => ?_)
                        · refine DW.x rfl rfl (X.pickT rfl rfl rfl) (by decide) ?_
                          refine DW.x rfl rfl (X.pickF rfl rfl rfl) (by decide) ?_
                          refine DW.nil ?_
                          refine WK.nThen ?_
                          refine WC.condT rfl ?_
                          refine WC.seq ?_
                          refine WC.region ?_
                          refine WL.x (X.assign rfl) (by decide) ?_
                          refine WL.nil ?_
                          refine WK.nThen ?_
                          refine WC.ret ?_
                          refine WK.rThen ?_
                          refine WK.rBlock ?_
                          refine WK.rThen ?_
                          refine WK.rThen ?_
                          refine WK.rBlock ?_
                          refine WK.rBlock ?_
                          refine WK.rThen ?_
                          refine WK.rThen ?_
                          refine WK.rBlock ?_
                          refine WK.rThen ?_
                          refine WK.ret1 rfl rfl (fun w' hw' => Ret.exact hw' ?_)
                          first | rfl | (exfalso; omega) | exact (bool_true (by rw [show tightR w l = [] from if_neg (by omega)]; rfl)).symm
                        · refine DW.x rfl rfl (X.pickT rfl rfl rfl) (by decide) ?_
                          refine DW.x rfl rfl (X.pickF rfl rfl rfl) (by decide) ?_
                          refine DW.nil ?_
                          refine WK.nThen ?_
                          refine WC.condF rfl ?_
                          refine WC.skip ?_
                          refine WK.nThen ?_
                          refine WC.seq ?_
                          refine WC.region ?_
                          refine WL.x (X.assign rfl) (by decide) ?_
                          refine WL.nil ?_
                          refine WK.nThen ?_
                          refine WC.block ?_
                          refine WC.loop (G := Nat) (fun m_ => l.length - m_) (fun m_ => m3) (fun m_ => [blk b1 23 [.int .i64 (w.Fixed), .int .i64 (w.Each)]]) (fun m_ => [(1, vl), (2, vs), (3, .pointer (some ⟨b1, 0, none⟩)), (7, .bool true), (8, v7), (10, .bool true), (11, .int .i64 (↑i)), (12, .int .i64 (↑k)), (13, .int .i64 (↑m_)), (57, v7), (58, .int .i64 (↑i)), (59, .pointer (some (p21))), (60, v23), (61, .int .i64 (↑i)), (62, .pointer (some (p26))), (63, .int .i64 (gt (gt (tightL w l) i) i)), (64, .bool false), (67, .agg [.int .i64 (w.Fixed), .int .i64 (w.Each)].toArray), (68, vl), (69, v7), (70, .int .i64 (↑i)), (71, .pointer (some (p29))), (72, v31), (73, .bool true), (74, .bool false), (98, .bool true), (99, .bool true), (100, vs), (101, .int .i64 (↑i)), (102, .pointer (some (p51))), (103, .int .i64 (gt s i)), (104, vs), (105, .int .i64 (↑k)), (106, .pointer (some (p53))), (107, .int .i64 (gt s k)), (108, .int .i64 ((gt s i) - (gt s k))), (109, v7), (110, .int .i64 (↑i)), (111, .pointer (some (p55))), (112, v57), (113, .int .i64 (↑k)), (114, .pointer (some (p60))), (115, .int .i64 (gt (gt (tightL w l) i) k)), (116, .bool false), (117, .bool false)]) (fun m_ => m_ ≤ l.length) 0 rfl (.refl _) (.cons rfl (.cons rfl (.cons rfl (.cons rfl (.cons rfl (.cons rfl (.cons rfl (.cons rfl (.cons rfl (.cons rfl (.cons rfl (.cons rfl (.cons rfl (.cons rfl (.cons rfl (.cons rfl (.cons rfl (.cons rfl (.cons rfl (.cons rfl (.cons rfl (.cons rfl (.cons rfl (.cons rfl (.cons rfl (.cons rfl (.cons rfl (.cons rfl (.cons rfl (.cons rfl (.cons rfl (.cons rfl (.cons rfl (.cons rfl (.cons rfl (.cons rfl (.cons rfl (.cons rfl (.cons rfl (.cons rfl (.cons rfl (.cons rfl (.cons rfl (.cons rfl (.cons rfl .nil))))))))))))))))))))))))))))))))))))))))))))) ?_ ?_
                          · exact Nat.zero_le _
                          · rintro m_ hF63
                            show WK _ _ m3 [blk b1 23 [.int .i64 (w.Fixed), .int .i64 (w.Each)]] [(1, vl), (2, vs), (3, .pointer (some ⟨b1, 0, none⟩)), (7, .bool true), (8, v7), (10, .bool true), (11, .int .i64 (↑i)), (12, .int .i64 (↑k)), (13, .int .i64 (↑m_)), (57, v7), (58, .int .i64 (↑i)), (59, .pointer (some (p21))), (60, v23), (61, .int .i64 (↑i)), (62, .pointer (some (p26))), (63, .int .i64 (gt (gt (tightL w l) i) i)), (64, .bool false), (67, .agg [.int .i64 (w.Fixed), .int .i64 (w.Each)].toArray), (68, vl), (69, v7), (70, .int .i64 (↑i)), (71, .pointer (some (p29))), (72, v31), (73, .bool true), (74, .bool false), (98, .bool true), (99, .bool true), (100, vs), (101, .int .i64 (↑i)), (102, .pointer (some (p51))), (103, .int .i64 (gt s i)), (104, vs), (105, .int .i64 (↑k)), (106, .pointer (some (p53))), (107, .int .i64 (gt s k)), (108, .int .i64 ((gt s i) - (gt s k))), (109, v7), (110, .int .i64 (↑i)), (111, .pointer (some (p55))), (112, v57), (113, .int .i64 (↑k)), (114, .pointer (some (p60))), (115, .int .i64 (gt (gt (tightL w l) i) k)), (116, .bool false), (117, .bool false)] _
                            replace hF63 : m_ ≤ l.length := hF63
                            have hm_ := hF63
                            refine WC.seq ?_
                            refine WC.seq ?_
                            refine WC.region ?_
                            refine WL.x (X.move rfl) (by decide) ?_
                            refine WL.x (X.move rfl) (by decide) ?_
                            refine WL.x (X.len Try.runUnderlying24 rfl hl) (by decide) ?_
                            refine WL.cond (X.lss rfl rfl) (by decide) (fun h64 => ?_) (fun h64 => ?_)
                            · refine WL.nil ?_
                              refine WK.nThen ?_
                              refine WC.condT rfl ?_
                              refine WC.skip ?_
                              refine WK.nThen ?_
                              refine WC.seq ?_
                              refine WC.block ?_
                              refine WC.seq ?_
                              have tri := tightL_row (w := w) (l := l) (i := i) (by omega)
                              have trm_ := tightL_row (w := w) (l := l) (i := m_) (by omega)
                              have taik := tightL_at (w := w) (l := l) (i := i) (k := k) (by omega) (by omega)
                              have tsik := tight_small hw0 (i := i) (k := k) (by omega) (by omega)
                              have taim_ := tightL_at (w := w) (l := l) (i := i) (k := m_) (by omega) (by omega)
                              have tsim_ := tight_small hw0 (i := i) (k := m_) (by omega) (by omega)
                              have tam_k := tightL_at (w := w) (l := l) (i := m_) (k := k) (by omega) (by omega)
                              have tsm_k := tight_small hw0 (i := m_) (k := k) (by omega) (by omega)
                              have htri := tight_tri hw0 (i := i) (j := k) (m := m_) (by omega) (by omega) (by omega)
                              refine WC.draw (π := (.cons 0 (.cons 1 (.cons 2 (.cons 3 (.cons 4 (.cons 5 (.cons 6 (.cons 7 (.cons 8 (.cons 9 (.cons 10 (.cons 11 (.cons 12 (.cons 13 (.cons 14 (.cons 15 (.cons 16 (.cons 17 (.cons 18 (.cons 19 (.cons 20 (.cons 21 (.cons 22 .done)))))))))))))))))))))))) [] [] rfl (by kernel_rfl) ?_
                              refine DW.x rfl rfl (X.move rfl) (by decide) ?_
                              refine DW.x rfl rfl (X.move rfl) (by decide) ?_
                              refine DW.xe rfl rfl (E.idxN i Try.runUnderlying27 Try.sizeOf31 rfl rfl hs8 (by omega)) (by decide) (fun p65 hp66 => ?_)
                              refine DW.xe rfl rfl (E.loadSl Try.isAgg31 rfl hp66) (by decide) (fun v67 hs68 => ?_)
                              have hl69 := hs68.le
                              refine DW.x rfl rfl (X.move rfl) (by decide) ?_
                              refine DW.xe rfl rfl (E.idxN k Try.runUnderlying31 Try.sizeOf3 rfl rfl hs68 (by omega)) (by decide) (fun p70 hp71 => ?_)
                              refine DW.x rfl rfl (X.loadInt Try.isAgg3 rfl hp71) (by decide) ?_
                              refine DW.x rfl rfl (X.move rfl) (by decide) ?_
                              refine DW.x rfl rfl (X.move rfl) (by decide) ?_
                              refine DW.xe rfl rfl (E.idxN i Try.runUnderlying27 Try.sizeOf31 rfl rfl hs8 (by omega)) (by decide) (fun p72 hp73 => ?_)
                              refine DW.xe rfl rfl (E.loadSl Try.isAgg31 rfl hp73) (by decide) (fun v74 hs75 => ?_)
                              have hl76 := hs75.le
                              refine DW.x rfl rfl (X.move rfl) (by decide) ?_
                              refine DW.xe rfl rfl (E.idxN m_ Try.runUnderlying31 Try.sizeOf3 rfl rfl hs75 (by omega)) (by decide) (fun p77 hp78 => ?_)
                              refine DW.x rfl rfl (X.loadInt Try.isAgg3 rfl hp78) (by decide) ?_
                              refine DW.x rfl rfl (X.move rfl) (by decide) ?_
                              refine DW.x rfl rfl (X.move rfl) (by decide) ?_
                              refine DW.xe rfl rfl (E.idxN m_ Try.runUnderlying27 Try.sizeOf31 rfl rfl hs8 (by omega)) (by decide) (fun p79 hp80 => ?_)
                              refine DW.xe rfl rfl (E.loadSl Try.isAgg31 rfl hp80) (by decide) (fun v81 hs82 => ?_)
                              have hl83 := hs82.le
                              refine DW.x rfl rfl (X.move rfl) (by decide) ?_
                              refine DW.xe rfl rfl (E.idxN k Try.runUnderlying31 Try.sizeOf3 rfl rfl hs82 (by omega)) (by decide) (fun p84 hp85 => ?_)
                              refine DW.x rfl rfl (X.loadInt Try.isAgg3 rfl hp85) (by decide) ?_
                              refine DW.x rfl rfl (X.add rfl rfl (by omega) (by omega)) (by decide) ?_
                              refine DW.cond rfl rfl (X.gtr rfl rfl) (by decide) (fun h86 => ?_) (fun h86 => ?_)
                              · refine DW.nil ?_
                                refine WK.nThen ?_
                                refine WC.condT rfl ?_
                                refine WC.seq ?_
                                refine WC.region ?_
                                refine WL.x (X.assign rfl) (by decide) ?_
                                refine WL.nil ?_
                                refine WK.nThen ?_
                                refine WC.ret ?_
                                refine WK.rBlock ?_
                                refine WK.rThen ?_
                                refine WK.rThen ?_
                                refine WK.rBlock ?_
                                refine WK.rBlock ?_
                                refine WK.rThen ?_
                                refine WK.rThen ?_
                                refine WK.rBlock ?_
                                refine WK.rBlock ?_
                                refine WK.rThen ?_
                                refine WK.rThen ?_
                                refine WK.rBlock ?_
                                refine WK.rThen ?_
                                refine WK.ret1 rfl rfl (fun w' hw' => Ret.exact hw' ?_)
                                first | rfl | (exfalso; omega) | exact (bool_true (by rw [show tightR w l = [] from if_neg (by omega)]; rfl)).symm
                              · refine DW.nil ?_
                                refine WK.nThen ?_
                                refine WC.condF rfl ?_
                                refine WC.skip ?_
                                refine WK.nBlock ?_
                                refine WK.nThen ?_
                                refine WC.region ?_
                                refine WL.x (X.move rfl) (by decide) ?_
                                refine WL.x (X.add rfl rfl (by omega) (by omega)) (by decide) ?_
                                refine WL.x (X.assign rfl) (by decide) ?_
                                refine WL.nil ?_
                                refine WK.nThen ?_
                                refine WK.next (m_ + 1) rfl (.refl _) (.cons rfl (.cons rfl (.cons rfl (.cons rfl (.cons rfl (.cons rfl (.cons rfl (.cons rfl (.cons rfl (.cons rfl (.cons rfl (.cons rfl (.cons rfl (.cons rfl (.cons rfl (.cons rfl (.cons rfl (.cons rfl (.cons rfl (.cons rfl (.cons rfl (.cons rfl (.cons rfl (.cons rfl (.cons rfl (.cons rfl (.cons rfl (.cons rfl (.cons rfl (.cons rfl (.cons rfl (.cons rfl (.cons rfl (.cons rfl (.cons rfl (.cons rfl (.cons rfl (.cons rfl (.cons rfl (.cons rfl (.cons rfl (.cons rfl (.cons rfl (.cons rfl (.cons rfl .nil))))))))))))))))))))))))))))))))))))))))))))) ?_ ?_
                                · omega
                                · omega
                            · refine WL.nil ?_
                              refine WK.nThen ?_
                              refine WC.condF rfl ?_
                              refine WC.exit ?_
                              refine WK.eThen ?_
                              refine WK.eThen ?_
                              refine WK.eHit ?_
                              refine WK.nBlock ?_
                              refine WK.nThen ?_
                              refine WC.region ?_
                              refine WL.x (X.move rfl) (by decide) ?_
                              refine WL.x (X.add rfl rfl (by omega) (by omega)) (by decide) ?_
                              refine WL.x (X.assign rfl) (by decide) ?_
                              refine WL.nil ?_
                              refine WK.nThen ?_
                              refine WK.next (k + 1) rfl (.refl _) (.cons rfl (.cons rfl (.cons rfl (.cons rfl (.cons rfl (.cons rfl (.cons rfl (.cons rfl (.cons rfl (.cons rfl (.cons rfl (.cons rfl (.cons rfl (.cons rfl (.cons rfl (.cons rfl (.cons rfl (.cons rfl (.cons rfl (.cons rfl (.cons rfl (.cons rfl (.cons rfl (.cons rfl .nil)))))))))))))))))))))))) ?_ ?_
                              · omega
                              · omega
                    · refine WL.nil ?_
                      refine WK.nThen ?_
                      refine WC.condF rfl ?_
                      refine WC.exit ?_
                      refine WK.eThen ?_
                      refine WK.eThen ?_
                      refine WK.eHit ?_
                      refine WK.nBlock ?_
                      refine WK.nThen ?_
                      refine WC.region ?_
                      refine WL.x (X.move rfl) (by decide) ?_
                      refine WL.x (X.add rfl rfl (by omega) (by omega)) (by decide) ?_
                      refine WL.x (X.assign rfl) (by decide) ?_
                      refine WL.nil ?_
                      refine WK.nThen ?_
                      refine WK.next (i + 1) rfl (.refl _) (.cons rfl (.cons rfl (.cons rfl (.cons rfl (.cons rfl (.cons rfl (.cons rfl .nil))))))) ?_ ?_
                      · omega
                      · omega
            · refine WL.nil ?_
              refine WK.nThen ?_
              refine WC.condF rfl ?_
              refine WC.exit ?_
              refine WK.eThen ?_
              refine WK.eThen ?_
              refine WK.eHit ?_
              refine WK.nThen ?_
              refine WC.seq ?_
              refine WC.region ?_
              refine WL.x (X.move rfl) (by decide) ?_
              refine WL.x (X.assign rfl) (by decide) ?_
              refine WL.nil ?_
              refine WK.nThen ?_
              refine WC.ret ?_
              refine WK.ret1 rfl rfl (fun w' hw' => Ret.exact hw' ?_)
              first | rfl | (exfalso; omega) | exact (bool_true (by rw [show tightR w l = [] from if_neg (by omega)]; rfl)).symm
        · refine WL.x (X.assign rfl) (by decide) ?_
          refine WL.nil ?_
          refine WK.nThen ?_
          refine WC.seq ?_
          refine WC.seq ?_
          refine WC.region ?_
          refine WL.x (X.assign rfl) (by decide) ?_
          refine WL.nil ?_
          refine WK.nThen ?_
          refine WC.block ?_
          refine WC.loop (G := Nat) (fun i => l.length - i) (fun i => m3) (fun i => [blk b1 23 [.int .i64 (w.Fixed), .int .i64 (w.Each)]]) (fun i => [(1, vl), (2, vs), (3, .pointer (some ⟨b1, 0, none⟩)), (7, .bool true), (8, v7), (10, .bool false), (11, .int .i64 (↑i))]) (fun i => i ≤ l.length) 0 rfl (.refl _) (.cons rfl (.cons rfl (.cons rfl (.cons rfl (.cons rfl (.cons rfl (.cons rfl .nil))))))) ?_ ?_
          · exact Nat.zero_le _
          · rintro i hF87
            show WK _ _ m3 [blk b1 23 [.int .i64 (w.Fixed), .int .i64 (w.Each)]] [(1, vl), (2, vs), (3, .pointer (some ⟨b1, 0, none⟩)), (7, .bool true), (8, v7), (10, .bool false), (11, .int .i64 (↑i))] _
            replace hF87 : i ≤ l.length := hF87
            have hi := hF87
            refine WC.seq ?_
            refine WC.seq ?_
            refine WC.region ?_
            refine WL.x (X.move rfl) (by decide) ?_
            refine WL.x (X.move rfl) (by decide) ?_
            refine WL.x (X.len Try.runUnderlying24 rfl hl) (by decide) ?_
            refine WL.cond (X.lss rfl rfl) (by decide) (fun h88 => ?_) (fun h88 => ?_)
            · refine WL.nil ?_
              refine WK.nThen ?_
              refine WC.condT rfl ?_
              refine WC.skip ?_
              refine WK.nThen ?_
              refine WC.seq ?_
              refine WC.block ?_
              refine WC.seq ?_
              refine WC.seq ?_
              have tri := tightL_row (w := w) (l := l) (i := i) (by omega)
              have taii := tightL_at (w := w) (l := l) (i := i) (k := i) (by omega) (by omega)
              have tsii := tight_small hw0 (i := i) (k := i) (by omega) (by omega)
              have z0 := tight_zero hw0 (i := i) (by omega)
              refine WC.draw (π := (.cons 0 (.cons 1 (.cons 2 (.cons 3 (.cons 4 (.cons 5 (.cons 6 (.cons 7 (.cons 8 (.cons 9 (.cons 10 (.cons 11 (.cons 12 (.cons 13 (.cons 14 (.cons 15 (.cons 16 (.cons 17 (.cons 18 (.cons 19 (.cons 20 (.cons 21 (.cons 22 (.cons 23 (.cons 24 (.cons 25 (.cons 26 (.cons 27 .done))))))))))))))))))))))))))))) [] [] rfl (by kernel_rfl) ?_
              refine DW.x rfl rfl (X.move rfl) (by decide) ?_
              refine DW.x rfl rfl (X.move rfl) (by decide) ?_
              refine DW.xe rfl rfl (E.idxN i Try.runUnderlying27 Try.sizeOf31 rfl rfl hs8 (by omega)) (by decide) (fun p89 hp90 => ?_)
              refine DW.xe rfl rfl (E.loadSl Try.isAgg31 rfl hp90) (by decide) (fun v91 hs92 => ?_)
              have hl93 := hs92.le
              refine DW.x rfl rfl (X.len Try.runUnderlying31 rfl hs92) (by decide) ?_
              refine DW.x rfl rfl (X.move rfl) (by decide) ?_
              refine DW.x rfl rfl (X.len Try.runUnderlying24 rfl hl) (by decide) ?_
              refine DW.condn rfl rfl (X.neq rfl rfl) (by decide) (fun h94 => ?_) (fun h94 => ?_)
              · refine DW.x rfl rfl (X.move rfl) (by decide) ?_
                refine DW.no rfl rfl (by decide) ?_
                refine DW.no rfl rfl (by decide) ?_
                refine DW.no rfl rfl (by decide) ?_
                refine DW.no rfl rfl (by decide) ?_
                refine DW.no rfl rfl (by decide) ?_
                refine DW.no rfl rfl (by decide) ?_
                refine DW.no rfl rfl (by decide) ?_
                refine DW.no rfl rfl (by decide) ?_
                refine DW.x rfl rfl (X.pickT rfl rfl rfl) (by decide) ?_
                refine DW.x rfl rfl (X.move rfl) (by decide) ?_
                refine DW.no rfl rfl (by decide) ?_
                refine DW.no rfl rfl (by decide) ?_
                refine DW.no rfl rfl (by decide) ?_
                refine DW.no rfl rfl (by decide) ?_
                refine DW.no rfl rfl (by decide) ?_
                refine DW.no rfl rfl (by decide) ?_
                refine DW.no rfl rfl (by decide) ?_
                refine DW.no rfl rfl (by decide) ?_
                refine DW.x rfl rfl (X.pickT rfl rfl rfl) (by decide) ?_
                refine DW.nil ?_
                refine WK.nThen ?_
                refine WC.condT rfl ?_
                refine WC.seq ?_
                refine WC.region ?_
                refine WL.x (X.assign rfl) (by decide) ?_
                refine WL.nil ?_
                refine WK.nThen ?_
                refine WC.ret ?_
                refine WK.rThen ?_
                refine WK.rBlock ?_
                refine WK.rThen ?_
                refine WK.rThen ?_
                refine WK.rBlock ?_
                refine WK.rThen ?_
                refine WK.ret1 rfl rfl (fun w' hw' => Ret.exact hw' ?_)
                first | rfl | (exfalso; omega) | exact (bool_true (by rw [show tightR w l = [] from if_neg (by omega)]; rfl)).symm
              · refine DW.x rfl rfl (X.move rfl) (by decide) ?_
                refine DW.x rfl rfl (X.move rfl) (by decide) ?_
                refine DW.x rfl rfl (X.move rfl) (by decide) ?_
                refine DW.xe rfl rfl (E.idxN i Try.runUnderlying27 Try.sizeOf31 rfl rfl hs8 (by omega)) (by decide) (fun p95 hp96 => ?_)
                refine DW.xe rfl rfl (E.loadSl Try.isAgg31 rfl hp96) (by decide) (fun v97 hs98 => ?_)
                have hl99 := hs98.le
                refine DW.x rfl rfl (X.move rfl) (by decide) ?_
                refine DW.xe rfl rfl (E.idxN i Try.runUnderlying31 Try.sizeOf3 rfl rfl hs98 (by omega)) (by decide) (fun p100 hp101 => ?_)
                refine DW.x rfl rfl (X.loadInt Try.isAgg3 rfl hp101) (by decide) ?_
                refine DW.condn rfl rfl (X.neq rfl rfl) (by decide) (fun h102 => ?_) (fun h102 => ?_)
                · refine DW.x rfl rfl (X.pickF rfl rfl rfl) (by decide) ?_
                  refine DW.x rfl rfl (X.move rfl) (by decide) ?_
                  refine DW.no rfl rfl (by decide) ?_
                  refine DW.no rfl rfl (by decide) ?_
                  refine DW.no rfl rfl (by decide) ?_
                  refine DW.no rfl rfl (by decide) ?_
                  refine DW.no rfl rfl (by decide) ?_
                  refine DW.no rfl rfl (by decide) ?_
                  refine DW.no rfl rfl (by decide) ?_
                  refine DW.no rfl rfl (by decide) ?_
                  refine DW.x rfl rfl (X.pickT rfl rfl rfl) (by decide) ?_
                  refine DW.nil ?_
                  refine WK.nThen ?_
                  refine WC.condT rfl ?_
                  refine WC.seq ?_
                  refine WC.region ?_
                  refine WL.x (X.assign rfl) (by decide) ?_
                  refine WL.nil ?_
                  refine WK.nThen ?_
                  refine WC.ret ?_
                  refine WK.rThen ?_
                  refine WK.rBlock ?_
                  refine WK.rThen ?_
                  refine WK.rThen ?_
                  refine WK.rBlock ?_
                  refine WK.rThen ?_
                  refine WK.ret1 rfl rfl (fun w' hw' => Ret.exact hw' ?_)
                  first | rfl | (exfalso; omega) | exact (bool_true (by rw [show tightR w l = [] from if_neg (by omega)]; rfl)).symm
                · refine DW.x rfl rfl (X.pickF rfl rfl rfl) (by decide) ?_
                  refine DW.x rfl rfl (X.move rfl) (by decide) ?_
                  refine DW.x rfl rfl (X.loadBA (k := 0) Try.isAgg23 Try.sizeOf23 rfl rfl rfl) (by decide) ?_
                  refine DW.x rfl rfl (X.move rfl) (by decide) ?_
                  refine DW.x rfl rfl (X.move rfl) (by decide) ?_
                  refine DW.x rfl rfl (X.move rfl) (by decide) ?_
                  refine DW.xe rfl rfl (E.idxN i Try.runUnderlying27 Try.sizeOf31 rfl rfl hs8 (by omega)) (by decide) (fun p103 hp104 => ?_)
                  refine DW.xe rfl rfl (E.loadSl Try.isAgg31 rfl hp104) (by decide) (fun v105 hs106 => ?_)
                  have hl107 := hs106.le
                  refine DW.x rfl rfl (OpX.t (X.call Try.call32 rfl (windy32 _ _ w rfl _ _ hl _ _ hs106 )) (windy_row hw0 (by omega))) (by decide) ?_
                  refine DW.x rfl rfl (X.not rfl) (by decide) ?_
                  refine DW.x rfl rfl (X.pickF rfl rfl rfl) (by decide) ?_
                  refine DW.nil ?_
                  refine WK.nThen ?_
                  refine WC.condF rfl ?_
                  refine WC.skip ?_
                  refine WK.nThen ?_
                  refine WC.seq ?_
                  refine WC.region ?_
                  refine WL.x (X.assign rfl) (by decide) ?_
                  refine WL.nil ?_
                  refine WK.nThen ?_
                  refine WC.block ?_
                  refine WC.loop (G := Nat) (fun k => l.length - k) (fun k => m3) (fun k => [blk b1 23 [.int .i64 (w.Fixed), .int .i64 (w.Each)]]) (fun k => [(1, vl), (2, vs), (3, .pointer (some ⟨b1, 0, none⟩)), (7, .bool true), (8, v7), (10, .bool false), (11, .int .i64 (↑i)), (12, .int .i64 (↑k)), (57, v7), (58, .int .i64 (↑i)), (59, .pointer (some (p95))), (60, v97), (61, .int .i64 (↑i)), (62, .pointer (some (p100))), (63, .int .i64 (gt (gt (tightL w l) i) i)), (64, .bool false), (67, .agg [.int .i64 (w.Fixed), .int .i64 (w.Each)].toArray), (68, vl), (69, v7), (70, .int .i64 (↑i)), (71, .pointer (some (p103))), (72, v105), (73, .bool true), (74, .bool false)]) (fun k => k ≤ l.length) 0 rfl (.refl _) (.cons rfl (.cons rfl (.cons rfl (.cons rfl (.cons rfl (.cons rfl (.cons rfl (.cons rfl (.cons rfl (.cons rfl (.cons rfl (.cons rfl (.cons rfl (.cons rfl (.cons rfl (.cons rfl (.cons rfl (.cons rfl (.cons rfl (.cons rfl (.cons rfl (.cons rfl (.cons rfl (.cons rfl .nil)))))))))))))))))))))))) ?_ ?_
                  · exact Nat.zero_le _
                  · rintro k hF108
                    show WK _ _ m3 [blk b1 23 [.int .i64 (w.Fixed), .int .i64 (w.Each)]] [(1, vl), (2, vs), (3, .pointer (some ⟨b1, 0, none⟩)), (7, .bool true), (8, v7), (10, .bool false), (11, .int .i64 (↑i)), (12, .int .i64 (↑k)), (57, v7), (58, .int .i64 (↑i)), (59, .pointer (some (p95))), (60, v97), (61, .int .i64 (↑i)), (62, .pointer (some (p100))), (63, .int .i64 (gt (gt (tightL w l) i) i)), (64, .bool false), (67, .agg [.int .i64 (w.Fixed), .int .i64 (w.Each)].toArray), (68, vl), (69, v7), (70, .int .i64 (↑i)), (71, .pointer (some (p103))), (72, v105), (73, .bool true), (74, .bool false)] _
                    replace hF108 : k ≤ l.length := hF108
                    have hk := hF108
                    refine WC.seq ?_
                    refine WC.seq ?_
                    refine WC.region ?_
                    refine WL.x (X.move rfl) (by decide) ?_
                    refine WL.x (X.move rfl) (by decide) ?_
                    refine WL.x (X.len Try.runUnderlying24 rfl hl) (by decide) ?_
                    refine WL.cond (X.lss rfl rfl) (by decide) (fun h109 => ?_) (fun h109 => ?_)
                    · refine WL.nil ?_
                      refine WK.nThen ?_
                      refine WC.condT rfl ?_
                      refine WC.skip ?_
                      refine WK.nThen ?_
                      refine WC.seq ?_
                      refine WC.block ?_
                      refine WC.seq ?_
                      refine WC.seq ?_
                      have tri := tightL_row (w := w) (l := l) (i := i) (by omega)
                      have trk := tightL_row (w := w) (l := l) (i := k) (by omega)
                      have taik := tightL_at (w := w) (l := l) (i := i) (k := k) (by omega) (by omega)
                      have tsik := tight_small hw0 (i := i) (k := k) (by omega) (by omega)
                      have taki := tightL_at (w := w) (l := l) (i := k) (k := i) (by omega) (by omega)
                      have tski := tight_small hw0 (i := k) (k := i) (by omega) (by omega)
                      have hcm := tight_comm hw0 (i := i) (j := k) (by omega) (by omega)
                      refine WC.draw (π := (.cons 0 (.cons 1 (.cons 2 (.cons 3 (.cons 4 (.cons 5 (.cons 6 (.cons 7 (.cons 8 (.cons 9 (.cons 10 (.cons 11 (.cons 12 (.cons 13 (.cons 14 (.cons 15 (.cons 16 (.cons 17 (.cons 18 (.cons 19 (.cons 20 (.cons 21 (.cons 22 (.cons 23 (.cons 24 (.cons 25 (.cons 26 (.cons 27 (.cons 28 (.cons 29 (.cons 30 (.cons 31 (.cons 32 (.cons 33 (.cons 34 (.cons 35 (.cons 36 .done)))))))))))))))))))))))))))))))))))))) [] [] rfl (by kernel_rfl) ?_
                      refine DW.x rfl rfl (X.move rfl) (by decide) ?_
                      refine DW.x rfl rfl (X.move rfl) (by decide) ?_
                      refine DW.xe rfl rfl (E.idxN i Try.runUnderlying27 Try.sizeOf31 rfl rfl hs8 (by omega)) (by decide) (fun p110 hp111 => ?_)
                      refine DW.xe rfl rfl (E.loadSl Try.isAgg31 rfl hp111) (by decide) (fun v112 hs113 => ?_)
                      have hl114 := hs113.le
                      refine DW.x rfl rfl (X.move rfl) (by decide) ?_
                      refine DW.xe rfl rfl (E.idxN k Try.runUnderlying31 Try.sizeOf3 rfl rfl hs113 (by omega)) (by decide) (fun p115 hp116 => ?_)
                      refine DW.x rfl rfl (X.loadInt Try.isAgg3 rfl hp116) (by decide) ?_
                      refine DW.x rfl rfl (X.move rfl) (by decide) ?_
                      refine DW.x rfl rfl (X.move rfl) (by decide) ?_
                      refine DW.xe rfl rfl (E.idxN k Try.runUnderlying27 Try.sizeOf31 rfl rfl hs8 (by omega)) (by decide) (fun p117 hp118 => ?_)
                      refine DW.xe rfl rfl (E.loadSl Try.isAgg31 rfl hp118) (by decide) (fun v119 hs120 => ?_)
                      have hl121 := hs120.le
                      refine DW.x rfl rfl (X.move rfl) (by decide) ?_
                      refine DW.xe rfl rfl (E.idxN i Try.runUnderlying31 Try.sizeOf3 rfl rfl hs120 (by omega)) (by decide) (fun p122 hp123 => ?_)
                      refine DW.x rfl rfl (X.loadInt Try.isAgg3 rfl hp123) (by decide) ?_
                      refine DW.condn rfl rfl (X.neq rfl rfl) (by decide) (fun h124 => ?_) (fun h124 => ?_)
                      · refine DW.x rfl rfl (X.move rfl) (by decide) ?_
                        refine DW.no rfl rfl (by decide) ?_
                        refine DW.no rfl rfl (by decide) ?_
                        refine DW.no rfl rfl (by decide) ?_
                        refine DW.no rfl rfl (by decide) ?_
                        refine DW.no rfl rfl (by decide) ?_
                        refine DW.no rfl rfl (by decide) ?_
                        refine DW.no rfl rfl (by decide) ?_
                        refine DW.no rfl rfl (by decide) ?_
                        refine DW.no rfl rfl (by decide) ?_
                        refine DW.no rfl rfl (by decide) ?_
                        refine DW.no rfl rfl (by decide) ?_
                        refine DW.no rfl rfl (by decide) ?_
                        refine DW.no rfl rfl (by decide) ?_
                        refine DW.no rfl rfl (by decide) ?_
                        refine DW.no rfl rfl (by decide) ?_
                        refine DW.no rfl rfl (by decide) ?_
                        refine DW.no rfl rfl (by decide) ?_
                        refine DW.no rfl rfl (by decide) ?_
                        refine DW.no rfl rfl (by decide) ?_
                        refine DW.no rfl rfl (by decide) ?_
                        refine DW.x rfl rfl (X.pickT rfl rfl rfl) (by decide) ?_
                        refine DW.nil ?_
                        refine WK.nThen ?_
                        refine WC.condT rfl ?_
                        refine WC.seq ?_
                        refine WC.region ?_
                        refine WL.x (X.assign rfl) (by decide) ?_
                        refine WL.nil ?_
                        refine WK.nThen ?_
                        refine WC.ret ?_
                        refine WK.rThen ?_
                        refine WK.rBlock ?_
                        refine WK.rThen ?_
                        refine WK.rThen ?_
                        refine WK.rBlock ?_
                        refine WK.rBlock ?_
                        refine WK.rThen ?_
                        refine WK.rThen ?_
                        refine WK.rBlock ?_
                        refine WK.rThen ?_
                        refine WK.ret1 rfl rfl (fun w' hw' => Ret.exact hw' ?_)
                        first | rfl | (exfalso; omega) | exact (bool_true (by rw [show tightR w l = [] from if_neg (by omega)]; rfl)).symm
                      · refine DW.x rfl rfl (X.move rfl) (by decide) ?_
                        refine DW.x rfl rfl (X.move rfl) (by decide) ?_
                        refine DW.x rfl rfl (X.move rfl) (by decide) ?_
                        refine DW.no rfl rfl (by decide) ?_
                        refine DW.no rfl rfl (by decide) ?_
                        refine DW.no rfl rfl (by decide) ?_
                        refine DW.no rfl rfl (by decide) ?_
                        refine DW.no rfl rfl (by decide) ?_
                        refine DW.no rfl rfl (by decide) ?_
                        refine DW.no rfl rfl (by decide) ?_
                        refine DW.no rfl rfl (by decide) ?_
                        refine DW.no rfl rfl (by decide) ?_
                        refine DW.no rfl rfl (by decide) ?_
                        refine DW.no rfl rfl (by decide) ?_
                        refine DW.no rfl rfl (by decide) ?_
                        refine DW.no rfl rfl (by decide) ?_
                        refine DW.no rfl rfl (by decide) ?_
                        refine DW.no rfl rfl (by decide) ?_
                        refine DW.no rfl rfl (by decide) ?_
                        refine DW.no rfl rfl (by decide) ?_
                        refine DW.x rfl rfl (X.pickF rfl rfl rfl) (by decide) ?_
                        refine DW.x rfl rfl (X.pickF rfl rfl rfl) (by decide) ?_
                        refine DW.nil ?_
                        refine WK.nThen ?_
                        refine WC.condF rfl ?_
                        refine WC.skip ?_
                        refine WK.nThen ?_
                        refine WC.seq ?_
                        refine WC.region ?_
                        refine WL.x (X.assign rfl) (by decide) ?_
                        refine WL.nil ?_
                        refine WK.nThen ?_
                        refine WC.block ?_
                        refine WC.loop (G := Nat) (fun m_ => l.length - m_) (fun m_ => m3) (fun m_ => [blk b1 23 [.int .i64 (w.Fixed), .int .i64 (w.Each)]]) (fun m_ => [(1, vl), (2, vs), (3, .pointer (some ⟨b1, 0, none⟩)), (7, .bool true), (8, v7), (10, .bool false), (11, .int .i64 (↑i)), (12, .int .i64 (↑k)), (13, .int .i64 (↑m_)), (57, v7), (58, .int .i64 (↑i)), (59, .pointer (some (p95))), (60, v97), (61, .int .i64 (↑i)), (62, .pointer (some (p100))), (63, .int .i64 (gt (gt (tightL w l) i) i)), (64, .bool false), (67, .agg [.int .i64 (w.Fixed), .int .i64 (w.Each)].toArray), (68, vl), (69, v7), (70, .int .i64 (↑i)), (71, .pointer (some (p103))), (72, v105), (73, .bool true), (74, .bool false), (98, .bool false), (99, .bool false), (117, .bool false)]) (fun m_ => m_ ≤ l.length) 0 rfl (.refl _) (.cons rfl (.cons rfl (.cons rfl (.cons rfl (.cons rfl (.cons rfl (.cons rfl (.cons rfl (.cons rfl (.cons rfl (.cons rfl (.cons rfl (.cons rfl (.cons rfl (.cons rfl (.cons rfl (.cons rfl (.cons rfl (.cons rfl (.cons rfl (.cons rfl (.cons rfl (.cons rfl (.cons rfl (.cons rfl (.cons rfl (.cons rfl (.cons rfl .nil)))))))))))))))))))))))))))) ?_ ?_
                        · exact Nat.zero_le _
                        · rintro m_ hF125
                          show WK _ _ m3 [blk b1 23 [.int .i64 (w.Fixed), .int .i64 (w.Each)]] [(1, vl), (2, vs), (3, .pointer (some ⟨b1, 0, none⟩)), (7, .bool true), (8, v7), (10, .bool false), (11, .int .i64 (↑i)), (12, .int .i64 (↑k)), (13, .int .i64 (↑m_)), (57, v7), (58, .int .i64 (↑i)), (59, .pointer (some (p95))), (60, v97), (61, .int .i64 (↑i)), (62, .pointer (some (p100))), (63, .int .i64 (gt (gt (tightL w l) i) i)), (64, .bool false), (67, .agg [.int .i64 (w.Fixed), .int .i64 (w.Each)].toArray), (68, vl), (69, v7), (70, .int .i64 (↑i)), (71, .pointer (some (p103))), (72, v105), (73, .bool true), (74, .bool false), (98, .bool false), (99, .bool false), (117, .bool false)] _
                          replace hF125 : m_ ≤ l.length := hF125
                          have hm_ := hF125
                          refine WC.seq ?_
                          refine WC.seq ?_
                          refine WC.region ?_
                          refine WL.x (X.move rfl) (by decide) ?_
                          refine WL.x (X.move rfl) (by decide) ?_
                          refine WL.x (X.len Try.runUnderlying24 rfl hl) (by decide) ?_
                          refine WL.cond (X.lss rfl rfl) (by decide) (fun h126 => ?_) (fun h126 => ?_)
                          · refine WL.nil ?_
                            refine WK.nThen ?_
                            refine WC.condT rfl ?_
                            refine WC.skip ?_
                            refine WK.nThen ?_
                            refine WC.seq ?_
                            refine WC.block ?_
                            refine WC.seq ?_
                            have tri := tightL_row (w := w) (l := l) (i := i) (by omega)
                            have trm_ := tightL_row (w := w) (l := l) (i := m_) (by omega)
                            have taik := tightL_at (w := w) (l := l) (i := i) (k := k) (by omega) (by omega)
                            have tsik := tight_small hw0 (i := i) (k := k) (by omega) (by omega)
                            have taim_ := tightL_at (w := w) (l := l) (i := i) (k := m_) (by omega) (by omega)
                            have tsim_ := tight_small hw0 (i := i) (k := m_) (by omega) (by omega)
                            have tam_k := tightL_at (w := w) (l := l) (i := m_) (k := k) (by omega) (by omega)
                            have tsm_k := tight_small hw0 (i := m_) (k := k) (by omega) (by omega)
                            have htri := tight_tri hw0 (i := i) (j := k) (m := m_) (by omega) (by omega) (by omega)
                            refine WC.draw (π := (.cons 0 (.cons 1 (.cons 2 (.cons 3 (.cons 4 (.cons 5 (.cons 6 (.cons 7 (.cons 8 (.cons 9 (.cons 10 (.cons 11 (.cons 12 (.cons 13 (.cons 14 (.cons 15 (.cons 16 (.cons 17 (.cons 18 (.cons 19 (.cons 20 (.cons 21 (.cons 22 .done)))))))))))))))))))))))) [] [] rfl (by kernel_rfl) ?_
                            refine DW.x rfl rfl (X.move rfl) (by decide) ?_
                            refine DW.x rfl rfl (X.move rfl) (by decide) ?_
                            refine DW.xe rfl rfl (E.idxN i Try.runUnderlying27 Try.sizeOf31 rfl rfl hs8 (by omega)) (by decide) (fun p127 hp128 => ?_)
                            refine DW.xe rfl rfl (E.loadSl Try.isAgg31 rfl hp128) (by decide) (fun v129 hs130 => ?_)
                            have hl131 := hs130.le
                            refine DW.x rfl rfl (X.move rfl) (by decide) ?_
                            refine DW.xe rfl rfl (E.idxN k Try.runUnderlying31 Try.sizeOf3 rfl rfl hs130 (by omega)) (by decide) (fun p132 hp133 => ?_)
                            refine DW.x rfl rfl (X.loadInt Try.isAgg3 rfl hp133) (by decide) ?_
                            refine DW.x rfl rfl (X.move rfl) (by decide) ?_
                            refine DW.x rfl rfl (X.move rfl) (by decide) ?_
                            refine DW.xe rfl rfl (E.idxN i Try.runUnderlying27 Try.sizeOf31 rfl rfl hs8 (by omega)) (by decide) (fun p134 hp135 => ?_)
                            refine DW.xe rfl rfl (E.loadSl Try.isAgg31 rfl hp135) (by decide) (fun v136 hs137 => ?_)
                            have hl138 := hs137.le
                            refine DW.x rfl rfl (X.move rfl) (by decide) ?_
                            refine DW.xe rfl rfl (E.idxN m_ Try.runUnderlying31 Try.sizeOf3 rfl rfl hs137 (by omega)) (by decide) (fun p139 hp140 => ?_)
                            refine DW.x rfl rfl (X.loadInt Try.isAgg3 rfl hp140) (by decide) ?_
                            refine DW.x rfl rfl (X.move rfl) (by decide) ?_
                            refine DW.x rfl rfl (X.move rfl) (by decide) ?_
                            refine DW.xe rfl rfl (E.idxN m_ Try.runUnderlying27 Try.sizeOf31 rfl rfl hs8 (by omega)) (by decide) (fun p141 hp142 => ?_)
                            refine DW.xe rfl rfl (E.loadSl Try.isAgg31 rfl hp142) (by decide) (fun v143 hs144 => ?_)
                            have hl145 := hs144.le
                            refine DW.x rfl rfl (X.move rfl) (by decide) ?_
                            refine DW.xe rfl rfl (E.idxN k Try.runUnderlying31 Try.sizeOf3 rfl rfl hs144 (by omega)) (by decide) (fun p146 hp147 => ?_)
                            refine DW.x rfl rfl (X.loadInt Try.isAgg3 rfl hp147) (by decide) ?_
                            refine DW.x rfl rfl (X.add rfl rfl (by omega) (by omega)) (by decide) ?_
                            refine DW.cond rfl rfl (X.gtr rfl rfl) (by decide) (fun h148 => ?_) (fun h148 => ?_)
                            · refine DW.nil ?_
                              refine WK.nThen ?_
                              refine WC.condT rfl ?_
                              refine WC.seq ?_
                              refine WC.region ?_
                              refine WL.x (X.assign rfl) (by decide) ?_
                              refine WL.nil ?_
                              refine WK.nThen ?_
                              refine WC.ret ?_
                              refine WK.rBlock ?_
                              refine WK.rThen ?_
                              refine WK.rThen ?_
                              refine WK.rBlock ?_
                              refine WK.rBlock ?_
                              refine WK.rThen ?_
                              refine WK.rThen ?_
                              refine WK.rBlock ?_
                              refine WK.rBlock ?_
                              refine WK.rThen ?_
                              refine WK.rThen ?_
                              refine WK.rBlock ?_
                              refine WK.rThen ?_
                              refine WK.ret1 rfl rfl (fun w' hw' => Ret.exact hw' ?_)
                              first | rfl | (exfalso; omega) | exact (bool_true (by rw [show tightR w l = [] from if_neg (by omega)]; rfl)).symm
                            · refine DW.nil ?_
                              refine WK.nThen ?_
                              refine WC.condF rfl ?_
                              refine WC.skip ?_
                              refine WK.nBlock ?_
                              refine WK.nThen ?_
                              refine WC.region ?_
                              refine WL.x (X.move rfl) (by decide) ?_
                              refine WL.x (X.add rfl rfl (by omega) (by omega)) (by decide) ?_
                              refine WL.x (X.assign rfl) (by decide) ?_
                              refine WL.nil ?_
                              refine WK.nThen ?_
                              refine WK.next (m_ + 1) rfl (.refl _) (.cons rfl (.cons rfl (.cons rfl (.cons rfl (.cons rfl (.cons rfl (.cons rfl (.cons rfl (.cons rfl (.cons rfl (.cons rfl (.cons rfl (.cons rfl (.cons rfl (.cons rfl (.cons rfl (.cons rfl (.cons rfl (.cons rfl (.cons rfl (.cons rfl (.cons rfl (.cons rfl (.cons rfl (.cons rfl (.cons rfl (.cons rfl (.cons rfl .nil)))))))))))))))))))))))))))) ?_ ?_
                              · omega
                              · omega
                          · refine WL.nil ?_
                            refine WK.nThen ?_
                            refine WC.condF rfl ?_
                            refine WC.exit ?_
                            refine WK.eThen ?_
                            refine WK.eThen ?_
                            refine WK.eHit ?_
                            refine WK.nBlock ?_
                            refine WK.nThen ?_
                            refine WC.region ?_
                            refine WL.x (X.move rfl) (by decide) ?_
                            refine WL.x (X.add rfl rfl (by omega) (by omega)) (by decide) ?_
                            refine WL.x (X.assign rfl) (by decide) ?_
                            refine WL.nil ?_
                            refine WK.nThen ?_
                            refine WK.next (k + 1) rfl (.refl _) (.cons rfl (.cons rfl (.cons rfl (.cons rfl (.cons rfl (.cons rfl (.cons rfl (.cons rfl (.cons rfl (.cons rfl (.cons rfl (.cons rfl (.cons rfl (.cons rfl (.cons rfl (.cons rfl (.cons rfl (.cons rfl (.cons rfl (.cons rfl (.cons rfl (.cons rfl (.cons rfl (.cons rfl .nil)))))))))))))))))))))))) ?_ ?_
                            · omega
                            · omega
                    · refine WL.nil ?_
                      refine WK.nThen ?_
                      refine WC.condF rfl ?_
                      refine WC.exit ?_
                      refine WK.eThen ?_
                      refine WK.eThen ?_
                      refine WK.eHit ?_
                      refine WK.nBlock ?_
                      refine WK.nThen ?_
                      refine WC.region ?_
                      refine WL.x (X.move rfl) (by decide) ?_
                      refine WL.x (X.add rfl rfl (by omega) (by omega)) (by decide) ?_
                      refine WL.x (X.assign rfl) (by decide) ?_
                      refine WL.nil ?_
                      refine WK.nThen ?_
                      refine WK.next (i + 1) rfl (.refl _) (.cons rfl (.cons rfl (.cons rfl (.cons rfl (.cons rfl (.cons rfl (.cons rfl .nil))))))) ?_ ?_
                      · omega
                      · omega
            · refine WL.nil ?_
              refine WK.nThen ?_
              refine WC.condF rfl ?_
              refine WC.exit ?_
              refine WK.eThen ?_
              refine WK.eThen ?_
              refine WK.eHit ?_
              refine WK.nThen ?_
              refine WC.seq ?_
              refine WC.region ?_
              refine WL.x (X.move rfl) (by decide) ?_
              refine WL.x (X.assign rfl) (by decide) ?_
              refine WL.nil ?_
              refine WK.nThen ?_
              refine WC.ret ?_
              refine WK.ret1 rfl rfl (fun w' hw' => Ret.exact hw' ?_)
              first | rfl | (exfalso; omega) | exact (bool_true (by rw [show tightR w l = [] from if_neg (by omega)]; rfl)).symm
  · refine WL.x (X.not rfl) (by decide) ?_
    refine WL.nil ?_
    refine WK.nThen ?_
    refine WC.condT rfl ?_
    refine WC.seq ?_
    refine WC.region ?_
    refine WL.x (X.move rfl) (by decide) ?_
    refine WL.x (X.assign rfl) (by decide) ?_
    refine WL.nil ?_
    refine WK.nThen ?_
    refine WC.ret ?_
    refine WK.rThen ?_
    refine WK.ret1 rfl rfl (fun w' hw' => Ret.exact hw' ?_)
    first | rfl | (exfalso; omega) | exact (bool_true (by rw [show tightR w l = [] from if_neg (by omega)]; rfl)).symm

end Go.Proofs.S5
namespace Go.Proofs.Ytcpecjgppbiplaa
open Go Go.Kx Go.Proofs.S5
set_option linter.unusedVariables false
namespace LStationsExact
theorem own : ownKnob Try.prog.godebug = none := by kernel_rfl
theorem laidOut : laidOutB Try.prog = true := by kernel_rfl
set_option maxRecDepth 100000 in
theorem lifted (os : Os) (started : os.Started) (H : Type) (enc : TypeId × Value → H) :
    ReturnsInHanded {} Try.checked os 6 .any (Rows.stationsExactSpec.pre6 enc Try.prog Try.f6 Rows.stationsExactRow.domain false) (Rows.stationsExactSpec.post enc Try.prog Try.f6 false true false false) := by
  refine returnsInHanded_of_change_sized (C := Try.checked) own started (by kernel_rfl) Try.func6
    (ChangeSpec.witness6 (enc := enc) (C := Try.checked) false ⟨#[], #[.agg #[.int .i64 0, .int .i64 0], .slice none 0 0, .slice none 0 0], []⟩ 8 (by kernel_rfl) (by kernel_rfl) (by kernel_rfl) (by kernel_rfl)) ?_
  intro W base args ds gs before hval0 hW hcnd hwt _
  have hval : ∀ (j : Nat) t v, Try.f6.params[j]? = some t → args[j]? = some v → Value.okWide Try.prog W .any base t v := hval0
  have hW' := hW
  obtain ⟨p, q, hA0, hV, rfl, hfz, hnd⟩ := hW
  have hA : DataW.TrodAll enc Try.prog W 0 (fun _ => true) true Try.f6.params.toList args.toList ds p := hA0
  rw [Try.params6] at hA hval
  obtain ⟨v0, vs0, d0, ds0, p0, q0, hargs, rfl, rfl, h0, r0⟩ := ChangeShapes.trodAll_cons hA
  obtain ⟨v1, vs1, d1, ds1, p1, q1, rfl, rfl, rfl, h1, r1⟩ := ChangeShapes.trodAll_cons r0
  obtain ⟨v2, vs2, d2, ds2, p2, q2, rfl, rfl, rfl, h2, r2⟩ := ChangeShapes.trodAll_cons r1
  obtain ⟨rfl, rfl, rfl⟩ := ChangeShapes.trodAll_nil r2
  obtain rfl : args = #[v0, v1, v2] := by cases args; simp_all
  obtain ⟨rfl, rfl⟩ := ChangeShapes.trodVars_none hV
  have hwts : (DataW.weightsEach Try.prog [23, 24, 31] [d0, d1, d2]).all (· ≤ reachBytes) = true := hwt
  have lt0 : ∀ x ∈ p0, x.block < W.heap.size := by obtain ⟨m, hm⟩ := h0; exact DataW.trod_lt m _ _ _ hm
  have lt1 : ∀ x ∈ p1, x.block < W.heap.size := by obtain ⟨m, hm⟩ := h1; exact DataW.trod_lt m _ _ _ hm
  have lt2 : ∀ x ∈ p2, x.block < W.heap.size := by obtain ⟨m, hm⟩ := h2; exact DataW.trod_lt m _ _ _ hm
  have g0 := hval 0 23 v0 rfl rfl
  have k0 := h0
  obtain ⟨c0, x0, rfl, s0, ok0⟩ := arg_st br23 Try.underlying23 g0 h0 (weigh hwts (j := 0) rfl rfl)
  have g1 := hval 1 24 v1 rfl rfl
  have k1 := h1
  obtain ⟨x1, s1, ok1⟩ := arg_sl br24 Try.underlying24 g1 h1 (weigh hwts (j := 1) rfl rfl)
  have g2 := hval 2 31 v2 rfl rfl
  have k2 := h2
  obtain ⟨x2, s2, ok2⟩ := arg_sl br31 Try.underlying31 g2 h2 (weigh hwts (j := 2) rfl rfl)
  clear hA0 hval0
  refine (Exact.law (Go.Proofs.S5.law6 (Mem.all W) c0 x0 s0 _ x1 s1 _ x2 s2 ok0 ok1 ok2)).mono fun e W' ⟨he, bel⟩ => ?_
  subst he
  exact ⟨_, rfl, _, _, _, [], _, [], hW', ChangeShapes.trodAll_mk1 (RowKit.shut_bool Try.underlying4 _), (trodAll_cons_mk (RowKit.Below.trod laidOut (by kernel_rfl) (of_decide_eq_true (by kernel_rfl)) k0 bel lt0) (trodAll_cons_mk (RowKit.Below.trod laidOut (by kernel_rfl) (of_decide_eq_true (by kernel_rfl)) k1 bel lt1) (trodAll_cons_mk (RowKit.Below.trod laidOut (by kernel_rfl) (of_decide_eq_true (by kernel_rfl)) k2 bel lt2) ChangeShapes.trodAll_mk0))), rfl, bel.frame _, fun h => by cases h⟩
theorem over : Rows.stationsExactRow.holds Try.pinned (OpenSpec.ofChange Rows.stationsExactSpec) :=
  OpenClaim.holds_of_wide 6 Try.f6 rfl rfl rfl rfl rfl rfl rfl ⟨rfl, rfl, rfl, rfl, rfl⟩ rfl rfl rfl rfl rfl (by kernel_rfl) Try.func6 (by kernel_rfl)
    (of_decide_eq_true (by kernel_rfl)) (by unfold Func.isWrapper; first | (rw [if_pos (by decide +kernel)]; kernel_rfl) | (rw [if_neg (by decide +kernel)]; exact ⟨rfl, rfl⟩))
    (fun os started H enc _ => lifted os started H enc)
end LStationsExact
theorem stationsExact_holds : Rows.StationsExactSaid := LStationsExact.over
end Go.Proofs.Ytcpecjgppbiplaa
