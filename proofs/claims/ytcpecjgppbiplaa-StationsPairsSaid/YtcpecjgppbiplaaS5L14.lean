/- The law StationsPairs: it returns true for every input; its arguments read as before. No condition beyond what the given row says. -/
import Derived.Test.YtcpecjgppbiplaaS5Law
import Derived.Test.YtcpecjgppbiplaaS5W7
import Derived.Test.YtcpecjgppbiplaaS5Mix2
import Derived.Test.YtcpecjgppbiplaaS5Br
import Derived.Test.YtcpecjgppbiplaaKxO
import Derived.Test.YtcpecjgppbiplaaKxN
import Derived.Test.YtcpecjgppbiplaaRows
import Derived.WalkKit
import Derived.ProofKit
import Derived.OpenShut
import Derived.ShutString
import Derived.ChangeOld
import Derived.Below
namespace Go.Proofs.S5
open Go Go.Kx
set_option linter.unusedVariables false

set_option maxHeartbeats 4000000 in
theorem law14 (m : Mem) (cw : List Value) (w : Wind) (hw : Enc.rd m cw w) (vl : Value) (l : List Station) (hl : Sl m vl l) (week : Int) (vlevels : Value) (levels : List Int) (hlevels : Sl m vlevels levels) (vs : Value) (s : List Int) (hs : Sl m vs s)  (ok0 : Rng.ok w) (ok1 : Rng.ok l) (lo2 : -9223372036854775808 ≤ week) (hi2 : week ≤ 9223372036854775807) (ok3 : Rng.ok levels) (ok4 : Rng.ok s) : Exact Try.prog 14 #[.agg cw.toArray, vl, .int .i64 (week), vlevels, vs] m (.bool true) := by
  obtain rfl := hw
  have ll := hl.le
  have llevels := hlevels.le
  have ls := hs.le
  refine Exact.start Try.func14 rfl Try.ntmps14 rfl fun wld => ?_
  refine WC.seq ?_
  refine WC.region ?_
  refine WL.tn (T.boxB rfl rfl) (by decide) fun b1 => ?_
  refine WL.x (X.assign rfl) (by decide) ?_
  refine WL.nil ?_
  refine WK.nThen ?_
  refine WC.seq ?_
  refine WC.region ?_
  refine WL.x (X.call Try.call17 rfl (awake17 _  )) (by decide) ?_
  refine WL.x (X.assign rfl) (by decide) ?_
  refine WL.nil ?_
  refine WK.nThen ?_
  refine WC.seq ?_
  refine WC.seq ?_
  refine WC.region ?_
  refine WL.x (X.move rfl) (by decide) ?_
  refine WL.cond (X.call Try.call18 rfl (few18 _ _ _ hl )) (by decide) (fun h2 => ?_) (fun h2 => ?_)
  · refine WL.x (X.not rfl) (by decide) ?_
    refine WL.x (X.move rfl) (by decide) ?_
    refine WL.yes rfl rfl ?_
    refine WL.x (X.move rfl) (by decide) ?_
    refine WL.yes rfl rfl ?_
    refine WL.x (X.len Try.runUnderlying31 rfl hlevels) (by decide) ?_
    refine WL.yes rfl rfl ?_
    refine WL.cond (X.gtr rfl rfl) (by decide) (fun h3 => ?_) (fun h3 => ?_)
    · refine WL.x (X.pickF rfl rfl rfl) (by decide) ?_
      refine WL.nil ?_
      refine WK.nThen ?_
      refine WC.condT rfl ?_
      refine WC.seq ?_
      refine WC.region ?_
      refine WL.x (X.move rfl) (by decide) ?_
      refine WL.x (X.assign rfl) (by decide) ?_
      refine WL.nil ?_
      refine WK.nThen ?_
      refine WC.ret ?_
      refine WK.rThen ?_
      refine WK.ret1 rfl rfl (fun w' hw' => Ret.exact hw' ?_)
      first | rfl | (exfalso; omega) | exact bool_eq (by rw [htno (by omega)]; rfl)
    · refine WL.x (X.pickF rfl rfl rfl) (by decide) ?_
      refine WL.nil ?_
      refine WK.nThen ?_
      refine WC.condF rfl ?_
      refine WC.skip ?_
      refine WK.nThen ?_
      refine WC.seq ?_
      refine WC.region ?_
      refine WL.x (X.loadBA (k := 0) Try.isAgg23 Try.sizeOf23 rfl rfl rfl) (by decide) ?_
      refine WL.x (X.move rfl) (by decide) ?_
      refine WL.x (X.move rfl) (by decide) ?_
      refine WL.x (X.move rfl) (by decide) ?_
      refine WL.x (X.call Try.call25 rfl (keeps25 _ _ w rfl _ _ hl _ _ _ hlevels )) (by decide) ?_
      refine WL.x (X.move rfl) (by decide) ?_
      refine WL.x (X.extract rfl rfl) (by decide) ?_
      refine WL.x (X.extract rfl rfl) (by decide) ?_
      refine WL.x (X.assign rfl) (by decide) ?_
      refine WL.x (X.assign rfl) (by decide) ?_
      refine WL.nil ?_
      refine WK.nThen ?_
      refine WC.seq ?_
      refine WC.region ?_
      refine WL.x (X.loadBA (k := 0) Try.isAgg23 Try.sizeOf23 rfl rfl rfl) (by decide) ?_
      refine WL.x (X.move rfl) (by decide) ?_
      refine WL.x (X.move rfl) (by decide) ?_
      refine WL.x (X.move rfl) (by decide) ?_
      refine WL.tm (T.call Try.call27 rfl (seaside27 _ _ w rfl _ _ hl _ _ _ hlevels )) (by decide) fun m4 r5 hle6 hR7 => ?_
      obtain ⟨v8, rfl, hs9⟩ := hR7
      replace hl := hl.mono hle6
      replace hlevels := hlevels.mono hle6
      replace hs := hs.mono hle6
      have hl10 := hs9.le
      refine WL.x (X.move rfl) (by decide) ?_
      refine WL.x (X.extract rfl rfl) (by decide) ?_
      refine WL.x (X.extract rfl rfl) (by decide) ?_
      refine WL.x (X.assign rfl) (by decide) ?_
      refine WL.x (X.assign rfl) (by decide) ?_
      refine WL.nil ?_
      refine WK.nThen ?_
      refine WC.seq ?_
      refine WC.region ?_
      refine WL.x (X.loadBA (k := 0) Try.isAgg23 Try.sizeOf23 rfl rfl rfl) (by decide) ?_
      refine WL.x (X.move rfl) (by decide) ?_
      refine WL.x (X.move rfl) (by decide) ?_
      refine WL.x (X.move rfl) (by decide) ?_
      refine WL.tm (T.call Try.call29 rfl (apart29 _ _ w rfl _ _ hl _ _ _ hlevels )) (by decide) fun m11 r12 hle13 hR14 => ?_
      obtain ⟨v15, rfl, hs16⟩ := hR14
      replace hl := hl.mono hle13
      replace hlevels := hlevels.mono hle13
      replace hs := hs.mono hle13
      replace hs9 := hs9.mono hle13
      have hl17 := hs16.le
      refine WL.x (X.move rfl) (by decide) ?_
      refine WL.x (X.extract rfl rfl) (by decide) ?_
      refine WL.x (X.extract rfl rfl) (by decide) ?_
      refine WL.x (X.assign rfl) (by decide) ?_
      refine WL.x (X.assign rfl) (by decide) ?_
      refine WL.nil ?_
      refine WK.nThen ?_
      refine WC.seq ?_
      refine WC.seq ?_
      refine WC.region ?_
      refine WL.x (X.move rfl) (by decide) ?_
      refine WL.condn (X.neq rfl rfl) (by decide) (fun h18 => ?_) (fun h18 => ?_)
      · refine WL.nil ?_
        refine WK.nThen ?_
        refine WC.condT rfl ?_
        refine WC.seq ?_
        have hq0 : levelsE w l week levels ≠ 0 := (by assumption)
        have hq1 : (sideR w l week levels).2 = levelsE w l week levels := by rw [sideR_err hq0]
        have hq2 : (apartR w l week levels).2 = levelsE w l week levels := by rw [apartR_err hq0]
        have hq3 : (keepsR w l week levels).2 = levelsE w l week levels := rfl
        have hq4 : (keepsR w l week levels).1 = false := by unfold keepsR; rw [decide_eq_false (fun h => hq0 h.1)]
        rw [hq1]
        rw [hq2]
        rw [hq3]
        rw [hq4]
        refine WC.region ?_
        refine WL.x (X.move rfl) (by decide) ?_
        refine WL.x (X.move rfl) (by decide) ?_
        refine WL.yes rfl rfl ?_
        refine WL.x (X.move rfl) (by decide) ?_
        refine WL.yes rfl rfl ?_
        refine WL.x (X.move rfl) (by decide) ?_
        refine WL.yes rfl rfl ?_
        refine WL.x (OpX.t (X.eql rfl rfl) rfl) (by decide) ?_
        refine WL.x (X.pickT rfl rfl rfl) (by decide) ?_
        refine WL.x (X.move rfl) (by decide) ?_
        refine WL.yes rfl rfl ?_
        refine WL.x (X.move rfl) (by decide) ?_
        refine WL.yes rfl rfl ?_
        refine WL.x (X.move rfl) (by decide) ?_
        refine WL.yes rfl rfl ?_
        refine WL.x (OpX.t (X.eql rfl rfl) rfl) (by decide) ?_
        refine WL.x (X.pickT rfl rfl rfl) (by decide) ?_
        refine WL.x (X.move rfl) (by decide) ?_
        refine WL.yes rfl rfl ?_
        refine WL.x (X.move rfl) (by decide) ?_
        refine WL.yes rfl rfl ?_
        refine WL.x (X.not rfl) (by decide) ?_
        refine WL.x (X.pickT rfl rfl rfl) (by decide) ?_
        refine WL.x (X.assign rfl) (by decide) ?_
        refine WL.nil ?_
        refine WK.nThen ?_
        refine WC.ret ?_
        refine WK.rThen ?_
        refine WK.ret1 rfl rfl (fun w' hw' => Ret.exact hw' ?_)
        first | rfl | (exfalso; omega) | exact bool_eq (by rw [htno (by omega)]; rfl)
      · refine WL.nil ?_
        refine WK.nThen ?_
        refine WC.condF rfl ?_
        refine WC.skip ?_
        refine WK.nThen ?_
        refine WC.seq ?_
        refine WC.seq ?_
        have hlz : levelsE w l week levels = 0 := (by have h := ‹(keepsR w l week levels).2 = 0›; exact h)
        have hz := levelsE_zero hlz
        have hw0 := hz.1
        have hl32 := (checkS_zero (l := l) (windedE_zero hw0).1).1
        refine WC.region ?_
        refine WL.x (X.move rfl) (by decide) ?_
        refine WL.x (X.move rfl) (by decide) ?_
        refine WL.x (X.eql rfl rfl) (by decide) ?_
        refine WL.x (OpX.f (X.neqB Try.underlying4 rfl rfl) (fun h => h keeps_side)) (by decide) ?_
        refine WL.x (X.move rfl) (by decide) ?_
        refine WL.yes rfl rfl ?_
        refine WL.x (X.move rfl) (by decide) ?_
        refine WL.yes rfl rfl ?_
        refine WL.x (X.move rfl) (by decide) ?_
        refine WL.yes rfl rfl ?_
        refine WL.x (X.eql rfl rfl) (by decide) ?_
        refine WL.yes rfl rfl ?_
        refine WL.x (OpX.f (X.neqB Try.underlying4 rfl rfl) (fun h => h (keeps_apart hw0 hlz))) (by decide) ?_
        refine WL.x (X.pickF rfl rfl rfl) (by decide) ?_
        refine WL.nil ?_
        refine WK.nThen ?_
        refine WC.condF rfl ?_
        refine WC.skip ?_
        refine WK.nThen ?_
        refine WC.seq ?_
        refine WC.seq ?_
        refine WC.region ?_
        refine WL.x (X.move rfl) (by decide) ?_
        refine WL.nil ?_
        refine WK.nThen ?_
        refine WC.condb rfl (fun h19 => ?_) (fun h19 => ?_)
        · refine WC.seq ?_
          refine WC.seq ?_
          have hls := least_sea hw0 hlz ‹_›
          refine WC.region ?_
          refine WL.x (X.loadBA (k := 0) Try.isAgg23 Try.sizeOf23 rfl rfl rfl) (by decide) ?_
          refine WL.x (X.move rfl) (by decide) ?_
          refine WL.x (X.move rfl) (by decide) ?_
          refine WL.x (X.move rfl) (by decide) ?_
          refine WL.x (X.move rfl) (by decide) ?_
          refine WL.x (OpX.t (X.call Try.call50 rfl (isSea50 _ _ w rfl _ _ hl _ _ _ hlevels _ _ hs9 )) hls.1) (by decide) ?_
          refine WL.x (X.not rfl) (by decide) ?_
          refine WL.nil ?_
          refine WK.nThen ?_
          refine WC.condF rfl ?_
          refine WC.skip ?_
          refine WK.nThen ?_
          refine WC.seq ?_
          refine WC.seq ?_
          refine WC.region ?_
          refine WL.x (X.assign rfl) (by decide) ?_
          refine WL.nil ?_
          refine WK.nThen ?_
          refine WC.block ?_
          refine WC.loop (G := Nat) (fun i => s.length - i) (fun i => m11) (fun i => [blk b1 23 [.int .i64 (w.Fixed), .int .i64 (w.Each)]]) (fun i => [(1, vl), (2, .int .i64 (week)), (3, vlevels), (4, vs), (5, .pointer (some ⟨b1, 0, none⟩)), (11, .bool true), (14, v8), (18, .int .i64 (↑i))]) (fun i => i ≤ s.length) 0 rfl (.refl _) (.cons rfl (.cons rfl (.cons rfl (.cons rfl (.cons rfl (.cons rfl (.cons rfl (.cons rfl .nil)))))))) ?_ ?_
          · exact Nat.zero_le _
          · rintro i hF20
            show WK _ _ m11 [blk b1 23 [.int .i64 (w.Fixed), .int .i64 (w.Each)]] [(1, vl), (2, .int .i64 (week)), (3, vlevels), (4, vs), (5, .pointer (some ⟨b1, 0, none⟩)), (11, .bool true), (14, v8), (18, .int .i64 (↑i))] _
            replace hF20 : i ≤ s.length := hF20
            have hi := hF20
            refine WC.seq ?_
            refine WC.seq ?_
            refine WC.region ?_
            refine WL.x (X.move rfl) (by decide) ?_
            refine WL.x (X.move rfl) (by decide) ?_
            refine WL.x (X.len Try.runUnderlying31 rfl hs) (by decide) ?_
            refine WL.cond (X.lss rfl rfl) (by decide) (fun h21 => ?_) (fun h21 => ?_)
            · refine WL.x (X.move rfl) (by decide) ?_
              refine WL.yes rfl rfl ?_
              refine WL.x (X.loadBA (k := 0) Try.isAgg23 Try.sizeOf23 rfl rfl rfl) (by decide) ?_
              refine WL.yes rfl rfl ?_
              refine WL.x (X.move rfl) (by decide) ?_
              refine WL.yes rfl rfl ?_
              refine WL.x (X.move rfl) (by decide) ?_
              refine WL.yes rfl rfl ?_
              refine WL.x (X.move rfl) (by decide) ?_
              refine WL.yes rfl rfl ?_
              refine WL.x (X.move rfl) (by decide) ?_
              refine WL.yes rfl rfl ?_
              refine WL.cond (X.call Try.call50 rfl (isSea50 _ _ w rfl _ _ hl _ _ _ hlevels _ _ hs )) (by decide) (fun h22 => ?_) (fun h22 => ?_)
              · refine WL.x (X.pickT rfl rfl rfl) (by decide) ?_
                refine WL.nil ?_
                refine WK.nThen ?_
                refine WC.condT rfl ?_
                refine WC.skip ?_
                refine WK.nThen ?_
                refine WC.seq ?_
                refine WC.block ?_
                refine WC.seq ?_
                have hsl := (‹isSeaP w l week levels s› : isSeaP w l week levels s).1.1
                have hll2 := hls.2.1
                have hlt := hls.2.2 s ‹_› i (by omega)
                refine WC.draw (π := (.cons 0 (.cons 1 (.cons 2 (.cons 3 (.cons 4 (.cons 5 (.cons 6 (.cons 7 (.cons 8 .done)))))))))) [] [] rfl (by kernel_rfl) ?_
                refine DW.x rfl rfl (X.move rfl) (by decide) ?_
                refine DW.x rfl rfl (X.move rfl) (by decide) ?_
                refine DW.xe rfl rfl (E.idxN i Try.runUnderlying31 Try.sizeOf3 rfl rfl hs (by omega)) (by decide) (fun p23 hp24 => ?_)
                refine DW.x rfl rfl (X.loadInt Try.isAgg3 rfl hp24) (by decide) ?_
                refine DW.x rfl rfl (X.move rfl) (by decide) ?_
                refine DW.x rfl rfl (X.move rfl) (by decide) ?_
                refine DW.xe rfl rfl (E.idxN i Try.runUnderlying31 Try.sizeOf3 rfl rfl hs9 (by omega)) (by decide) (fun p25 hp26 => ?_)
                refine DW.x rfl rfl (X.loadInt Try.isAgg3 rfl hp26) (by decide) ?_
                refine DW.cond rfl rfl (X.lss rfl rfl) (by decide) (fun h27 => ?_) (fun h27 => ?_)
                · refine DW.nil ?_
                  refine WK.nThen ?_
                  refine WC.condT rfl ?_
                  refine WC.seq ?_
                  refine WC.region ?_
                  refine WL.x (X.assign rfl) (by decide) ?_
                  refine WL.nil ?_
                  refine WK.nThen ?_
                  refine WC.ret ?_
                  refine WK.rBlock ?_
                  refine WK.rThen ?_
                  refine WK.rThen ?_
                  refine WK.rBlock ?_
                  refine WK.rThen ?_
                  refine WK.rThen ?_
                  refine WK.ret1 rfl rfl (fun w' hw' => Ret.exact hw' ?_)
                  first | rfl | (exfalso; omega) | exact bool_eq (by rw [htno (by omega)]; rfl)
                · refine DW.nil ?_
                  refine WK.nThen ?_
                  refine WC.condF rfl ?_
                  refine WC.skip ?_
                  refine WK.nBlock ?_
                  refine WK.nThen ?_
                  refine WC.region ?_
                  refine WL.x (X.move rfl) (by decide) ?_
                  refine WL.x (X.add rfl rfl (by omega) (by omega)) (by decide) ?_
                  refine WL.x (X.assign rfl) (by decide) ?_
                  refine WL.nil ?_
                  refine WK.nThen ?_
                  refine WK.next (i + 1) rfl (.refl _) (.cons rfl (.cons rfl (.cons rfl (.cons rfl (.cons rfl (.cons rfl (.cons rfl (.cons rfl .nil)))))))) ?_ ?_
                  · omega
                  · omega
              · refine WL.x (X.pickT rfl rfl rfl) (by decide) ?_
                refine WL.nil ?_
                refine WK.nThen ?_
                refine WC.condF rfl ?_
                refine WC.exit ?_
                refine WK.eThen ?_
                refine WK.eThen ?_
                refine WK.eHit ?_
                refine WK.nThen ?_
                refine WC.seq ?_
                refine WC.region ?_
                refine WL.x (X.move rfl) (by decide) ?_
                refine WL.x (X.assign rfl) (by decide) ?_
                refine WL.nil ?_
                refine WK.nThen ?_
                refine WC.ret ?_
                refine WK.rThen ?_
                refine WK.ret1 rfl rfl (fun w' hw' => Ret.exact hw' ?_)
                first | rfl | (exfalso; omega) | exact bool_eq (by rw [htno (by omega)]; rfl)
            · refine WL.x (X.move rfl) (by decide) ?_
              refine WL.no rfl rfl rfl (by decide) ?_
              refine WL.no rfl rfl rfl (by decide) ?_
              refine WL.no rfl rfl rfl (by decide) ?_
              refine WL.no rfl rfl rfl (by decide) ?_
              refine WL.no rfl rfl rfl (by decide) ?_
              refine WL.no rfl rfl rfl (by decide) ?_
              refine WL.x (X.pickF rfl rfl rfl) (by decide) ?_
              refine WL.nil ?_
              refine WK.nThen ?_
              refine WC.condF rfl ?_
              refine WC.exit ?_
              refine WK.eThen ?_
              refine WK.eThen ?_
              refine WK.eHit ?_
              refine WK.nThen ?_
              refine WC.seq ?_
              refine WC.region ?_
              refine WL.x (X.move rfl) (by decide) ?_
              refine WL.x (X.assign rfl) (by decide) ?_
              refine WL.nil ?_
              refine WK.nThen ?_
              refine WC.ret ?_
              refine WK.rThen ?_
              refine WK.ret1 rfl rfl (fun w' hw' => Ret.exact hw' ?_)
              first | rfl | (exfalso; omega) | exact bool_eq (by rw [htno (by omega)]; rfl)
        · refine WC.skip ?_
          refine WK.nThen ?_
          refine WC.seq ?_
          refine WC.seq ?_
          have hkn : (keepsR w l week levels).1 = false := (by assumption)
          obtain ⟨na, nb, hap, hab, hbl, happ⟩ := apart_some hw0 hlz hkn
          have ha1 : (apartR w l week levels).1 = [(na : Int), (nb : Int)] := by rw [hap]
          have hg0 : gt [(na : Int), (nb : Int)] 0 = ↑na := rfl
          have hg1 : gt [(na : Int), (nb : Int)] 1 = ↑nb := rfl
          have hg2 : [(na : Int), (nb : Int)].length = 2 := rfl
          rw [ha1] at hs16
          refine WC.draw (π := (.cons 0 (.cons 1 (.cons 2 (.cons 3 (.cons 4 (.cons 5 (.cons 6 (.cons 7 (.cons 8 (.cons 9 (.cons 10 (.cons 11 (.cons 12 (.cons 13 (.cons 14 (.cons 15 (.cons 16 (.cons 17 (.cons 18 (.cons 19 (.cons 20 (.cons 21 (.cons 22 (.cons 23 (.cons 24 (.cons 25 (.cons 26 (.cons 27 (.cons 28 (.cons 29 (.cons 30 (.cons 31 (.cons 32 (.cons 33 .done))))))))))))))))))))))))))))))))))) [] [] rfl (by kernel_rfl) ?_
          refine DW.x rfl rfl (X.move rfl) (by decide) ?_
          refine DW.x rfl rfl (X.len Try.runUnderlying31 rfl hs16) (by decide) ?_
          refine DW.condn rfl rfl (X.neq rfl rfl) (by decide) (fun h28 => ?_) (fun h28 => ?_)
          · refine DW.x rfl rfl (X.move rfl) (by decide) ?_
            refine DW.no rfl rfl (by decide) ?_
            refine DW.no rfl rfl (by decide) ?_
            refine DW.no rfl rfl (by decide) ?_
            refine DW.no rfl rfl (by decide) ?_
            refine DW.x rfl rfl (X.pickT rfl rfl rfl) (by decide) ?_
            refine DW.x rfl rfl (X.move rfl) (by decide) ?_
            refine DW.no rfl rfl (by decide) ?_
            refine DW.no rfl rfl (by decide) ?_
            refine DW.no rfl rfl (by decide) ?_
            refine DW.no rfl rfl (by decide) ?_
            refine DW.no rfl rfl (by decide) ?_
            refine DW.no rfl rfl (by decide) ?_
            refine DW.no rfl rfl (by decide) ?_
            refine DW.x rfl rfl (X.pickT rfl rfl rfl) (by decide) ?_
            refine DW.x rfl rfl (X.move rfl) (by decide) ?_
            refine DW.no rfl rfl (by decide) ?_
            refine DW.no rfl rfl (by decide) ?_
            refine DW.no rfl rfl (by decide) ?_
            refine DW.no rfl rfl (by decide) ?_
            refine DW.no rfl rfl (by decide) ?_
            refine DW.no rfl rfl (by decide) ?_
            refine DW.x rfl rfl (X.pickT rfl rfl rfl) (by decide) ?_
            refine DW.x rfl rfl (X.move rfl) (by decide) ?_
            refine DW.no rfl rfl (by decide) ?_
            refine DW.no rfl rfl (by decide) ?_
            refine DW.no rfl rfl (by decide) ?_
            refine DW.no rfl rfl (by decide) ?_
            refine DW.no rfl rfl (by decide) ?_
            refine DW.no rfl rfl (by decide) ?_
            refine DW.x rfl rfl (X.pickT rfl rfl rfl) (by decide) ?_
            refine DW.nil ?_
            refine WK.nThen ?_
            refine WC.condT rfl ?_
            refine WC.seq ?_
            refine WC.region ?_
            refine WL.x (X.assign rfl) (by decide) ?_
            refine WL.nil ?_
            refine WK.nThen ?_
            refine WC.ret ?_
            refine WK.rThen ?_
            refine WK.ret1 rfl rfl (fun w' hw' => Ret.exact hw' ?_)
            first | rfl | (exfalso; omega) | exact bool_eq (by rw [htno (by omega)]; rfl)
          · refine DW.x rfl rfl (X.move rfl) (by decide) ?_
            refine DW.x rfl rfl (X.move rfl) (by decide) ?_
            refine DW.xe rfl rfl (E.idxN 0 Try.runUnderlying31 Try.sizeOf3 rfl rfl hs16 (by omega)) (by decide) (fun p29 hp30 => ?_)
            refine DW.x rfl rfl (X.loadInt Try.isAgg3 rfl hp30) (by decide) ?_
            refine DW.cond rfl rfl (X.lss rfl rfl) (by decide) (fun h31 => ?_) (fun h31 => ?_)
            · refine DW.x rfl rfl (X.pickF rfl rfl rfl) (by decide) ?_
              refine DW.x rfl rfl (X.move rfl) (by decide) ?_
              refine DW.no rfl rfl (by decide) ?_
              refine DW.no rfl rfl (by decide) ?_
              refine DW.no rfl rfl (by decide) ?_
              refine DW.no rfl rfl (by decide) ?_
              refine DW.no rfl rfl (by decide) ?_
              refine DW.no rfl rfl (by decide) ?_
              refine DW.no rfl rfl (by decide) ?_
              refine DW.x rfl rfl (X.pickT rfl rfl rfl) (by decide) ?_
              refine DW.x rfl rfl (X.move rfl) (by decide) ?_
              refine DW.no rfl rfl (by decide) ?_
              refine DW.no rfl rfl (by decide) ?_
              refine DW.no rfl rfl (by decide) ?_
              refine DW.no rfl rfl (by decide) ?_
              refine DW.no rfl rfl (by decide) ?_
              refine DW.no rfl rfl (by decide) ?_
              refine DW.x rfl rfl (X.pickT rfl rfl rfl) (by decide) ?_
              refine DW.x rfl rfl (X.move rfl) (by decide) ?_
              refine DW.no rfl rfl (by decide) ?_
              refine DW.no rfl rfl (by decide) ?_
              refine DW.no rfl rfl (by decide) ?_
              refine DW.no rfl rfl (by decide) ?_
              refine DW.no rfl rfl (by decide) ?_
              refine DW.no rfl rfl (by decide) ?_
              refine DW.x rfl rfl (X.pickT rfl rfl rfl) (by decide) ?_
              refine DW.nil ?_
              refine WK.nThen ?_
              refine WC.condT rfl ?_
              refine WC.seq ?_
              refine WC.region ?_
              refine WL.x (X.assign rfl) (by decide) ?_
              refine WL.nil ?_
              refine WK.nThen ?_
              refine WC.ret ?_
              refine WK.rThen ?_
              refine WK.ret1 rfl rfl (fun w' hw' => Ret.exact hw' ?_)
              first | rfl | (exfalso; omega) | exact bool_eq (by rw [htno (by omega)]; rfl)
            · refine DW.x rfl rfl (X.pickF rfl rfl rfl) (by decide) ?_
              refine DW.x rfl rfl (X.move rfl) (by decide) ?_
              refine DW.x rfl rfl (X.move rfl) (by decide) ?_
              refine DW.xe rfl rfl (E.idxN 0 Try.runUnderlying31 Try.sizeOf3 rfl rfl hs16 (by omega)) (by decide) (fun p32 hp33 => ?_)
              refine DW.x rfl rfl (X.loadInt Try.isAgg3 rfl hp33) (by decide) ?_
              refine DW.x rfl rfl (X.move rfl) (by decide) ?_
              refine DW.xe rfl rfl (E.idxN 1 Try.runUnderlying31 Try.sizeOf3 rfl rfl hs16 (by omega)) (by decide) (fun p34 hp35 => ?_)
              refine DW.x rfl rfl (X.loadInt Try.isAgg3 rfl hp35) (by decide) ?_
              refine DW.cond rfl rfl (X.geq rfl rfl) (by decide) (fun h36 => ?_) (fun h36 => ?_)
              · refine DW.x rfl rfl (X.pickF rfl rfl rfl) (by decide) ?_
                refine DW.x rfl rfl (X.move rfl) (by decide) ?_
                refine DW.no rfl rfl (by decide) ?_
                refine DW.no rfl rfl (by decide) ?_
                refine DW.no rfl rfl (by decide) ?_
                refine DW.no rfl rfl (by decide) ?_
                refine DW.no rfl rfl (by decide) ?_
                refine DW.no rfl rfl (by decide) ?_
                refine DW.x rfl rfl (X.pickT rfl rfl rfl) (by decide) ?_
                refine DW.x rfl rfl (X.move rfl) (by decide) ?_
                refine DW.no rfl rfl (by decide) ?_
                refine DW.no rfl rfl (by decide) ?_
                refine DW.no rfl rfl (by decide) ?_
                refine DW.no rfl rfl (by decide) ?_
                refine DW.no rfl rfl (by decide) ?_
                refine DW.no rfl rfl (by decide) ?_
                refine DW.x rfl rfl (X.pickT rfl rfl rfl) (by decide) ?_
                refine DW.nil ?_
                refine WK.nThen ?_
                refine WC.condT rfl ?_
                refine WC.seq ?_
                refine WC.region ?_
                refine WL.x (X.assign rfl) (by decide) ?_
                refine WL.nil ?_
                refine WK.nThen ?_
                refine WC.ret ?_
                refine WK.rThen ?_
                refine WK.ret1 rfl rfl (fun w' hw' => Ret.exact hw' ?_)
                first | rfl | (exfalso; omega) | exact bool_eq (by rw [htno (by omega)]; rfl)
              · refine DW.x rfl rfl (X.pickF rfl rfl rfl) (by decide) ?_
                refine DW.x rfl rfl (X.move rfl) (by decide) ?_
                refine DW.x rfl rfl (X.move rfl) (by decide) ?_
                refine DW.xe rfl rfl (E.idxN 1 Try.runUnderlying31 Try.sizeOf3 rfl rfl hs16 (by omega)) (by decide) (fun p37 hp38 => ?_)
                refine DW.x rfl rfl (X.loadInt Try.isAgg3 rfl hp38) (by decide) ?_
                refine DW.x rfl rfl (X.move rfl) (by decide) ?_
                refine DW.x rfl rfl (X.len Try.runUnderlying24 rfl hl) (by decide) ?_
                refine DW.cond rfl rfl (X.geq rfl rfl) (by decide) (fun h39 => ?_) (fun h39 => ?_)
                · refine DW.x rfl rfl (X.pickF rfl rfl rfl) (by decide) ?_
                  refine DW.x rfl rfl (X.move rfl) (by decide) ?_
                  refine DW.no rfl rfl (by decide) ?_
                  refine DW.no rfl rfl (by decide) ?_
                  refine DW.no rfl rfl (by decide) ?_
                  refine DW.no rfl rfl (by decide) ?_
                  refine DW.no rfl rfl (by decide) ?_
                  refine DW.no rfl rfl (by decide) ?_
                  refine DW.x rfl rfl (X.pickT rfl rfl rfl) (by decide) ?_
                  refine DW.nil ?_
                  refine WK.nThen ?_
                  refine WC.condT rfl ?_
                  refine WC.seq ?_
                  refine WC.region ?_
                  refine WL.x (X.assign rfl) (by decide) ?_
                  refine WL.nil ?_
                  refine WK.nThen ?_
                  refine WC.ret ?_
                  refine WK.rThen ?_
                  refine WK.ret1 rfl rfl (fun w' hw' => Ret.exact hw' ?_)
                  first | rfl | (exfalso; omega) | exact bool_eq (by rw [htno (by omega)]; rfl)
                · refine DW.x rfl rfl (X.pickF rfl rfl rfl) (by decide) ?_
                  refine DW.x rfl rfl (X.move rfl) (by decide) ?_
                  refine DW.x rfl rfl (X.loadBA (k := 0) Try.isAgg23 Try.sizeOf23 rfl rfl rfl) (by decide) ?_
                  refine DW.x rfl rfl (X.move rfl) (by decide) ?_
                  refine DW.x rfl rfl (X.move rfl) (by decide) ?_
                  refine DW.x rfl rfl (X.move rfl) (by decide) ?_
                  refine DW.x rfl rfl (X.move rfl) (by decide) ?_
                  refine DW.x rfl rfl (OpX.f (X.call Try.call50 rfl (isSea50 _ _ w rfl _ _ hl _ _ _ hlevels _ _ hs )) (no_sea hw0 hlz hkn)) (by decide) ?_
                  refine DW.x rfl rfl (X.pickF rfl rfl rfl) (by decide) ?_
                  refine DW.nil ?_
                  refine WK.nThen ?_
                  refine WC.condF rfl ?_
                  refine WC.skip ?_
                  refine WK.nThen ?_
                  refine WC.seq ?_
                  refine WC.region ?_
                  refine WL.x (X.move rfl) (by decide) ?_
                  refine WL.xe (E.idxN 0 Try.runUnderlying31 Try.sizeOf3 rfl rfl hs16 (by omega)) (by decide) (fun p40 hp41 => ?_)
                  refine WL.x (X.loadInt Try.isAgg3 rfl hp41) (by decide) ?_
                  refine WL.x (X.assign rfl) (by decide) ?_
                  refine WL.nil ?_
                  refine WK.nThen ?_
                  refine WC.seq ?_
                  rw [hg0]
                  refine WC.region ?_
                  refine WL.x (X.move rfl) (by decide) ?_
                  refine WL.xe (E.idxN 1 Try.runUnderlying31 Try.sizeOf3 rfl rfl hs16 (by omega)) (by decide) (fun p42 hp43 => ?_)
                  refine WL.x (X.loadInt Try.isAgg3 rfl hp43) (by decide) ?_
                  refine WL.x (X.assign rfl) (by decide) ?_
                  refine WL.nil ?_
                  refine WK.nThen ?_
                  refine WC.seq ?_
                  rw [hg1]
                  refine WC.region ?_
                  refine WL.x (X.loadBA (k := 0) Try.isAgg23 Try.sizeOf23 rfl rfl rfl) (by decide) ?_
                  refine WL.x (X.move rfl) (by decide) ?_
                  refine WL.tm (T.call Try.call19 rfl (tight19 _ _ w rfl _ _ hl )) (by decide) fun m44 r45 hle46 hR47 => ?_
                  obtain ⟨v48, rfl, hs49⟩ := hR47
                  replace hl := hl.mono hle46
                  replace hlevels := hlevels.mono hle46
                  replace hs := hs.mono hle46
                  replace hs9 := hs9.mono hle46
                  replace hs16 := hs16.mono hle46
                  replace hp30 := hp30.mono hle46
                  replace hp33 := hp33.mono hle46
                  replace hp35 := hp35.mono hle46
                  replace hp38 := hp38.mono hle46
                  replace hp41 := hp41.mono hle46
                  replace hp43 := hp43.mono hle46
                  have hl50 := hs49.le
                  refine WL.x (X.move rfl) (by decide) ?_
                  refine WL.x (X.extract rfl rfl) (by decide) ?_
                  refine WL.x (X.extract rfl rfl) (by decide) ?_
                  refine WL.x (X.assign rfl) (by decide) ?_
                  refine WL.x (X.assign rfl) (by decide) ?_
                  refine WL.nil ?_
                  refine WK.nThen ?_
                  refine WC.seq ?_
                  have htr : tightR w l = tightL w l := if_pos hw0
                  have htl := tightL_len w l
                  rw [htr] at hs49
                  rw [hw0]
                  refine WC.draw (π := (.cons 0 (.cons 1 (.cons 2 (.cons 3 (.cons 4 (.cons 5 (.cons 6 (.cons 7 (.cons 8 (.cons 9 (.cons 10 (.cons 11 (.cons 12 (.cons 13 (.cons 14 .done)))))))))))))))) [] [] rfl (by kernel_rfl) ?_
                  refine DW.x rfl rfl (X.loadBA (k := 0) Try.isAgg23 Try.sizeOf23 rfl rfl rfl) (by decide) ?_
                  refine DW.x rfl rfl (X.move rfl) (by decide) ?_
                  refine DW.x rfl rfl (X.move rfl) (by decide) ?_
                  refine DW.xe rfl rfl (E.idxN na Try.runUnderlying24 Try.sizeOf58 rfl rfl hl (by omega)) (by decide) (fun p51 hp52 => ?_)
                  refine DW.xe rfl rfl (E.loadAgg Try.isAgg58 Try.sizeOf58 rfl hp52) (by decide) (fun c53 hc54 => ?_)
                  obtain ⟨v55, rfl, hs56⟩ := hc54
                  have hl57 := hs56.le
                  refine DW.x rfl rfl (X.move rfl) (by decide) ?_
                  refine DW.x rfl rfl (X.move rfl) (by decide) ?_
                  refine DW.xe rfl rfl (E.idxN nb Try.runUnderlying24 Try.sizeOf58 rfl rfl hl (by omega)) (by decide) (fun p58 hp59 => ?_)
                  refine DW.xe rfl rfl (E.loadAgg Try.isAgg58 Try.sizeOf58 rfl hp59) (by decide) (fun c60 hc61 => ?_)
                  obtain ⟨v62, rfl, hs63⟩ := hc61
                  have hl64 := hs63.le
                  refine DW.x rfl rfl (X.call Try.call43 rfl (within43 _ _ w rfl _ (gt l na) ⟨_, rfl, hs56⟩ _ (gt l nb) ⟨_, rfl, hs63⟩ )) (by decide) ?_
                  refine DW.x rfl rfl (X.move rfl) (by decide) ?_
                  refine DW.x rfl rfl (X.extract rfl rfl) (by decide) ?_
                  refine DW.x rfl rfl (X.extract rfl rfl) (by decide) ?_
                  refine DW.x rfl rfl (X.assign rfl) (by decide) ?_
                  refine DW.x rfl rfl (X.assign rfl) (by decide) ?_
                  refine DW.nil ?_
                  refine WK.nThen ?_
                  have hwi := withinR_in hw0 (i := na) (k := nb) (by omega) hbl
                  have hwi1 : (withinR w (gt l na) (gt l nb)).1 = boundM w l na nb := by rw [hwi]
                  have hwi2 : (withinR w (gt l na) (gt l nb)).2 = 0 := by rw [hwi]
                  rw [hwi1]
                  rw [hwi2]
                  refine WC.cut (G := Mem) (fun m65 => m65) (fun m65 => [blk b1 23 [.int .i64 (w.Fixed), .int .i64 (w.Each)]]) (fun m65 => [(11, .bool true), (19, .int .i64 (↑na)), (20, .int .i64 (↑nb)), (21, v48), (22, .int .i64 (0)), (23, .int .i64 (boundM w l na nb)), (24, .int .i64 (0)), (25, .bool ((keepsR w ([gt l na, gt l nb]) week ([gt levels na, gt levels nb])).1)), (26, .int .i64 ((keepsR w ([gt l na, gt l nb]) week ([gt levels na, gt levels nb])).2))]) (fun m65 => m44.le m65) ?_ ?_
                  · refine WC.draw (π := (.cons 0 (.cons 1 (.cons 2 (.cons 3 (.cons 4 (.cons 5 (.cons 6 (.cons 7 (.cons 8 (.cons 10 (.cons 11 (.cons 12 (.cons 13 (.cons 14 (.cons 15 (.cons 16 (.cons 17 (.cons 18 (.fork (.cons 9 (.cons 19 (.cons 20 (.cons 21 (.cons 22 (.cons 23 (.cons 24 (.cons 25 .done)))))))) (.cons 19 (.cons 9 (.cons 20 (.cons 21 (.cons 22 (.cons 23 (.cons 24 (.cons 25 .done)))))))))))))))))))))))))))) [9, 19] [] rfl (by kernel_rfl) ?_
                    refine DW.x rfl rfl (X.loadBA (k := 0) Try.isAgg23 Try.sizeOf23 rfl rfl rfl) (by decide) ?_
                    refine DW.x rfl rfl (X.move rfl) (by decide) ?_
                    refine DW.x rfl rfl (X.move rfl) (by decide) ?_
                    refine DW.xe rfl rfl (E.idxN na Try.runUnderlying24 Try.sizeOf58 rfl rfl hl (by omega)) (by decide) (fun p66 hp67 => ?_)
                    refine DW.xe rfl rfl (E.loadAgg Try.isAgg58 Try.sizeOf58 rfl hp67) (by decide) (fun c68 hc69 => ?_)
                    obtain ⟨v70, rfl, hs71⟩ := hc69
                    have hl72 := hs71.le
                    refine DW.x rfl rfl (X.move rfl) (by decide) ?_
                    refine DW.x rfl rfl (X.move rfl) (by decide) ?_
                    refine DW.xe rfl rfl (E.idxN nb Try.runUnderlying24 Try.sizeOf58 rfl rfl hl (by omega)) (by decide) (fun p73 hp74 => ?_)
                    refine DW.xe rfl rfl (E.loadAgg Try.isAgg58 Try.sizeOf58 rfl hp74) (by decide) (fun c75 hc76 => ?_)
                    obtain ⟨v77, rfl, hs78⟩ := hc76
                    have hl79 := hs78.le
                    refine DW.x rfl rfl (X.move rfl) (by decide) ?_
                    refine DW.x rfl rfl (X.move rfl) (by decide) ?_
                    refine DW.x rfl rfl (X.move rfl) (by decide) ?_
                    refine DW.xe rfl rfl (E.idxN na Try.runUnderlying31 Try.sizeOf3 rfl rfl hlevels (by omega)) (by decide) (fun p80 hp81 => ?_)
                    refine DW.x rfl rfl (X.loadInt Try.isAgg3 rfl hp81) (by decide) ?_
                    refine DW.x rfl rfl (X.move rfl) (by decide) ?_
                    refine DW.x rfl rfl (X.move rfl) (by decide) ?_
                    refine DW.xe rfl rfl (E.idxN nb Try.runUnderlying31 Try.sizeOf3 rfl rfl hlevels (by omega)) (by decide) (fun p82 hp83 => ?_)
                    refine DW.x rfl rfl (X.loadInt Try.isAgg3 rfl hp83) (by decide) ?_
                    refine DW.fork (List.cons_ne_nil _ _) ?_ ?_
                    · refine DW.tm rfl rfl rfl (T.litM (α := Station) (vals := [.agg [.int .i64 ((gt l na).ID), .int .i64 ((gt l na).X), .int .i64 ((gt l na).Y), v70].toArray, .agg [.int .i64 ((gt l nb).ID), .int .i64 ((gt l nb).X), .int .i64 ((gt l nb).Y), v77].toArray]) (L := [gt l na, gt l nb]) sl24 rfl (.cons rfl ⟨_, rfl, hs71⟩ (.cons rfl ⟨_, rfl, hs78⟩ .nil)) rfl rfl) (by decide) (fun m84 v85 hle86 hs87 => ?_)
                      replace hl := hl.mono hle86
                      replace hlevels := hlevels.mono hle86
                      replace hs := hs.mono hle86
                      replace hs9 := hs9.mono hle86
                      replace hs16 := hs16.mono hle86
                      replace hp30 := hp30.mono hle86
                      replace hp33 := hp33.mono hle86
                      replace hp35 := hp35.mono hle86
                      replace hp38 := hp38.mono hle86
                      replace hp41 := hp41.mono hle86
                      replace hp43 := hp43.mono hle86
                      replace hs49 := hs49.mono hle86
                      replace hp52 := hp52.mono hle86
                      replace hs56 := hs56.mono hle86
                      replace hp59 := hp59.mono hle86
                      replace hs63 := hs63.mono hle86
                      replace hp67 := hp67.mono hle86
                      replace hs71 := hs71.mono hle86
                      replace hp74 := hp74.mono hle86
                      replace hs78 := hs78.mono hle86
                      replace hp81 := hp81.mono hle86
                      replace hp83 := hp83.mono hle86
                      refine DW.tm rfl rfl rfl (T.litM (α := Int) (vals := [.int .i64 (gt levels na), .int .i64 (gt levels nb)]) (L := [gt levels na, gt levels nb]) sl31 rfl (.cons rfl rfl (.cons rfl rfl .nil)) rfl rfl) (by decide) (fun m88 v89 hle90 hs91 => ?_)
                      replace hl := hl.mono hle90
                      replace hlevels := hlevels.mono hle90
                      replace hs := hs.mono hle90
                      replace hs9 := hs9.mono hle90
                      replace hs16 := hs16.mono hle90
                      replace hp30 := hp30.mono hle90
                      replace hp33 := hp33.mono hle90
                      replace hp35 := hp35.mono hle90
                      replace hp38 := hp38.mono hle90
                      replace hp41 := hp41.mono hle90
                      replace hp43 := hp43.mono hle90
                      replace hs49 := hs49.mono hle90
                      replace hp52 := hp52.mono hle90
                      replace hs56 := hs56.mono hle90
                      replace hp59 := hp59.mono hle90
                      replace hs63 := hs63.mono hle90
                      replace hp67 := hp67.mono hle90
                      replace hs71 := hs71.mono hle90
                      replace hp74 := hp74.mono hle90
                      replace hs78 := hs78.mono hle90
                      replace hp81 := hp81.mono hle90
                      replace hp83 := hp83.mono hle90
                      replace hs87 := hs87.mono hle90
                      refine DW.x rfl rfl (X.call Try.call25 rfl (keeps25 _ _ w rfl _ _ hs87 _ _ _ hs91 )) (by decide) ?_
                      refine DW.x rfl rfl (X.move rfl) (by decide) ?_
                      refine DW.x rfl rfl (X.extract rfl rfl) (by decide) ?_
                      refine DW.x rfl rfl (X.extract rfl rfl) (by decide) ?_
                      refine DW.x rfl rfl (X.assign rfl) (by decide) ?_
                      refine DW.x rfl rfl (X.assign rfl) (by decide) ?_
                      refine DW.nil ?_
                      refine WK.nThen ?_
                      exact WK.meet m88 rfl (.refl _) (.cons rfl (.cons rfl (.cons rfl (.cons rfl (.cons rfl (.cons rfl (.cons rfl (.cons rfl (.cons rfl .nil))))))))) (Mem.le_trans hle86 hle90)
                    · refine DW.tm rfl rfl rfl (T.litM (α := Int) (vals := [.int .i64 (gt levels na), .int .i64 (gt levels nb)]) (L := [gt levels na, gt levels nb]) sl31 rfl (.cons rfl rfl (.cons rfl rfl .nil)) rfl rfl) (by decide) (fun m92 v93 hle94 hs95 => ?_)
                      replace hl := hl.mono hle94
                      replace hlevels := hlevels.mono hle94
                      replace hs := hs.mono hle94
                      replace hs9 := hs9.mono hle94
                      replace hs16 := hs16.mono hle94
                      replace hp30 := hp30.mono hle94
                      replace hp33 := hp33.mono hle94
                      replace hp35 := hp35.mono hle94
                      replace hp38 := hp38.mono hle94
                      replace hp41 := hp41.mono hle94
                      replace hp43 := hp43.mono hle94
                      replace hs49 := hs49.mono hle94
                      replace hp52 := hp52.mono hle94
                      replace hs56 := hs56.mono hle94
                      replace hp59 := hp59.mono hle94
                      replace hs63 := hs63.mono hle94
                      replace hp67 := hp67.mono hle94
                      replace hs71 := hs71.mono hle94
                      replace hp74 := hp74.mono hle94
                      replace hs78 := hs78.mono hle94
                      replace hp81 := hp81.mono hle94
                      replace hp83 := hp83.mono hle94
                      refine DW.tm rfl rfl rfl (T.litM (α := Station) (vals := [.agg [.int .i64 ((gt l na).ID), .int .i64 ((gt l na).X), .int .i64 ((gt l na).Y), v70].toArray, .agg [.int .i64 ((gt l nb).ID), .int .i64 ((gt l nb).X), .int .i64 ((gt l nb).Y), v77].toArray]) (L := [gt l na, gt l nb]) sl24 rfl (.cons rfl ⟨_, rfl, hs71⟩ (.cons rfl ⟨_, rfl, hs78⟩ .nil)) rfl rfl) (by decide) (fun m96 v97 hle98 hs99 => ?_)
                      replace hl := hl.mono hle98
                      replace hlevels := hlevels.mono hle98
                      replace hs := hs.mono hle98
                      replace hs9 := hs9.mono hle98
                      replace hs16 := hs16.mono hle98
                      replace hp30 := hp30.mono hle98
                      replace hp33 := hp33.mono hle98
                      replace hp35 := hp35.mono hle98
                      replace hp38 := hp38.mono hle98
                      replace hp41 := hp41.mono hle98
                      replace hp43 := hp43.mono hle98
                      replace hs49 := hs49.mono hle98
                      replace hp52 := hp52.mono hle98
                      replace hs56 := hs56.mono hle98
                      replace hp59 := hp59.mono hle98
                      replace hs63 := hs63.mono hle98
                      replace hp67 := hp67.mono hle98
                      replace hs71 := hs71.mono hle98
                      replace hp74 := hp74.mono hle98
                      replace hs78 := hs78.mono hle98
                      replace hp81 := hp81.mono hle98
                      replace hp83 := hp83.mono hle98
                      replace hs95 := hs95.mono hle98
                      refine DW.x rfl rfl (X.call Try.call25 rfl (keeps25 _ _ w rfl _ _ hs99 _ _ _ hs95 )) (by decide) ?_
                      refine DW.x rfl rfl (X.move rfl) (by decide) ?_
                      refine DW.x rfl rfl (X.extract rfl rfl) (by decide) ?_
                      refine DW.x rfl rfl (X.extract rfl rfl) (by decide) ?_
                      refine DW.x rfl rfl (X.assign rfl) (by decide) ?_
                      refine DW.x rfl rfl (X.assign rfl) (by decide) ?_
                      refine DW.nil ?_
                      refine WK.nThen ?_
                      exact WK.meet m96 rfl (.refl _) (.cons rfl (.cons rfl (.cons rfl (.cons rfl (.cons rfl (.cons rfl (.cons rfl (.cons rfl (.cons rfl .nil))))))))) (Mem.le_trans hle94 hle98)
                  · rintro m65 hle100
                    show WK _ _ m65 [blk b1 23 [.int .i64 (w.Fixed), .int .i64 (w.Each)]] [(11, .bool true), (19, .int .i64 (↑na)), (20, .int .i64 (↑nb)), (21, v48), (22, .int .i64 (0)), (23, .int .i64 (boundM w l na nb)), (24, .int .i64 (0)), (25, .bool ((keepsR w ([gt l na, gt l nb]) week ([gt levels na, gt levels nb])).1)), (26, .int .i64 ((keepsR w ([gt l na, gt l nb]) week ([gt levels na, gt levels nb])).2))] _
                    replace hl := hl.mono hle100
                    replace hlevels := hlevels.mono hle100
                    replace hs := hs.mono hle100
                    replace hs9 := hs9.mono hle100
                    replace hs16 := hs16.mono hle100
                    replace hp30 := hp30.mono hle100
                    replace hp33 := hp33.mono hle100
                    replace hp35 := hp35.mono hle100
                    replace hp38 := hp38.mono hle100
                    replace hp41 := hp41.mono hle100
                    replace hp43 := hp43.mono hle100
                    replace hs49 := hs49.mono hle100
                    replace hp52 := hp52.mono hle100
                    replace hs56 := hs56.mono hle100
                    replace hp59 := hp59.mono hle100
                    replace hs63 := hs63.mono hle100
                    refine WC.seq ?_
                    have ht2 : (keepsR w [gt l na, gt l nb] week [gt levels na, gt levels nb]).2 = 0 := two_ok hw0 hlz hab hbl
                    have htno := fun h => two_no hw0 hlz hab hbl happ h
                    have trna := tightL_row (w := w) (l := l) (i := na) (by omega)
                    have tananb := tightL_at (w := w) (l := l) (i := na) (k := nb) (by omega) (by omega)
                    have tsnanb := tight_small hw0 (i := na) (k := nb) (by omega) (by omega)
                    rw [ht2]
                    refine WC.region ?_
                    refine WL.x (X.move rfl) (by decide) ?_
                    refine WL.x (X.move rfl) (by decide) ?_
                    refine WL.yes rfl rfl ?_
                    refine WL.x (X.move rfl) (by decide) ?_
                    refine WL.yes rfl rfl ?_
                    refine WL.x (X.eql rfl rfl) (by decide) ?_
                    refine WL.x (X.pickT rfl rfl rfl) (by decide) ?_
                    refine WL.x (X.move rfl) (by decide) ?_
                    refine WL.yes rfl rfl ?_
                    refine WL.x (X.move rfl) (by decide) ?_
                    refine WL.yes rfl rfl ?_
                    refine WL.x (X.eql rfl rfl) (by decide) ?_
                    refine WL.x (X.pickT rfl rfl rfl) (by decide) ?_
                    refine WL.x (X.move rfl) (by decide) ?_
                    refine WL.yes rfl rfl ?_
                    refine WL.x (X.move rfl) (by decide) ?_
                    refine WL.yes rfl rfl ?_
                    refine WL.x (X.eql rfl rfl) (by decide) ?_
                    refine WL.x (X.pickT rfl rfl rfl) (by decide) ?_
                    refine WL.x (X.move rfl) (by decide) ?_
                    refine WL.yes rfl rfl ?_
                    refine WL.x (X.move rfl) (by decide) ?_
                    refine WL.yes rfl rfl ?_
                    refine WL.x (X.move rfl) (by decide) ?_
                    refine WL.yes rfl rfl ?_
                    refine WL.xe (E.idxN na Try.runUnderlying27 Try.sizeOf31 rfl rfl hs49 (by omega)) (by decide) (fun p101 hp102 => ?_)
                    refine WL.yes rfl rfl ?_
                    refine WL.xe (E.loadSl Try.isAgg31 rfl hp102) (by decide) (fun v103 hs104 => ?_)
                    have hl105 := hs104.le
                    refine WL.yes rfl rfl ?_
                    refine WL.x (X.move rfl) (by decide) ?_
                    refine WL.yes rfl rfl ?_
                    refine WL.xe (E.idxN nb Try.runUnderlying31 Try.sizeOf3 rfl rfl hs104 (by omega)) (by decide) (fun p106 hp107 => ?_)
                    refine WL.yes rfl rfl ?_
                    refine WL.x (X.loadInt Try.isAgg3 rfl hp107) (by decide) ?_
                    refine WL.yes rfl rfl ?_
                    refine WL.x (X.move rfl) (by decide) ?_
                    refine WL.yes rfl rfl ?_
                    refine WL.cond (X.lss rfl rfl) (by decide) (fun h108 => ?_) (fun h108 => ?_)
                    · refine WL.yes rfl rfl ?_
                      refine WL.x (X.move rfl) (by decide) ?_
                      refine WL.no rfl rfl rfl (by decide) ?_
                      refine WL.no rfl rfl rfl (by decide) ?_
                      refine WL.yes rfl rfl ?_
                      refine WL.x (X.pickT rfl rfl rfl) (by decide) ?_
                      refine WL.x (X.pickT rfl rfl rfl) (by decide) ?_
                      refine WL.x (X.assign rfl) (by decide) ?_
                      refine WL.nil ?_
                      refine WK.nThen ?_
                      refine WC.ret ?_
                      refine WK.ret1 rfl rfl (fun w' hw' => Ret.exact hw' ?_)
                      first | rfl | (exfalso; omega) | exact bool_eq (by rw [htno (by omega)]; rfl)
                    · refine WL.yes rfl rfl ?_
                      refine WL.x (X.move rfl) (by decide) ?_
                      refine WL.yes rfl rfl ?_
                      refine WL.x (X.move rfl) (by decide) ?_
                      refine WL.yes rfl rfl ?_
                      refine WL.x (X.not rfl) (by decide) ?_
                      refine WL.yes rfl rfl ?_
                      refine WL.x (X.pickF rfl rfl rfl) (by decide) ?_
                      refine WL.x (X.pickT rfl rfl rfl) (by decide) ?_
                      refine WL.x (X.assign rfl) (by decide) ?_
                      refine WL.nil ?_
                      refine WK.nThen ?_
                      refine WC.ret ?_
                      refine WK.ret1 rfl rfl (fun w' hw' => Ret.exact hw' ?_)
                      first | rfl | (exfalso; omega) | exact bool_eq (by rw [htno (by omega)]; rfl)
  · refine WL.x (X.not rfl) (by decide) ?_
    refine WL.x (X.move rfl) (by decide) ?_
    refine WL.no rfl rfl rfl (by decide) ?_
    refine WL.no rfl rfl rfl (by decide) ?_
    refine WL.no rfl rfl rfl (by decide) ?_
    refine WL.x (X.pickT rfl rfl rfl) (by decide) ?_
    refine WL.nil ?_
    refine WK.nThen ?_
    refine WC.condT rfl ?_
    refine WC.seq ?_
    refine WC.region ?_
    refine WL.x (X.move rfl) (by decide) ?_
    refine WL.x (X.assign rfl) (by decide) ?_
    refine WL.nil ?_
    refine WK.nThen ?_
    refine WC.ret ?_
    refine WK.rThen ?_
    refine WK.ret1 rfl rfl (fun w' hw' => Ret.exact hw' ?_)
    first | rfl | (exfalso; omega) | exact bool_eq (by rw [htno (by omega)]; rfl)

end Go.Proofs.S5
namespace Go.Proofs.Ytcpecjgppbiplaa
open Go Go.Kx Go.Proofs.S5
set_option linter.unusedVariables false
namespace LStationsPairs
theorem own : ownKnob Try.prog.godebug = none := by kernel_rfl
theorem laidOut : laidOutB Try.prog = true := by kernel_rfl
set_option maxRecDepth 100000 in
theorem lifted (os : Os) (started : os.Started) (H : Type) (enc : TypeId × Value → H) :
    ReturnsInHanded {} Try.checked os 14 .any (Rows.stationsPairsSpec.pre6 enc Try.prog Try.f14 Rows.stationsPairsRow.domain false) (Rows.stationsPairsSpec.post enc Try.prog Try.f14 false true false false) := by
  refine returnsInHanded_of_change_sized (C := Try.checked) own started (by kernel_rfl) Try.func14
    (ChangeSpec.witness6 (enc := enc) (C := Try.checked) false ⟨#[], #[.agg #[.int .i64 0, .int .i64 0], .slice none 0 0, .int .i64 0, .slice none 0 0, .slice none 0 0], []⟩ 8 (by kernel_rfl) (by kernel_rfl) (by kernel_rfl) (by kernel_rfl)) ?_
  intro W base args ds gs before hval0 hW hcnd hwt _
  have hval : ∀ (j : Nat) t v, Try.f14.params[j]? = some t → args[j]? = some v → Value.okWide Try.prog W .any base t v := hval0
  have hW' := hW
  obtain ⟨p, q, hA0, hV, rfl, hfz, hnd⟩ := hW
  have hA : DataW.TrodAll enc Try.prog W 0 (fun _ => true) true Try.f14.params.toList args.toList ds p := hA0
  rw [Try.params14] at hA hval
  obtain ⟨v0, vs0, d0, ds0, p0, q0, hargs, rfl, rfl, h0, r0⟩ := ChangeShapes.trodAll_cons hA
  obtain ⟨v1, vs1, d1, ds1, p1, q1, rfl, rfl, rfl, h1, r1⟩ := ChangeShapes.trodAll_cons r0
  obtain ⟨v2, vs2, d2, ds2, p2, q2, rfl, rfl, rfl, h2, r2⟩ := ChangeShapes.trodAll_cons r1
  obtain ⟨v3, vs3, d3, ds3, p3, q3, rfl, rfl, rfl, h3, r3⟩ := ChangeShapes.trodAll_cons r2
  obtain ⟨v4, vs4, d4, ds4, p4, q4, rfl, rfl, rfl, h4, r4⟩ := ChangeShapes.trodAll_cons r3
  obtain ⟨rfl, rfl, rfl⟩ := ChangeShapes.trodAll_nil r4
  obtain rfl : args = #[v0, v1, v2, v3, v4] := by cases args; simp_all
  obtain ⟨rfl, rfl⟩ := ChangeShapes.trodVars_none hV
  have hwts : (DataW.weightsEach Try.prog [23, 24, 3, 31, 31] [d0, d1, d2, d3, d4]).all (· ≤ reachBytes) = true := hwt
  have lt0 : ∀ x ∈ p0, x.block < W.heap.size := by obtain ⟨m, hm⟩ := h0; exact DataW.trod_lt m _ _ _ hm
  have lt1 : ∀ x ∈ p1, x.block < W.heap.size := by obtain ⟨m, hm⟩ := h1; exact DataW.trod_lt m _ _ _ hm
  have lt2 : ∀ x ∈ p2, x.block < W.heap.size := by obtain ⟨m, hm⟩ := h2; exact DataW.trod_lt m _ _ _ hm
  have lt3 : ∀ x ∈ p3, x.block < W.heap.size := by obtain ⟨m, hm⟩ := h3; exact DataW.trod_lt m _ _ _ hm
  have lt4 : ∀ x ∈ p4, x.block < W.heap.size := by obtain ⟨m, hm⟩ := h4; exact DataW.trod_lt m _ _ _ hm
  have g0 := hval 0 23 v0 rfl rfl
  have k0 := h0
  obtain ⟨c0, x0, rfl, s0, ok0⟩ := arg_st br23 Try.underlying23 g0 h0 (weigh hwts (j := 0) rfl rfl)
  have g1 := hval 1 24 v1 rfl rfl
  have k1 := h1
  obtain ⟨x1, s1, ok1⟩ := arg_sl br24 Try.underlying24 g1 h1 (weigh hwts (j := 1) rfl rfl)
  have g2 := hval 2 3 v2 rfl rfl
  have k2 := h2
  obtain ⟨x2, rfl, lo2, hi2⟩ := arg_int Try.underlying3 g2 h2
  have g3 := hval 3 31 v3 rfl rfl
  have k3 := h3
  obtain ⟨x3, s3, ok3⟩ := arg_sl br31 Try.underlying31 g3 h3 (weigh hwts (j := 3) rfl rfl)
  have g4 := hval 4 31 v4 rfl rfl
  have k4 := h4
  obtain ⟨x4, s4, ok4⟩ := arg_sl br31 Try.underlying31 g4 h4 (weigh hwts (j := 4) rfl rfl)
  clear hA0 hval0
  refine (Exact.law (Go.Proofs.S5.law14 (Mem.all W) c0 x0 s0 _ x1 s1 x2 _ x3 s3 _ x4 s4 ok0 ok1 lo2 hi2 ok3 ok4)).mono fun e W' ⟨he, bel⟩ => ?_
  subst he
  exact ⟨_, rfl, _, _, _, [], _, [], hW', ChangeShapes.trodAll_mk1 (RowKit.shut_bool Try.underlying4 _), (trodAll_cons_mk (RowKit.Below.trod laidOut (by kernel_rfl) (of_decide_eq_true (by kernel_rfl)) k0 bel lt0) (trodAll_cons_mk (RowKit.Below.trod laidOut (by kernel_rfl) (of_decide_eq_true (by kernel_rfl)) k1 bel lt1) (trodAll_cons_mk (RowKit.Below.trod laidOut (by kernel_rfl) (of_decide_eq_true (by kernel_rfl)) k2 bel lt2) (trodAll_cons_mk (RowKit.Below.trod laidOut (by kernel_rfl) (of_decide_eq_true (by kernel_rfl)) k3 bel lt3) (trodAll_cons_mk (RowKit.Below.trod laidOut (by kernel_rfl) (of_decide_eq_true (by kernel_rfl)) k4 bel lt4) ChangeShapes.trodAll_mk0))))), rfl, bel.frame _, fun h => by cases h⟩
theorem over : Rows.stationsPairsRow.holds Try.pinned (OpenSpec.ofChange Rows.stationsPairsSpec) :=
  OpenClaim.holds_of_wide 14 Try.f14 rfl rfl rfl rfl rfl rfl rfl ⟨rfl, rfl, rfl, rfl, rfl⟩ rfl rfl rfl rfl rfl (by kernel_rfl) Try.func14 (by kernel_rfl)
    (of_decide_eq_true (by kernel_rfl)) (by unfold Func.isWrapper; first | (rw [if_pos (by decide +kernel)]; kernel_rfl) | (rw [if_neg (by decide +kernel)]; exact ⟨rfl, rfl⟩))
    (fun os started H enc _ => lifted os started H enc)
end LStationsPairs
theorem stationsPairs_holds : Rows.StationsPairsSaid := LStationsPairs.over
end Go.Proofs.Ytcpecjgppbiplaa
