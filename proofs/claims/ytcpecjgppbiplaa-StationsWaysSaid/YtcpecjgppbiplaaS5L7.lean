/- The law StationsWays: it returns true for every input; its arguments read as before. No condition beyond what the given row says. -/
import Derived.Test.YtcpecjgppbiplaaS5Law
import Derived.Test.YtcpecjgppbiplaaS5W8
import Derived.Test.YtcpecjgppbiplaaS5Br
import Derived.Test.YtcpecjgppbiplaaKxO
import Derived.Test.YtcpecjgppbiplaaKxN
import Derived.Test.YtcpecjgppbiplaaRows
import Derived.WalkKit
import Derived.ProofKit
import Derived.OpenShut
import Derived.ShutString
import Derived.ChangeOld
import Derived.Below
namespace Go.Proofs.S5
open Go Go.Kx
set_option linter.unusedVariables false

set_option maxHeartbeats 4000000 in
theorem law7 (m : Mem) (cw : List Value) (w : Wind) (hw : Enc.rd m cw w) (vl : Value) (l : List Station) (hl : Sl m vl l) (a : Int) (b : Int) (vother : Value) (other : List Int) (hother : Sl m vother other)  (ok0 : Rng.ok w) (ok1 : Rng.ok l) (lo2 : -9223372036854775808 ≤ a) (hi2 : a ≤ 9223372036854775807) (lo3 : -9223372036854775808 ≤ b) (hi3 : b ≤ 9223372036854775807) (ok4 : Rng.ok other) : Exact Try.prog 7 #[.agg cw.toArray, vl, .int .i64 (a), .int .i64 (b), vother] m (.bool true) := by
  obtain rfl := hw
  have ll := hl.le
  have lother := hother.le
  refine Exact.start Try.func7 rfl Try.ntmps7 rfl fun wld => ?_
  refine WC.seq ?_
  refine WC.region ?_
  refine WL.tn (T.boxB rfl rfl) (by decide) fun b1 => ?_
  refine WL.x (X.assign rfl) (by decide) ?_
  refine WL.nil ?_
  refine WK.nThen ?_
  refine WC.seq ?_
  refine WC.region ?_
  refine WL.x (X.call Try.call17 rfl (awake17 _  )) (by decide) ?_
  refine WL.x (X.assign rfl) (by decide) ?_
  refine WL.nil ?_
  refine WK.nThen ?_
  refine WC.seq ?_
  refine WC.seq ?_
  refine WC.region ?_
  refine WL.x (X.move rfl) (by decide) ?_
  refine WL.cond (X.call Try.call18 rfl (few18 _ _ _ hl )) (by decide) (fun h2 => ?_) (fun h2 => ?_)
  · refine WL.x (X.not rfl) (by decide) ?_
    refine WL.x (X.move rfl) (by decide) ?_
    refine WL.yes rfl rfl ?_
    refine WL.x (X.move rfl) (by decide) ?_
    refine WL.yes rfl rfl ?_
    refine WL.x (X.len Try.runUnderlying31 rfl hother) (by decide) ?_
    refine WL.yes rfl rfl ?_
    refine WL.cond (X.gtr rfl rfl) (by decide) (fun h3 => ?_) (fun h3 => ?_)
    · refine WL.x (X.pickF rfl rfl rfl) (by decide) ?_
      refine WL.nil ?_
      refine WK.nThen ?_
      refine WC.condT rfl ?_
      refine WC.seq ?_
      refine WC.region ?_
      refine WL.x (X.move rfl) (by decide) ?_
      refine WL.x (X.assign rfl) (by decide) ?_
      refine WL.nil ?_
      refine WK.nThen ?_
      refine WC.ret ?_
      refine WK.rThen ?_
      refine WK.ret1 rfl rfl (fun w' hw' => Ret.exact hw' ?_)
      first | rfl | (exfalso; omega) | exact (bool_true (by have := wayR_len (w := w) (l := l) (a := a) (b := b) (by omega); omega)).symm | exact (bool_true (by omega)).symm
    · refine WL.x (X.pickF rfl rfl rfl) (by decide) ?_
      refine WL.nil ?_
      refine WK.nThen ?_
      refine WC.condF rfl ?_
      refine WC.skip ?_
      refine WK.nThen ?_
      refine WC.seq ?_
      refine WC.region ?_
      refine WL.x (X.loadBA (k := 0) Try.isAgg23 Try.sizeOf23 rfl rfl rfl) (by decide) ?_
      refine WL.x (X.move rfl) (by decide) ?_
      refine WL.tm (T.call Try.call19 rfl (tight19 _ _ w rfl _ _ hl )) (by decide) fun m4 r5 hle6 hR7 => ?_
      obtain ⟨v8, rfl, hs9⟩ := hR7
      replace hl := hl.mono hle6
      replace hother := hother.mono hle6
      have hl10 := hs9.le
      refine WL.x (X.move rfl) (by decide) ?_
      refine WL.x (X.extract rfl rfl) (by decide) ?_
      refine WL.x (X.extract rfl rfl) (by decide) ?_
      refine WL.x (X.assign rfl) (by decide) ?_
      refine WL.x (X.assign rfl) (by decide) ?_
      refine WL.nil ?_
      refine WK.nThen ?_
      refine WC.seq ?_
      refine WC.region ?_
      refine WL.x (X.loadBA (k := 0) Try.isAgg23 Try.sizeOf23 rfl rfl rfl) (by decide) ?_
      refine WL.x (X.move rfl) (by decide) ?_
      refine WL.x (X.move rfl) (by decide) ?_
      refine WL.x (X.move rfl) (by decide) ?_
      refine WL.tm (T.call Try.call21 rfl (way21 _ _ w rfl _ _ hl _ _ )) (by decide) fun m11 r12 hle13 hR14 => ?_
      obtain ⟨v15, rfl, hs16⟩ := hR14
      replace hl := hl.mono hle13
      replace hother := hother.mono hle13
      replace hs9 := hs9.mono hle13
      have hl17 := hs16.le
      refine WL.x (X.move rfl) (by decide) ?_
      refine WL.x (X.extract rfl rfl) (by decide) ?_
      refine WL.x (X.extract rfl rfl) (by decide) ?_
      refine WL.x (X.assign rfl) (by decide) ?_
      refine WL.x (X.assign rfl) (by decide) ?_
      refine WL.nil ?_
      refine WK.nThen ?_
      refine WC.seq ?_
      refine WC.seq ?_
      refine WC.region ?_
      refine WL.x (X.move rfl) (by decide) ?_
      refine WL.condn (X.neq rfl rfl) (by decide) (fun h18 => ?_) (fun h18 => ?_)
      · refine WL.x (X.move rfl) (by decide) ?_
        refine WL.no rfl rfl rfl (by decide) ?_
        refine WL.no rfl rfl rfl (by decide) ?_
        refine WL.x (X.pickT rfl rfl rfl) (by decide) ?_
        refine WL.nil ?_
        refine WK.nThen ?_
        refine WC.condT rfl ?_
        refine WC.seq ?_
        refine WC.region ?_
        refine WL.x (X.move rfl) (by decide) ?_
        refine WL.x (X.move rfl) (by decide) ?_
        refine WL.yes rfl rfl ?_
        refine WL.x (X.move rfl) (by decide) ?_
        refine WL.yes rfl rfl ?_
        refine WL.x (X.len Try.runUnderlying31 rfl hs16) (by decide) ?_
        refine WL.yes rfl rfl ?_
        refine WL.x (X.eql rfl rfl) (by decide) ?_
        refine WL.x (X.pickT rfl rfl rfl) (by decide) ?_
        refine WL.x (X.assign rfl) (by decide) ?_
        refine WL.nil ?_
        refine WK.nThen ?_
        refine WC.ret ?_
        refine WK.rThen ?_
        refine WK.ret1 rfl rfl (fun w' hw' => Ret.exact hw' ?_)
        first | rfl | (exfalso; omega) | exact (bool_true (by have := wayR_len (w := w) (l := l) (a := a) (b := b) (by omega); omega)).symm | exact (bool_true (by omega)).symm
      · refine WL.x (X.move rfl) (by decide) ?_
        refine WL.yes rfl rfl ?_
        refine WL.x (X.move rfl) (by decide) ?_
        refine WL.yes rfl rfl ?_
        refine WL.condn (X.neq rfl rfl) (by decide) (fun h19 => ?_) (fun h19 => ?_)
        · refine WL.x (X.pickF rfl rfl rfl) (by decide) ?_
          refine WL.nil ?_
          refine WK.nThen ?_
          refine WC.condT rfl ?_
          refine WC.seq ?_
          refine WC.region ?_
          refine WL.x (X.move rfl) (by decide) ?_
          refine WL.x (X.move rfl) (by decide) ?_
          refine WL.yes rfl rfl ?_
          refine WL.x (X.move rfl) (by decide) ?_
          refine WL.yes rfl rfl ?_
          refine WL.x (X.len Try.runUnderlying31 rfl hs16) (by decide) ?_
          refine WL.yes rfl rfl ?_
          refine WL.x (X.eql rfl rfl) (by decide) ?_
          refine WL.x (X.pickT rfl rfl rfl) (by decide) ?_
          refine WL.x (X.assign rfl) (by decide) ?_
          refine WL.nil ?_
          refine WK.nThen ?_
          refine WC.ret ?_
          refine WK.rThen ?_
          refine WK.ret1 rfl rfl (fun w' hw' => Ret.exact hw' ?_)
          first | rfl | (exfalso; omega) | exact (bool_true (by have := wayR_len (w := w) (l := l) (a := a) (b := b) (by omega); omega)).symm | exact (bool_true (by omega)).symm
        · refine WL.x (X.pickF rfl rfl rfl) (by decide) ?_
          refine WL.nil ?_
          refine WK.nThen ?_
          refine WC.condF rfl ?_
          refine WC.skip ?_
          refine WK.nThen ?_
          refine WC.seq ?_
          refine WC.seq ?_
          have hw0 : windedE w l = 0 := (by omega)
          obtain ⟨na, nb, p, ha_, hb_, hna, hnb, hway, hp, hpe, hpl, hpn⟩ := way_spec hw0 (a := a) (b := b) (by omega)
          subst ha_
          subst hb_
          have htr : tightR w l = tightL w l := if_pos hw0
          have htl := tightL_len w l
          have hl32 := (checkS_zero (l := l) (windedE_zero hw0).1).1
          have hlen : (nums (na :: p)).length = p.length + 1 := (by rw [nums_len]; rfl)
          have hg0 : gt (nums (na :: p)) 0 = ↑na := nums_at (p := na :: p) (i := 0) (by simp)
          have hgl : gt (nums (na :: p)) p.length = ↑nb := (by rw [nums_at (by simp), wend_at (Nat.le_refl _), List.take_length, hpe])
          have hglt : gt (nums (na :: p)) (↑(nums (na :: p)).length - 1 : Int).toNat = ↑nb := (by rw [show (↑(nums (na :: p)).length - 1 : Int).toNat = p.length by omega]; exact hgl)
          have hgl2 : gt (nums (na :: p)) ((nums (na :: p)).length - 1) = ↑nb := (by rw [show (nums (na :: p)).length - 1 = p.length by omega]; exact hgl)
          rw [hway] at hs16
          rw [htr] at hs9
          refine WC.region ?_
          refine WL.x (X.move rfl) (by decide) ?_
          refine WL.x (X.len Try.runUnderlying31 rfl hs16) (by decide) ?_
          refine WL.cond (X.eql rfl rfl) (by decide) (fun h20 => ?_) (fun h20 => ?_)
          · refine WL.x (X.move rfl) (by decide) ?_
            refine WL.no rfl rfl rfl (by decide) ?_
            refine WL.no rfl rfl rfl (by decide) ?_
            refine WL.no rfl rfl rfl (by decide) ?_
            refine WL.no rfl rfl rfl (by decide) ?_
            refine WL.no rfl rfl rfl (by decide) ?_
            refine WL.x (X.pickT rfl rfl rfl) (by decide) ?_
            refine WL.x (X.move rfl) (by decide) ?_
            refine WL.no rfl rfl rfl (by decide) ?_
            refine WL.no rfl rfl rfl (by decide) ?_
            refine WL.no rfl rfl rfl (by decide) ?_
            refine WL.no rfl rfl rfl (by decide) ?_
            refine WL.no rfl rfl rfl (by decide) ?_
            refine WL.no rfl rfl rfl (by decide) ?_
            refine WL.no rfl rfl rfl (by decide) ?_
            refine WL.no rfl rfl rfl (by decide) ?_
            refine WL.x (X.pickT rfl rfl rfl) (by decide) ?_
            refine WL.x (X.move rfl) (by decide) ?_
            refine WL.no rfl rfl rfl (by decide) ?_
            refine WL.no rfl rfl rfl (by decide) ?_
            refine WL.no rfl rfl rfl (by decide) ?_
            refine WL.no rfl rfl rfl (by decide) ?_
            refine WL.no rfl rfl rfl (by decide) ?_
            refine WL.x (X.pickT rfl rfl rfl) (by decide) ?_
            refine WL.nil ?_
            refine WK.nThen ?_
            refine WC.condT rfl ?_
            refine WC.seq ?_
            refine WC.region ?_
            refine WL.x (X.assign rfl) (by decide) ?_
            refine WL.nil ?_
            refine WK.nThen ?_
            refine WC.ret ?_
            refine WK.rThen ?_
            refine WK.ret1 rfl rfl (fun w' hw' => Ret.exact hw' ?_)
            first | rfl | (exfalso; omega) | exact (bool_true (by have := wayR_len (w := w) (l := l) (a := a) (b := b) (by omega); omega)).symm | exact (bool_true (by omega)).symm
          · refine WL.x (X.move rfl) (by decide) ?_
            refine WL.yes rfl rfl ?_
            refine WL.x (X.move rfl) (by decide) ?_
            refine WL.yes rfl rfl ?_
            refine WL.xe (E.idxN 0 Try.runUnderlying31 Try.sizeOf3 rfl rfl hs16 (by omega)) (by decide) (fun p21 hp22 => ?_)
            refine WL.yes rfl rfl ?_
            refine WL.x (X.loadInt Try.isAgg3 rfl hp22) (by decide) ?_
            refine WL.yes rfl rfl ?_
            refine WL.x (X.move rfl) (by decide) ?_
            refine WL.yes rfl rfl ?_
            refine WL.condn (X.neq rfl rfl) (by decide) (fun h23 => ?_) (fun h23 => ?_)
            · refine WL.x (X.pickF rfl rfl rfl) (by decide) ?_
              refine WL.x (X.move rfl) (by decide) ?_
              refine WL.no rfl rfl rfl (by decide) ?_
              refine WL.no rfl rfl rfl (by decide) ?_
              refine WL.no rfl rfl rfl (by decide) ?_
              refine WL.no rfl rfl rfl (by decide) ?_
              refine WL.no rfl rfl rfl (by decide) ?_
              refine WL.no rfl rfl rfl (by decide) ?_
              refine WL.no rfl rfl rfl (by decide) ?_
              refine WL.no rfl rfl rfl (by decide) ?_
              refine WL.x (X.pickT rfl rfl rfl) (by decide) ?_
              refine WL.x (X.move rfl) (by decide) ?_
              refine WL.no rfl rfl rfl (by decide) ?_
              refine WL.no rfl rfl rfl (by decide) ?_
              refine WL.no rfl rfl rfl (by decide) ?_
              refine WL.no rfl rfl rfl (by decide) ?_
              refine WL.no rfl rfl rfl (by decide) ?_
              refine WL.x (X.pickT rfl rfl rfl) (by decide) ?_
              refine WL.nil ?_
              refine WK.nThen ?_
              refine WC.condT rfl ?_
              refine WC.seq ?_
              refine WC.region ?_
              refine WL.x (X.assign rfl) (by decide) ?_
              refine WL.nil ?_
              refine WK.nThen ?_
              refine WC.ret ?_
              refine WK.rThen ?_
              refine WK.ret1 rfl rfl (fun w' hw' => Ret.exact hw' ?_)
              first | rfl | (exfalso; omega) | exact (bool_true (by have := wayR_len (w := w) (l := l) (a := a) (b := b) (by omega); omega)).symm | exact (bool_true (by omega)).symm
            · refine WL.x (X.pickF rfl rfl rfl) (by decide) ?_
              refine WL.x (X.move rfl) (by decide) ?_
              refine WL.yes rfl rfl ?_
              refine WL.x (X.move rfl) (by decide) ?_
              refine WL.yes rfl rfl ?_
              refine WL.x (X.move rfl) (by decide) ?_
              refine WL.yes rfl rfl ?_
              refine WL.x (X.len Try.runUnderlying31 rfl hs16) (by decide) ?_
              refine WL.yes rfl rfl ?_
              refine WL.x (X.sub rfl rfl (by omega) (by omega)) (by decide) ?_
              refine WL.yes rfl rfl ?_
              refine WL.xe (E.idx Try.runUnderlying31 Try.sizeOf3 rfl rfl hs16 (by omega) (by omega)) (by decide) (fun p24 hp25 => ?_)
              refine WL.yes rfl rfl ?_
              refine WL.x (X.loadInt Try.isAgg3 rfl hp25) (by decide) ?_
              refine WL.yes rfl rfl ?_
              refine WL.x (X.move rfl) (by decide) ?_
              refine WL.yes rfl rfl ?_
              refine WL.condn (X.neq rfl rfl) (by decide) (fun h26 => ?_) (fun h26 => ?_)
              · refine WL.x (X.pickF rfl rfl rfl) (by decide) ?_
                refine WL.x (X.move rfl) (by decide) ?_
                refine WL.no rfl rfl rfl (by decide) ?_
                refine WL.no rfl rfl rfl (by decide) ?_
                refine WL.no rfl rfl rfl (by decide) ?_
                refine WL.no rfl rfl rfl (by decide) ?_
                refine WL.no rfl rfl rfl (by decide) ?_
                refine WL.x (X.pickT rfl rfl rfl) (by decide) ?_
                refine WL.nil ?_
                refine WK.nThen ?_
                refine WC.condT rfl ?_
                refine WC.seq ?_
                refine WC.region ?_
                refine WL.x (X.assign rfl) (by decide) ?_
                refine WL.nil ?_
                refine WK.nThen ?_
                refine WC.ret ?_
                refine WK.rThen ?_
                refine WK.ret1 rfl rfl (fun w' hw' => Ret.exact hw' ?_)
                first | rfl | (exfalso; omega) | exact (bool_true (by have := wayR_len (w := w) (l := l) (a := a) (b := b) (by omega); omega)).symm | exact (bool_true (by omega)).symm
              · refine WL.x (X.pickF rfl rfl rfl) (by decide) ?_
                refine WL.x (X.move rfl) (by decide) ?_
                refine WL.yes rfl rfl ?_
                refine WL.x (X.move rfl) (by decide) ?_
                refine WL.yes rfl rfl ?_
                refine WL.x (X.len Try.runUnderlying31 rfl hs16) (by decide) ?_
                refine WL.yes rfl rfl ?_
                refine WL.x (X.move rfl) (by decide) ?_
                refine WL.yes rfl rfl ?_
                refine WL.x (X.len Try.runUnderlying24 rfl hl) (by decide) ?_
                refine WL.yes rfl rfl ?_
                refine WL.cond (X.gtr rfl rfl) (by decide) (fun h27 => ?_) (fun h27 => ?_)
                · refine WL.x (X.pickF rfl rfl rfl) (by decide) ?_
                  refine WL.nil ?_
                  refine WK.nThen ?_
                  refine WC.condT rfl ?_
                  refine WC.seq ?_
                  refine WC.region ?_
                  refine WL.x (X.assign rfl) (by decide) ?_
                  refine WL.nil ?_
                  refine WK.nThen ?_
                  refine WC.ret ?_
                  refine WK.rThen ?_
                  refine WK.ret1 rfl rfl (fun w' hw' => Ret.exact hw' ?_)
                  first | rfl | (exfalso; omega) | exact (bool_true (by have := wayR_len (w := w) (l := l) (a := a) (b := b) (by omega); omega)).symm | exact (bool_true (by omega)).symm
                · refine WL.x (X.pickF rfl rfl rfl) (by decide) ?_
                  refine WL.nil ?_
                  refine WK.nThen ?_
                  refine WC.condF rfl ?_
                  refine WC.skip ?_
                  refine WK.nThen ?_
                  refine WC.seq ?_
                  refine WC.seq ?_
                  refine WC.region ?_
                  refine WL.x (X.assign rfl) (by decide) ?_
                  refine WL.nil ?_
                  refine WK.nThen ?_
                  refine WC.block ?_
                  refine WC.loop (G := Nat) (fun i => p.length + 1 - i) (fun i => m11) (fun i => [blk b1 23 [.int .i64 (w.Fixed), .int .i64 (w.Each)]]) (fun i => [(1, vl), (2, .int .i64 (↑na)), (3, .int .i64 (↑nb)), (4, vother), (5, .pointer (some ⟨b1, 0, none⟩)), (11, .bool true), (12, v8), (14, v15), (16, .int .i64 (↑i))]) (fun i => i ≤ p.length + 1) 0 rfl (.refl _) (.cons rfl (.cons rfl (.cons rfl (.cons rfl (.cons rfl (.cons rfl (.cons rfl (.cons rfl (.cons rfl .nil))))))))) ?_ ?_
                  · exact Nat.zero_le _
                  · rintro i hF28
                    show WK _ _ m11 [blk b1 23 [.int .i64 (w.Fixed), .int .i64 (w.Each)]] [(1, vl), (2, .int .i64 (↑na)), (3, .int .i64 (↑nb)), (4, vother), (5, .pointer (some ⟨b1, 0, none⟩)), (11, .bool true), (12, v8), (14, v15), (16, .int .i64 (↑i))] _
                    replace hF28 : i ≤ p.length + 1 := hF28
                    have hi := hF28
                    refine WC.seq ?_
                    refine WC.seq ?_
                    refine WC.region ?_
                    refine WL.x (X.move rfl) (by decide) ?_
                    refine WL.x (X.move rfl) (by decide) ?_
                    refine WL.x (X.len Try.runUnderlying31 rfl hs16) (by decide) ?_
                    refine WL.cond (X.lss rfl rfl) (by decide) (fun h29 => ?_) (fun h29 => ?_)
                    · refine WL.nil ?_
                      refine WK.nThen ?_
                      refine WC.condT rfl ?_
                      refine WC.skip ?_
                      refine WK.nThen ?_
                      refine WC.seq ?_
                      refine WC.block ?_
                      refine WC.seq ?_
                      refine WC.draw (π := (.cons 0 (.cons 1 (.cons 2 (.cons 3 (.cons 4 (.cons 5 (.cons 6 (.cons 7 (.cons 8 (.cons 9 (.cons 10 (.cons 11 .done))))))))))))) [] [] rfl (by kernel_rfl) ?_
                      refine DW.x rfl rfl (X.loadBA (k := 0) Try.isAgg23 Try.sizeOf23 rfl rfl rfl) (by decide) ?_
                      refine DW.x rfl rfl (X.move rfl) (by decide) ?_
                      refine DW.x rfl rfl (X.move rfl) (by decide) ?_
                      refine DW.x rfl rfl (X.move rfl) (by decide) ?_
                      refine DW.x rfl rfl (X.add rfl rfl (by omega) (by omega)) (by decide) ?_
                      refine DW.xe rfl rfl (E.slH (i + 1) Try.underlying31 Try.sizeOf3 rfl rfl hs16 (by omega) (by omega)) (by decide) (fun v30 hs31 => ?_)
                      refine DW.x rfl rfl (X.call Try.call33 rfl (long33 _ _ w rfl _ _ hl _ _ hs31 (by first | omega | (simp only [List.length_take, List.length_drop]; omega)))) (by decide) ?_
                      refine DW.x rfl rfl (X.move rfl) (by decide) ?_
                      refine DW.x rfl rfl (X.extract rfl rfl) (by decide) ?_
                      refine DW.x rfl rfl (X.extract rfl rfl) (by decide) ?_
                      refine DW.x rfl rfl (X.assign rfl) (by decide) ?_
                      refine DW.x rfl rfl (X.assign rfl) (by decide) ?_
                      refine DW.nil ?_
                      refine WK.nThen ?_
                      refine WC.seq ?_
                      have hpr := prefix_long hw0 hna hp hpe hpl (i := i) (by omega)
                      have hpr1 : (longR w l ((nums (na :: p)).take (i + 1))).1 = tightM w l na (wend na (p.take i)) := by rw [hpr]
                      have hpr2 : (longR w l ((nums (na :: p)).take (i + 1))).2 = true := by rw [hpr]
                      rw [hpr1]
                      rw [hpr2]
                      refine WC.draw (π := (.cons 0 (.cons 1 (.cons 2 (.cons 3 (.cons 4 (.cons 5 (.cons 6 (.cons 7 (.cons 8 (.cons 9 (.cons 10 .done)))))))))))) [] [] rfl (by kernel_rfl) ?_
                      refine DW.x rfl rfl (X.loadBA (k := 0) Try.isAgg23 Try.sizeOf23 rfl rfl rfl) (by decide) ?_
                      refine DW.x rfl rfl (X.move rfl) (by decide) ?_
                      refine DW.x rfl rfl (X.move rfl) (by decide) ?_
                      refine DW.x rfl rfl (X.move rfl) (by decide) ?_
                      refine DW.xe rfl rfl (E.slL i Try.underlying31 Try.sizeOf3 rfl rfl hs16 (by omega) (by omega)) (by decide) (fun v32 hs33 => ?_)
                      refine DW.x rfl rfl (X.call Try.call33 rfl (long33 _ _ w rfl _ _ hl _ _ hs33 (by first | omega | (simp only [List.length_take, List.length_drop]; omega)))) (by decide) ?_
                      refine DW.x rfl rfl (X.move rfl) (by decide) ?_
                      refine DW.x rfl rfl (X.extract rfl rfl) (by decide) ?_
                      refine DW.x rfl rfl (X.extract rfl rfl) (by decide) ?_
                      refine DW.x rfl rfl (X.assign rfl) (by decide) ?_
                      refine DW.x rfl rfl (X.assign rfl) (by decide) ?_
                      refine DW.nil ?_
                      refine WK.nThen ?_
                      refine WC.seq ?_
                      have hsu := suffix_long hw0 hna hp hpe hpl (i := i) (by omega)
                      have hsu1 : (longR w l ((nums (na :: p)).drop i)).1 = tightM w l (wend na (p.take i)) nb := by rw [hsu]
                      have hsu2 : (longR w l ((nums (na :: p)).drop i)).2 = true := by rw [hsu]
                      rw [hsu1]
                      rw [hsu2]
                      have hvl : wend na (p.take i) < l.length := wend_lt _ _ hna (fun y hy => hp y (List.mem_of_mem_take hy))
                      have hv : gt (nums (na :: p)) i = ↑(wend na (p.take i)) := (by rw [nums_at (by simp; omega), wend_at (by omega)])
                      have hvn : (gt (nums (na :: p)) i).toNat = wend na (p.take i) := (by rw [hv]; simp)
                      have ta : gt (gt (tightL w l) na) (gt (nums (na :: p)) i).toNat = tightM w l na (wend na (p.take i)) := (by rw [hvn]; exact tightL_at hna hvl)
                      have tb : gt (gt (tightL w l) (gt (nums (na :: p)) i).toNat) nb = tightM w l (wend na (p.take i)) nb := (by rw [hvn]; exact tightL_at hvl hnb)
                      have tra := tightL_row (w := w) (l := l) (i := na) (by omega)
                      have trb := tightL_row (w := w) (l := l) (i := (gt (nums (na :: p)) i).toNat) (by omega)
                      refine WC.draw (π := (.cons 0 (.cons 1 (.cons 2 (.cons 3 (.cons 4 (.cons 5 (.cons 6 (.cons 7 (.cons 8 (.cons 9 (.cons 10 (.cons 11 (.cons 12 (.cons 13 (.cons 14 (.cons 15 (.cons 16 (.cons 17 (.cons 18 (.cons 19 (.cons 20 (.cons 21 (.cons 22 (.cons 23 (.cons 24 (.cons 25 (.cons 26 (.cons 27 (.cons 28 (.cons 29 (.cons 30 (.cons 31 (.cons 32 (.cons 33 .done))))))))))))))))))))))))))))))))))) [] [] rfl (by kernel_rfl) ?_
                      refine DW.x rfl rfl (X.move rfl) (by decide) ?_
                      refine DW.x rfl rfl (X.not rfl) (by decide) ?_
                      refine DW.x rfl rfl (X.move rfl) (by decide) ?_
                      refine DW.x rfl rfl (X.move rfl) (by decide) ?_
                      refine DW.x rfl rfl (X.not rfl) (by decide) ?_
                      refine DW.x rfl rfl (X.pickF rfl rfl rfl) (by decide) ?_
                      refine DW.x rfl rfl (X.move rfl) (by decide) ?_
                      refine DW.x rfl rfl (X.move rfl) (by decide) ?_
                      refine DW.x rfl rfl (X.move rfl) (by decide) ?_
                      refine DW.x rfl rfl (X.move rfl) (by decide) ?_
                      refine DW.xe rfl rfl (E.idxN na Try.runUnderlying27 Try.sizeOf31 rfl rfl hs9 (by omega)) (by decide) (fun p34 hp35 => ?_)
                      refine DW.xe rfl rfl (E.loadSl Try.isAgg31 rfl hp35) (by decide) (fun v36 hs37 => ?_)
                      have hl38 := hs37.le
                      refine DW.x rfl rfl (X.move rfl) (by decide) ?_
                      refine DW.x rfl rfl (X.move rfl) (by decide) ?_
                      refine DW.xe rfl rfl (E.idxN i Try.runUnderlying31 Try.sizeOf3 rfl rfl hs16 (by omega)) (by decide) (fun p39 hp40 => ?_)
                      refine DW.x rfl rfl (X.loadInt Try.isAgg3 rfl hp40) (by decide) ?_
                      refine DW.xe rfl rfl (E.idx Try.runUnderlying31 Try.sizeOf3 rfl rfl hs37 (by omega) (by omega)) (by decide) (fun p41 hp42 => ?_)
                      refine DW.x rfl rfl (X.loadInt Try.isAgg3 rfl hp42) (by decide) ?_
                      refine DW.condn rfl rfl (X.neq rfl rfl) (by decide) (fun h43 => ?_) (fun h43 => ?_)
                      · refine DW.x rfl rfl (X.pickF rfl rfl rfl) (by decide) ?_
                        refine DW.x rfl rfl (X.move rfl) (by decide) ?_
                        refine DW.no rfl rfl (by decide) ?_
                        refine DW.no rfl rfl (by decide) ?_
                        refine DW.no rfl rfl (by decide) ?_
                        refine DW.no rfl rfl (by decide) ?_
                        refine DW.no rfl rfl (by decide) ?_
                        refine DW.no rfl rfl (by decide) ?_
                        refine DW.no rfl rfl (by decide) ?_
                        refine DW.no rfl rfl (by decide) ?_
                        refine DW.no rfl rfl (by decide) ?_
                        refine DW.no rfl rfl (by decide) ?_
                        refine DW.no rfl rfl (by decide) ?_
                        refine DW.no rfl rfl (by decide) ?_
                        refine DW.x rfl rfl (X.pickT rfl rfl rfl) (by decide) ?_
                        refine DW.nil ?_
                        refine WK.nThen ?_
                        refine WC.condT rfl ?_
                        refine WC.seq ?_
                        refine WC.region ?_
                        refine WL.x (X.assign rfl) (by decide) ?_
                        refine WL.nil ?_
                        refine WK.nThen ?_
                        refine WC.ret ?_
                        refine WK.rBlock ?_
                        refine WK.rThen ?_
                        refine WK.rThen ?_
                        refine WK.rBlock ?_
                        refine WK.rThen ?_
                        refine WK.ret1 rfl rfl (fun w' hw' => Ret.exact hw' ?_)
                        first | rfl | (exfalso; omega) | exact (bool_true (by have := wayR_len (w := w) (l := l) (a := a) (b := b) (by omega); omega)).symm | exact (bool_true (by omega)).symm
                      · refine DW.x rfl rfl (X.pickF rfl rfl rfl) (by decide) ?_
                        refine DW.x rfl rfl (X.move rfl) (by decide) ?_
                        refine DW.x rfl rfl (X.move rfl) (by decide) ?_
                        refine DW.x rfl rfl (X.move rfl) (by decide) ?_
                        refine DW.x rfl rfl (X.move rfl) (by decide) ?_
                        refine DW.x rfl rfl (X.move rfl) (by decide) ?_
                        refine DW.xe rfl rfl (E.idxN i Try.runUnderlying31 Try.sizeOf3 rfl rfl hs16 (by omega)) (by decide) (fun p44 hp45 => ?_)
                        refine DW.x rfl rfl (X.loadInt Try.isAgg3 rfl hp45) (by decide) ?_
                        refine DW.xe rfl rfl (E.idx Try.runUnderlying27 Try.sizeOf31 rfl rfl hs9 (by omega) (by omega)) (by decide) (fun p46 hp47 => ?_)
                        refine DW.xe rfl rfl (E.loadSl Try.isAgg31 rfl hp47) (by decide) (fun v48 hs49 => ?_)
                        have hl50 := hs49.le
                        refine DW.x rfl rfl (X.move rfl) (by decide) ?_
                        refine DW.xe rfl rfl (E.idxN nb Try.runUnderlying31 Try.sizeOf3 rfl rfl hs49 (by omega)) (by decide) (fun p51 hp52 => ?_)
                        refine DW.x rfl rfl (X.loadInt Try.isAgg3 rfl hp52) (by decide) ?_
                        refine DW.condn rfl rfl (X.neq rfl rfl) (by decide) (fun h53 => ?_) (fun h53 => ?_)
                        · refine DW.x rfl rfl (X.pickF rfl rfl rfl) (by decide) ?_
                          refine DW.nil ?_
                          refine WK.nThen ?_
                          refine WC.condT rfl ?_
                          refine WC.seq ?_
                          refine WC.region ?_
                          refine WL.x (X.assign rfl) (by decide) ?_
                          refine WL.nil ?_
                          refine WK.nThen ?_
                          refine WC.ret ?_
                          refine WK.rBlock ?_
                          refine WK.rThen ?_
                          refine WK.rThen ?_
                          refine WK.rBlock ?_
                          refine WK.rThen ?_
                          refine WK.ret1 rfl rfl (fun w' hw' => Ret.exact hw' ?_)
                          first | rfl | (exfalso; omega) | exact (bool_true (by have := wayR_len (w := w) (l := l) (a := a) (b := b) (by omega); omega)).symm | exact (bool_true (by omega)).symm
                        · refine DW.x rfl rfl (X.pickF rfl rfl rfl) (by decide) ?_
                          refine DW.nil ?_
                          refine WK.nThen ?_
                          refine WC.condF rfl ?_
                          refine WC.skip ?_
                          refine WK.nBlock ?_
                          refine WK.nThen ?_
                          refine WC.region ?_
                          refine WL.x (X.move rfl) (by decide) ?_
                          refine WL.x (X.add rfl rfl (by omega) (by omega)) (by decide) ?_
                          refine WL.x (X.assign rfl) (by decide) ?_
                          refine WL.nil ?_
                          refine WK.nThen ?_
                          refine WK.next (i + 1) rfl (.refl _) (.cons rfl (.cons rfl (.cons rfl (.cons rfl (.cons rfl (.cons rfl (.cons rfl (.cons rfl (.cons rfl .nil))))))))) ?_ ?_
                          · omega
                          · omega
                    · refine WL.nil ?_
                      refine WK.nThen ?_
                      refine WC.condF rfl ?_
                      refine WC.exit ?_
                      refine WK.eThen ?_
                      refine WK.eThen ?_
                      refine WK.eHit ?_
                      refine WK.nThen ?_
                      refine WC.seq ?_
                      refine WC.region ?_
                      refine WL.x (X.loadBA (k := 0) Try.isAgg23 Try.sizeOf23 rfl rfl rfl) (by decide) ?_
                      refine WL.x (X.move rfl) (by decide) ?_
                      refine WL.x (X.move rfl) (by decide) ?_
                      refine WL.x (X.call Try.call33 rfl (long33 _ _ w rfl _ _ hl _ _ hother (by first | omega | (simp only [List.length_take, List.length_drop]; omega)))) (by decide) ?_
                      refine WL.x (X.move rfl) (by decide) ?_
                      refine WL.x (X.extract rfl rfl) (by decide) ?_
                      refine WL.x (X.extract rfl rfl) (by decide) ?_
                      refine WL.x (X.assign rfl) (by decide) ?_
                      refine WL.x (X.assign rfl) (by decide) ?_
                      refine WL.nil ?_
                      refine WK.nThen ?_
                      refine WC.seq ?_
                      refine WC.draw (π := (.cons 0 (.cons 1 (.cons 2 (.cons 3 (.cons 4 (.cons 5 (.cons 6 (.cons 7 (.cons 8 (.cons 9 (.cons 10 (.cons 11 (.cons 12 (.cons 13 (.cons 14 (.cons 15 (.cons 16 (.cons 17 (.cons 18 (.cons 19 (.cons 20 (.cons 21 (.cons 22 (.cons 23 .done))))))))))))))))))))))))) [] [] rfl (by kernel_rfl) ?_
                      refine DW.x rfl rfl (X.move rfl) (by decide) ?_
                      refine DW.x rfl rfl (X.move rfl) (by decide) ?_
                      refine DW.x rfl rfl (X.move rfl) (by decide) ?_
                      refine DW.condb rfl rfl (X.not rfl) (by decide) (fun h54 => ?_) (fun h54 => ?_)
                      · refine DW.x rfl rfl (X.move rfl) (by decide) ?_
                        refine DW.no rfl rfl (by decide) ?_
                        refine DW.no rfl rfl (by decide) ?_
                        refine DW.no rfl rfl (by decide) ?_
                        refine DW.no rfl rfl (by decide) ?_
                        refine DW.no rfl rfl (by decide) ?_
                        refine DW.no rfl rfl (by decide) ?_
                        refine DW.no rfl rfl (by decide) ?_
                        refine DW.no rfl rfl (by decide) ?_
                        refine DW.no rfl rfl (by decide) ?_
                        refine DW.no rfl rfl (by decide) ?_
                        refine DW.no rfl rfl (by decide) ?_
                        refine DW.no rfl rfl (by decide) ?_
                        refine DW.no rfl rfl (by decide) ?_
                        refine DW.no rfl rfl (by decide) ?_
                        refine DW.no rfl rfl (by decide) ?_
                        refine DW.no rfl rfl (by decide) ?_
                        refine DW.x rfl rfl (X.pickT rfl rfl rfl) (by decide) ?_
                        refine DW.x rfl rfl (X.pickT rfl rfl rfl) (by decide) ?_
                        refine DW.x rfl rfl (X.assign rfl) (by decide) ?_
                        refine DW.nil ?_
                        refine WK.nThen ?_
                        refine WC.ret ?_
                        refine WK.ret1 rfl rfl (fun w' hw' => Ret.exact hw' ?_)
                        first | rfl | (exfalso; omega) | exact (bool_true (by have := wayR_len (w := w) (l := l) (a := a) (b := b) (by omega); omega)).symm | exact (bool_true (by omega)).symm
                      · have hge := long_ge hw0 (way := other) (by simpa using h54)
                        unfold stopAt at hge
                        have tro := tightL_row (w := w) (l := l) (i := (gt other 0).toNat) (by omega)
                        have tao := tightL_at (w := w) (l := l) (i := (gt other 0).toNat) (k := (gt other (other.length - 1)).toNat) (by omega) (by omega)
                        refine DW.x rfl rfl (X.move rfl) (by decide) ?_
                        refine DW.x rfl rfl (X.move rfl) (by decide) ?_
                        refine DW.x rfl rfl (X.move rfl) (by decide) ?_
                        refine DW.x rfl rfl (X.move rfl) (by decide) ?_
                        refine DW.xe rfl rfl (E.idxN 0 Try.runUnderlying31 Try.sizeOf3 rfl rfl hother (by omega)) (by decide) (fun p55 hp56 => ?_)
                        refine DW.x rfl rfl (X.loadInt Try.isAgg3 rfl hp56) (by decide) ?_
                        refine DW.xe rfl rfl (E.idx Try.runUnderlying27 Try.sizeOf31 rfl rfl hs9 (by omega) (by omega)) (by decide) (fun p57 hp58 => ?_)
                        refine DW.xe rfl rfl (E.loadSl Try.isAgg31 rfl hp58) (by decide) (fun v59 hs60 => ?_)
                        have hl61 := hs60.le
                        refine DW.x rfl rfl (X.move rfl) (by decide) ?_
                        refine DW.x rfl rfl (X.move rfl) (by decide) ?_
                        refine DW.x rfl rfl (X.len Try.runUnderlying31 rfl hother) (by decide) ?_
                        refine DW.x rfl rfl (X.sub rfl rfl (by omega) (by omega)) (by decide) ?_
                        refine DW.xe rfl rfl (E.idxE (other.length - 1) Try.runUnderlying31 Try.sizeOf3 rfl rfl hother (by omega) (by omega)) (by decide) (fun p62 hp63 => ?_)
                        refine DW.x rfl rfl (X.loadInt Try.isAgg3 rfl hp63) (by decide) ?_
                        refine DW.xe rfl rfl (E.idx Try.runUnderlying31 Try.sizeOf3 rfl rfl hs60 (by omega) (by omega)) (by decide) (fun p64 hp65 => ?_)
                        refine DW.x rfl rfl (X.loadInt Try.isAgg3 rfl hp65) (by decide) ?_
                        refine DW.x rfl rfl (X.geq rfl rfl) (by decide) ?_
                        refine DW.x rfl rfl (X.pickF rfl rfl rfl) (by decide) ?_
                        refine DW.x rfl rfl (X.pickT rfl rfl rfl) (by decide) ?_
                        refine DW.x rfl rfl (X.assign rfl) (by decide) ?_
                        refine DW.nil ?_
                        refine WK.nThen ?_
                        refine WC.ret ?_
                        refine WK.ret1 rfl rfl (fun w' hw' => Ret.exact hw' ?_)
                        first | rfl | (exfalso; omega) | exact (bool_true (by have := wayR_len (w := w) (l := l) (a := a) (b := b) (by omega); omega)).symm | exact (bool_true (by omega)).symm
  · refine WL.x (X.not rfl) (by decide) ?_
    refine WL.x (X.move rfl) (by decide) ?_
    refine WL.no rfl rfl rfl (by decide) ?_
    refine WL.no rfl rfl rfl (by decide) ?_
    refine WL.no rfl rfl rfl (by decide) ?_
    refine WL.x (X.pickT rfl rfl rfl) (by decide) ?_
    refine WL.nil ?_
    refine WK.nThen ?_
    refine WC.condT rfl ?_
    refine WC.seq ?_
    refine WC.region ?_
    refine WL.x (X.move rfl) (by decide) ?_
    refine WL.x (X.assign rfl) (by decide) ?_
    refine WL.nil ?_
    refine WK.nThen ?_
    refine WC.ret ?_
    refine WK.rThen ?_
    refine WK.ret1 rfl rfl (fun w' hw' => Ret.exact hw' ?_)
    first | rfl | (exfalso; omega) | exact (bool_true (by have := wayR_len (w := w) (l := l) (a := a) (b := b) (by omega); omega)).symm | exact (bool_true (by omega)).symm

end Go.Proofs.S5
namespace Go.Proofs.Ytcpecjgppbiplaa
open Go Go.Kx Go.Proofs.S5
set_option linter.unusedVariables false
namespace LStationsWays
theorem own : ownKnob Try.prog.godebug = none := by kernel_rfl
theorem laidOut : laidOutB Try.prog = true := by kernel_rfl
set_option maxRecDepth 100000 in
theorem lifted (os : Os) (started : os.Started) (H : Type) (enc : TypeId × Value → H) :
    ReturnsInHanded {} Try.checked os 7 .any (Rows.stationsWaysSpec.pre6 enc Try.prog Try.f7 Rows.stationsWaysRow.domain false) (Rows.stationsWaysSpec.post enc Try.prog Try.f7 false true false false) := by
  refine returnsInHanded_of_change_sized (C := Try.checked) own started (by kernel_rfl) Try.func7
    (ChangeSpec.witness6 (enc := enc) (C := Try.checked) false ⟨#[], #[.agg #[.int .i64 0, .int .i64 0], .slice none 0 0, .int .i64 0, .int .i64 0, .slice none 0 0], []⟩ 8 (by kernel_rfl) (by kernel_rfl) (by kernel_rfl) (by kernel_rfl)) ?_
  intro W base args ds gs before hval0 hW hcnd hwt _
  have hval : ∀ (j : Nat) t v, Try.f7.params[j]? = some t → args[j]? = some v → Value.okWide Try.prog W .any base t v := hval0
  have hW' := hW
  obtain ⟨p, q, hA0, hV, rfl, hfz, hnd⟩ := hW
  have hA : DataW.TrodAll enc Try.prog W 0 (fun _ => true) true Try.f7.params.toList args.toList ds p := hA0
  rw [Try.params7] at hA hval
  obtain ⟨v0, vs0, d0, ds0, p0, q0, hargs, rfl, rfl, h0, r0⟩ := ChangeShapes.trodAll_cons hA
  obtain ⟨v1, vs1, d1, ds1, p1, q1, rfl, rfl, rfl, h1, r1⟩ := ChangeShapes.trodAll_cons r0
  obtain ⟨v2, vs2, d2, ds2, p2, q2, rfl, rfl, rfl, h2, r2⟩ := ChangeShapes.trodAll_cons r1
  obtain ⟨v3, vs3, d3, ds3, p3, q3, rfl, rfl, rfl, h3, r3⟩ := ChangeShapes.trodAll_cons r2
  obtain ⟨v4, vs4, d4, ds4, p4, q4, rfl, rfl, rfl, h4, r4⟩ := ChangeShapes.trodAll_cons r3
  obtain ⟨rfl, rfl, rfl⟩ := ChangeShapes.trodAll_nil r4
  obtain rfl : args = #[v0, v1, v2, v3, v4] := by cases args; simp_all
  obtain ⟨rfl, rfl⟩ := ChangeShapes.trodVars_none hV
  have hwts : (DataW.weightsEach Try.prog [23, 24, 3, 3, 31] [d0, d1, d2, d3, d4]).all (· ≤ reachBytes) = true := hwt
  have lt0 : ∀ x ∈ p0, x.block < W.heap.size := by obtain ⟨m, hm⟩ := h0; exact DataW.trod_lt m _ _ _ hm
  have lt1 : ∀ x ∈ p1, x.block < W.heap.size := by obtain ⟨m, hm⟩ := h1; exact DataW.trod_lt m _ _ _ hm
  have lt2 : ∀ x ∈ p2, x.block < W.heap.size := by obtain ⟨m, hm⟩ := h2; exact DataW.trod_lt m _ _ _ hm
  have lt3 : ∀ x ∈ p3, x.block < W.heap.size := by obtain ⟨m, hm⟩ := h3; exact DataW.trod_lt m _ _ _ hm
  have lt4 : ∀ x ∈ p4, x.block < W.heap.size := by obtain ⟨m, hm⟩ := h4; exact DataW.trod_lt m _ _ _ hm
  have g0 := hval 0 23 v0 rfl rfl
  have k0 := h0
  obtain ⟨c0, x0, rfl, s0, ok0⟩ := arg_st br23 Try.underlying23 g0 h0 (weigh hwts (j := 0) rfl rfl)
  have g1 := hval 1 24 v1 rfl rfl
  have k1 := h1
  obtain ⟨x1, s1, ok1⟩ := arg_sl br24 Try.underlying24 g1 h1 (weigh hwts (j := 1) rfl rfl)
  have g2 := hval 2 3 v2 rfl rfl
  have k2 := h2
  obtain ⟨x2, rfl, lo2, hi2⟩ := arg_int Try.underlying3 g2 h2
  have g3 := hval 3 3 v3 rfl rfl
  have k3 := h3
  obtain ⟨x3, rfl, lo3, hi3⟩ := arg_int Try.underlying3 g3 h3
  have g4 := hval 4 31 v4 rfl rfl
  have k4 := h4
  obtain ⟨x4, s4, ok4⟩ := arg_sl br31 Try.underlying31 g4 h4 (weigh hwts (j := 4) rfl rfl)
  clear hA0 hval0
  refine (Exact.law (Go.Proofs.S5.law7 (Mem.all W) c0 x0 s0 _ x1 s1 x2 x3 _ x4 s4 ok0 ok1 lo2 hi2 lo3 hi3 ok4)).mono fun e W' ⟨he, bel⟩ => ?_
  subst he
  exact ⟨_, rfl, _, _, _, [], _, [], hW', ChangeShapes.trodAll_mk1 (RowKit.shut_bool Try.underlying4 _), (trodAll_cons_mk (RowKit.Below.trod laidOut (by kernel_rfl) (of_decide_eq_true (by kernel_rfl)) k0 bel lt0) (trodAll_cons_mk (RowKit.Below.trod laidOut (by kernel_rfl) (of_decide_eq_true (by kernel_rfl)) k1 bel lt1) (trodAll_cons_mk (RowKit.Below.trod laidOut (by kernel_rfl) (of_decide_eq_true (by kernel_rfl)) k2 bel lt2) (trodAll_cons_mk (RowKit.Below.trod laidOut (by kernel_rfl) (of_decide_eq_true (by kernel_rfl)) k3 bel lt3) (trodAll_cons_mk (RowKit.Below.trod laidOut (by kernel_rfl) (of_decide_eq_true (by kernel_rfl)) k4 bel lt4) ChangeShapes.trodAll_mk0))))), rfl, bel.frame _, fun h => by cases h⟩
theorem over : Rows.stationsWaysRow.holds Try.pinned (OpenSpec.ofChange Rows.stationsWaysSpec) :=
  OpenClaim.holds_of_wide 7 Try.f7 rfl rfl rfl rfl rfl rfl rfl ⟨rfl, rfl, rfl, rfl, rfl⟩ rfl rfl rfl rfl rfl (by kernel_rfl) Try.func7 (by kernel_rfl)
    (of_decide_eq_true (by kernel_rfl)) (by unfold Func.isWrapper; first | (rw [if_pos (by decide +kernel)]; kernel_rfl) | (rw [if_neg (by decide +kernel)]; exact ⟨rfl, rfl⟩))
    (fun os started H enc _ => lifted os started H enc)
end LStationsWays
theorem stationsWays_holds : Rows.StationsWaysSaid := LStationsWays.over
end Go.Proofs.Ytcpecjgppbiplaa
