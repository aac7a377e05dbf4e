/- The walk of the statement CenturySlopes: its function answers true. -/
import Derived.Test.YtednficclnjmjaaC8Br
import Derived.Test.YtednficclnjmjaaC8W9
import Derived.Test.YtednficclnjmjaaC8LMir
import Derived.Test.YtednficclnjmjaaC8LReal
import Derived.Test.YtednficclnjmjaaC8W12
namespace Go.Proofs.C8
open Go Go.Kx
set_option linter.unusedSimpArgs false
set_option linter.unusedVariables false
set_option maxRecDepth 20000 in
set_option maxHeartbeats 4000000 in
theorem law14 (m : Mem) (cs : List Value) (s : Ser) (hs : Enc.rd m cs s)  (ok0 : Rng.ok s) : Exact Try.prog 14 #[.agg cs.toArray] m (.bool true) := by
 obtain ⟨v1, v3, rfl, hs2, hs4⟩ := hs
 have hl5 := hs2.le
 have hl6 := hs4.le
 refine Exact.start Try.func14 rfl Try.ntmps14 rfl fun wld => ?_
 refine WC.seq ?_
 refine WC.region ?_
 refine WL.tn (T.boxB rfl rfl) (by decide) fun b7 => ?_
 refine WL.x (X.assign rfl) (by decide) ?_
 refine WL.nil ?_
 refine WK.nThen ?_
 refine WC.seq ?_
 refine WC.region ?_
 refine WL.x (X.call Try.call21 rfl (awake21 _  )) (by decide) ?_
 refine WL.x (X.assign rfl) (by decide) ?_
 refine WL.nil ?_
 refine WK.nThen ?_
 refine WC.seq ?_
 refine WC.seq ?_
 refine WC.region ?_
 refine WL.x (X.loadBA (k := 0) Try.isAgg25 Try.sizeOf25 rfl rfl rfl) (by decide) ?_
 refine WL.cond (X.call Try.call22 rfl (few22 _ _ s ⟨_, _, rfl, hs2, hs4⟩ )) (by decide) (fun h8 => ?_) (fun h8 => ?_)
 ·refine WL.x (X.not rfl) (by decide) ?_
  refine WL.nil ?_
  refine WK.nThen ?_
  refine WC.condF rfl ?_
  refine WC.skip ?_
  refine WK.nThen ?_
  refine WC.seq ?_
  refine WC.region ?_
  refine WL.x (X.loadBA (k := 0) Try.isAgg25 Try.sizeOf25 rfl rfl rfl) (by decide) ?_
  refine WL.x (X.call Try.call36 rfl (slope36 _ _ s ⟨_, _, rfl, hs2, hs4⟩ )) (by decide) ?_
  refine WL.x (X.move rfl) (by decide) ?_
  refine WL.x (X.extract rfl rfl) (by decide) ?_
  refine WL.x (X.extract rfl rfl) (by decide) ?_
  refine WL.x (X.extract rfl rfl) (by decide) ?_
  refine WL.tn (T.alloc Try.zeroValue45 rfl) (by decide) fun b9 => ?_
  refine WL.tn (T.alloc Try.zeroValue45 rfl) (by decide) fun b10 => ?_
  refine WL.ts (T.storeBA (k := 1) Try.sizeOf45 rfl rfl rfl (one_cons rfl (one_cons rfl one_nil)) rfl rfl) ?_
  refine WL.ts (T.storeBA (k := 0) Try.sizeOf45 rfl rfl rfl (one_cons rfl (one_cons rfl one_nil)) rfl rfl) ?_
  refine WL.x (X.assign rfl) (by decide) ?_
  refine WL.nil ?_
  refine WK.nThen ?_
  refine WC.seq ?_
  refine WC.region ?_
  refine WL.x (X.loadBA (k := 2) Try.isAgg25 Try.sizeOf25 rfl rfl rfl) (by decide) ?_
  refine WL.x (X.call Try.call60 rfl (slope60 _ _ s ⟨_, _, rfl, hs2, hs4⟩ )) (by decide) ?_
  refine WL.x (X.move rfl) (by decide) ?_
  refine WL.x (X.extract rfl rfl) (by decide) ?_
  refine WL.x (X.extract rfl rfl) (by decide) ?_
  refine WL.x (X.extract rfl rfl) (by decide) ?_
  refine WL.tn (T.alloc Try.zeroValue45 rfl) (by decide) fun b11 => ?_
  refine WL.tn (T.alloc Try.zeroValue45 rfl) (by decide) fun b12 => ?_
  refine WL.ts (T.storeBA (k := 1) Try.sizeOf45 rfl rfl rfl (one_cons rfl (one_cons rfl one_nil)) rfl rfl) ?_
  refine WL.ts (T.storeBA (k := 0) Try.sizeOf45 rfl rfl rfl (one_cons rfl (one_cons rfl one_nil)) rfl rfl) ?_
  refine WL.x (X.assign rfl) (by decide) ?_
  refine WL.nil ?_
  refine WK.nThen ?_
  refine WC.seq ?_
  refine WC.region ?_
  refine WL.x (X.loadBA (k := 4) Try.isAgg25 Try.sizeOf25 rfl rfl rfl) (by decide) ?_
  refine WL.x (X.call Try.call61 rfl (trend61 _ _ s ⟨_, _, rfl, hs2, hs4⟩ )) (by decide) ?_
  refine WL.x (X.move rfl) (by decide) ?_
  refine WL.x (X.extract rfl rfl) (by decide) ?_
  refine WL.x (X.extract rfl rfl) (by decide) ?_
  refine WL.x (X.assign rfl) (by decide) ?_
  refine WL.x (X.assign rfl) (by decide) ?_
  refine WL.nil ?_
  refine WK.nThen ?_
  refine WC.seq ?_
  refine WC.region ?_
  refine WL.x (X.loadBA (k := 4) Try.isAgg25 Try.sizeOf25 rfl rfl rfl) (by decide) ?_
  refine WL.x (X.call Try.call62 rfl (trend62 _ _ s ⟨_, _, rfl, hs2, hs4⟩ )) (by decide) ?_
  refine WL.x (X.move rfl) (by decide) ?_
  refine WL.x (X.extract rfl rfl) (by decide) ?_
  refine WL.x (X.extract rfl rfl) (by decide) ?_
  refine WL.x (X.assign rfl) (by decide) ?_
  refine WL.x (X.assign rfl) (by decide) ?_
  refine WL.nil ?_
  refine WK.nThen ?_
  refine WC.seq ?_
  refine WC.cut (G := Unit) (fun u_ => m) (fun u_ => [blk b12 45 [.int .i64 ((slopeR s).2.1.Num), .int .i64 ((slopeR s).2.1.Den)], blk b11 45 [.int .i64 ((slopeR s).1.Num), .int .i64 ((slopeR s).1.Den)], blk b10 45 [.int .i64 ((slopeR s).2.1.Num), .int .i64 ((slopeR s).2.1.Den)], blk b9 45 [.int .i64 ((slopeR s).1.Num), .int .i64 ((slopeR s).1.Den)], blk b7 25 [v1, v3]]) (fun u_ => [(1, .pointer (some ⟨b7, 0, none⟩)), (3, .bool true), (7, .pointer (some ⟨b11, 0, none⟩)), (8, .pointer (some ⟨b12, 0, none⟩)), (9, .int .i64 ((slopeR s).2.2)), (70, .bool false)]) (fun u_ => True) ?_ ?_
  ·refine WC.region ?_
   refine WL.x (X.loadBA (k := 3) Try.isAgg45 Try.sizeOf45 rfl rfl rfl) (by decide) ?_
   refine WL.x (X.loadBA (k := 1) Try.isAgg45 Try.sizeOf45 rfl rfl rfl) (by decide) ?_
   refine WL.x (OpX.f (X.neqS (a := (slopeR s).1) (b := (slopeR s).1) gd45 (fun w => eqS45 9998 _ _ w) rfl rfl) (fun h => h rfl)) (by decide) ?_
   refine WL.x (X.move rfl) (by decide) ?_
   refine WL.yes rfl rfl ?_
   refine WL.x (X.loadBA (k := 2) Try.isAgg45 Try.sizeOf45 rfl rfl rfl) (by decide) ?_
   refine WL.yes rfl rfl ?_
   refine WL.x (X.loadBA (k := 0) Try.isAgg45 Try.sizeOf45 rfl rfl rfl) (by decide) ?_
   refine WL.yes rfl rfl ?_
   refine WL.x (OpX.f (X.neqS (a := (slopeR s).2.1) (b := (slopeR s).2.1) gd45 (fun w => eqS45 9998 _ _ w) rfl rfl) (fun h => h rfl)) (by decide) ?_
   refine WL.x (X.pickF rfl rfl rfl) (by decide) ?_
   refine WL.x (X.move rfl) (by decide) ?_
   refine WL.yes rfl rfl ?_
   refine WL.x (X.move rfl) (by decide) ?_
   refine WL.yes rfl rfl ?_
   refine WL.x (X.move rfl) (by decide) ?_
   refine WL.yes rfl rfl ?_
   refine WL.x (OpX.f (X.neq rfl rfl) (fun h => h rfl)) (by decide) ?_
   refine WL.x (X.pickF rfl rfl rfl) (by decide) ?_
   refine WL.x (X.move rfl) (by decide) ?_
   refine WL.yes rfl rfl ?_
   refine WL.x (X.move rfl) (by decide) ?_
   refine WL.yes rfl rfl ?_
   refine WL.x (X.move rfl) (by decide) ?_
   refine WL.yes rfl rfl ?_
   refine WL.x (OpX.f (X.neq rfl rfl) (fun h => h rfl)) (by decide) ?_
   refine WL.x (X.pickF rfl rfl rfl) (by decide) ?_
   refine WL.x (X.move rfl) (by decide) ?_
   refine WL.yes rfl rfl ?_
   refine WL.x (X.move rfl) (by decide) ?_
   refine WL.yes rfl rfl ?_
   refine WL.x (X.move rfl) (by decide) ?_
   refine WL.yes rfl rfl ?_
   refine WL.x (OpX.f (X.neq rfl rfl) (fun h => h rfl)) (by decide) ?_
   refine WL.x (X.pickF rfl rfl rfl) (by decide) ?_
   refine WL.nil ?_
   refine WK.nThen ?_
   refine WK.meet (()) rfl (.refl _) (.cons rfl (.cons rfl (.cons rfl (.cons rfl (.cons rfl (.cons rfl .nil)))))) ?_
   trivial
  ·rintro u_ hF13
   show WK _ _ m [blk b12 45 [.int .i64 ((slopeR s).2.1.Num), .int .i64 ((slopeR s).2.1.Den)], blk b11 45 [.int .i64 ((slopeR s).1.Num), .int .i64 ((slopeR s).1.Den)], blk b10 45 [.int .i64 ((slopeR s).2.1.Num), .int .i64 ((slopeR s).2.1.Den)], blk b9 45 [.int .i64 ((slopeR s).1.Num), .int .i64 ((slopeR s).1.Den)], blk b7 25 [v1, v3]] [(1, .pointer (some ⟨b7, 0, none⟩)), (3, .bool true), (7, .pointer (some ⟨b11, 0, none⟩)), (8, .pointer (some ⟨b12, 0, none⟩)), (9, .int .i64 ((slopeR s).2.2)), (70, .bool false)] _
   replace hF13 : True := hF13
   refine WC.condF rfl ?_
   refine WC.skip ?_
   refine WK.nThen ?_
   refine WC.seq ?_
   refine WC.seq ?_
   refine WC.region ?_
   refine WL.x (X.assign rfl) (by decide) ?_
   refine WL.nil ?_
   refine WK.nThen ?_
   refine WC.block ?_
   refine WC.loop (G := Nat) (fun i => 2 - i) (fun i => m) (fun i => [blk b12 45 [.int .i64 ((slopeR s).2.1.Num), .int .i64 ((slopeR s).2.1.Den)], blk b11 45 [.int .i64 ((slopeR s).1.Num), .int .i64 ((slopeR s).1.Den)], blk b10 45 [.int .i64 ((slopeR s).2.1.Num), .int .i64 ((slopeR s).2.1.Den)], blk b9 45 [.int .i64 ((slopeR s).1.Num), .int .i64 ((slopeR s).1.Den)], blk b7 25 [v1, v3]]) (fun i => [(1, .pointer (some ⟨b7, 0, none⟩)), (3, .bool true), (7, .pointer (some ⟨b11, 0, none⟩)), (8, .pointer (some ⟨b12, 0, none⟩)), (9, .int .i64 ((slopeR s).2.2)), (14, .int .i64 (↑i))]) (fun i => i ≤ 2) 0 rfl (.refl _) (.cons rfl (.cons rfl (.cons rfl (.cons rfl (.cons rfl (.cons rfl .nil)))))) ?_ ?_
   ·exact Nat.zero_le _
   ·rintro i hF14
    show WK _ _ m [blk b12 45 [.int .i64 ((slopeR s).2.1.Num), .int .i64 ((slopeR s).2.1.Den)], blk b11 45 [.int .i64 ((slopeR s).1.Num), .int .i64 ((slopeR s).1.Den)], blk b10 45 [.int .i64 ((slopeR s).2.1.Num), .int .i64 ((slopeR s).2.1.Den)], blk b9 45 [.int .i64 ((slopeR s).1.Num), .int .i64 ((slopeR s).1.Den)], blk b7 25 [v1, v3]] [(1, .pointer (some ⟨b7, 0, none⟩)), (3, .bool true), (7, .pointer (some ⟨b11, 0, none⟩)), (8, .pointer (some ⟨b12, 0, none⟩)), (9, .int .i64 ((slopeR s).2.2)), (14, .int .i64 (↑i))] _
    replace hF14 : i ≤ 2 := hF14
    have hi := hF14
    refine WK.good (fun hgood0 => ?_)
    refine WC.seq ?_
    refine WC.seq ?_
    refine WC.region ?_
    refine WL.x (X.move rfl) (by decide) ?_
    refine WL.cond (X.lss rfl rfl) (by decide) (fun h15 => ?_) (fun h15 => ?_)
    ·refine WL.nil ?_
     refine WK.nThen ?_
     refine WC.condT rfl ?_
     refine WC.skip ?_
     refine WK.nThen ?_
     refine WC.seq ?_
     refine WC.block ?_
     refine WC.seq ?_
     refine WC.region ?_
     refine WL.x (X.loadBA (k := 4) Try.isAgg25 Try.sizeOf25 rfl rfl rfl) (by decide) ?_
     refine WL.x (X.move rfl) (by decide) ?_
     refine WL.x (X.eql rfl rfl) (by decide) ?_
     refine WL.tm (T.call Try.call63 rfl (slopeAt63 _ _ s ⟨_, _, rfl, hs2, hs4⟩ _ )) (by decide) fun m16 r17 hle18 hR19 => ?_
     obtain ⟨v20, v22, rfl, hs21, hs23⟩ := hR19
     replace hs2 := hs2.mono hle18
     replace hs4 := hs4.mono hle18
     have hl24 := hs21.le
     have hl25 := hs23.le
     refine WL.x (X.move rfl) (by decide) ?_
     refine WL.x (X.extract rfl rfl) (by decide) ?_
     refine WL.x (X.extract rfl rfl) (by decide) ?_
     refine WL.x (X.extract rfl rfl) (by decide) ?_
     refine WL.x (X.assign rfl) (by decide) ?_
     refine WL.x (X.assign rfl) (by decide) ?_
     refine WL.x (X.assign rfl) (by decide) ?_
     refine WL.nil ?_
     refine WK.nThen ?_
     refine WC.seq ?_
     refine WC.seq ?_
     have hse := sat_err s (decide ((↑i : Int) = 1))
     refine WC.region ?_
     refine WL.x (X.move rfl) (by decide) ?_
     refine WL.x (X.move rfl) (by decide) ?_
     refine WL.condn (X.neq rfl rfl) (by decide) (fun h26 => ?_) (fun h26 => ?_)
     ·refine WL.nil ?_
      refine WK.nThen ?_
      refine WC.condT rfl ?_
      refine WC.seq ?_
      refine WC.region ?_
      refine WL.x (X.assign rfl) (by decide) ?_
      refine WL.nil ?_
      refine WK.nThen ?_
      refine WC.ret ?_
      refine WK.rThen ?_
      refine WK.rBlock ?_
      refine WK.rThen ?_
      refine WK.rThen ?_
      refine WK.rBlock ?_
      refine WK.rThen ?_
      refine WK.ret1 rfl rfl (fun w' hw' => Ret.exact hw' ?_)
      first | rfl | (exfalso; omega) | (exfalso; contradiction) | (exfalso; have q_ := hT (by omega); contradiction) | (exfalso; have q_ := hF (by omega); contradiction)
     ·refine WL.nil ?_
      refine WK.nThen ?_
      refine WC.condF rfl ?_
      refine WC.skip ?_
      refine WK.nThen ?_
      refine WC.seq ?_
      refine WC.seq ?_
      refine WC.region ?_
      refine WL.x (X.move rfl) (by decide) ?_
      refine WL.condn (X.neq rfl rfl) (by decide) (fun h27 => ?_) (fun h27 => ?_)
      ·refine WL.nil ?_
       refine WK.nThen ?_
       refine WC.condT rfl ?_
       refine WC.seq ?_
       refine WC.seq ?_
       have hsn := sat_nil (s := s) (b := (decide ((↑i : Int) = 1))) (by omega)
       have hsn1 := hsn.1
       have hsn2 := hsn.2
       refine WC.region ?_
       refine WL.x (X.move rfl) (by decide) ?_
       refine WL.x (X.len Try.runUnderlying28 rfl hs21) (by decide) ?_
       refine WL.x (X.move rfl) (by decide) ?_
       refine WL.x (X.len Try.runUnderlying28 rfl hs23) (by decide) ?_
       refine WL.x (X.add rfl rfl (by omega) (by omega)) (by decide) ?_
       refine WL.cond (X.gtr rfl rfl) (by decide) (fun h28 => ?_) (fun h28 => ?_)
       ·refine WL.nil ?_
        refine WK.nThen ?_
        refine WC.condT rfl ?_
        refine WC.seq ?_
        refine WC.region ?_
        refine WL.x (X.assign rfl) (by decide) ?_
        refine WL.nil ?_
        refine WK.nThen ?_
        refine WC.ret ?_
        refine WK.rThen ?_
        refine WK.rThen ?_
        refine WK.rBlock ?_
        refine WK.rThen ?_
        refine WK.rThen ?_
        refine WK.rBlock ?_
        refine WK.rThen ?_
        refine WK.ret1 rfl rfl (fun w' hw' => Ret.exact hw' ?_)
        first | rfl | (exfalso; omega) | (exfalso; contradiction) | (exfalso; have q_ := hT (by omega); contradiction) | (exfalso; have q_ := hF (by omega); contradiction)
       ·refine WL.nil ?_
        refine WK.nThen ?_
        refine WC.condF rfl ?_
        refine WC.skip ?_
        refine WK.nThen ?_
        refine WC.exit ?_
        refine WK.eThen ?_
        refine WK.eHit ?_
        refine WK.nThen ?_
        refine WC.region ?_
        refine WL.x (X.move rfl) (by decide) ?_
        refine WL.x (X.add rfl rfl (by omega) (by omega)) (by decide) ?_
        refine WL.x (X.assign rfl) (by decide) ?_
        refine WL.nil ?_
        refine WK.nThen ?_
        refine WK.back hgood0 hle18 ?_
        refine WK.next (i + 1) rfl (.refl _) (.cons rfl (.cons rfl (.cons rfl (.cons rfl (.cons rfl (.cons rfl .nil)))))) ?_ ?_
        ·omega
        ·omega
      ·refine WL.nil ?_
       refine WK.nThen ?_
       refine WC.condF rfl ?_
       refine WC.skip ?_
       refine WK.nThen ?_
       refine WC.seq ?_
       have hz2 := sat_zero (s := s) (b := (decide ((↑i : Int) = 1))) (by omega)
       have hzz := twoVE_zero hz2
       have hok := hzz.1
       have hzn := hzz.2
       have hxx := sat_even (b := (decide ((↑i : Int) = 1))) hz2
       have hx1_ : (evenR s (satR s (decide ((↑i : Int) = 1))).1 (satR s (decide ((↑i : Int) = 1))).2.1).1 = satL s (decide ((↑i : Int) = 1)) := (by rw [hxx])
       have hx2_ : (evenR s (satR s (decide ((↑i : Int) = 1))).1 (satR s (decide ((↑i : Int) = 1))).2.1).2 = 0 := (by rw [hxx])
       have hxl := satL_len s (decide ((↑i : Int) = 1))
       have hxb := satL_bd hok (decide ((↑i : Int) = 1))
       have hT := fun h => sat_hi (i := (↑i : Int)) hz2 h
       have hF := fun h => sat_lo (i := (↑i : Int)) hz2 h
       refine WC.region ?_
       refine WL.x (X.loadBA (k := 4) Try.isAgg25 Try.sizeOf25 rfl rfl rfl) (by decide) ?_
       refine WL.x (X.move rfl) (by decide) ?_
       refine WL.x (X.move rfl) (by decide) ?_
       refine WL.tm (T.call Try.call49 rfl (even49 _ _ s ⟨_, _, rfl, hs2, hs4⟩ _ _ hs21 _ _ hs23 )) (by decide) fun m29 r30 hle31 hR32 => ?_
       obtain ⟨v33, rfl, hs34⟩ := hR32
       replace hs2 := hs2.mono hle31
       replace hs4 := hs4.mono hle31
       replace hs21 := hs21.mono hle31
       replace hs23 := hs23.mono hle31
       have hl35 := hs34.le
       refine WL.x (X.move rfl) (by decide) ?_
       refine WL.x (X.extract rfl rfl) (by decide) ?_
       refine WL.x (X.extract rfl rfl) (by decide) ?_
       refine WL.x (X.assign rfl) (by decide) ?_
       refine WL.x (X.assign rfl) (by decide) ?_
       refine WL.nil ?_
       refine WK.nThen ?_
       refine WC.seq ?_
       rw [hx1_] at hs34
       rw [hx2_]
       refine WC.region ?_
       refine WL.x (X.loadBA (k := 1) Try.isAgg45 Try.sizeOf45 rfl rfl rfl) (by decide) ?_
       refine WL.tn (T.alloc Try.zeroValue45 rfl) (by decide) fun b36 => ?_
       refine WL.ts (T.storeBA (k := 0) Try.sizeOf45 rfl rfl rfl (one_cons rfl (one_cons rfl one_nil)) rfl rfl) ?_
       refine WL.nil ?_
       refine WK.nThen ?_
       refine WC.seq ?_
       refine WC.seq ?_
       refine WC.region ?_
       refine WL.x (X.move rfl) (by decide) ?_
       refine WL.cond (X.eql rfl rfl) (by decide) (fun h37 => ?_) (fun h37 => ?_)
       ·refine WL.nil ?_
        refine WK.nThen ?_
        refine WC.condT rfl ?_
        refine WC.region ?_
        refine WL.x (X.loadBA (k := 1) Try.isAgg45 Try.sizeOf45 rfl rfl rfl) (by decide) ?_
        refine WL.ts (T.storeBA (k := 0) Try.sizeOf45 rfl rfl rfl (one_cons rfl (one_cons rfl one_nil)) rfl rfl) ?_
        refine WL.nil ?_
        refine WK.nThen ?_
        refine WC.seq ?_
        refine WC.draw (π := (.cons 0 (.cons 1 (.cons 2 (.cons 3 (.cons 4 (.cons 5 (.cons 6 (.cons 7 (.cons 8 .done)))))))))) [] [] rfl (by kernel_rfl) ?_
        refine DW.x rfl rfl (X.move rfl) (by decide) ?_
        refine DW.x rfl rfl (X.neq rfl rfl) (by decide) ?_
        refine DW.x rfl rfl (X.move rfl) (by decide) ?_
        refine DW.x rfl rfl (X.loadBA (k := 5) Try.isAgg25 Try.sizeOf25 rfl rfl rfl) (by decide) ?_
        refine DW.x rfl rfl (X.move rfl) (by decide) ?_
        refine DW.x rfl rfl (X.call Try.call64 rfl (exact64 _ _ s ⟨_, _, rfl, hs2, hs4⟩ _ _ hs34 (by assumption) (by omega) (by omega) (by assumption))) (by decide) ?_
        refine DW.x rfl rfl (X.loadBA (k := 0) Try.isAgg45 Try.sizeOf45 rfl rfl rfl) (by decide) ?_
        refine DW.condn rfl rfl (X.neqS (a := exactR s ((satL s (decide ((↑i : Int) = 1))))) (b := (slopeR s).2.1) gd45 (fun w => eqS45 9998 _ _ w) rfl rfl) (by decide) (fun h38 => ?_) (fun h38 => ?_)
        ·refine DW.x rfl rfl (X.pickF rfl rfl rfl) (by decide) ?_
         refine DW.nil ?_
         refine WK.nThen ?_
         refine WC.condT rfl ?_
         refine WC.seq ?_
         refine WC.region ?_
         refine WL.x (X.assign rfl) (by decide) ?_
         refine WL.nil ?_
         refine WK.nThen ?_
         refine WC.ret ?_
         refine WK.rBlock ?_
         refine WK.rThen ?_
         refine WK.rThen ?_
         refine WK.rBlock ?_
         refine WK.rThen ?_
         refine WK.ret1 rfl rfl (fun w' hw' => Ret.exact hw' ?_)
         first | rfl | (exfalso; omega) | (exfalso; contradiction) | (exfalso; have q_ := hT (by omega); contradiction) | (exfalso; have q_ := hF (by omega); contradiction)
        ·refine DW.x rfl rfl (X.pickF rfl rfl rfl) (by decide) ?_
         refine DW.nil ?_
         refine WK.nThen ?_
         refine WC.condF rfl ?_
         refine WC.skip ?_
         refine WK.nBlock ?_
         refine WK.nThen ?_
         refine WC.region ?_
         refine WL.x (X.move rfl) (by decide) ?_
         refine WL.x (X.add rfl rfl (by omega) (by omega)) (by decide) ?_
         refine WL.x (X.assign rfl) (by decide) ?_
         refine WL.nil ?_
         refine WK.nThen ?_
         refine WK.back hgood0 (Mem.le_trans hle18 hle31) ?_
         refine WK.next (i + 1) rfl (.cons _ (.cons_cons _ (.cons_cons _ (.cons_cons _ (.cons_cons _ (.cons_cons _ .slnil)))))) (.cons rfl (.cons rfl (.cons rfl (.cons rfl (.cons rfl (.cons rfl .nil)))))) ?_ ?_
         ·omega
         ·omega
       ·refine WL.nil ?_
        refine WK.nThen ?_
        refine WC.condF rfl ?_
        refine WC.skip ?_
        refine WK.nThen ?_
        refine WC.seq ?_
        refine WC.draw (π := (.cons 0 (.cons 1 (.cons 2 (.cons 3 (.cons 4 (.cons 5 (.cons 6 (.cons 7 (.cons 8 .done)))))))))) [] [] rfl (by kernel_rfl) ?_
        refine DW.x rfl rfl (X.move rfl) (by decide) ?_
        refine DW.x rfl rfl (X.neq rfl rfl) (by decide) ?_
        refine DW.x rfl rfl (X.move rfl) (by decide) ?_
        refine DW.x rfl rfl (X.loadBA (k := 5) Try.isAgg25 Try.sizeOf25 rfl rfl rfl) (by decide) ?_
        refine DW.x rfl rfl (X.move rfl) (by decide) ?_
        refine DW.x rfl rfl (X.call Try.call64 rfl (exact64 _ _ s ⟨_, _, rfl, hs2, hs4⟩ _ _ hs34 (by assumption) (by omega) (by omega) (by assumption))) (by decide) ?_
        refine DW.x rfl rfl (X.loadBA (k := 0) Try.isAgg45 Try.sizeOf45 rfl rfl rfl) (by decide) ?_
        refine DW.condn rfl rfl (X.neqS (a := exactR s ((satL s (decide ((↑i : Int) = 1))))) (b := (slopeR s).1) gd45 (fun w => eqS45 9998 _ _ w) rfl rfl) (by decide) (fun h39 => ?_) (fun h39 => ?_)
        ·refine DW.x rfl rfl (X.pickF rfl rfl rfl) (by decide) ?_
         refine DW.nil ?_
         refine WK.nThen ?_
         refine WC.condT rfl ?_
         refine WC.seq ?_
         refine WC.region ?_
         refine WL.x (X.assign rfl) (by decide) ?_
         refine WL.nil ?_
         refine WK.nThen ?_
         refine WC.ret ?_
         refine WK.rBlock ?_
         refine WK.rThen ?_
         refine WK.rThen ?_
         refine WK.rBlock ?_
         refine WK.rThen ?_
         refine WK.ret1 rfl rfl (fun w' hw' => Ret.exact hw' ?_)
         first | rfl | (exfalso; omega) | (exfalso; contradiction) | (exfalso; have q_ := hT (by omega); contradiction) | (exfalso; have q_ := hF (by omega); contradiction)
        ·refine DW.x rfl rfl (X.pickF rfl rfl rfl) (by decide) ?_
         refine DW.nil ?_
         refine WK.nThen ?_
         refine WC.condF rfl ?_
         refine WC.skip ?_
         refine WK.nBlock ?_
         refine WK.nThen ?_
         refine WC.region ?_
         refine WL.x (X.move rfl) (by decide) ?_
         refine WL.x (X.add rfl rfl (by omega) (by omega)) (by decide) ?_
         refine WL.x (X.assign rfl) (by decide) ?_
         refine WL.nil ?_
         refine WK.nThen ?_
         refine WK.back hgood0 (Mem.le_trans hle18 hle31) ?_
         refine WK.next (i + 1) rfl (.cons _ (.cons_cons _ (.cons_cons _ (.cons_cons _ (.cons_cons _ (.cons_cons _ .slnil)))))) (.cons rfl (.cons rfl (.cons rfl (.cons rfl (.cons rfl (.cons rfl .nil)))))) ?_ ?_
         ·omega
         ·omega
    ·refine WL.nil ?_
     refine WK.nThen ?_
     refine WC.condF rfl ?_
     refine WC.exit ?_
     refine WK.eThen ?_
     refine WK.eThen ?_
     refine WK.eHit ?_
     refine WK.nThen ?_
     refine WC.seq ?_
     refine WC.region ?_
     refine WL.x (X.move rfl) (by decide) ?_
     refine WL.x (X.assign rfl) (by decide) ?_
     refine WL.nil ?_
     refine WK.nThen ?_
     refine WC.ret ?_
     refine WK.ret1 rfl rfl (fun w' hw' => Ret.exact hw' ?_)
     first | rfl | (exfalso; omega) | (exfalso; contradiction) | (exfalso; have q_ := hT (by omega); contradiction) | (exfalso; have q_ := hF (by omega); contradiction)
 ·refine WL.x (X.not rfl) (by decide) ?_
  refine WL.nil ?_
  refine WK.nThen ?_
  refine WC.condT rfl ?_
  refine WC.seq ?_
  refine WC.region ?_
  refine WL.x (X.move rfl) (by decide) ?_
  refine WL.x (X.assign rfl) (by decide) ?_
  refine WL.nil ?_
  refine WK.nThen ?_
  refine WC.ret ?_
  refine WK.rThen ?_
  refine WK.ret1 rfl rfl (fun w' hw' => Ret.exact hw' ?_)
  first | rfl | (exfalso; omega) | (exfalso; contradiction) | (exfalso; have q_ := hT (by omega); contradiction) | (exfalso; have q_ := hF (by omega); contradiction)
end Go.Proofs.C8
