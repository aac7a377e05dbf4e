/- The walk of the statement CenturyNarrower: its function answers true. -/
import Derived.Test.YtednficclnjmjaaC8Br
import Derived.Test.YtednficclnjmjaaC8W9
import Derived.Test.YtednficclnjmjaaC8LNar
import Derived.Test.YtednficclnjmjaaC8LMir
import Derived.Test.YtednficclnjmjaaC8W11
namespace Go.Proofs.C8
open Go Go.Kx
set_option linter.unusedSimpArgs false
set_option linter.unusedVariables false
set_option maxRecDepth 20000 in
set_option maxHeartbeats 4000000 in
theorem law17 (m : Mem) (cs : List Value) (s : Ser) (hs : Enc.rd m cs s) (cx : List Value) (x : Mor) (hx : Enc.rd m cx x) (ca : List Value) (a : Span) (ha : Enc.rd m ca a) (cb : List Value) (b : Span) (hb : Enc.rd m cb b) (time : Int) (most : Int)  (ok0 : Rng.ok s) (ok1 : Rng.ok x) (ok2 : Rng.ok a) (ok3 : Rng.ok b) (lo4 : -9223372036854775808 ≤ time) (hi4 : time ≤ 9223372036854775807) (lo5 : -9223372036854775808 ≤ most) (hi5 : most ≤ 9223372036854775807) : Exact Try.prog 17 #[.agg cs.toArray, .agg cx.toArray, .agg ca.toArray, .agg cb.toArray, .int .i64 (time), .int .i64 (most)] m (.bool true) := by
 obtain ⟨v1, v3, rfl, hs2, hs4⟩ := hs
 have hl5 := hs2.le
 have hl6 := hs4.le
 obtain rfl := hx
 obtain rfl := ha
 obtain rfl := hb
 refine Exact.start Try.func17 rfl Try.ntmps17 rfl fun wld => ?_
 refine WC.seq ?_
 refine WC.region ?_
 refine WL.tn (T.boxB rfl rfl) (by decide) fun b7 => ?_
 refine WL.tn (T.boxB rfl rfl) (by decide) fun b8 => ?_
 refine WL.tn (T.boxB rfl rfl) (by decide) fun b9 => ?_
 refine WL.tn (T.boxB rfl rfl) (by decide) fun b10 => ?_
 refine WL.x (X.assign rfl) (by decide) ?_
 refine WL.nil ?_
 refine WK.nThen ?_
 refine WC.seq ?_
 refine WC.region ?_
 refine WL.x (X.call Try.call21 rfl (awake21 _  )) (by decide) ?_
 refine WL.x (X.assign rfl) (by decide) ?_
 refine WL.nil ?_
 refine WK.nThen ?_
 refine WC.seq ?_
 refine WC.seq ?_
 refine WC.region ?_
 refine WL.x (X.loadBA (k := 3) Try.isAgg25 Try.sizeOf25 rfl rfl rfl) (by decide) ?_
 refine WL.cond (X.call Try.call22 rfl (few22 _ _ s ⟨_, _, rfl, hs2, hs4⟩ )) (by decide) (fun h11 => ?_) (fun h11 => ?_)
 ·refine WL.x (X.not rfl) (by decide) ?_
  refine WL.nil ?_
  refine WK.nThen ?_
  refine WC.condF rfl ?_
  refine WC.skip ?_
  refine WK.nThen ?_
  refine WC.seq ?_
  have hfp := (‹fewP s› : fewP s)
  unfold fewP at hfp
  refine WC.region ?_
  refine WL.x (X.loadBA (k := 3) Try.isAgg25 Try.sizeOf25 rfl rfl rfl) (by decide) ?_
  refine WL.x (X.loadBA (k := 2) Try.isAgg97 Try.sizeOf97 rfl rfl rfl) (by decide) ?_
  refine WL.tm (T.call Try.call73 rfl (known73 _ _ s ⟨_, _, rfl, hs2, hs4⟩ _ x rfl (by omega) (by omega))) (by decide) fun m12 r13 hle14 hR15 => ?_
  obtain ⟨c16, rfl, hc17⟩ := hR15
  replace hs2 := hs2.mono hle14
  replace hs4 := hs4.mono hle14
  obtain ⟨v18, v20, rfl, hs19, hs21⟩ := hc17
  have hl22 := hs19.le
  have hl23 := hs21.le
  refine WL.x (X.move rfl) (by decide) ?_
  refine WL.x (X.extract rfl rfl) (by decide) ?_
  refine WL.x (X.extract rfl rfl) (by decide) ?_
  refine WL.tn (T.alloc Try.zeroValue25 rfl) (by decide) fun b24 => ?_
  refine WL.ts (T.storeBA (k := 0) Try.sizeOf25 rfl rfl rfl (one_cons hs19.one (one_cons hs21.one one_nil)) rfl rfl) ?_
  refine WL.x (X.assign rfl) (by decide) ?_
  refine WL.nil ?_
  refine WK.nThen ?_
  refine WC.seq ?_
  refine WC.region ?_
  refine WL.x (X.loadBA (k := 4) Try.isAgg25 Try.sizeOf25 rfl rfl rfl) (by decide) ?_
  refine WL.x (X.call Try.call34 rfl (check34 _ _ s ⟨_, _, rfl, hs2, hs4⟩ )) (by decide) ?_
  refine WL.x (X.move rfl) (by decide) ?_
  refine WL.x (X.extract rfl rfl) (by decide) ?_
  refine WL.x (X.extract rfl rfl) (by decide) ?_
  refine WL.x (X.assign rfl) (by decide) ?_
  refine WL.x (X.assign rfl) (by decide) ?_
  refine WL.nil ?_
  refine WK.nThen ?_
  refine WC.seq ?_
  refine WC.seq ?_
  refine WC.region ?_
  refine WL.x (X.move rfl) (by decide) ?_
  refine WL.condb (X.not rfl) (by decide) (fun h25 => ?_) (fun h25 => ?_)
  ·refine WL.x (X.move rfl) (by decide) ?_
   refine WL.no rfl rfl rfl (by decide) ?_
   refine WL.no rfl rfl rfl (by decide) ?_
   refine WL.x (X.pickT rfl rfl rfl) (by decide) ?_
   refine WL.nil ?_
   refine WK.nThen ?_
   refine WC.condT rfl ?_
   refine WC.seq ?_
   refine WC.region ?_
   refine WL.x (X.move rfl) (by decide) ?_
   refine WL.x (X.assign rfl) (by decide) ?_
   refine WL.nil ?_
   refine WK.nThen ?_
   refine WC.ret ?_
   refine WK.rThen ?_
   refine WK.ret1 rfl rfl (fun w' hw' => Ret.exact hw' ?_)
   first | rfl | (exfalso; omega) | (exfalso; have q_ := hff (by omega); omega) | exact (bool_true (by omega)).symm | exact (bool_true (by have q_ := hff (by omega); omega)).symm
  ·refine WL.x (X.move rfl) (by decide) ?_
   refine WL.yes rfl rfl ?_
   refine WL.x (X.move rfl) (by decide) ?_
   refine WL.yes rfl rfl ?_
   refine WL.condn (X.neq rfl rfl) (by decide) (fun h26 => ?_) (fun h26 => ?_)
   ·refine WL.x (X.pickF rfl rfl rfl) (by decide) ?_
    refine WL.nil ?_
    refine WK.nThen ?_
    refine WC.condT rfl ?_
    refine WC.seq ?_
    refine WC.region ?_
    refine WL.x (X.move rfl) (by decide) ?_
    refine WL.x (X.assign rfl) (by decide) ?_
    refine WL.nil ?_
    refine WK.nThen ?_
    refine WC.ret ?_
    refine WK.rThen ?_
    refine WK.ret1 rfl rfl (fun w' hw' => Ret.exact hw' ?_)
    first | rfl | (exfalso; omega) | (exfalso; have q_ := hff (by omega); omega) | exact (bool_true (by omega)).symm | exact (bool_true (by have q_ := hff (by omega); omega)).symm
   ·refine WL.x (X.pickF rfl rfl rfl) (by decide) ?_
    refine WL.nil ?_
    refine WK.nThen ?_
    refine WC.condF rfl ?_
    refine WC.skip ?_
    refine WK.nThen ?_
    refine WC.seq ?_
    have hok := Ok.of (s := s) (by show (chk s).1 = 0; omega)
    have hN := known_yes (by assumption) hok
    refine WC.region ?_
    refine WL.x (X.loadBA (k := 4) Try.isAgg25 Try.sizeOf25 rfl rfl rfl) (by decide) ?_
    refine WL.x (X.loadBA (k := 2) Try.isAgg33 Try.sizeOf33 rfl rfl rfl) (by decide) ?_
    refine WL.x (X.call Try.call66 rfl (mean66 _ _ s ⟨_, _, rfl, hs2, hs4⟩ _ a rfl )) (by decide) ?_
    refine WL.x (X.move rfl) (by decide) ?_
    refine WL.x (X.extract rfl rfl) (by decide) ?_
    refine WL.x (X.extract rfl rfl) (by decide) ?_
    refine WL.x (X.extract rfl rfl) (by decide) ?_
    refine WL.tn (T.alloc Try.zeroValue45 rfl) (by decide) fun b27 => ?_
    refine WL.tn (T.alloc Try.zeroValue45 rfl) (by decide) fun b28 => ?_
    refine WL.ts (T.storeBA (k := 1) Try.sizeOf45 rfl rfl rfl (one_cons rfl (one_cons rfl one_nil)) rfl rfl) ?_
    refine WL.ts (T.storeBA (k := 0) Try.sizeOf45 rfl rfl rfl (one_cons rfl (one_cons rfl one_nil)) rfl rfl) ?_
    refine WL.x (X.assign rfl) (by decide) ?_
    refine WL.nil ?_
    refine WK.nThen ?_
    refine WC.seq ?_
    refine WC.region ?_
    refine WL.x (X.loadBA (k := 2) Try.isAgg25 Try.sizeOf25 rfl rfl rfl) (by decide) ?_
    refine WL.x (X.loadBA (k := 4) Try.isAgg33 Try.sizeOf33 rfl rfl rfl) (by decide) ?_
    refine WL.x (X.call Try.call66 rfl (mean66 _ _ ((knownR s x).1) ⟨_, _, rfl, hs19, hs21⟩ _ a rfl )) (by decide) ?_
    refine WL.x (X.move rfl) (by decide) ?_
    refine WL.x (X.extract rfl rfl) (by decide) ?_
    refine WL.x (X.extract rfl rfl) (by decide) ?_
    refine WL.x (X.extract rfl rfl) (by decide) ?_
    refine WL.tn (T.alloc Try.zeroValue45 rfl) (by decide) fun b29 => ?_
    refine WL.tn (T.alloc Try.zeroValue45 rfl) (by decide) fun b30 => ?_
    refine WL.ts (T.storeBA (k := 1) Try.sizeOf45 rfl rfl rfl (one_cons rfl (one_cons rfl one_nil)) rfl rfl) ?_
    refine WL.ts (T.storeBA (k := 0) Try.sizeOf45 rfl rfl rfl (one_cons rfl (one_cons rfl one_nil)) rfl rfl) ?_
    refine WL.x (X.assign rfl) (by decide) ?_
    refine WL.nil ?_
    refine WK.nThen ?_
    refine WC.seq ?_
    refine WC.cut (G := Unit) (fun u_ => m12) (fun u_ => [blk b30 45 [.int .i64 ((mbR (((knownR s x).1)) a).2.1.Num), .int .i64 ((mbR (((knownR s x).1)) a).2.1.Den)], blk b29 45 [.int .i64 ((mbR (((knownR s x).1)) a).1.Num), .int .i64 ((mbR (((knownR s x).1)) a).1.Den)], blk b28 45 [.int .i64 ((mbR s a).2.1.Num), .int .i64 ((mbR s a).2.1.Den)], blk b27 45 [.int .i64 ((mbR s a).1.Num), .int .i64 ((mbR s a).1.Den)], blk b24 25 [v18, v20], blk b10 33 [.int .i64 (b.Lo), .int .i64 (b.Hi)], blk b9 33 [.int .i64 (a.Lo), .int .i64 (a.Hi)], blk b8 97 [.bool (x.Shift), .int .i64 (x.At), .int .i64 (x.Lo), .int .i64 (x.Hi)], blk b7 25 [v1, v3]]) (fun u_ => [(4, .int .i64 (time)), (5, .int .i64 (most)), (6, .pointer (some ⟨b7, 0, none⟩)), (8, .pointer (some ⟨b9, 0, none⟩)), (9, .pointer (some ⟨b10, 0, none⟩)), (13, .bool true), (14, .pointer (some ⟨b24, 0, none⟩)), (99, .bool false)]) (fun u_ => True) ?_ ?_
    ·have hmn := nar_mean hN a
     have hmn1 := hmn.1
     refine WC.region ?_
     refine WL.x (X.move rfl) (by decide) ?_
     refine WL.x (X.move rfl) (by decide) ?_
     refine WL.condn (X.neq rfl rfl) (by decide) (fun h31 => ?_) (fun h31 => ?_)
     ·refine WL.x (X.move rfl) (by decide) ?_
      refine WL.no rfl rfl rfl (by decide) ?_
      refine WL.no rfl rfl rfl (by decide) ?_
      refine WL.no rfl rfl rfl (by decide) ?_
      refine WL.noU rfl rfl (by decide) ?_
      refine WL.noU rfl rfl (by decide) ?_
      refine WL.noU rfl rfl (by decide) ?_
      refine WL.noU rfl rfl (by decide) ?_
      refine WL.noU rfl rfl (by decide) ?_
      refine WL.noU rfl rfl (by decide) ?_
      refine WL.noU rfl rfl (by decide) ?_
      refine WL.noU rfl rfl (by decide) ?_
      refine WL.no rfl rfl rfl (by decide) ?_
      refine WL.x (X.pickT rfl rfl rfl) (by decide) ?_
      refine WL.nil ?_
      refine WK.nThen ?_
      exfalso; first | omega | contradiction
     ·refine WL.x (X.move rfl) (by decide) ?_
      refine WL.yes rfl rfl ?_
      refine WL.x (X.move rfl) (by decide) ?_
      refine WL.yes rfl rfl ?_
      refine WL.cond (X.eql rfl rfl) (by decide) (fun h32 => ?_) (fun h32 => ?_)
      ·have hm_ := hmn.2 (by omega)
       have hm0_ := hm_.1
       have hm2_ := hm_.2.1
       have hm3_ := hm_.2.2
       unfold LBd at hm0_
       refine WL.yes rfl rfl ?_
       refine WL.x (X.move rfl) (by decide) ?_
       refine WL.yes rfl rfl ?_
       refine WL.x (X.loadBA (k := 1) Try.isAgg45 Try.sizeOf45 rfl rfl rfl) (by decide) ?_
       refine WL.yes rfl rfl ?_
       refine WL.x (X.loadBA (k := 3) Try.isAgg45 Try.sizeOf45 rfl rfl rfl) (by decide) ?_
       refine WL.yes rfl rfl ?_
       refine WL.x (OpX.f (X.call Try.call67 rfl (less67 _ _ ((mbR (((knownR s x).1)) a).1) rfl _ ((mbR s a).1) rfl (by omega) (by omega))) hm2_) (by decide) ?_
       refine WL.yes rfl rfl ?_
       refine WL.x (X.move rfl) (by decide) ?_
       refine WL.yes rfl rfl ?_
       refine WL.x (X.loadBA (k := 2) Try.isAgg45 Try.sizeOf45 rfl rfl rfl) (by decide) ?_
       refine WL.yes rfl rfl ?_
       refine WL.x (X.loadBA (k := 0) Try.isAgg45 Try.sizeOf45 rfl rfl rfl) (by decide) ?_
       refine WL.yes rfl rfl ?_
       refine WL.x (OpX.f (X.call Try.call67 rfl (less67 _ _ ((mbR s a).2.1) rfl _ ((mbR (((knownR s x).1)) a).2.1) rfl (by omega) (by omega))) hm3_) (by decide) ?_
       refine WL.yes rfl rfl ?_
       refine WL.x (X.pickF rfl rfl rfl) (by decide) ?_
       refine WL.yes rfl rfl ?_
       refine WL.x (X.pickT rfl rfl rfl) (by decide) ?_
       refine WL.x (X.pickF rfl rfl rfl) (by decide) ?_
       refine WL.nil ?_
       refine WK.nThen ?_
       refine WK.meet (()) rfl (.refl _) (.cons rfl (.cons rfl (.cons rfl (.cons rfl (.cons rfl (.cons rfl (.cons rfl (.cons rfl .nil)))))))) ?_
       trivial
      ·refine WL.yes rfl rfl ?_
       refine WL.x (X.move rfl) (by decide) ?_
       refine WL.no rfl rfl rfl (by decide) ?_
       refine WL.no rfl rfl rfl (by decide) ?_
       refine WL.no rfl rfl rfl (by decide) ?_
       refine WL.no rfl rfl rfl (by decide) ?_
       refine WL.noU rfl rfl (by decide) ?_
       refine WL.noU rfl rfl (by decide) ?_
       refine WL.noU rfl rfl (by decide) ?_
       refine WL.no rfl rfl rfl (by decide) ?_
       refine WL.yes rfl rfl ?_
       refine WL.x (X.pickF rfl rfl rfl) (by decide) ?_
       refine WL.x (X.pickF rfl rfl rfl) (by decide) ?_
       refine WL.nil ?_
       refine WK.nThen ?_
       refine WK.meet (()) rfl (.refl _) (.cons rfl (.cons rfl (.cons rfl (.cons rfl (.cons rfl (.cons rfl (.cons rfl (.cons rfl .nil)))))))) ?_
       trivial
    ·rintro u_ hF33
     show WK _ _ m12 [blk b30 45 [.int .i64 ((mbR (((knownR s x).1)) a).2.1.Num), .int .i64 ((mbR (((knownR s x).1)) a).2.1.Den)], blk b29 45 [.int .i64 ((mbR (((knownR s x).1)) a).1.Num), .int .i64 ((mbR (((knownR s x).1)) a).1.Den)], blk b28 45 [.int .i64 ((mbR s a).2.1.Num), .int .i64 ((mbR s a).2.1.Den)], blk b27 45 [.int .i64 ((mbR s a).1.Num), .int .i64 ((mbR s a).1.Den)], blk b24 25 [v18, v20], blk b10 33 [.int .i64 (b.Lo), .int .i64 (b.Hi)], blk b9 33 [.int .i64 (a.Lo), .int .i64 (a.Hi)], blk b8 97 [.bool (x.Shift), .int .i64 (x.At), .int .i64 (x.Lo), .int .i64 (x.Hi)], blk b7 25 [v1, v3]] [(4, .int .i64 (time)), (5, .int .i64 (most)), (6, .pointer (some ⟨b7, 0, none⟩)), (8, .pointer (some ⟨b9, 0, none⟩)), (9, .pointer (some ⟨b10, 0, none⟩)), (13, .bool true), (14, .pointer (some ⟨b24, 0, none⟩)), (99, .bool false)] _
     replace hF33 : True := hF33
     refine WC.condF rfl ?_
     refine WC.skip ?_
     refine WK.nThen ?_
     refine WC.seq ?_
     refine WC.region ?_
     refine WL.x (X.loadBA (k := 8) Try.isAgg25 Try.sizeOf25 rfl rfl rfl) (by decide) ?_
     refine WL.x (X.loadBA (k := 6) Try.isAgg33 Try.sizeOf33 rfl rfl rfl) (by decide) ?_
     refine WL.x (X.call Try.call37 rfl (extremes37 _ _ s ⟨_, _, rfl, hs2, hs4⟩ _ a rfl )) (by decide) ?_
     refine WL.x (X.move rfl) (by decide) ?_
     refine WL.x (X.extract rfl rfl) (by decide) ?_
     refine WL.x (X.extract rfl rfl) (by decide) ?_
     refine WL.x (X.extract rfl rfl) (by decide) ?_
     refine WL.tn (T.alloc Try.zeroValue33 rfl) (by decide) fun b34 => ?_
     refine WL.tn (T.alloc Try.zeroValue33 rfl) (by decide) fun b35 => ?_
     refine WL.ts (T.storeBA (k := 1) Try.sizeOf33 rfl rfl rfl (one_cons rfl (one_cons rfl one_nil)) rfl rfl) ?_
     refine WL.ts (T.storeBA (k := 0) Try.sizeOf33 rfl rfl rfl (one_cons rfl (one_cons rfl one_nil)) rfl rfl) ?_
     refine WL.x (X.assign rfl) (by decide) ?_
     refine WL.nil ?_
     refine WK.nThen ?_
     refine WC.seq ?_
     refine WC.region ?_
     refine WL.x (X.loadBA (k := 6) Try.isAgg25 Try.sizeOf25 rfl rfl rfl) (by decide) ?_
     refine WL.x (X.loadBA (k := 8) Try.isAgg33 Try.sizeOf33 rfl rfl rfl) (by decide) ?_
     refine WL.x (X.call Try.call37 rfl (extremes37 _ _ ((knownR s x).1) ⟨_, _, rfl, hs19, hs21⟩ _ a rfl )) (by decide) ?_
     refine WL.x (X.move rfl) (by decide) ?_
     refine WL.x (X.extract rfl rfl) (by decide) ?_
     refine WL.x (X.extract rfl rfl) (by decide) ?_
     refine WL.x (X.extract rfl rfl) (by decide) ?_
     refine WL.tn (T.alloc Try.zeroValue33 rfl) (by decide) fun b36 => ?_
     refine WL.tn (T.alloc Try.zeroValue33 rfl) (by decide) fun b37 => ?_
     refine WL.ts (T.storeBA (k := 1) Try.sizeOf33 rfl rfl rfl (one_cons rfl (one_cons rfl one_nil)) rfl rfl) ?_
     refine WL.ts (T.storeBA (k := 0) Try.sizeOf33 rfl rfl rfl (one_cons rfl (one_cons rfl one_nil)) rfl rfl) ?_
     refine WL.x (X.assign rfl) (by decide) ?_
     refine WL.nil ?_
     refine WK.nThen ?_
     refine WC.seq ?_
     refine WC.region ?_
     refine WL.x (X.loadBA (k := 12) Try.isAgg25 Try.sizeOf25 rfl rfl rfl) (by decide) ?_
     refine WL.x (X.move rfl) (by decide) ?_
     refine WL.x (X.call Try.call43 rfl (rank43 _ _ s ⟨_, _, rfl, hs2, hs4⟩ _ )) (by decide) ?_
     refine WL.x (X.move rfl) (by decide) ?_
     refine WL.x (X.extract rfl rfl) (by decide) ?_
     refine WL.x (X.extract rfl rfl) (by decide) ?_
     refine WL.tn (T.alloc Try.zeroValue33 rfl) (by decide) fun b38 => ?_
     refine WL.ts (T.storeBA (k := 0) Try.sizeOf33 rfl rfl rfl (one_cons rfl (one_cons rfl one_nil)) rfl rfl) ?_
     refine WL.x (X.assign rfl) (by decide) ?_
     refine WL.nil ?_
     refine WK.nThen ?_
     refine WC.seq ?_
     refine WC.region ?_
     refine WL.x (X.loadBA (k := 9) Try.isAgg25 Try.sizeOf25 rfl rfl rfl) (by decide) ?_
     refine WL.x (X.move rfl) (by decide) ?_
     refine WL.x (X.call Try.call43 rfl (rank43 _ _ ((knownR s x).1) ⟨_, _, rfl, hs19, hs21⟩ _ )) (by decide) ?_
     refine WL.x (X.move rfl) (by decide) ?_
     refine WL.x (X.extract rfl rfl) (by decide) ?_
     refine WL.x (X.extract rfl rfl) (by decide) ?_
     refine WL.tn (T.alloc Try.zeroValue33 rfl) (by decide) fun b39 => ?_
     refine WL.ts (T.storeBA (k := 0) Try.sizeOf33 rfl rfl rfl (one_cons rfl (one_cons rfl one_nil)) rfl rfl) ?_
     refine WL.x (X.assign rfl) (by decide) ?_
     refine WL.nil ?_
     refine WK.nThen ?_
     refine WC.seq ?_
     refine WC.cut (G := Unit) (fun u_ => m12) (fun u_ => [blk b39 33 [.int .i64 ((rankR (((knownR s x).1)) time).1.Lo), .int .i64 ((rankR (((knownR s x).1)) time).1.Hi)], blk b38 33 [.int .i64 ((rankR s time).1.Lo), .int .i64 ((rankR s time).1.Hi)], blk b37 33 [.int .i64 ((extR (((knownR s x).1)) a).2.1.Lo), .int .i64 ((extR (((knownR s x).1)) a).2.1.Hi)], blk b36 33 [.int .i64 ((extR (((knownR s x).1)) a).1.Lo), .int .i64 ((extR (((knownR s x).1)) a).1.Hi)], blk b35 33 [.int .i64 ((extR s a).2.1.Lo), .int .i64 ((extR s a).2.1.Hi)], blk b34 33 [.int .i64 ((extR s a).1.Lo), .int .i64 ((extR s a).1.Hi)], blk b30 45 [.int .i64 ((mbR (((knownR s x).1)) a).2.1.Num), .int .i64 ((mbR (((knownR s x).1)) a).2.1.Den)], blk b29 45 [.int .i64 ((mbR (((knownR s x).1)) a).1.Num), .int .i64 ((mbR (((knownR s x).1)) a).1.Den)], blk b28 45 [.int .i64 ((mbR s a).2.1.Num), .int .i64 ((mbR s a).2.1.Den)], blk b27 45 [.int .i64 ((mbR s a).1.Num), .int .i64 ((mbR s a).1.Den)], blk b24 25 [v18, v20], blk b10 33 [.int .i64 (b.Lo), .int .i64 (b.Hi)], blk b9 33 [.int .i64 (a.Lo), .int .i64 (a.Hi)], blk b8 97 [.bool (x.Shift), .int .i64 (x.At), .int .i64 (x.Lo), .int .i64 (x.Hi)], blk b7 25 [v1, v3]]) (fun u_ => [(5, .int .i64 (most)), (6, .pointer (some ⟨b7, 0, none⟩)), (8, .pointer (some ⟨b9, 0, none⟩)), (9, .pointer (some ⟨b10, 0, none⟩)), (13, .bool true), (14, .pointer (some ⟨b24, 0, none⟩)), (155, .bool false)]) (fun u_ => True) ?_ ?_
     ·have hxx := nar_extR hN a
      have hrr := nar_rank hN time
      refine WC.region ?_
      refine WL.x (X.move rfl) (by decide) ?_
      refine WL.x (X.move rfl) (by decide) ?_
      refine WL.condn (X.neq rfl rfl) (by decide) (fun h40 => ?_) (fun h40 => ?_)
      ·refine WL.x (X.move rfl) (by decide) ?_
       refine WL.no rfl rfl rfl (by decide) ?_
       refine WL.no rfl rfl rfl (by decide) ?_
       refine WL.no rfl rfl rfl (by decide) ?_
       refine WL.noU rfl rfl (by decide) ?_
       refine WL.noU rfl rfl (by decide) ?_
       refine WL.noU rfl rfl (by decide) ?_
       refine WL.noU rfl rfl (by decide) ?_
       refine WL.noU rfl rfl (by decide) ?_
       refine WL.noU rfl rfl (by decide) ?_
       refine WL.noU rfl rfl (by decide) ?_
       refine WL.noU rfl rfl (by decide) ?_
       refine WL.noU rfl rfl (by decide) ?_
       refine WL.noU rfl rfl (by decide) ?_
       refine WL.no rfl rfl rfl (by decide) ?_
       refine WL.x (X.pickT rfl rfl rfl) (by decide) ?_
       refine WL.x (X.move rfl) (by decide) ?_
       refine WL.no rfl rfl rfl (by decide) ?_
       refine WL.no rfl rfl rfl (by decide) ?_
       refine WL.no rfl rfl rfl (by decide) ?_
       refine WL.x (X.pickT rfl rfl rfl) (by decide) ?_
       refine WL.x (X.move rfl) (by decide) ?_
       refine WL.no rfl rfl rfl (by decide) ?_
       refine WL.no rfl rfl rfl (by decide) ?_
       refine WL.no rfl rfl rfl (by decide) ?_
       refine WL.no rfl rfl rfl (by decide) ?_
       refine WL.x (X.pickT rfl rfl rfl) (by decide) ?_
       refine WL.nil ?_
       refine WK.nThen ?_
       exfalso; first | omega | contradiction
      ·refine WL.x (X.move rfl) (by decide) ?_
       refine WL.yes rfl rfl ?_
       refine WL.x (X.move rfl) (by decide) ?_
       refine WL.yes rfl rfl ?_
       refine WL.cond (X.eql rfl rfl) (by decide) (fun h41 => ?_) (fun h41 => ?_)
       ·refine WL.yes rfl rfl ?_
        refine WL.x (X.move rfl) (by decide) ?_
        refine WL.yes rfl rfl ?_
        refine WL.x (X.loadBA (k := 3) Try.isAgg33 Try.sizeOf33 rfl rfl rfl) (by decide) ?_
        refine WL.yes rfl rfl ?_
        refine WL.x (X.loadBA (k := 5) Try.isAgg33 Try.sizeOf33 rfl rfl rfl) (by decide) ?_
        refine WL.yes rfl rfl ?_
        refine WL.cond (X.call Try.call74 rfl (inside74 _ _ ((extR (((knownR s x).1)) a).1) rfl _ ((extR s a).1) rfl )) (by decide) (fun h42 => ?_) (fun h42 => ?_)
        ·refine WL.yes rfl rfl ?_
         refine WL.x (X.not rfl) (by decide) ?_
         refine WL.yes rfl rfl ?_
         refine WL.x (X.move rfl) (by decide) ?_
         refine WL.yes rfl rfl ?_
         refine WL.x (X.loadBA (k := 2) Try.isAgg33 Try.sizeOf33 rfl rfl rfl) (by decide) ?_
         refine WL.yes rfl rfl ?_
         refine WL.x (X.loadBA (k := 4) Try.isAgg33 Try.sizeOf33 rfl rfl rfl) (by decide) ?_
         refine WL.yes rfl rfl ?_
         refine WL.cond (X.call Try.call74 rfl (inside74 _ _ ((extR (((knownR s x).1)) a).2.1) rfl _ ((extR s a).2.1) rfl )) (by decide) (fun h43 => ?_) (fun h43 => ?_)
         ·refine WL.yes rfl rfl ?_
          refine WL.x (X.not rfl) (by decide) ?_
          refine WL.yes rfl rfl ?_
          refine WL.x (X.pickF rfl rfl rfl) (by decide) ?_
          refine WL.yes rfl rfl ?_
          refine WL.x (X.pickT rfl rfl rfl) (by decide) ?_
          refine WL.x (X.pickF rfl rfl rfl) (by decide) ?_
          refine WL.x (X.move rfl) (by decide) ?_
          refine WL.yes rfl rfl ?_
          refine WL.x (X.move rfl) (by decide) ?_
          refine WL.yes rfl rfl ?_
          refine WL.x (X.move rfl) (by decide) ?_
          refine WL.yes rfl rfl ?_
          refine WL.condn (X.neq rfl rfl) (by decide) (fun h44 => ?_) (fun h44 => ?_)
          ·refine WL.x (X.pickF rfl rfl rfl) (by decide) ?_
           refine WL.x (X.move rfl) (by decide) ?_
           refine WL.no rfl rfl rfl (by decide) ?_
           refine WL.no rfl rfl rfl (by decide) ?_
           refine WL.no rfl rfl rfl (by decide) ?_
           refine WL.no rfl rfl rfl (by decide) ?_
           refine WL.x (X.pickT rfl rfl rfl) (by decide) ?_
           refine WL.nil ?_
           refine WK.nThen ?_
           exfalso; first | omega | contradiction
          ·refine WL.x (X.pickF rfl rfl rfl) (by decide) ?_
           refine WL.x (X.move rfl) (by decide) ?_
           refine WL.yes rfl rfl ?_
           refine WL.x (X.loadBA (k := 0) Try.isAgg33 Try.sizeOf33 rfl rfl rfl) (by decide) ?_
           refine WL.yes rfl rfl ?_
           refine WL.x (X.loadBA (k := 1) Try.isAgg33 Try.sizeOf33 rfl rfl rfl) (by decide) ?_
           refine WL.yes rfl rfl ?_
           refine WL.cond (X.call Try.call74 rfl (inside74 _ _ ((rankR (((knownR s x).1)) time).1) rfl _ ((rankR s time).1) rfl )) (by decide) (fun h45 => ?_) (fun h45 => ?_)
           ·refine WL.yes rfl rfl ?_
            refine WL.x (X.not rfl) (by decide) ?_
            refine WL.x (X.pickF rfl rfl rfl) (by decide) ?_
            refine WL.nil ?_
            refine WK.nThen ?_
            refine WK.meet (()) rfl (.refl _) (.cons rfl (.cons rfl (.cons rfl (.cons rfl (.cons rfl (.cons rfl (.cons rfl .nil))))))) ?_
            trivial
           ·refine WL.yes rfl rfl ?_
            refine WL.x (X.not rfl) (by decide) ?_
            refine WL.x (X.pickF rfl rfl rfl) (by decide) ?_
            refine WL.nil ?_
            refine WK.nThen ?_
            exfalso; first | omega | contradiction
         ·refine WL.yes rfl rfl ?_
          refine WL.x (X.not rfl) (by decide) ?_
          refine WL.yes rfl rfl ?_
          refine WL.x (X.pickF rfl rfl rfl) (by decide) ?_
          refine WL.yes rfl rfl ?_
          refine WL.x (X.pickT rfl rfl rfl) (by decide) ?_
          refine WL.x (X.pickF rfl rfl rfl) (by decide) ?_
          refine WL.x (X.move rfl) (by decide) ?_
          refine WL.no rfl rfl rfl (by decide) ?_
          refine WL.no rfl rfl rfl (by decide) ?_
          refine WL.no rfl rfl rfl (by decide) ?_
          refine WL.x (X.pickT rfl rfl rfl) (by decide) ?_
          refine WL.x (X.move rfl) (by decide) ?_
          refine WL.no rfl rfl rfl (by decide) ?_
          refine WL.no rfl rfl rfl (by decide) ?_
          refine WL.no rfl rfl rfl (by decide) ?_
          refine WL.no rfl rfl rfl (by decide) ?_
          refine WL.x (X.pickT rfl rfl rfl) (by decide) ?_
          refine WL.nil ?_
          refine WK.nThen ?_
          exfalso; first | omega | contradiction
        ·refine WL.yes rfl rfl ?_
         refine WL.x (X.not rfl) (by decide) ?_
         refine WL.yes rfl rfl ?_
         refine WL.x (X.move rfl) (by decide) ?_
         refine WL.no rfl rfl rfl (by decide) ?_
         refine WL.no rfl rfl rfl (by decide) ?_
         refine WL.no rfl rfl rfl (by decide) ?_
         refine WL.no rfl rfl rfl (by decide) ?_
         refine WL.yes rfl rfl ?_
         refine WL.x (X.pickT rfl rfl rfl) (by decide) ?_
         refine WL.yes rfl rfl ?_
         refine WL.x (X.pickT rfl rfl rfl) (by decide) ?_
         refine WL.x (X.pickF rfl rfl rfl) (by decide) ?_
         refine WL.x (X.move rfl) (by decide) ?_
         refine WL.no rfl rfl rfl (by decide) ?_
         refine WL.no rfl rfl rfl (by decide) ?_
         refine WL.no rfl rfl rfl (by decide) ?_
         refine WL.x (X.pickT rfl rfl rfl) (by decide) ?_
         refine WL.x (X.move rfl) (by decide) ?_
         refine WL.no rfl rfl rfl (by decide) ?_
         refine WL.no rfl rfl rfl (by decide) ?_
         refine WL.no rfl rfl rfl (by decide) ?_
         refine WL.no rfl rfl rfl (by decide) ?_
         refine WL.x (X.pickT rfl rfl rfl) (by decide) ?_
         refine WL.nil ?_
         refine WK.nThen ?_
         exfalso; first | omega | contradiction
       ·refine WL.yes rfl rfl ?_
        refine WL.x (X.move rfl) (by decide) ?_
        refine WL.no rfl rfl rfl (by decide) ?_
        refine WL.no rfl rfl rfl (by decide) ?_
        refine WL.no rfl rfl rfl (by decide) ?_
        refine WL.no rfl rfl rfl (by decide) ?_
        refine WL.no rfl rfl rfl (by decide) ?_
        refine WL.noU rfl rfl (by decide) ?_
        refine WL.noU rfl rfl (by decide) ?_
        refine WL.noU rfl rfl (by decide) ?_
        refine WL.noU rfl rfl (by decide) ?_
        refine WL.no rfl rfl rfl (by decide) ?_
        refine WL.yes rfl rfl ?_
        refine WL.x (X.pickF rfl rfl rfl) (by decide) ?_
        refine WL.x (X.pickF rfl rfl rfl) (by decide) ?_
        refine WL.x (X.move rfl) (by decide) ?_
        refine WL.yes rfl rfl ?_
        refine WL.x (X.move rfl) (by decide) ?_
        refine WL.yes rfl rfl ?_
        refine WL.x (X.move rfl) (by decide) ?_
        refine WL.yes rfl rfl ?_
        refine WL.condn (X.neq rfl rfl) (by decide) (fun h46 => ?_) (fun h46 => ?_)
        ·refine WL.x (X.pickF rfl rfl rfl) (by decide) ?_
         refine WL.x (X.move rfl) (by decide) ?_
         refine WL.no rfl rfl rfl (by decide) ?_
         refine WL.no rfl rfl rfl (by decide) ?_
         refine WL.no rfl rfl rfl (by decide) ?_
         refine WL.no rfl rfl rfl (by decide) ?_
         refine WL.x (X.pickT rfl rfl rfl) (by decide) ?_
         refine WL.nil ?_
         refine WK.nThen ?_
         exfalso; first | omega | contradiction
        ·refine WL.x (X.pickF rfl rfl rfl) (by decide) ?_
         refine WL.x (X.move rfl) (by decide) ?_
         refine WL.yes rfl rfl ?_
         refine WL.x (X.loadBA (k := 0) Try.isAgg33 Try.sizeOf33 rfl rfl rfl) (by decide) ?_
         refine WL.yes rfl rfl ?_
         refine WL.x (X.loadBA (k := 1) Try.isAgg33 Try.sizeOf33 rfl rfl rfl) (by decide) ?_
         refine WL.yes rfl rfl ?_
         refine WL.cond (X.call Try.call74 rfl (inside74 _ _ ((rankR (((knownR s x).1)) time).1) rfl _ ((rankR s time).1) rfl )) (by decide) (fun h47 => ?_) (fun h47 => ?_)
         ·refine WL.yes rfl rfl ?_
          refine WL.x (X.not rfl) (by decide) ?_
          refine WL.x (X.pickF rfl rfl rfl) (by decide) ?_
          refine WL.nil ?_
          refine WK.nThen ?_
          refine WK.meet (()) rfl (.refl _) (.cons rfl (.cons rfl (.cons rfl (.cons rfl (.cons rfl (.cons rfl (.cons rfl .nil))))))) ?_
          trivial
         ·refine WL.yes rfl rfl ?_
          refine WL.x (X.not rfl) (by decide) ?_
          refine WL.x (X.pickF rfl rfl rfl) (by decide) ?_
          refine WL.nil ?_
          refine WK.nThen ?_
          exfalso; first | omega | contradiction
     ·rintro u_ hF48
      show WK _ _ m12 [blk b39 33 [.int .i64 ((rankR (((knownR s x).1)) time).1.Lo), .int .i64 ((rankR (((knownR s x).1)) time).1.Hi)], blk b38 33 [.int .i64 ((rankR s time).1.Lo), .int .i64 ((rankR s time).1.Hi)], blk b37 33 [.int .i64 ((extR (((knownR s x).1)) a).2.1.Lo), .int .i64 ((extR (((knownR s x).1)) a).2.1.Hi)], blk b36 33 [.int .i64 ((extR (((knownR s x).1)) a).1.Lo), .int .i64 ((extR (((knownR s x).1)) a).1.Hi)], blk b35 33 [.int .i64 ((extR s a).2.1.Lo), .int .i64 ((extR s a).2.1.Hi)], blk b34 33 [.int .i64 ((extR s a).1.Lo), .int .i64 ((extR s a).1.Hi)], blk b30 45 [.int .i64 ((mbR (((knownR s x).1)) a).2.1.Num), .int .i64 ((mbR (((knownR s x).1)) a).2.1.Den)], blk b29 45 [.int .i64 ((mbR (((knownR s x).1)) a).1.Num), .int .i64 ((mbR (((knownR s x).1)) a).1.Den)], blk b28 45 [.int .i64 ((mbR s a).2.1.Num), .int .i64 ((mbR s a).2.1.Den)], blk b27 45 [.int .i64 ((mbR s a).1.Num), .int .i64 ((mbR s a).1.Den)], blk b24 25 [v18, v20], blk b10 33 [.int .i64 (b.Lo), .int .i64 (b.Hi)], blk b9 33 [.int .i64 (a.Lo), .int .i64 (a.Hi)], blk b8 97 [.bool (x.Shift), .int .i64 (x.At), .int .i64 (x.Lo), .int .i64 (x.Hi)], blk b7 25 [v1, v3]] [(5, .int .i64 (most)), (6, .pointer (some ⟨b7, 0, none⟩)), (8, .pointer (some ⟨b9, 0, none⟩)), (9, .pointer (some ⟨b10, 0, none⟩)), (13, .bool true), (14, .pointer (some ⟨b24, 0, none⟩)), (155, .bool false)] _
      replace hF48 : True := hF48
      refine WC.condF rfl ?_
      refine WC.skip ?_
      refine WK.nThen ?_
      refine WC.seq ?_
      refine WC.region ?_
      refine WL.x (X.loadBA (k := 14) Try.isAgg25 Try.sizeOf25 rfl rfl rfl) (by decide) ?_
      refine WL.x (X.loadBA (k := 12) Try.isAgg33 Try.sizeOf33 rfl rfl rfl) (by decide) ?_
      refine WL.x (X.loadBA (k := 11) Try.isAgg33 Try.sizeOf33 rfl rfl rfl) (by decide) ?_
      refine WL.x (X.call Try.call71 rfl (change71 _ _ s ⟨_, _, rfl, hs2, hs4⟩ _ a rfl _ b rfl )) (by decide) ?_
      refine WL.x (X.move rfl) (by decide) ?_
      refine WL.x (X.extract rfl rfl) (by decide) ?_
      refine WL.x (X.extract rfl rfl) (by decide) ?_
      refine WL.x (X.assign rfl) (by decide) ?_
      refine WL.x (X.assign rfl) (by decide) ?_
      refine WL.nil ?_
      refine WK.nThen ?_
      refine WC.seq ?_
      refine WC.region ?_
      refine WL.x (X.loadBA (k := 10) Try.isAgg25 Try.sizeOf25 rfl rfl rfl) (by decide) ?_
      refine WL.x (X.loadBA (k := 12) Try.isAgg33 Try.sizeOf33 rfl rfl rfl) (by decide) ?_
      refine WL.x (X.loadBA (k := 11) Try.isAgg33 Try.sizeOf33 rfl rfl rfl) (by decide) ?_
      refine WL.x (X.call Try.call71 rfl (change71 _ _ ((knownR s x).1) ⟨_, _, rfl, hs19, hs21⟩ _ a rfl _ b rfl )) (by decide) ?_
      refine WL.x (X.move rfl) (by decide) ?_
      refine WL.x (X.extract rfl rfl) (by decide) ?_
      refine WL.x (X.extract rfl rfl) (by decide) ?_
      refine WL.x (X.assign rfl) (by decide) ?_
      refine WL.x (X.assign rfl) (by decide) ?_
      refine WL.nil ?_
      refine WK.nThen ?_
      refine WC.seq ?_
      refine WC.region ?_
      refine WL.x (X.loadBA (k := 14) Try.isAgg25 Try.sizeOf25 rfl rfl rfl) (by decide) ?_
      refine WL.x (X.call Try.call61 rfl (trend61 _ _ s ⟨_, _, rfl, hs2, hs4⟩ )) (by decide) ?_
      refine WL.x (X.move rfl) (by decide) ?_
      refine WL.x (X.extract rfl rfl) (by decide) ?_
      refine WL.x (X.extract rfl rfl) (by decide) ?_
      refine WL.x (X.assign rfl) (by decide) ?_
      refine WL.x (X.assign rfl) (by decide) ?_
      refine WL.nil ?_
      refine WK.nThen ?_
      refine WC.seq ?_
      refine WC.region ?_
      refine WL.x (X.loadBA (k := 10) Try.isAgg25 Try.sizeOf25 rfl rfl rfl) (by decide) ?_
      refine WL.x (X.call Try.call61 rfl (trend61 _ _ ((knownR s x).1) ⟨_, _, rfl, hs19, hs21⟩ )) (by decide) ?_
      refine WL.x (X.move rfl) (by decide) ?_
      refine WL.x (X.extract rfl rfl) (by decide) ?_
      refine WL.x (X.extract rfl rfl) (by decide) ?_
      refine WL.x (X.assign rfl) (by decide) ?_
      refine WL.x (X.assign rfl) (by decide) ?_
      refine WL.nil ?_
      refine WK.nThen ?_
      refine WC.seq ?_
      refine WC.cut (G := Unit) (fun u_ => m12) (fun u_ => [blk b39 33 [.int .i64 ((rankR (((knownR s x).1)) time).1.Lo), .int .i64 ((rankR (((knownR s x).1)) time).1.Hi)], blk b38 33 [.int .i64 ((rankR s time).1.Lo), .int .i64 ((rankR s time).1.Hi)], blk b37 33 [.int .i64 ((extR (((knownR s x).1)) a).2.1.Lo), .int .i64 ((extR (((knownR s x).1)) a).2.1.Hi)], blk b36 33 [.int .i64 ((extR (((knownR s x).1)) a).1.Lo), .int .i64 ((extR (((knownR s x).1)) a).1.Hi)], blk b35 33 [.int .i64 ((extR s a).2.1.Lo), .int .i64 ((extR s a).2.1.Hi)], blk b34 33 [.int .i64 ((extR s a).1.Lo), .int .i64 ((extR s a).1.Hi)], blk b30 45 [.int .i64 ((mbR (((knownR s x).1)) a).2.1.Num), .int .i64 ((mbR (((knownR s x).1)) a).2.1.Den)], blk b29 45 [.int .i64 ((mbR (((knownR s x).1)) a).1.Num), .int .i64 ((mbR (((knownR s x).1)) a).1.Den)], blk b28 45 [.int .i64 ((mbR s a).2.1.Num), .int .i64 ((mbR s a).2.1.Den)], blk b27 45 [.int .i64 ((mbR s a).1.Num), .int .i64 ((mbR s a).1.Den)], blk b24 25 [v18, v20], blk b10 33 [.int .i64 (b.Lo), .int .i64 (b.Hi)], blk b9 33 [.int .i64 (a.Lo), .int .i64 (a.Hi)], blk b8 97 [.bool (x.Shift), .int .i64 (x.At), .int .i64 (x.Lo), .int .i64 (x.Hi)], blk b7 25 [v1, v3]]) (fun u_ => [(5, .int .i64 (most)), (6, .pointer (some ⟨b7, 0, none⟩)), (13, .bool true), (14, .pointer (some ⟨b24, 0, none⟩)), (200, .bool false)]) (fun u_ => True) ?_ ?_
      ·have hcc := nar_chg hN a b
       have hcc1 := hcc.1
       have htt := nar_trend hN
       refine WC.region ?_
       refine WL.x (X.move rfl) (by decide) ?_
       refine WL.x (X.move rfl) (by decide) ?_
       refine WL.condn (X.neq rfl rfl) (by decide) (fun h49 => ?_) (fun h49 => ?_)
       ·refine WL.x (X.move rfl) (by decide) ?_
        refine WL.no rfl rfl rfl (by decide) ?_
        refine WL.no rfl rfl rfl (by decide) ?_
        refine WL.no rfl rfl rfl (by decide) ?_
        refine WL.noU rfl rfl (by decide) ?_
        refine WL.noU rfl rfl (by decide) ?_
        refine WL.noU rfl rfl (by decide) ?_
        refine WL.no rfl rfl rfl (by decide) ?_
        refine WL.x (X.pickT rfl rfl rfl) (by decide) ?_
        refine WL.x (X.move rfl) (by decide) ?_
        refine WL.no rfl rfl rfl (by decide) ?_
        refine WL.no rfl rfl rfl (by decide) ?_
        refine WL.no rfl rfl rfl (by decide) ?_
        refine WL.noU rfl rfl (by decide) ?_
        refine WL.noU rfl rfl (by decide) ?_
        refine WL.noU rfl rfl (by decide) ?_
        refine WL.no rfl rfl rfl (by decide) ?_
        refine WL.x (X.pickT rfl rfl rfl) (by decide) ?_
        refine WL.nil ?_
        refine WK.nThen ?_
        exfalso; first | omega | contradiction | (have q_ := hcc.2 (by omega); omega) | (have q_ := htt (by omega); omega)
       ·refine WL.x (X.move rfl) (by decide) ?_
        refine WL.yes rfl rfl ?_
        refine WL.x (X.move rfl) (by decide) ?_
        refine WL.yes rfl rfl ?_
        refine WL.condn (X.neq rfl rfl) (by decide) (fun h50 => ?_) (fun h50 => ?_)
        ·refine WL.yes rfl rfl ?_
         refine WL.x (X.move rfl) (by decide) ?_
         refine WL.yes rfl rfl ?_
         refine WL.x (X.move rfl) (by decide) ?_
         refine WL.yes rfl rfl ?_
         refine WL.x (X.move rfl) (by decide) ?_
         refine WL.yes rfl rfl ?_
         refine WL.condn (X.neq rfl rfl) (by decide) (fun h51 => ?_) (fun h51 => ?_)
         ·refine WL.yes rfl rfl ?_
          refine WL.x (X.pickT rfl rfl rfl) (by decide) ?_
          refine WL.x (X.pickF rfl rfl rfl) (by decide) ?_
          refine WL.x (X.move rfl) (by decide) ?_
          refine WL.no rfl rfl rfl (by decide) ?_
          refine WL.no rfl rfl rfl (by decide) ?_
          refine WL.no rfl rfl rfl (by decide) ?_
          refine WL.noU rfl rfl (by decide) ?_
          refine WL.noU rfl rfl (by decide) ?_
          refine WL.noU rfl rfl (by decide) ?_
          refine WL.no rfl rfl rfl (by decide) ?_
          refine WL.x (X.pickT rfl rfl rfl) (by decide) ?_
          refine WL.nil ?_
          refine WK.nThen ?_
          exfalso; first | omega | contradiction | (have q_ := hcc.2 (by omega); omega) | (have q_ := htt (by omega); omega)
         ·refine WL.yes rfl rfl ?_
          refine WL.x (X.pickT rfl rfl rfl) (by decide) ?_
          refine WL.x (X.pickF rfl rfl rfl) (by decide) ?_
          refine WL.x (X.move rfl) (by decide) ?_
          refine WL.yes rfl rfl ?_
          refine WL.x (X.move rfl) (by decide) ?_
          refine WL.yes rfl rfl ?_
          refine WL.condn (X.neq rfl rfl) (by decide) (fun h52 => ?_) (fun h52 => ?_)
          ·refine WL.yes rfl rfl ?_
           refine WL.x (X.move rfl) (by decide) ?_
           refine WL.yes rfl rfl ?_
           refine WL.x (X.move rfl) (by decide) ?_
           refine WL.yes rfl rfl ?_
           refine WL.x (X.move rfl) (by decide) ?_
           refine WL.yes rfl rfl ?_
           refine WL.condn (X.neq rfl rfl) (by decide) (fun h53 => ?_) (fun h53 => ?_)
           ·refine WL.yes rfl rfl ?_
            refine WL.x (X.pickT rfl rfl rfl) (by decide) ?_
            refine WL.x (X.pickF rfl rfl rfl) (by decide) ?_
            refine WL.nil ?_
            refine WK.nThen ?_
            exfalso; first | omega | contradiction | (have q_ := hcc.2 (by omega); omega) | (have q_ := htt (by omega); omega)
           ·refine WL.yes rfl rfl ?_
            refine WL.x (X.pickT rfl rfl rfl) (by decide) ?_
            refine WL.x (X.pickF rfl rfl rfl) (by decide) ?_
            refine WL.nil ?_
            refine WK.nThen ?_
            refine WK.meet (()) rfl (.refl _) (.cons rfl (.cons rfl (.cons rfl (.cons rfl (.cons rfl .nil))))) ?_
            trivial
          ·refine WL.yes rfl rfl ?_
           refine WL.x (X.move rfl) (by decide) ?_
           refine WL.no rfl rfl rfl (by decide) ?_
           refine WL.no rfl rfl rfl (by decide) ?_
           refine WL.no rfl rfl rfl (by decide) ?_
           refine WL.yes rfl rfl ?_
           refine WL.x (X.pickF rfl rfl rfl) (by decide) ?_
           refine WL.x (X.pickF rfl rfl rfl) (by decide) ?_
           refine WL.nil ?_
           refine WK.nThen ?_
           refine WK.meet (()) rfl (.refl _) (.cons rfl (.cons rfl (.cons rfl (.cons rfl (.cons rfl .nil))))) ?_
           trivial
        ·refine WL.yes rfl rfl ?_
         refine WL.x (X.move rfl) (by decide) ?_
         refine WL.no rfl rfl rfl (by decide) ?_
         refine WL.no rfl rfl rfl (by decide) ?_
         refine WL.no rfl rfl rfl (by decide) ?_
         refine WL.yes rfl rfl ?_
         refine WL.x (X.pickF rfl rfl rfl) (by decide) ?_
         refine WL.x (X.pickF rfl rfl rfl) (by decide) ?_
         refine WL.x (X.move rfl) (by decide) ?_
         refine WL.yes rfl rfl ?_
         refine WL.x (X.move rfl) (by decide) ?_
         refine WL.yes rfl rfl ?_
         refine WL.condn (X.neq rfl rfl) (by decide) (fun h54 => ?_) (fun h54 => ?_)
         ·refine WL.yes rfl rfl ?_
          refine WL.x (X.move rfl) (by decide) ?_
          refine WL.yes rfl rfl ?_
          refine WL.x (X.move rfl) (by decide) ?_
          refine WL.yes rfl rfl ?_
          refine WL.x (X.move rfl) (by decide) ?_
          refine WL.yes rfl rfl ?_
          refine WL.condn (X.neq rfl rfl) (by decide) (fun h55 => ?_) (fun h55 => ?_)
          ·refine WL.yes rfl rfl ?_
           refine WL.x (X.pickT rfl rfl rfl) (by decide) ?_
           refine WL.x (X.pickF rfl rfl rfl) (by decide) ?_
           refine WL.nil ?_
           refine WK.nThen ?_
           exfalso; first | omega | contradiction | (have q_ := hcc.2 (by omega); omega) | (have q_ := htt (by omega); omega)
          ·refine WL.yes rfl rfl ?_
           refine WL.x (X.pickT rfl rfl rfl) (by decide) ?_
           refine WL.x (X.pickF rfl rfl rfl) (by decide) ?_
           refine WL.nil ?_
           refine WK.nThen ?_
           refine WK.meet (()) rfl (.refl _) (.cons rfl (.cons rfl (.cons rfl (.cons rfl (.cons rfl .nil))))) ?_
           trivial
         ·refine WL.yes rfl rfl ?_
          refine WL.x (X.move rfl) (by decide) ?_
          refine WL.no rfl rfl rfl (by decide) ?_
          refine WL.no rfl rfl rfl (by decide) ?_
          refine WL.no rfl rfl rfl (by decide) ?_
          refine WL.yes rfl rfl ?_
          refine WL.x (X.pickF rfl rfl rfl) (by decide) ?_
          refine WL.x (X.pickF rfl rfl rfl) (by decide) ?_
          refine WL.nil ?_
          refine WK.nThen ?_
          refine WK.meet (()) rfl (.refl _) (.cons rfl (.cons rfl (.cons rfl (.cons rfl (.cons rfl .nil))))) ?_
          trivial
      ·rintro u_ hF56
       show WK _ _ m12 [blk b39 33 [.int .i64 ((rankR (((knownR s x).1)) time).1.Lo), .int .i64 ((rankR (((knownR s x).1)) time).1.Hi)], blk b38 33 [.int .i64 ((rankR s time).1.Lo), .int .i64 ((rankR s time).1.Hi)], blk b37 33 [.int .i64 ((extR (((knownR s x).1)) a).2.1.Lo), .int .i64 ((extR (((knownR s x).1)) a).2.1.Hi)], blk b36 33 [.int .i64 ((extR (((knownR s x).1)) a).1.Lo), .int .i64 ((extR (((knownR s x).1)) a).1.Hi)], blk b35 33 [.int .i64 ((extR s a).2.1.Lo), .int .i64 ((extR s a).2.1.Hi)], blk b34 33 [.int .i64 ((extR s a).1.Lo), .int .i64 ((extR s a).1.Hi)], blk b30 45 [.int .i64 ((mbR (((knownR s x).1)) a).2.1.Num), .int .i64 ((mbR (((knownR s x).1)) a).2.1.Den)], blk b29 45 [.int .i64 ((mbR (((knownR s x).1)) a).1.Num), .int .i64 ((mbR (((knownR s x).1)) a).1.Den)], blk b28 45 [.int .i64 ((mbR s a).2.1.Num), .int .i64 ((mbR s a).2.1.Den)], blk b27 45 [.int .i64 ((mbR s a).1.Num), .int .i64 ((mbR s a).1.Den)], blk b24 25 [v18, v20], blk b10 33 [.int .i64 (b.Lo), .int .i64 (b.Hi)], blk b9 33 [.int .i64 (a.Lo), .int .i64 (a.Hi)], blk b8 97 [.bool (x.Shift), .int .i64 (x.At), .int .i64 (x.Lo), .int .i64 (x.Hi)], blk b7 25 [v1, v3]] [(5, .int .i64 (most)), (6, .pointer (some ⟨b7, 0, none⟩)), (13, .bool true), (14, .pointer (some ⟨b24, 0, none⟩)), (200, .bool false)] _
       replace hF56 : True := hF56
       refine WC.condF rfl ?_
       refine WC.skip ?_
       refine WK.nThen ?_
       refine WC.seq ?_
       refine WC.region ?_
       refine WL.x (X.loadBA (k := 14) Try.isAgg25 Try.sizeOf25 rfl rfl rfl) (by decide) ?_
       refine WL.x (X.move rfl) (by decide) ?_
       refine WL.tm (T.call Try.call28 rfl (steps28 _ _ s ⟨_, _, rfl, hs2, hs4⟩ _ )) (by decide) fun m57 r58 hle59 hR60 => ?_
       obtain ⟨v61, rfl, hs62⟩ := hR60
       replace hs2 := hs2.mono hle59
       replace hs4 := hs4.mono hle59
       replace hs19 := hs19.mono hle59
       replace hs21 := hs21.mono hle59
       have hl63 := hs62.le
       refine WL.x (X.move rfl) (by decide) ?_
       refine WL.x (X.extract rfl rfl) (by decide) ?_
       refine WL.x (X.extract rfl rfl) (by decide) ?_
       refine WL.x (X.extract rfl rfl) (by decide) ?_
       refine WL.x (X.assign rfl) (by decide) ?_
       refine WL.x (X.assign rfl) (by decide) ?_
       refine WL.x (X.assign rfl) (by decide) ?_
       refine WL.nil ?_
       refine WK.nThen ?_
       refine WC.seq ?_
       refine WC.region ?_
       refine WL.x (X.loadBA (k := 10) Try.isAgg25 Try.sizeOf25 rfl rfl rfl) (by decide) ?_
       refine WL.x (X.move rfl) (by decide) ?_
       refine WL.tm (T.call Try.call28 rfl (steps28 _ _ ((knownR s x).1) ⟨_, _, rfl, hs19, hs21⟩ _ )) (by decide) fun m64 r65 hle66 hR67 => ?_
       obtain ⟨v68, rfl, hs69⟩ := hR67
       replace hs2 := hs2.mono hle66
       replace hs4 := hs4.mono hle66
       replace hs19 := hs19.mono hle66
       replace hs21 := hs21.mono hle66
       replace hs62 := hs62.mono hle66
       have hl70 := hs69.le
       refine WL.x (X.move rfl) (by decide) ?_
       refine WL.x (X.extract rfl rfl) (by decide) ?_
       refine WL.x (X.extract rfl rfl) (by decide) ?_
       refine WL.x (X.extract rfl rfl) (by decide) ?_
       refine WL.x (X.assign rfl) (by decide) ?_
       refine WL.x (X.assign rfl) (by decide) ?_
       refine WL.x (X.assign rfl) (by decide) ?_
       refine WL.nil ?_
       refine WK.nThen ?_
       refine WC.seq ?_
       refine WC.region ?_
       refine WL.x (X.loadBA (k := 14) Try.isAgg25 Try.sizeOf25 rfl rfl rfl) (by decide) ?_
       refine WL.tm (T.call Try.call32 rfl (falls32 _ _ s ⟨_, _, rfl, hs2, hs4⟩ )) (by decide) fun m71 r72 hle73 hR74 => ?_
       obtain ⟨v75, rfl, hs76⟩ := hR74
       replace hs2 := hs2.mono hle73
       replace hs4 := hs4.mono hle73
       replace hs19 := hs19.mono hle73
       replace hs21 := hs21.mono hle73
       replace hs62 := hs62.mono hle73
       replace hs69 := hs69.mono hle73
       have hl77 := hs76.le
       refine WL.x (X.move rfl) (by decide) ?_
       refine WL.x (X.extract rfl rfl) (by decide) ?_
       refine WL.x (X.extract rfl rfl) (by decide) ?_
       refine WL.x (X.assign rfl) (by decide) ?_
       refine WL.x (X.assign rfl) (by decide) ?_
       refine WL.nil ?_
       refine WK.nThen ?_
       refine WC.seq ?_
       refine WC.region ?_
       refine WL.x (X.loadBA (k := 10) Try.isAgg25 Try.sizeOf25 rfl rfl rfl) (by decide) ?_
       refine WL.tm (T.call Try.call32 rfl (falls32 _ _ ((knownR s x).1) ⟨_, _, rfl, hs19, hs21⟩ )) (by decide) fun m78 r79 hle80 hR81 => ?_
       obtain ⟨v82, rfl, hs83⟩ := hR81
       replace hs2 := hs2.mono hle80
       replace hs4 := hs4.mono hle80
       replace hs19 := hs19.mono hle80
       replace hs21 := hs21.mono hle80
       replace hs62 := hs62.mono hle80
       replace hs69 := hs69.mono hle80
       replace hs76 := hs76.mono hle80
       have hl84 := hs83.le
       refine WL.x (X.move rfl) (by decide) ?_
       refine WL.x (X.extract rfl rfl) (by decide) ?_
       refine WL.x (X.extract rfl rfl) (by decide) ?_
       refine WL.x (X.assign rfl) (by decide) ?_
       refine WL.x (X.assign rfl) (by decide) ?_
       refine WL.nil ?_
       refine WK.nThen ?_
       refine WC.seq ?_
       have hss := nar_stp hN most
       have hff := fun h => nar_fall hN h
       refine WC.region ?_
       refine WL.x (X.move rfl) (by decide) ?_
       refine WL.x (X.move rfl) (by decide) ?_
       refine WL.yes rfl rfl ?_
       refine WL.x (X.move rfl) (by decide) ?_
       refine WL.yes rfl rfl ?_
       refine WL.x (X.move rfl) (by decide) ?_
       refine WL.yes rfl rfl ?_
       refine WL.cond (X.eql rfl rfl) (by decide) (fun h85 => ?_) (fun h85 => ?_)
       ·refine WL.x (X.pickT rfl rfl rfl) (by decide) ?_
        refine WL.x (X.move rfl) (by decide) ?_
        refine WL.yes rfl rfl ?_
        refine WL.x (X.move rfl) (by decide) ?_
        refine WL.yes rfl rfl ?_
        refine WL.x (X.move rfl) (by decide) ?_
        refine WL.yes rfl rfl ?_
        refine WL.cond (X.leq rfl rfl) (by decide) (fun h86 => ?_) (fun h86 => ?_)
        ·refine WL.x (X.pickT rfl rfl rfl) (by decide) ?_
         refine WL.x (X.move rfl) (by decide) ?_
         refine WL.yes rfl rfl ?_
         refine WL.x (X.move rfl) (by decide) ?_
         refine WL.yes rfl rfl ?_
         refine WL.condn (X.neq rfl rfl) (by decide) (fun h87 => ?_) (fun h87 => ?_)
         ·refine WL.yes rfl rfl ?_
          refine WL.x (X.move rfl) (by decide) ?_
          refine WL.no rfl rfl rfl (by decide) ?_
          refine WL.no rfl rfl rfl (by decide) ?_
          refine WL.no rfl rfl rfl (by decide) ?_
          refine WL.noU rfl rfl (by decide) ?_
          refine WL.noU rfl rfl (by decide) ?_
          refine WL.noU rfl rfl (by decide) ?_
          refine WL.no rfl rfl rfl (by decide) ?_
          refine WL.yes rfl rfl ?_
          refine WL.x (X.pickT rfl rfl rfl) (by decide) ?_
          refine WL.x (X.pickT rfl rfl rfl) (by decide) ?_
          refine WL.x (X.assign rfl) (by decide) ?_
          refine WL.nil ?_
          refine WK.nThen ?_
          refine WC.ret ?_
          refine WK.ret1 rfl rfl (fun w' hw' => Ret.exact hw' ?_)
          first | rfl | (exfalso; omega) | (exfalso; have q_ := hff (by omega); omega) | exact (bool_true (by omega)).symm | exact (bool_true (by have q_ := hff (by omega); omega)).symm
         ·refine WL.yes rfl rfl ?_
          refine WL.x (X.move rfl) (by decide) ?_
          refine WL.yes rfl rfl ?_
          refine WL.x (X.move rfl) (by decide) ?_
          refine WL.yes rfl rfl ?_
          refine WL.cond (X.eql rfl rfl) (by decide) (fun h88 => ?_) (fun h88 => ?_)
          ·refine WL.yes rfl rfl ?_
           refine WL.x (X.move rfl) (by decide) ?_
           refine WL.yes rfl rfl ?_
           refine WL.x (X.move rfl) (by decide) ?_
           refine WL.yes rfl rfl ?_
           refine WL.x (X.len Try.runUnderlying28 rfl hs76) (by decide) ?_
           refine WL.yes rfl rfl ?_
           refine WL.x (X.eql rfl rfl) (by decide) ?_
           refine WL.yes rfl rfl ?_
           refine WL.x (X.pickT rfl rfl rfl) (by decide) ?_
           refine WL.yes rfl rfl ?_
           refine WL.x (X.pickF rfl rfl rfl) (by decide) ?_
           refine WL.x (X.pickT rfl rfl rfl) (by decide) ?_
           refine WL.x (X.assign rfl) (by decide) ?_
           refine WL.nil ?_
           refine WK.nThen ?_
           refine WC.ret ?_
           refine WK.ret1 rfl rfl (fun w' hw' => Ret.exact hw' ?_)
           first | rfl | (exfalso; omega) | (exfalso; have q_ := hff (by omega); omega) | exact (bool_true (by omega)).symm | exact (bool_true (by have q_ := hff (by omega); omega)).symm
          ·refine WL.yes rfl rfl ?_
           refine WL.x (X.move rfl) (by decide) ?_
           refine WL.no rfl rfl rfl (by decide) ?_
           refine WL.no rfl rfl rfl (by decide) ?_
           refine WL.no rfl rfl rfl (by decide) ?_
           refine WL.yes rfl rfl ?_
           refine WL.x (X.pickF rfl rfl rfl) (by decide) ?_
           refine WL.yes rfl rfl ?_
           refine WL.x (X.pickF rfl rfl rfl) (by decide) ?_
           refine WL.x (X.pickT rfl rfl rfl) (by decide) ?_
           refine WL.x (X.assign rfl) (by decide) ?_
           refine WL.nil ?_
           refine WK.nThen ?_
           refine WC.ret ?_
           refine WK.ret1 rfl rfl (fun w' hw' => Ret.exact hw' ?_)
           first | rfl | (exfalso; omega) | (exfalso; have q_ := hff (by omega); omega) | exact (bool_true (by omega)).symm | exact (bool_true (by have q_ := hff (by omega); omega)).symm
        ·refine WL.x (X.pickT rfl rfl rfl) (by decide) ?_
         refine WL.x (X.move rfl) (by decide) ?_
         refine WL.no rfl rfl rfl (by decide) ?_
         refine WL.no rfl rfl rfl (by decide) ?_
         refine WL.no rfl rfl rfl (by decide) ?_
         refine WL.noU rfl rfl (by decide) ?_
         refine WL.noU rfl rfl (by decide) ?_
         refine WL.noU rfl rfl (by decide) ?_
         refine WL.noU rfl rfl (by decide) ?_
         refine WL.noU rfl rfl (by decide) ?_
         refine WL.noU rfl rfl (by decide) ?_
         refine WL.noU rfl rfl (by decide) ?_
         refine WL.no rfl rfl rfl (by decide) ?_
         refine WL.x (X.pickF rfl rfl rfl) (by decide) ?_
         refine WL.x (X.assign rfl) (by decide) ?_
         refine WL.nil ?_
         refine WK.nThen ?_
         refine WC.ret ?_
         refine WK.ret1 rfl rfl (fun w' hw' => Ret.exact hw' ?_)
         first | rfl | (exfalso; omega) | (exfalso; have q_ := hff (by omega); omega) | exact (bool_true (by omega)).symm | exact (bool_true (by have q_ := hff (by omega); omega)).symm
       ·refine WL.x (X.pickT rfl rfl rfl) (by decide) ?_
        refine WL.x (X.move rfl) (by decide) ?_
        refine WL.no rfl rfl rfl (by decide) ?_
        refine WL.no rfl rfl rfl (by decide) ?_
        refine WL.no rfl rfl rfl (by decide) ?_
        refine WL.x (X.pickF rfl rfl rfl) (by decide) ?_
        refine WL.x (X.move rfl) (by decide) ?_
        refine WL.no rfl rfl rfl (by decide) ?_
        refine WL.no rfl rfl rfl (by decide) ?_
        refine WL.no rfl rfl rfl (by decide) ?_
        refine WL.noU rfl rfl (by decide) ?_
        refine WL.noU rfl rfl (by decide) ?_
        refine WL.noU rfl rfl (by decide) ?_
        refine WL.noU rfl rfl (by decide) ?_
        refine WL.noU rfl rfl (by decide) ?_
        refine WL.noU rfl rfl (by decide) ?_
        refine WL.noU rfl rfl (by decide) ?_
        refine WL.no rfl rfl rfl (by decide) ?_
        refine WL.x (X.pickF rfl rfl rfl) (by decide) ?_
        refine WL.x (X.assign rfl) (by decide) ?_
        refine WL.nil ?_
        refine WK.nThen ?_
        refine WC.ret ?_
        refine WK.ret1 rfl rfl (fun w' hw' => Ret.exact hw' ?_)
        first | rfl | (exfalso; omega) | (exfalso; have q_ := hff (by omega); omega) | exact (bool_true (by omega)).symm | exact (bool_true (by have q_ := hff (by omega); omega)).symm
 ·refine WL.x (X.not rfl) (by decide) ?_
  refine WL.nil ?_
  refine WK.nThen ?_
  refine WC.condT rfl ?_
  refine WC.seq ?_
  refine WC.region ?_
  refine WL.x (X.move rfl) (by decide) ?_
  refine WL.x (X.assign rfl) (by decide) ?_
  refine WL.nil ?_
  refine WK.nThen ?_
  refine WC.ret ?_
  refine WK.rThen ?_
  refine WK.ret1 rfl rfl (fun w' hw' => Ret.exact hw' ?_)
  first | rfl | (exfalso; omega) | (exfalso; have q_ := hff (by omega); omega) | exact (bool_true (by omega)).symm | exact (bool_true (by have q_ := hff (by omega); omega)).symm
end Go.Proofs.C8
