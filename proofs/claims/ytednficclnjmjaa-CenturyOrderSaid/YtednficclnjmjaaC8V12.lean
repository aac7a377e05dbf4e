import Derived.Test.YtednficclnjmjaaC8Br
import Derived.Test.YtednficclnjmjaaC8W9
import Derived.Test.YtednficclnjmjaaC8LOrd
import Derived.Test.YtednficclnjmjaaC8W16
import Derived.Test.YtednficclnjmjaaKxQ
/- The walk of the statement CenturyOrder: its function answers true. -/
namespace Go.Proofs.C8
open Go Go.Kx
set_option linter.unusedSimpArgs false
set_option linter.unusedVariables false
set_option maxRecDepth 20000 in
set_option maxHeartbeats 4000000 in
theorem law12 (m : Mem) (cs : List Value) (s : Ser) (hs : Enc.rd m cs s) (which : Int) (ca : List Value) (a : Span) (ha : Enc.rd m ca a) (cb : List Value) (b : Span) (hb : Enc.rd m cb b) (time : Int) (most : Int)  (ok0 : Rng.ok s) (lo1 : -9223372036854775808 ≤ which) (hi1 : which ≤ 9223372036854775807) (ok2 : Rng.ok a) (ok3 : Rng.ok b) (lo4 : -9223372036854775808 ≤ time) (hi4 : time ≤ 9223372036854775807) (lo5 : -9223372036854775808 ≤ most) (hi5 : most ≤ 9223372036854775807) : Exact Try.prog 12 #[.agg cs.toArray, .int .i64 (which), .agg ca.toArray, .agg cb.toArray, .int .i64 (time), .int .i64 (most)] m (.bool true) := by
 obtain ⟨v1, v3, rfl, hs2, hs4⟩ := hs
 have hl5 := hs2.le
 have hl6 := hs4.le
 obtain rfl := ha
 obtain rfl := hb
 refine Exact.start Try.func12 rfl Try.ntmps12 rfl fun wld => ?_
 refine WC.seq ?_
 refine WC.region ?_
 refine WL.tn (T.boxB rfl rfl) (by decide) fun b7 => ?_
 refine WL.tn (T.boxB rfl rfl) (by decide) fun b8 => ?_
 refine WL.tn (T.boxB rfl rfl) (by decide) fun b9 => ?_
 refine WL.x (X.assign rfl) (by decide) ?_
 refine WL.nil ?_
 refine WK.nThen ?_
 refine WC.seq ?_
 refine WC.region ?_
 refine WL.x (X.call Try.call21 rfl (awake21 _  )) (by decide) ?_
 refine WL.x (X.assign rfl) (by decide) ?_
 refine WL.nil ?_
 refine WK.nThen ?_
 refine WC.seq ?_
 refine WC.region ?_
 refine WL.x (X.loadBA (k := 2) Try.isAgg25 Try.sizeOf25 rfl rfl rfl) (by decide) ?_
 refine WL.x (X.call Try.call34 rfl (check34 _ _ s ⟨_, _, rfl, hs2, hs4⟩ )) (by decide) ?_
 refine WL.x (X.move rfl) (by decide) ?_
 refine WL.x (X.extract rfl rfl) (by decide) ?_
 refine WL.x (X.extract rfl rfl) (by decide) ?_
 refine WL.x (X.assign rfl) (by decide) ?_
 refine WL.x (X.assign rfl) (by decide) ?_
 refine WL.nil ?_
 refine WK.nThen ?_
 refine WC.seq ?_
 refine WC.seq ?_
 refine WC.region ?_
 refine WL.x (X.loadBA (k := 2) Try.isAgg25 Try.sizeOf25 rfl rfl rfl) (by decide) ?_
 refine WL.cond (X.call Try.call22 rfl (few22 _ _ s ⟨_, _, rfl, hs2, hs4⟩ )) (by decide) (fun h10 => ?_) (fun h10 => ?_)
 ·refine WL.x (X.not rfl) (by decide) ?_
  refine WL.x (X.move rfl) (by decide) ?_
  refine WL.yes rfl rfl ?_
  refine WL.x (X.move rfl) (by decide) ?_
  refine WL.yes rfl rfl ?_
  refine WL.condn (X.neq rfl rfl) (by decide) (fun h11 => ?_) (fun h11 => ?_)
  ·refine WL.x (X.pickF rfl rfl rfl) (by decide) ?_
   refine WL.nil ?_
   refine WK.nThen ?_
   refine WC.condT rfl ?_
   refine WC.seq ?_
   refine WC.region ?_
   refine WL.x (X.move rfl) (by decide) ?_
   refine WL.x (X.assign rfl) (by decide) ?_
   refine WL.nil ?_
   refine WK.nThen ?_
   refine WC.ret ?_
   refine WK.rThen ?_
   refine WK.ret1 rfl rfl (fun w' hw' => Ret.exact hw' ?_)
   first | rfl | (exfalso; omega) | (exfalso; contradiction) | exact (bool_true rfl).symm | exact (bool_true (by omega)).symm
  ·refine WL.x (X.pickF rfl rfl rfl) (by decide) ?_
   refine WL.nil ?_
   refine WK.nThen ?_
   refine WC.condF rfl ?_
   refine WC.skip ?_
   refine WK.nThen ?_
   refine WC.seq ?_
   have hok := Ok.of (s := s) (by show (chk s).1 = 0; omega)
   have hnV := hok.nV
   have hnX := hok.nX
   refine WC.region ?_
   refine WL.x (X.loadBA (k := 2) Try.isAgg25 Try.sizeOf25 rfl rfl rfl) (by decide) ?_
   refine WL.x (X.move rfl) (by decide) ?_
   refine WL.x (X.loadBA (k := 1) Try.isAgg33 Try.sizeOf33 rfl rfl rfl) (by decide) ?_
   refine WL.tm (T.call Try.call55 rfl (narrow55 _ _ s ⟨_, _, rfl, hs2, hs4⟩ _ _ a rfl )) (by decide) fun m12 r13 hle14 hR15 => ?_
   obtain ⟨c16, rfl, hc17⟩ := hR15
   replace hs2 := hs2.mono hle14
   replace hs4 := hs4.mono hle14
   obtain ⟨v18, v20, rfl, hs19, hs21⟩ := hc17
   have hl22 := hs19.le
   have hl23 := hs21.le
   refine WL.x (X.move rfl) (by decide) ?_
   refine WL.x (X.extract rfl rfl) (by decide) ?_
   refine WL.x (X.extract rfl rfl) (by decide) ?_
   refine WL.tn (T.alloc Try.zeroValue25 rfl) (by decide) fun b24 => ?_
   refine WL.ts (T.storeBA (k := 0) Try.sizeOf25 rfl rfl rfl (one_cons hs19.one (one_cons hs21.one one_nil)) rfl rfl) ?_
   refine WL.x (X.assign rfl) (by decide) ?_
   refine WL.nil ?_
   refine WK.nThen ?_
   refine WC.seq ?_
   refine WC.region ?_
   refine WL.x (X.loadBA (k := 0) Try.isAgg25 Try.sizeOf25 rfl rfl rfl) (by decide) ?_
   refine WL.x (X.move rfl) (by decide) ?_
   refine WL.x (X.loadBA (k := 1) Try.isAgg33 Try.sizeOf33 rfl rfl rfl) (by decide) ?_
   refine WL.tm (T.call Try.call55 rfl (narrow55 _ _ ((narR s time a).1) ⟨_, _, rfl, hs19, hs21⟩ _ _ b rfl )) (by decide) fun m25 r26 hle27 hR28 => ?_
   obtain ⟨c29, rfl, hc30⟩ := hR28
   replace hs2 := hs2.mono hle27
   replace hs4 := hs4.mono hle27
   replace hs19 := hs19.mono hle27
   replace hs21 := hs21.mono hle27
   obtain ⟨v31, v33, rfl, hs32, hs34⟩ := hc30
   have hl35 := hs32.le
   have hl36 := hs34.le
   refine WL.x (X.move rfl) (by decide) ?_
   refine WL.x (X.extract rfl rfl) (by decide) ?_
   refine WL.x (X.extract rfl rfl) (by decide) ?_
   refine WL.tn (T.alloc Try.zeroValue25 rfl) (by decide) fun b37 => ?_
   refine WL.ts (T.storeBA (k := 0) Try.sizeOf25 rfl rfl rfl (one_cons hs32.one (one_cons hs34.one one_nil)) rfl rfl) ?_
   refine WL.x (X.assign rfl) (by decide) ?_
   refine WL.nil ?_
   refine WK.nThen ?_
   refine WC.seq ?_
   refine WC.region ?_
   refine WL.x (X.loadBA (k := 4) Try.isAgg25 Try.sizeOf25 rfl rfl rfl) (by decide) ?_
   refine WL.x (X.move rfl) (by decide) ?_
   refine WL.x (X.field Try.runUnderlying33 rfl Try.sizeOf3 rfl) (by decide) ?_
   refine WL.x (X.loadB (k := 3) Try.isAgg3 rfl rfl rfl) (by decide) ?_
   refine WL.x (X.field Try.runUnderlying33 rfl Try.sizeOf3 rfl) (by decide) ?_
   refine WL.x (X.loadB (k := 2) Try.isAgg3 rfl rfl rfl) (by decide) ?_
   refine WL.x (X.mx rfl rfl) (by decide) ?_
   refine WL.x (X.field Try.runUnderlying33 rfl Try.sizeOf3 rfl) (by decide) ?_
   refine WL.x (X.loadB (k := 3) Try.isAgg3 rfl rfl rfl) (by decide) ?_
   refine WL.x (X.field Try.runUnderlying33 rfl Try.sizeOf3 rfl) (by decide) ?_
   refine WL.x (X.loadB (k := 2) Try.isAgg3 rfl rfl rfl) (by decide) ?_
   refine WL.x (X.mn rfl rfl) (by decide) ?_
   refine WL.x (V := Value.agg [.int .i64 (max a.Lo b.Lo), .int .i64 (min a.Hi b.Hi)].toArray) (X.build Try.zeroValue33 Try.runUnderlying33 (places33 _ Try.underlying33) rfl rfl) (by decide) ?_
   refine WL.tm (T.call Try.call55 rfl (narrow55 _ _ s ⟨_, _, rfl, hs2, hs4⟩ _ _ ((Span.mk (max a.Lo b.Lo) (min a.Hi b.Hi))) rfl )) (by decide) fun m38 r39 hle40 hR41 => ?_
   obtain ⟨c42, rfl, hc43⟩ := hR41
   replace hs2 := hs2.mono hle40
   replace hs4 := hs4.mono hle40
   replace hs19 := hs19.mono hle40
   replace hs21 := hs21.mono hle40
   replace hs32 := hs32.mono hle40
   replace hs34 := hs34.mono hle40
   obtain ⟨v44, v46, rfl, hs45, hs47⟩ := hc43
   have hl48 := hs45.le
   have hl49 := hs47.le
   refine WL.x (X.move rfl) (by decide) ?_
   refine WL.x (X.extract rfl rfl) (by decide) ?_
   refine WL.x (X.extract rfl rfl) (by decide) ?_
   refine WL.tn (T.alloc Try.zeroValue25 rfl) (by decide) fun b50 => ?_
   refine WL.ts (T.storeBA (k := 0) Try.sizeOf25 rfl rfl rfl (one_cons hs45.one (one_cons hs47.one one_nil)) rfl rfl) ?_
   refine WL.x (X.assign rfl) (by decide) ?_
   refine WL.nil ?_
   refine WK.nThen ?_
   refine WC.seq ?_
   refine WC.cut (G := Unit) (fun u_ => m38) (fun u_ => [blk b50 25 [v44, v46], blk b37 25 [v31, v33], blk b24 25 [v18, v20], blk b9 33 [.int .i64 (b.Lo), .int .i64 (b.Hi)], blk b8 33 [.int .i64 (a.Lo), .int .i64 (a.Hi)], blk b7 25 [v1, v3]]) (fun u_ => [(1, .int .i64 (which)), (4, .int .i64 (time)), (5, .int .i64 (most)), (6, .pointer (some ⟨b7, 0, none⟩)), (8, .pointer (some ⟨b8, 0, none⟩)), (13, .bool true), (90, .bool false)]) (fun u_ => True) ?_ ?_
   ·have hnt : (((narR s time a).2 = 0 ∧ (narR (narR s time a).1 time b).2 = 0) ↔ (narR s time (Span.mk (max a.Lo b.Lo) (min a.Hi b.Hi))).2 = 0) ∧ ((narR s time (Span.mk (max a.Lo b.Lo) (min a.Hi b.Hi))).2 = 0 → (narR (narR s time a).1 time b).1 = (narR s time (Span.mk (max a.Lo b.Lo) (min a.Hi b.Hi))).1) := nar_twice hok time a b
    have hnt1 := hnt.1
    refine WC.region ?_
    refine WL.x (X.move rfl) (by decide) ?_
    refine WL.cond (X.eql rfl rfl) (by decide) (fun h51 => ?_) (fun h51 => ?_)
    ·refine WL.x (X.move rfl) (by decide) ?_
     refine WL.yes rfl rfl ?_
     refine WL.x (X.move rfl) (by decide) ?_
     refine WL.yes rfl rfl ?_
     refine WL.cond (X.eql rfl rfl) (by decide) (fun h52 => ?_) (fun h52 => ?_)
     ·refine WL.x (X.pickT rfl rfl rfl) (by decide) ?_
      refine WL.x (X.move rfl) (by decide) ?_
      refine WL.cond (X.eql rfl rfl) (by decide) (fun h53 => ?_) (fun h53 => ?_)
      ·refine WL.x (OpX.f (X.neqB Try.underlying4 rfl rfl) (fun h => h rfl)) (by decide) ?_
       refine WL.x (X.move rfl) (by decide) ?_
       refine WL.yes rfl rfl ?_
       refine WL.x (X.move rfl) (by decide) ?_
       refine WL.yes rfl rfl ?_
       refine WL.cond (X.eql rfl rfl) (by decide) (fun h54 => ?_) (fun h54 => ?_)
       ·refine WL.yes rfl rfl ?_
        refine WL.x (X.move rfl) (by decide) ?_
        refine WL.yes rfl rfl ?_
        refine WL.x (X.loadBA (k := 1) Try.isAgg25 Try.sizeOf25 rfl rfl rfl) (by decide) ?_
        refine WL.yes rfl rfl ?_
        refine WL.x (X.loadBA (k := 0) Try.isAgg25 Try.sizeOf25 rfl rfl rfl) (by decide) ?_
        refine WL.yes rfl rfl ?_
        refine WL.x (OpX.t (X.call Try.call56 rfl (sameSeries56 _ _ ((narR (((narR s time a).1)) time b).1) ⟨_, _, rfl, hs32, hs34⟩ _ ((narR s time (((Span.mk (max a.Lo b.Lo) (min a.Hi b.Hi))))).1) ⟨_, _, rfl, hs45, hs47⟩ )) (hnt.2 (by omega))) (by decide) ?_
        refine WL.yes rfl rfl ?_
        refine WL.x (X.not rfl) (by decide) ?_
        refine WL.yes rfl rfl ?_
        refine WL.x (X.pickT rfl rfl rfl) (by decide) ?_
        refine WL.x (X.pickF rfl rfl rfl) (by decide) ?_
        refine WL.nil ?_
        refine WK.nThen ?_
        refine WK.meet (()) rfl (.refl _) (.cons rfl (.cons rfl (.cons rfl (.cons rfl (.cons rfl (.cons rfl (.cons rfl .nil))))))) ?_
        trivial
       ·refine WL.yes rfl rfl ?_
        refine WL.x (X.move rfl) (by decide) ?_
        refine WL.no rfl rfl rfl (by decide) ?_
        refine WL.no rfl rfl rfl (by decide) ?_
        refine WL.no rfl rfl rfl (by decide) ?_
        refine WL.no rfl rfl rfl (by decide) ?_
        refine WL.yes rfl rfl ?_
        refine WL.x (X.pickF rfl rfl rfl) (by decide) ?_
        refine WL.x (X.pickF rfl rfl rfl) (by decide) ?_
        refine WL.nil ?_
        refine WK.nThen ?_
        refine WK.meet (()) rfl (.refl _) (.cons rfl (.cons rfl (.cons rfl (.cons rfl (.cons rfl (.cons rfl (.cons rfl .nil))))))) ?_
        trivial
      ·refine WL.x (OpX.t (X.neqB Try.underlying4 rfl rfl) (by decide)) (by decide) ?_
       refine WL.x (X.move rfl) (by decide) ?_
       refine WL.no rfl rfl rfl (by decide) ?_
       refine WL.no rfl rfl rfl (by decide) ?_
       refine WL.no rfl rfl rfl (by decide) ?_
       refine WL.noU rfl rfl (by decide) ?_
       refine WL.noU rfl rfl (by decide) ?_
       refine WL.noU rfl rfl (by decide) ?_
       refine WL.noU rfl rfl (by decide) ?_
       refine WL.no rfl rfl rfl (by decide) ?_
       refine WL.x (X.pickT rfl rfl rfl) (by decide) ?_
       refine WL.nil ?_
       refine WK.nThen ?_
       exfalso; first | omega | contradiction
     ·refine WL.x (X.pickT rfl rfl rfl) (by decide) ?_
      refine WL.x (X.move rfl) (by decide) ?_
      refine WL.cond (X.eql rfl rfl) (by decide) (fun h55 => ?_) (fun h55 => ?_)
      ·refine WL.x (OpX.t (X.neqB Try.underlying4 rfl rfl) (by decide)) (by decide) ?_
       refine WL.x (X.move rfl) (by decide) ?_
       refine WL.no rfl rfl rfl (by decide) ?_
       refine WL.no rfl rfl rfl (by decide) ?_
       refine WL.no rfl rfl rfl (by decide) ?_
       refine WL.noU rfl rfl (by decide) ?_
       refine WL.noU rfl rfl (by decide) ?_
       refine WL.noU rfl rfl (by decide) ?_
       refine WL.noU rfl rfl (by decide) ?_
       refine WL.no rfl rfl rfl (by decide) ?_
       refine WL.x (X.pickT rfl rfl rfl) (by decide) ?_
       refine WL.nil ?_
       refine WK.nThen ?_
       exfalso; first | omega | contradiction
      ·refine WL.x (OpX.f (X.neqB Try.underlying4 rfl rfl) (fun h => h rfl)) (by decide) ?_
       refine WL.x (X.move rfl) (by decide) ?_
       refine WL.yes rfl rfl ?_
       refine WL.x (X.move rfl) (by decide) ?_
       refine WL.yes rfl rfl ?_
       refine WL.cond (X.eql rfl rfl) (by decide) (fun h56 => ?_) (fun h56 => ?_)
       ·refine WL.yes rfl rfl ?_
        refine WL.x (X.move rfl) (by decide) ?_
        refine WL.yes rfl rfl ?_
        refine WL.x (X.loadBA (k := 1) Try.isAgg25 Try.sizeOf25 rfl rfl rfl) (by decide) ?_
        refine WL.yes rfl rfl ?_
        refine WL.x (X.loadBA (k := 0) Try.isAgg25 Try.sizeOf25 rfl rfl rfl) (by decide) ?_
        refine WL.yes rfl rfl ?_
        refine WL.x (OpX.t (X.call Try.call56 rfl (sameSeries56 _ _ ((narR (((narR s time a).1)) time b).1) ⟨_, _, rfl, hs32, hs34⟩ _ ((narR s time (((Span.mk (max a.Lo b.Lo) (min a.Hi b.Hi))))).1) ⟨_, _, rfl, hs45, hs47⟩ )) (hnt.2 (by omega))) (by decide) ?_
        refine WL.yes rfl rfl ?_
        refine WL.x (X.not rfl) (by decide) ?_
        refine WL.yes rfl rfl ?_
        refine WL.x (X.pickT rfl rfl rfl) (by decide) ?_
        refine WL.x (X.pickF rfl rfl rfl) (by decide) ?_
        refine WL.nil ?_
        refine WK.nThen ?_
        refine WK.meet (()) rfl (.refl _) (.cons rfl (.cons rfl (.cons rfl (.cons rfl (.cons rfl (.cons rfl (.cons rfl .nil))))))) ?_
        trivial
       ·refine WL.yes rfl rfl ?_
        refine WL.x (X.move rfl) (by decide) ?_
        refine WL.no rfl rfl rfl (by decide) ?_
        refine WL.no rfl rfl rfl (by decide) ?_
        refine WL.no rfl rfl rfl (by decide) ?_
        refine WL.no rfl rfl rfl (by decide) ?_
        refine WL.yes rfl rfl ?_
        refine WL.x (X.pickF rfl rfl rfl) (by decide) ?_
        refine WL.x (X.pickF rfl rfl rfl) (by decide) ?_
        refine WL.nil ?_
        refine WK.nThen ?_
        refine WK.meet (()) rfl (.refl _) (.cons rfl (.cons rfl (.cons rfl (.cons rfl (.cons rfl (.cons rfl (.cons rfl .nil))))))) ?_
        trivial
    ·refine WL.x (X.move rfl) (by decide) ?_
     refine WL.no rfl rfl rfl (by decide) ?_
     refine WL.no rfl rfl rfl (by decide) ?_
     refine WL.x (X.pickF rfl rfl rfl) (by decide) ?_
     refine WL.x (X.move rfl) (by decide) ?_
     refine WL.cond (X.eql rfl rfl) (by decide) (fun h57 => ?_) (fun h57 => ?_)
     ·refine WL.x (OpX.t (X.neqB Try.underlying4 rfl rfl) (by decide)) (by decide) ?_
      refine WL.x (X.move rfl) (by decide) ?_
      refine WL.no rfl rfl rfl (by decide) ?_
      refine WL.no rfl rfl rfl (by decide) ?_
      refine WL.no rfl rfl rfl (by decide) ?_
      refine WL.noU rfl rfl (by decide) ?_
      refine WL.noU rfl rfl (by decide) ?_
      refine WL.noU rfl rfl (by decide) ?_
      refine WL.noU rfl rfl (by decide) ?_
      refine WL.no rfl rfl rfl (by decide) ?_
      refine WL.x (X.pickT rfl rfl rfl) (by decide) ?_
      refine WL.nil ?_
      refine WK.nThen ?_
      exfalso; first | omega | contradiction
     ·refine WL.x (OpX.f (X.neqB Try.underlying4 rfl rfl) (fun h => h rfl)) (by decide) ?_
      refine WL.x (X.move rfl) (by decide) ?_
      refine WL.yes rfl rfl ?_
      refine WL.x (X.move rfl) (by decide) ?_
      refine WL.yes rfl rfl ?_
      refine WL.cond (X.eql rfl rfl) (by decide) (fun h58 => ?_) (fun h58 => ?_)
      ·refine WL.yes rfl rfl ?_
       refine WL.x (X.move rfl) (by decide) ?_
       refine WL.yes rfl rfl ?_
       refine WL.x (X.loadBA (k := 1) Try.isAgg25 Try.sizeOf25 rfl rfl rfl) (by decide) ?_
       refine WL.yes rfl rfl ?_
       refine WL.x (X.loadBA (k := 0) Try.isAgg25 Try.sizeOf25 rfl rfl rfl) (by decide) ?_
       refine WL.yes rfl rfl ?_
       refine WL.x (OpX.t (X.call Try.call56 rfl (sameSeries56 _ _ ((narR (((narR s time a).1)) time b).1) ⟨_, _, rfl, hs32, hs34⟩ _ ((narR s time (((Span.mk (max a.Lo b.Lo) (min a.Hi b.Hi))))).1) ⟨_, _, rfl, hs45, hs47⟩ )) (hnt.2 (by omega))) (by decide) ?_
       refine WL.yes rfl rfl ?_
       refine WL.x (X.not rfl) (by decide) ?_
       refine WL.yes rfl rfl ?_
       refine WL.x (X.pickT rfl rfl rfl) (by decide) ?_
       refine WL.x (X.pickF rfl rfl rfl) (by decide) ?_
       refine WL.nil ?_
       refine WK.nThen ?_
       refine WK.meet (()) rfl (.refl _) (.cons rfl (.cons rfl (.cons rfl (.cons rfl (.cons rfl (.cons rfl (.cons rfl .nil))))))) ?_
       trivial
      ·refine WL.yes rfl rfl ?_
       refine WL.x (X.move rfl) (by decide) ?_
       refine WL.no rfl rfl rfl (by decide) ?_
       refine WL.no rfl rfl rfl (by decide) ?_
       refine WL.no rfl rfl rfl (by decide) ?_
       refine WL.no rfl rfl rfl (by decide) ?_
       refine WL.yes rfl rfl ?_
       refine WL.x (X.pickF rfl rfl rfl) (by decide) ?_
       refine WL.x (X.pickF rfl rfl rfl) (by decide) ?_
       refine WL.nil ?_
       refine WK.nThen ?_
       refine WK.meet (()) rfl (.refl _) (.cons rfl (.cons rfl (.cons rfl (.cons rfl (.cons rfl (.cons rfl (.cons rfl .nil))))))) ?_
       trivial
   ·rintro u_ hF59
    show WK _ _ m38 [blk b50 25 [v44, v46], blk b37 25 [v31, v33], blk b24 25 [v18, v20], blk b9 33 [.int .i64 (b.Lo), .int .i64 (b.Hi)], blk b8 33 [.int .i64 (a.Lo), .int .i64 (a.Hi)], blk b7 25 [v1, v3]] [(1, .int .i64 (which)), (4, .int .i64 (time)), (5, .int .i64 (most)), (6, .pointer (some ⟨b7, 0, none⟩)), (8, .pointer (some ⟨b8, 0, none⟩)), (13, .bool true), (90, .bool false)] _
    replace hF59 : True := hF59
    refine WC.condF rfl ?_
    refine WC.skip ?_
    refine WK.nThen ?_
    refine WC.seq ?_
    refine WC.seq ?_
    refine WC.draw (π := (.cons 0 (.cons 1 (.cons 2 (.cons 3 (.cons 4 (.cons 5 (.cons 6 (.cons 7 (.cons 8 (.cons 9 (.cons 10 (.cons 11 (.cons 12 (.cons 13 (.cons 14 (.cons 15 (.cons 16 (.cons 17 (.cons 18 (.cons 19 (.cons 20 (.cons 21 (.cons 22 (.cons 23 (.cons 24 (.cons 25 .done))))))))))))))))))))))))))) [] [] rfl (by kernel_rfl) ?_
    refine DW.x rfl rfl (X.move rfl) (by decide) ?_
    refine DW.cond rfl rfl (X.lss rfl rfl) (by decide) (fun h60 => ?_) (fun h60 => ?_)
    ·refine DW.x rfl rfl (X.move rfl) (by decide) ?_
     refine DW.no rfl rfl (by decide) ?_
     refine DW.no rfl rfl (by decide) ?_
     refine DW.no rfl rfl (by decide) ?_
     refine DW.no rfl rfl (by decide) ?_
     refine DW.no rfl rfl (by decide) ?_
     refine DW.no rfl rfl (by decide) ?_
     refine DW.x rfl rfl (X.pickT rfl rfl rfl) (by decide) ?_
     refine DW.x rfl rfl (X.move rfl) (by decide) ?_
     refine DW.no rfl rfl (by decide) ?_
     refine DW.no rfl rfl (by decide) ?_
     refine DW.no rfl rfl (by decide) ?_
     refine DW.no rfl rfl (by decide) ?_
     refine DW.no rfl rfl (by decide) ?_
     refine DW.no rfl rfl (by decide) ?_
     refine DW.no rfl rfl (by decide) ?_
     refine DW.no rfl rfl (by decide) ?_
     refine DW.no rfl rfl (by decide) ?_
     refine DW.no rfl rfl (by decide) ?_
     refine DW.no rfl rfl (by decide) ?_
     refine DW.no rfl rfl (by decide) ?_
     refine DW.no rfl rfl (by decide) ?_
     refine DW.no rfl rfl (by decide) ?_
     refine DW.x rfl rfl (X.pickT rfl rfl rfl) (by decide) ?_
     refine DW.nil ?_
     refine WK.nThen ?_
     refine WC.condT rfl ?_
     refine WC.seq ?_
     refine WC.region ?_
     refine WL.x (X.move rfl) (by decide) ?_
     refine WL.x (X.assign rfl) (by decide) ?_
     refine WL.nil ?_
     refine WK.nThen ?_
     refine WC.ret ?_
     refine WK.rThen ?_
     refine WK.ret1 rfl rfl (fun w' hw' => Ret.exact hw' ?_)
     first | rfl | (exfalso; omega) | (exfalso; contradiction) | exact (bool_true rfl).symm | exact (bool_true (by omega)).symm
    ·refine DW.x rfl rfl (X.move rfl) (by decide) ?_
     refine DW.x rfl rfl (X.move rfl) (by decide) ?_
     refine DW.x rfl rfl (X.field Try.runUnderlying25 rfl Try.sizeOf23 rfl) (by decide) ?_
     refine DW.x rfl rfl (X.loadB (k := 5) Try.isAgg23 rfl rfl rfl) (by decide) ?_
     refine DW.x rfl rfl (X.len Try.runUnderlying23 rfl hs4) (by decide) ?_
     refine DW.x rfl rfl (X.sub rfl rfl (by omega) (by omega)) (by decide) ?_
     refine DW.cond rfl rfl (X.geq rfl rfl) (by decide) (fun h61 => ?_) (fun h61 => ?_)
     ·refine DW.x rfl rfl (X.pickF rfl rfl rfl) (by decide) ?_
      refine DW.x rfl rfl (X.move rfl) (by decide) ?_
      refine DW.no rfl rfl (by decide) ?_
      refine DW.no rfl rfl (by decide) ?_
      refine DW.no rfl rfl (by decide) ?_
      refine DW.no rfl rfl (by decide) ?_
      refine DW.no rfl rfl (by decide) ?_
      refine DW.no rfl rfl (by decide) ?_
      refine DW.no rfl rfl (by decide) ?_
      refine DW.no rfl rfl (by decide) ?_
      refine DW.no rfl rfl (by decide) ?_
      refine DW.no rfl rfl (by decide) ?_
      refine DW.no rfl rfl (by decide) ?_
      refine DW.no rfl rfl (by decide) ?_
      refine DW.no rfl rfl (by decide) ?_
      refine DW.no rfl rfl (by decide) ?_
      refine DW.x rfl rfl (X.pickT rfl rfl rfl) (by decide) ?_
      refine DW.nil ?_
      refine WK.nThen ?_
      refine WC.condT rfl ?_
      refine WC.seq ?_
      refine WC.region ?_
      refine WL.x (X.move rfl) (by decide) ?_
      refine WL.x (X.assign rfl) (by decide) ?_
      refine WL.nil ?_
      refine WK.nThen ?_
      refine WC.ret ?_
      refine WK.rThen ?_
      refine WK.ret1 rfl rfl (fun w' hw' => Ret.exact hw' ?_)
      first | rfl | (exfalso; omega) | (exfalso; contradiction) | exact (bool_true rfl).symm | exact (bool_true (by omega)).symm
     ·refine DW.x rfl rfl (X.pickF rfl rfl rfl) (by decide) ?_
      refine DW.x rfl rfl (X.move rfl) (by decide) ?_
      refine DW.x rfl rfl (X.field Try.runUnderlying25 rfl Try.sizeOf23 rfl) (by decide) ?_
      refine DW.x rfl rfl (X.loadB (k := 5) Try.isAgg23 rfl rfl rfl) (by decide) ?_
      refine DW.x rfl rfl (X.move rfl) (by decide) ?_
      refine DW.xe rfl rfl (E.idx Try.runUnderlying23 Try.sizeOf72 rfl rfl hs4 (by omega) (by omega)) (by decide) (fun p62 hp63 => ?_)
      have hp64 := At.Shf_0 hp63
      refine DW.x rfl rfl (X.field Try.runUnderlying72 rfl Try.sizeOf3 rfl) (by decide) ?_
      refine DW.x rfl rfl (X.loadInt Try.isAgg3 rfl hp64) (by decide) ?_
      refine DW.x rfl rfl (X.field Try.runUnderlying25 rfl Try.sizeOf23 rfl) (by decide) ?_
      refine DW.x rfl rfl (X.loadB (k := 5) Try.isAgg23 rfl rfl rfl) (by decide) ?_
      refine DW.x rfl rfl (X.move rfl) (by decide) ?_
      refine DW.x rfl rfl (X.add rfl rfl (by omega) (by omega)) (by decide) ?_
      refine DW.xe rfl rfl (E.idx Try.runUnderlying23 Try.sizeOf72 rfl rfl hs4 (by omega) (by omega)) (by decide) (fun p65 hp66 => ?_)
      have hp67 := At.Shf_0 hp66
      refine DW.x rfl rfl (X.field Try.runUnderlying72 rfl Try.sizeOf3 rfl) (by decide) ?_
      refine DW.x rfl rfl (X.loadInt Try.isAgg3 rfl hp67) (by decide) ?_
      refine DW.condn rfl rfl (X.neq rfl rfl) (by decide) (fun h68 => ?_) (fun h68 => ?_)
      ·refine DW.x rfl rfl (X.pickF rfl rfl rfl) (by decide) ?_
       refine DW.nil ?_
       refine WK.nThen ?_
       refine WC.condT rfl ?_
       refine WC.seq ?_
       refine WC.region ?_
       refine WL.x (X.move rfl) (by decide) ?_
       refine WL.x (X.assign rfl) (by decide) ?_
       refine WL.nil ?_
       refine WK.nThen ?_
       refine WC.ret ?_
       refine WK.rThen ?_
       refine WK.ret1 rfl rfl (fun w' hw' => Ret.exact hw' ?_)
       first | rfl | (exfalso; omega) | (exfalso; contradiction) | exact (bool_true rfl).symm | exact (bool_true (by omega)).symm
      ·refine DW.x rfl rfl (X.pickF rfl rfl rfl) (by decide) ?_
       refine DW.nil ?_
       refine WK.nThen ?_
       refine WC.condF rfl ?_
       refine WC.skip ?_
       refine WK.nThen ?_
       refine WC.seq ?_
       have hw1 : (which + 1 : Int).toNat = which.toNat + 1 := (by omega)
       have hww : which.toNat + 1 < s.Shifts.length := (by omega)
       have ht : (gt s.Shifts which.toNat).Time = (gt s.Shifts (which.toNat + 1)).Time := (by rw [← hw1]; first | assumption | omega)
       have hx1 := hok.xl (i := which.toNat) (by omega)
       have hx2 := hok.xl (i := (which + 1 : Int).toNat) (by omega)
       refine WC.region ?_
       refine WL.x (X.field Try.runUnderlying25 rfl Try.sizeOf23 rfl) (by decide) ?_
       refine WL.x (X.loadB (k := 5) Try.isAgg23 rfl rfl rfl) (by decide) ?_
       refine WL.x (X.move rfl) (by decide) ?_
       refine WL.xe (E.idx Try.runUnderlying23 Try.sizeOf72 rfl rfl hs4 (by omega) (by omega)) (by decide) (fun p69 hp70 => ?_)
       refine WL.xe (E.loadAgg Try.isAgg72 Try.sizeOf72 rfl hp70) (by decide) (fun c71 hc72 => ?_)
       obtain rfl := hc72
       refine WL.tn (T.alloc Try.zeroValue72 rfl) (by decide) fun b73 => ?_
       refine WL.ts (T.storeBA (k := 0) Try.sizeOf72 rfl rfl rfl (one_cons rfl (one_cons rfl (one_cons rfl one_nil))) rfl rfl) ?_
       refine WL.nil ?_
       refine WK.nThen ?_
       refine WC.seq ?_
       refine WC.region ?_
       refine WL.x (X.field Try.runUnderlying25 rfl Try.sizeOf23 rfl) (by decide) ?_
       refine WL.x (X.loadB (k := 6) Try.isAgg23 rfl rfl rfl) (by decide) ?_
       refine WL.x (X.move rfl) (by decide) ?_
       refine WL.x (X.add rfl rfl (by omega) (by omega)) (by decide) ?_
       refine WL.xe (E.idx Try.runUnderlying23 Try.sizeOf72 rfl rfl hs4 (by omega) (by omega)) (by decide) (fun p74 hp75 => ?_)
       refine WL.xe (E.loadAgg Try.isAgg72 Try.sizeOf72 rfl hp75) (by decide) (fun c76 hc77 => ?_)
       obtain rfl := hc77
       refine WL.tn (T.alloc Try.zeroValue72 rfl) (by decide) fun b78 => ?_
       refine WL.ts (T.storeBA (k := 0) Try.sizeOf72 rfl rfl rfl (one_cons rfl (one_cons rfl (one_cons rfl one_nil))) rfl rfl) ?_
       refine WL.nil ?_
       refine WK.nThen ?_
       refine WC.cut (G := Mem × Nat × Value) (fun (m79, b84, v82) => m79) (fun (m79, b84, v82) => [blk b84 25 [v1, v82], rowF (v82) 72 ([] ++ s.Shifts), blk b78 72 [.int .i64 ((gt s.Shifts ((which + 1 : Int).toNat)).Time), .int .i64 (((gt s.Shifts ((which + 1 : Int).toNat)).Levels).Lo), .int .i64 (((gt s.Shifts ((which + 1 : Int).toNat)).Levels).Hi)], blk b73 72 [.int .i64 ((gt s.Shifts ((which : Int).toNat)).Time), .int .i64 (((gt s.Shifts ((which : Int).toNat)).Levels).Lo), .int .i64 (((gt s.Shifts ((which : Int).toNat)).Levels).Hi)], blk b50 25 [v44, v46], blk b37 25 [v31, v33], blk b24 25 [v18, v20], blk b9 33 [.int .i64 (b.Lo), .int .i64 (b.Hi)], blk b8 33 [.int .i64 (a.Lo), .int .i64 (a.Hi)], blk b7 25 [v1, v3]]) (fun (m79, b84, v82) => [(1, .int .i64 (which)), (4, .int .i64 (time)), (5, .int .i64 (most)), (6, .pointer (some ⟨b7, 0, none⟩)), (8, .pointer (some ⟨b8, 0, none⟩)), (13, .bool true), (22, .pointer (some ⟨b73, 0, none⟩)), (23, .pointer (some ⟨b78, 0, none⟩)), (24, .pointer (some ⟨b84, 0, none⟩))]) (fun (m79, b84, v82) => m38.le m79 ∧ Sl (α := Val) m79 v1 s.Values ∧ Sl (α := Val) m79 v44 (((narR s time (((Span.mk (max a.Lo b.Lo) (min a.Hi b.Hi))))).1).Values) ∧ Sl (α := Shf) m79 v46 (((narR s time (((Span.mk (max a.Lo b.Lo) (min a.Hi b.Hi))))).1).Shifts) ∧ Sl (α := Val) m79 v31 (((narR (((narR s time a).1)) time b).1).Values) ∧ Sl (α := Shf) m79 v33 (((narR (((narR s time a).1)) time b).1).Shifts) ∧ Sl (α := Val) m79 v18 (((narR s time a).1).Values) ∧ Sl (α := Shf) m79 v20 (((narR s time a).1).Shifts) ∧ Sl (α := Val) m79 v1 s.Values ∧ Sl (α := Shf) m79 v3 s.Shifts) ?_ ?_
       ·refine WC.draw (π := (.cons 0 (.cons 3 (.cons 4 (.fork (.cons 1 (.fork (.cons 2 (.fork (.cons 5 (.cons 6 (.cons 7 (.cons 8 .done)))) (.cons 7 (.cons 5 (.cons 6 (.cons 8 .done)))))) (.cons 7 (.cons 2 (.cons 5 (.cons 6 (.cons 8 .done))))))) (.fork (.cons 2 (.fork (.cons 1 (.fork (.cons 5 (.cons 6 (.cons 7 (.cons 8 .done)))) (.cons 7 (.cons 5 (.cons 6 (.cons 8 .done)))))) (.fork (.cons 5 (.fork (.cons 1 (.cons 6 (.cons 7 (.cons 8 .done)))) (.cons 7 (.cons 1 (.cons 6 (.cons 8 .done)))))) (.cons 7 (.fork (.cons 1 (.cons 5 (.cons 6 (.cons 8 .done)))) (.cons 5 (.cons 1 (.cons 6 (.cons 8 .done))))))))) (.cons 7 (.fork (.cons 1 (.cons 2 (.cons 5 (.cons 6 (.cons 8 .done))))) (.cons 2 (.fork (.cons 1 (.cons 5 (.cons 6 (.cons 8 .done)))) (.cons 5 (.cons 1 (.cons 6 (.cons 8 .done)))))))))))))) [1, 2, 5, 7, 8] [5, 8, 100000] rfl (by kernel_rfl) ?_
        refine DW.xf rfl rfl rfl (fun _ _ hle_ => (X.field Try.runUnderlying25 rfl Try.sizeOf22 rfl)) (by decide) ?_
        refine DW.x rfl rfl (X.field Try.runUnderlying25 rfl Try.sizeOf23 rfl) (by decide) ?_
        refine DW.x rfl rfl (X.loadB (k := 7) Try.isAgg23 rfl rfl rfl) (by decide) ?_
        refine DW.fork (List.cons_ne_nil _ _) ?_ ?_
        ·refine DW.xp rfl rfl rfl (fun _ => (X.loadB (k := 7) Try.isAgg22 rfl rfl rfl)) (by decide) ?_
         refine DW.fork (List.cons_ne_nil _ _) ?_ ?_
         ·refine DW.tO rfl rfl rfl (OpTo.taO (T.lit0 (α := Shf) sl23 rfl)) (by decide) (fun m81 Es_ v80 hle82 hR_ => ?_)
          subst hR_
          replace hs2 := hs2.mono hle82
          replace hs4 := hs4.mono hle82
          replace hs19 := hs19.mono hle82
          replace hs21 := hs21.mono hle82
          replace hs32 := hs32.mono hle82
          replace hs34 := hs34.mono hle82
          replace hs45 := hs45.mono hle82
          replace hs47 := hs47.mono hle82
          replace hp63 := hp63.mono hle82
          replace hp64 := hp64.mono hle82
          replace hp66 := hp66.mono hle82
          replace hp67 := hp67.mono hle82
          replace hp70 := hp70.mono hle82
          replace hp75 := hp75.mono hle82
          refine DW.fork (List.cons_ne_nil _ _) ?_ ?_
          ·refine DW.ta rfl rfl rfl rfl (T.appendFl (α := Shf) (fun _ _ _ h => h) (k := 0) sl23 rfl rfl hs4 rfl (by first | omega | (simp; omega)) (by first | omega | (simp; omega))) (by decide) (fun v83 => ?_)
           refine DW.x (V := Value.agg [v1, v83].toArray) rfl rfl (OpX.own1 (k := 0) rfl trivial (defdB rfl) fun ho84 => (X.build Try.zeroValue25 Try.runUnderlying25 (places25 _ Try.underlying25) rfl (by simp only [Instr.fill, one_cells hs2.one, one_cells ho84]; rfl))) (by decide) ?_
           refine DW.tn rfl rfl rfl (T.alloc Try.zeroValue25 rfl) (by decide) fun b85 => ?_
           refine DW.ts rfl rfl rfl rfl (OpTo.own1 (k := 1) rfl trivial (defd2 rfl rfl rfl) fun ho86 => (T.storeBA (k := 0) Try.sizeOf25 rfl rfl rfl (one_cons hs2.one (one_cons ho86 one_nil)) rfl rfl)) ?_
           refine DW.nil ?_
           refine WK.nThen ?_
           exact WK.meet (m81, b85, v83) rfl (.refl _) (.cons rfl (.cons rfl (.cons rfl (.cons rfl (.cons rfl (.cons rfl (.cons rfl (.cons rfl (.cons rfl .nil))))))))) ⟨hle82, hs2, hs45, hs47, hs32, hs34, hs19, hs21, hs2, hs4⟩
          ·refine DW.tn rfl rfl rfl (T.alloc Try.zeroValue25 rfl) (by decide) fun b87 => ?_
           refine DW.ta rfl rfl rfl rfl (T.appendFl (α := Shf) (fun _ _ _ h => h) (k := 1) sl23 rfl rfl hs4 rfl (by first | omega | (simp; omega)) (by first | omega | (simp; omega))) (by decide) (fun v88 => ?_)
           refine DW.x (V := Value.agg [v1, v88].toArray) rfl rfl (OpX.own1 (k := 1) rfl trivial (defdB rfl) fun ho89 => (X.build Try.zeroValue25 Try.runUnderlying25 (places25 _ Try.underlying25) rfl (by simp only [Instr.fill, one_cells hs2.one, one_cells ho89]; rfl))) (by decide) ?_
           refine DW.ts rfl rfl rfl rfl (OpTo.own1 (k := 1) rfl trivial (defd2 rfl rfl rfl) fun ho90 => (T.storeBA (k := 0) Try.sizeOf25 rfl rfl rfl (one_cons hs2.one (one_cons ho90 one_nil)) rfl rfl)) ?_
           refine DW.nil ?_
           refine WK.nThen ?_
           exact WK.meet (m81, b87, v88) rfl (.refl _) (.cons rfl (.cons rfl (.cons rfl (.cons rfl (.cons rfl (.cons rfl (.cons rfl (.cons rfl (.cons rfl .nil))))))))) ⟨hle82, hs2, hs45, hs47, hs32, hs34, hs19, hs21, hs2, hs4⟩
         ·refine DW.tn rfl rfl rfl (T.alloc Try.zeroValue25 rfl) (by decide) fun b91 => ?_
          refine DW.tO rfl rfl rfl (OpTo.taO (T.lit0 (α := Shf) sl23 rfl)) (by decide) (fun m93 Es_ v92 hle94 hR_ => ?_)
          subst hR_
          replace hs2 := hs2.mono hle94
          replace hs4 := hs4.mono hle94
          replace hs19 := hs19.mono hle94
          replace hs21 := hs21.mono hle94
          replace hs32 := hs32.mono hle94
          replace hs34 := hs34.mono hle94
          replace hs45 := hs45.mono hle94
          replace hs47 := hs47.mono hle94
          replace hp63 := hp63.mono hle94
          replace hp64 := hp64.mono hle94
          replace hp66 := hp66.mono hle94
          replace hp67 := hp67.mono hle94
          replace hp70 := hp70.mono hle94
          replace hp75 := hp75.mono hle94
          refine DW.ta rfl rfl rfl rfl (T.appendFl (α := Shf) (fun _ _ _ h => h) (k := 0) sl23 rfl rfl hs4 rfl (by first | omega | (simp; omega)) (by first | omega | (simp; omega))) (by decide) (fun v95 => ?_)
          refine DW.x (V := Value.agg [v1, v95].toArray) rfl rfl (OpX.own1 (k := 0) rfl trivial (defdB rfl) fun ho96 => (X.build Try.zeroValue25 Try.runUnderlying25 (places25 _ Try.underlying25) rfl (by simp only [Instr.fill, one_cells hs2.one, one_cells ho96]; rfl))) (by decide) ?_
          refine DW.ts rfl rfl rfl rfl (OpTo.own1 (k := 0) rfl trivial (defd2 rfl rfl rfl) fun ho97 => (T.storeBA (k := 1) Try.sizeOf25 rfl rfl rfl (one_cons hs2.one (one_cons ho97 one_nil)) rfl rfl)) ?_
          refine DW.nil ?_
          refine WK.nThen ?_
          refine WK.perm [blk b91 25 [v1, v95], rowF (v95) 72 ([] ++ s.Shifts), blk b78 72 [.int .i64 ((gt s.Shifts ((which + 1 : Int).toNat)).Time), .int .i64 (((gt s.Shifts ((which + 1 : Int).toNat)).Levels).Lo), .int .i64 (((gt s.Shifts ((which + 1 : Int).toNat)).Levels).Hi)], blk b73 72 [.int .i64 ((gt s.Shifts ((which : Int).toNat)).Time), .int .i64 (((gt s.Shifts ((which : Int).toNat)).Levels).Lo), .int .i64 (((gt s.Shifts ((which : Int).toNat)).Levels).Hi)], blk b50 25 [v44, v46], blk b37 25 [v31, v33], blk b24 25 [v18, v20], blk b9 33 [.int .i64 (b.Lo), .int .i64 (b.Hi)], blk b8 33 [.int .i64 (a.Lo), .int .i64 (a.Hi)], blk b7 25 [v1, v3]] ((List.Perm.cons _ (.refl _)).trans (List.perm_middle (l₁ := [rowF (v95) 72 ([] ++ s.Shifts)]) (l₂ := [blk b78 72 [.int .i64 ((gt s.Shifts ((which + 1 : Int).toNat)).Time), .int .i64 (((gt s.Shifts ((which + 1 : Int).toNat)).Levels).Lo), .int .i64 (((gt s.Shifts ((which + 1 : Int).toNat)).Levels).Hi)], blk b73 72 [.int .i64 ((gt s.Shifts ((which : Int).toNat)).Time), .int .i64 (((gt s.Shifts ((which : Int).toNat)).Levels).Lo), .int .i64 (((gt s.Shifts ((which : Int).toNat)).Levels).Hi)], blk b50 25 [v44, v46], blk b37 25 [v31, v33], blk b24 25 [v18, v20], blk b9 33 [.int .i64 (b.Lo), .int .i64 (b.Hi)], blk b8 33 [.int .i64 (a.Lo), .int .i64 (a.Hi)], blk b7 25 [v1, v3]]) (a := blk b91 25 [v1, v95])).symm) ?_
          exact WK.meet (m93, b91, v95) rfl (.refl _) (.cons rfl (.cons rfl (.cons rfl (.cons rfl (.cons rfl (.cons rfl (.cons rfl (.cons rfl (.cons rfl .nil))))))))) ⟨hle94, hs2, hs45, hs47, hs32, hs34, hs19, hs21, hs2, hs4⟩
        ·refine DW.fork (List.cons_ne_nil _ _) ?_ ?_
         ·refine DW.tO rfl rfl rfl (OpTo.taO (T.lit0 (α := Shf) sl23 rfl)) (by decide) (fun m99 Es_ v98 hle100 hR_ => ?_)
          subst hR_
          replace hs2 := hs2.mono hle100
          replace hs4 := hs4.mono hle100
          replace hs19 := hs19.mono hle100
          replace hs21 := hs21.mono hle100
          replace hs32 := hs32.mono hle100
          replace hs34 := hs34.mono hle100
          replace hs45 := hs45.mono hle100
          replace hs47 := hs47.mono hle100
          replace hp63 := hp63.mono hle100
          replace hp64 := hp64.mono hle100
          replace hp66 := hp66.mono hle100
          replace hp67 := hp67.mono hle100
          replace hp70 := hp70.mono hle100
          replace hp75 := hp75.mono hle100
          refine DW.fork (List.cons_ne_nil _ _) ?_ ?_
          ·refine DW.xp rfl rfl rfl (fun _ => (X.loadB (k := 8) Try.isAgg22 rfl rfl rfl)) (by decide) ?_
           refine DW.fork (List.cons_ne_nil _ _) ?_ ?_
           ·refine DW.ta rfl rfl rfl rfl (T.appendFl (α := Shf) (fun _ _ _ h => h) (k := 0) sl23 rfl rfl hs4 rfl (by first | omega | (simp; omega)) (by first | omega | (simp; omega))) (by decide) (fun v101 => ?_)
            refine DW.x (V := Value.agg [v1, v101].toArray) rfl rfl (OpX.own1 (k := 0) rfl trivial (defdB rfl) fun ho102 => (X.build Try.zeroValue25 Try.runUnderlying25 (places25 _ Try.underlying25) rfl (by simp only [Instr.fill, one_cells hs2.one, one_cells ho102]; rfl))) (by decide) ?_
            refine DW.tn rfl rfl rfl (T.alloc Try.zeroValue25 rfl) (by decide) fun b103 => ?_
            refine DW.ts rfl rfl rfl rfl (OpTo.own1 (k := 1) rfl trivial (defd2 rfl rfl rfl) fun ho104 => (T.storeBA (k := 0) Try.sizeOf25 rfl rfl rfl (one_cons hs2.one (one_cons ho104 one_nil)) rfl rfl)) ?_
            refine DW.nil ?_
            refine WK.nThen ?_
            exact WK.meet (m99, b103, v101) rfl (.refl _) (.cons rfl (.cons rfl (.cons rfl (.cons rfl (.cons rfl (.cons rfl (.cons rfl (.cons rfl (.cons rfl .nil))))))))) ⟨hle100, hs2, hs45, hs47, hs32, hs34, hs19, hs21, hs2, hs4⟩
           ·refine DW.tn rfl rfl rfl (T.alloc Try.zeroValue25 rfl) (by decide) fun b105 => ?_
            refine DW.ta rfl rfl rfl rfl (T.appendFl (α := Shf) (fun _ _ _ h => h) (k := 1) sl23 rfl rfl hs4 rfl (by first | omega | (simp; omega)) (by first | omega | (simp; omega))) (by decide) (fun v106 => ?_)
            refine DW.x (V := Value.agg [v1, v106].toArray) rfl rfl (OpX.own1 (k := 1) rfl trivial (defdB rfl) fun ho107 => (X.build Try.zeroValue25 Try.runUnderlying25 (places25 _ Try.underlying25) rfl (by simp only [Instr.fill, one_cells hs2.one, one_cells ho107]; rfl))) (by decide) ?_
            refine DW.ts rfl rfl rfl rfl (OpTo.own1 (k := 1) rfl trivial (defd2 rfl rfl rfl) fun ho108 => (T.storeBA (k := 0) Try.sizeOf25 rfl rfl rfl (one_cons hs2.one (one_cons ho108 one_nil)) rfl rfl)) ?_
            refine DW.nil ?_
            refine WK.nThen ?_
            exact WK.meet (m99, b105, v106) rfl (.refl _) (.cons rfl (.cons rfl (.cons rfl (.cons rfl (.cons rfl (.cons rfl (.cons rfl (.cons rfl (.cons rfl .nil))))))))) ⟨hle100, hs2, hs45, hs47, hs32, hs34, hs19, hs21, hs2, hs4⟩
          ·refine DW.fork (List.cons_ne_nil _ _) ?_ ?_
           ·refine DW.ta rfl rfl rfl rfl (T.appendFl (α := Shf) (fun _ _ _ h => h) (k := 0) sl23 rfl rfl hs4 rfl (by first | omega | (simp; omega)) (by first | omega | (simp; omega))) (by decide) (fun v109 => ?_)
            refine DW.fork (List.cons_ne_nil _ _) ?_ ?_
            ·refine DW.xp rfl rfl rfl (fun _ => (X.loadB (k := 8) Try.isAgg22 rfl rfl rfl)) (by decide) ?_
             refine DW.x (V := Value.agg [v1, v109].toArray) rfl rfl (OpX.own1 (k := 0) rfl trivial (defdB rfl) fun ho110 => (X.build Try.zeroValue25 Try.runUnderlying25 (places25 _ Try.underlying25) rfl (by simp only [Instr.fill, one_cells hs2.one, one_cells ho110]; rfl))) (by decide) ?_
             refine DW.tn rfl rfl rfl (T.alloc Try.zeroValue25 rfl) (by decide) fun b111 => ?_
             refine DW.ts rfl rfl rfl rfl (OpTo.own1 (k := 1) rfl trivial (defd2 rfl rfl rfl) fun ho112 => (T.storeBA (k := 0) Try.sizeOf25 rfl rfl rfl (one_cons hs2.one (one_cons ho112 one_nil)) rfl rfl)) ?_
             refine DW.nil ?_
             refine WK.nThen ?_
             exact WK.meet (m99, b111, v109) rfl (.refl _) (.cons rfl (.cons rfl (.cons rfl (.cons rfl (.cons rfl (.cons rfl (.cons rfl (.cons rfl (.cons rfl .nil))))))))) ⟨hle100, hs2, hs45, hs47, hs32, hs34, hs19, hs21, hs2, hs4⟩
            ·refine DW.tn rfl rfl rfl (T.alloc Try.zeroValue25 rfl) (by decide) fun b113 => ?_
             refine DW.xp rfl rfl rfl (fun _ => (X.loadB (k := 9) Try.isAgg22 rfl rfl rfl)) (by decide) ?_
             refine DW.x (V := Value.agg [v1, v109].toArray) rfl rfl (OpX.own1 (k := 1) rfl trivial (defdB rfl) fun ho114 => (X.build Try.zeroValue25 Try.runUnderlying25 (places25 _ Try.underlying25) rfl (by simp only [Instr.fill, one_cells hs2.one, one_cells ho114]; rfl))) (by decide) ?_
             refine DW.ts rfl rfl rfl rfl (OpTo.own1 (k := 1) rfl trivial (defd2 rfl rfl rfl) fun ho115 => (T.storeBA (k := 0) Try.sizeOf25 rfl rfl rfl (one_cons hs2.one (one_cons ho115 one_nil)) rfl rfl)) ?_
             refine DW.nil ?_
             refine WK.nThen ?_
             exact WK.meet (m99, b113, v109) rfl (.refl _) (.cons rfl (.cons rfl (.cons rfl (.cons rfl (.cons rfl (.cons rfl (.cons rfl (.cons rfl (.cons rfl .nil))))))))) ⟨hle100, hs2, hs45, hs47, hs32, hs34, hs19, hs21, hs2, hs4⟩
           ·refine DW.tn rfl rfl rfl (T.alloc Try.zeroValue25 rfl) (by decide) fun b116 => ?_
            refine DW.fork (List.cons_ne_nil _ _) ?_ ?_
            ·refine DW.xp rfl rfl rfl (fun _ => (X.loadB (k := 9) Try.isAgg22 rfl rfl rfl)) (by decide) ?_
             refine DW.ta rfl rfl rfl rfl (T.appendFl (α := Shf) (fun _ _ _ h => h) (k := 1) sl23 rfl rfl hs4 rfl (by first | omega | (simp; omega)) (by first | omega | (simp; omega))) (by decide) (fun v117 => ?_)
             refine DW.x (V := Value.agg [v1, v117].toArray) rfl rfl (OpX.own1 (k := 1) rfl trivial (defdB rfl) fun ho118 => (X.build Try.zeroValue25 Try.runUnderlying25 (places25 _ Try.underlying25) rfl (by simp only [Instr.fill, one_cells hs2.one, one_cells ho118]; rfl))) (by decide) ?_
             refine DW.ts rfl rfl rfl rfl (OpTo.own1 (k := 1) rfl trivial (defd2 rfl rfl rfl) fun ho119 => (T.storeBA (k := 0) Try.sizeOf25 rfl rfl rfl (one_cons hs2.one (one_cons ho119 one_nil)) rfl rfl)) ?_
             refine DW.nil ?_
             refine WK.nThen ?_
             exact WK.meet (m99, b116, v117) rfl (.refl _) (.cons rfl (.cons rfl (.cons rfl (.cons rfl (.cons rfl (.cons rfl (.cons rfl (.cons rfl (.cons rfl .nil))))))))) ⟨hle100, hs2, hs45, hs47, hs32, hs34, hs19, hs21, hs2, hs4⟩
            ·refine DW.ta rfl rfl rfl rfl (T.appendFl (α := Shf) (fun _ _ _ h => h) (k := 1) sl23 rfl rfl hs4 rfl (by first | omega | (simp; omega)) (by first | omega | (simp; omega))) (by decide) (fun v120 => ?_)
             refine DW.xp rfl rfl rfl (fun _ => (X.loadB (k := 9) Try.isAgg22 rfl rfl rfl)) (by decide) ?_
             refine DW.x (V := Value.agg [v1, v120].toArray) rfl rfl (OpX.own1 (k := 1) rfl trivial (defdB rfl) fun ho121 => (X.build Try.zeroValue25 Try.runUnderlying25 (places25 _ Try.underlying25) rfl (by simp only [Instr.fill, one_cells hs2.one, one_cells ho121]; rfl))) (by decide) ?_
             refine DW.ts rfl rfl rfl rfl (OpTo.own1 (k := 1) rfl trivial (defd2 rfl rfl rfl) fun ho122 => (T.storeBA (k := 0) Try.sizeOf25 rfl rfl rfl (one_cons hs2.one (one_cons ho122 one_nil)) rfl rfl)) ?_
             refine DW.nil ?_
             refine WK.nThen ?_
             exact WK.meet (m99, b116, v120) rfl (.refl _) (.cons rfl (.cons rfl (.cons rfl (.cons rfl (.cons rfl (.cons rfl (.cons rfl (.cons rfl (.cons rfl .nil))))))))) ⟨hle100, hs2, hs45, hs47, hs32, hs34, hs19, hs21, hs2, hs4⟩
         ·refine DW.tn rfl rfl rfl (T.alloc Try.zeroValue25 rfl) (by decide) fun b123 => ?_
          refine DW.fork (List.cons_ne_nil _ _) ?_ ?_
          ·refine DW.xp rfl rfl rfl (fun _ => (X.loadB (k := 8) Try.isAgg22 rfl rfl rfl)) (by decide) ?_
           refine DW.tO rfl rfl rfl (OpTo.taO (T.lit0 (α := Shf) sl23 rfl)) (by decide) (fun m125 Es_ v124 hle126 hR_ => ?_)
           subst hR_
           replace hs2 := hs2.mono hle126
           replace hs4 := hs4.mono hle126
           replace hs19 := hs19.mono hle126
           replace hs21 := hs21.mono hle126
           replace hs32 := hs32.mono hle126
           replace hs34 := hs34.mono hle126
           replace hs45 := hs45.mono hle126
           replace hs47 := hs47.mono hle126
           replace hp63 := hp63.mono hle126
           replace hp64 := hp64.mono hle126
           replace hp66 := hp66.mono hle126
           replace hp67 := hp67.mono hle126
           replace hp70 := hp70.mono hle126
           replace hp75 := hp75.mono hle126
           refine DW.ta rfl rfl rfl rfl (T.appendFl (α := Shf) (fun _ _ _ h => h) (k := 0) sl23 rfl rfl hs4 rfl (by first | omega | (simp; omega)) (by first | omega | (simp; omega))) (by decide) (fun v127 => ?_)
           refine DW.x (V := Value.agg [v1, v127].toArray) rfl rfl (OpX.own1 (k := 0) rfl trivial (defdB rfl) fun ho128 => (X.build Try.zeroValue25 Try.runUnderlying25 (places25 _ Try.underlying25) rfl (by simp only [Instr.fill, one_cells hs2.one, one_cells ho128]; rfl))) (by decide) ?_
           refine DW.ts rfl rfl rfl rfl (OpTo.own1 (k := 0) rfl trivial (defd2 rfl rfl rfl) fun ho129 => (T.storeBA (k := 1) Try.sizeOf25 rfl rfl rfl (one_cons hs2.one (one_cons ho129 one_nil)) rfl rfl)) ?_
           refine DW.nil ?_
           refine WK.nThen ?_
           refine WK.perm [blk b123 25 [v1, v127], rowF (v127) 72 ([] ++ s.Shifts), blk b78 72 [.int .i64 ((gt s.Shifts ((which + 1 : Int).toNat)).Time), .int .i64 (((gt s.Shifts ((which + 1 : Int).toNat)).Levels).Lo), .int .i64 (((gt s.Shifts ((which + 1 : Int).toNat)).Levels).Hi)], blk b73 72 [.int .i64 ((gt s.Shifts ((which : Int).toNat)).Time), .int .i64 (((gt s.Shifts ((which : Int).toNat)).Levels).Lo), .int .i64 (((gt s.Shifts ((which : Int).toNat)).Levels).Hi)], blk b50 25 [v44, v46], blk b37 25 [v31, v33], blk b24 25 [v18, v20], blk b9 33 [.int .i64 (b.Lo), .int .i64 (b.Hi)], blk b8 33 [.int .i64 (a.Lo), .int .i64 (a.Hi)], blk b7 25 [v1, v3]] ((List.Perm.cons _ (.refl _)).trans (List.perm_middle (l₁ := [rowF (v127) 72 ([] ++ s.Shifts)]) (l₂ := [blk b78 72 [.int .i64 ((gt s.Shifts ((which + 1 : Int).toNat)).Time), .int .i64 (((gt s.Shifts ((which + 1 : Int).toNat)).Levels).Lo), .int .i64 (((gt s.Shifts ((which + 1 : Int).toNat)).Levels).Hi)], blk b73 72 [.int .i64 ((gt s.Shifts ((which : Int).toNat)).Time), .int .i64 (((gt s.Shifts ((which : Int).toNat)).Levels).Lo), .int .i64 (((gt s.Shifts ((which : Int).toNat)).Levels).Hi)], blk b50 25 [v44, v46], blk b37 25 [v31, v33], blk b24 25 [v18, v20], blk b9 33 [.int .i64 (b.Lo), .int .i64 (b.Hi)], blk b8 33 [.int .i64 (a.Lo), .int .i64 (a.Hi)], blk b7 25 [v1, v3]]) (a := blk b123 25 [v1, v127])).symm) ?_
           exact WK.meet (m125, b123, v127) rfl (.refl _) (.cons rfl (.cons rfl (.cons rfl (.cons rfl (.cons rfl (.cons rfl (.cons rfl (.cons rfl (.cons rfl .nil))))))))) ⟨hle126, hs2, hs45, hs47, hs32, hs34, hs19, hs21, hs2, hs4⟩
          ·refine DW.tO rfl rfl rfl (OpTo.taO (T.lit0 (α := Shf) sl23 rfl)) (by decide) (fun m131 Es_ v130 hle132 hR_ => ?_)
           subst hR_
           replace hs2 := hs2.mono hle132
           replace hs4 := hs4.mono hle132
           replace hs19 := hs19.mono hle132
           replace hs21 := hs21.mono hle132
           replace hs32 := hs32.mono hle132
           replace hs34 := hs34.mono hle132
           replace hs45 := hs45.mono hle132
           replace hs47 := hs47.mono hle132
           replace hp63 := hp63.mono hle132
           replace hp64 := hp64.mono hle132
           replace hp66 := hp66.mono hle132
           replace hp67 := hp67.mono hle132
           replace hp70 := hp70.mono hle132
           replace hp75 := hp75.mono hle132
           refine DW.fork (List.cons_ne_nil _ _) ?_ ?_
           ·refine DW.xp rfl rfl rfl (fun _ => (X.loadB (k := 9) Try.isAgg22 rfl rfl rfl)) (by decide) ?_
            refine DW.ta rfl rfl rfl rfl (T.appendFl (α := Shf) (fun _ _ _ h => h) (k := 0) sl23 rfl rfl hs4 rfl (by first | omega | (simp; omega)) (by first | omega | (simp; omega))) (by decide) (fun v133 => ?_)
            refine DW.x (V := Value.agg [v1, v133].toArray) rfl rfl (OpX.own1 (k := 0) rfl trivial (defdB rfl) fun ho134 => (X.build Try.zeroValue25 Try.runUnderlying25 (places25 _ Try.underlying25) rfl (by simp only [Instr.fill, one_cells hs2.one, one_cells ho134]; rfl))) (by decide) ?_
            refine DW.ts rfl rfl rfl rfl (OpTo.own1 (k := 0) rfl trivial (defd2 rfl rfl rfl) fun ho135 => (T.storeBA (k := 1) Try.sizeOf25 rfl rfl rfl (one_cons hs2.one (one_cons ho135 one_nil)) rfl rfl)) ?_
            refine DW.nil ?_
            refine WK.nThen ?_
            refine WK.perm [blk b123 25 [v1, v133], rowF (v133) 72 ([] ++ s.Shifts), blk b78 72 [.int .i64 ((gt s.Shifts ((which + 1 : Int).toNat)).Time), .int .i64 (((gt s.Shifts ((which + 1 : Int).toNat)).Levels).Lo), .int .i64 (((gt s.Shifts ((which + 1 : Int).toNat)).Levels).Hi)], blk b73 72 [.int .i64 ((gt s.Shifts ((which : Int).toNat)).Time), .int .i64 (((gt s.Shifts ((which : Int).toNat)).Levels).Lo), .int .i64 (((gt s.Shifts ((which : Int).toNat)).Levels).Hi)], blk b50 25 [v44, v46], blk b37 25 [v31, v33], blk b24 25 [v18, v20], blk b9 33 [.int .i64 (b.Lo), .int .i64 (b.Hi)], blk b8 33 [.int .i64 (a.Lo), .int .i64 (a.Hi)], blk b7 25 [v1, v3]] ((List.Perm.cons _ (.refl _)).trans (List.perm_middle (l₁ := [rowF (v133) 72 ([] ++ s.Shifts)]) (l₂ := [blk b78 72 [.int .i64 ((gt s.Shifts ((which + 1 : Int).toNat)).Time), .int .i64 (((gt s.Shifts ((which + 1 : Int).toNat)).Levels).Lo), .int .i64 (((gt s.Shifts ((which + 1 : Int).toNat)).Levels).Hi)], blk b73 72 [.int .i64 ((gt s.Shifts ((which : Int).toNat)).Time), .int .i64 (((gt s.Shifts ((which : Int).toNat)).Levels).Lo), .int .i64 (((gt s.Shifts ((which : Int).toNat)).Levels).Hi)], blk b50 25 [v44, v46], blk b37 25 [v31, v33], blk b24 25 [v18, v20], blk b9 33 [.int .i64 (b.Lo), .int .i64 (b.Hi)], blk b8 33 [.int .i64 (a.Lo), .int .i64 (a.Hi)], blk b7 25 [v1, v3]]) (a := blk b123 25 [v1, v133])).symm) ?_
            exact WK.meet (m131, b123, v133) rfl (.refl _) (.cons rfl (.cons rfl (.cons rfl (.cons rfl (.cons rfl (.cons rfl (.cons rfl (.cons rfl (.cons rfl .nil))))))))) ⟨hle132, hs2, hs45, hs47, hs32, hs34, hs19, hs21, hs2, hs4⟩
           ·refine DW.ta rfl rfl rfl rfl (T.appendFl (α := Shf) (fun _ _ _ h => h) (k := 0) sl23 rfl rfl hs4 rfl (by first | omega | (simp; omega)) (by first | omega | (simp; omega))) (by decide) (fun v136 => ?_)
            refine DW.xp rfl rfl rfl (fun _ => (X.loadB (k := 9) Try.isAgg22 rfl rfl rfl)) (by decide) ?_
            refine DW.x (V := Value.agg [v1, v136].toArray) rfl rfl (OpX.own1 (k := 0) rfl trivial (defdB rfl) fun ho137 => (X.build Try.zeroValue25 Try.runUnderlying25 (places25 _ Try.underlying25) rfl (by simp only [Instr.fill, one_cells hs2.one, one_cells ho137]; rfl))) (by decide) ?_
            refine DW.ts rfl rfl rfl rfl (OpTo.own1 (k := 0) rfl trivial (defd2 rfl rfl rfl) fun ho138 => (T.storeBA (k := 1) Try.sizeOf25 rfl rfl rfl (one_cons hs2.one (one_cons ho138 one_nil)) rfl rfl)) ?_
            refine DW.nil ?_
            refine WK.nThen ?_
            refine WK.perm [blk b123 25 [v1, v136], rowF (v136) 72 ([] ++ s.Shifts), blk b78 72 [.int .i64 ((gt s.Shifts ((which + 1 : Int).toNat)).Time), .int .i64 (((gt s.Shifts ((which + 1 : Int).toNat)).Levels).Lo), .int .i64 (((gt s.Shifts ((which + 1 : Int).toNat)).Levels).Hi)], blk b73 72 [.int .i64 ((gt s.Shifts ((which : Int).toNat)).Time), .int .i64 (((gt s.Shifts ((which : Int).toNat)).Levels).Lo), .int .i64 (((gt s.Shifts ((which : Int).toNat)).Levels).Hi)], blk b50 25 [v44, v46], blk b37 25 [v31, v33], blk b24 25 [v18, v20], blk b9 33 [.int .i64 (b.Lo), .int .i64 (b.Hi)], blk b8 33 [.int .i64 (a.Lo), .int .i64 (a.Hi)], blk b7 25 [v1, v3]] ((List.Perm.cons _ (.refl _)).trans (List.perm_middle (l₁ := [rowF (v136) 72 ([] ++ s.Shifts)]) (l₂ := [blk b78 72 [.int .i64 ((gt s.Shifts ((which + 1 : Int).toNat)).Time), .int .i64 (((gt s.Shifts ((which + 1 : Int).toNat)).Levels).Lo), .int .i64 (((gt s.Shifts ((which + 1 : Int).toNat)).Levels).Hi)], blk b73 72 [.int .i64 ((gt s.Shifts ((which : Int).toNat)).Time), .int .i64 (((gt s.Shifts ((which : Int).toNat)).Levels).Lo), .int .i64 (((gt s.Shifts ((which : Int).toNat)).Levels).Hi)], blk b50 25 [v44, v46], blk b37 25 [v31, v33], blk b24 25 [v18, v20], blk b9 33 [.int .i64 (b.Lo), .int .i64 (b.Hi)], blk b8 33 [.int .i64 (a.Lo), .int .i64 (a.Hi)], blk b7 25 [v1, v3]]) (a := blk b123 25 [v1, v136])).symm) ?_
            exact WK.meet (m131, b123, v136) rfl (.refl _) (.cons rfl (.cons rfl (.cons rfl (.cons rfl (.cons rfl (.cons rfl (.cons rfl (.cons rfl (.cons rfl .nil))))))))) ⟨hle132, hs2, hs45, hs47, hs32, hs34, hs19, hs21, hs2, hs4⟩
       ·rintro ⟨m79, b84, v82⟩ ⟨hle139, hs140, hs141, hs142, hs143, hs144, hs145, hs146, hs147, hs148⟩
        show WK _ _ m79 [blk b84 25 [v1, v82], rowF (v82) 72 ([] ++ s.Shifts), blk b78 72 [.int .i64 ((gt s.Shifts ((which + 1 : Int).toNat)).Time), .int .i64 (((gt s.Shifts ((which + 1 : Int).toNat)).Levels).Lo), .int .i64 (((gt s.Shifts ((which + 1 : Int).toNat)).Levels).Hi)], blk b73 72 [.int .i64 ((gt s.Shifts ((which : Int).toNat)).Time), .int .i64 (((gt s.Shifts ((which : Int).toNat)).Levels).Lo), .int .i64 (((gt s.Shifts ((which : Int).toNat)).Levels).Hi)], blk b50 25 [v44, v46], blk b37 25 [v31, v33], blk b24 25 [v18, v20], blk b9 33 [.int .i64 (b.Lo), .int .i64 (b.Hi)], blk b8 33 [.int .i64 (a.Lo), .int .i64 (a.Hi)], blk b7 25 [v1, v3]] [(1, .int .i64 (which)), (4, .int .i64 (time)), (5, .int .i64 (most)), (6, .pointer (some ⟨b7, 0, none⟩)), (8, .pointer (some ⟨b8, 0, none⟩)), (13, .bool true), (22, .pointer (some ⟨b73, 0, none⟩)), (23, .pointer (some ⟨b78, 0, none⟩)), (24, .pointer (some ⟨b84, 0, none⟩))] _
        replace hs2 := hs2.mono hle139
        replace hs4 := hs4.mono hle139
        replace hs19 := hs19.mono hle139
        replace hs21 := hs21.mono hle139
        replace hs32 := hs32.mono hle139
        replace hs34 := hs34.mono hle139
        replace hs45 := hs45.mono hle139
        replace hs47 := hs47.mono hle139
        replace hp63 := hp63.mono hle139
        replace hp64 := hp64.mono hle139
        replace hp66 := hp66.mono hle139
        replace hp67 := hp67.mono hle139
        replace hp70 := hp70.mono hle139
        replace hp75 := hp75.mono hle139
        have hl149 := hs140.le
        have hl150 := hs141.le
        have hl151 := hs142.le
        have hl152 := hs143.le
        have hl153 := hs144.le
        have hl154 := hs145.le
        have hl155 := hs146.le
        have hl156 := hs147.le
        have hl157 := hs148.le
        refine WC.seq ?_
        have he158 : ([] ++ s.Shifts) = s.Shifts := List.nil_append _
        rw [he158]
        refine WC.region ?_
        refine WL.x (X.field Try.runUnderlying25 rfl Try.sizeOf23 rfl) (by decide) ?_
        refine WL.x (X.loadB (k := 0) Try.isAgg23 rfl rfl rfl) (by decide) ?_
        refine WL.x (X.move rfl) (by decide) ?_
        refine WL.x (X.loadBA (k := 2) Try.isAgg72 Try.sizeOf72 rfl rfl rfl) (by decide) ?_
        refine WL.x (X.idxRow (k := 1) Try.runUnderlying23 Try.sizeOf72 rfl rfl rfl (by first | omega | (simp; omega) | simp) (by first | omega | (simp; omega) | simp)) (by decide) ?_
        refine WL.ts (T.storeFp (k := 1) (i := (which : Int).toNat) (off := 0) (us := [.int .i64 ((gt s.Shifts ((which + 1 : Int).toNat)).Time), .int .i64 (((gt s.Shifts ((which + 1 : Int).toNat)).Levels).Lo), .int .i64 (((gt s.Shifts ((which + 1 : Int).toNat)).Levels).Hi)]) (gt s.Shifts ((which + 1 : Int).toNat)) Try.sizeOf72 rfl rfl rfl rfl (Nat.zero_lt_succ _) rfl (by first | omega | (simp; omega) | simp) rfl rfl (one_cons rfl (one_cons rfl (one_cons rfl one_nil)))) ?_
        refine WL.nil ?_
        refine WK.nThen ?_
        refine WC.seq ?_
        refine WC.region ?_
        refine WL.x (X.field Try.runUnderlying25 rfl Try.sizeOf23 rfl) (by decide) ?_
        refine WL.x (X.loadB (k := 0) Try.isAgg23 rfl rfl rfl) (by decide) ?_
        refine WL.x (X.move rfl) (by decide) ?_
        refine WL.x (X.add rfl rfl (by omega) (by omega)) (by decide) ?_
        refine WL.x (X.loadBA (k := 3) Try.isAgg72 Try.sizeOf72 rfl rfl rfl) (by decide) ?_
        refine WL.x (X.idxRow (k := 1) Try.runUnderlying23 Try.sizeOf72 rfl rfl rfl (by first | omega | (simp; omega) | simp) (by first | omega | (simp; omega) | simp)) (by decide) ?_
        refine WL.ts (T.storeFp (k := 1) (i := (which + 1 : Int).toNat) (off := 0) (us := [.int .i64 ((gt s.Shifts ((which : Int).toNat)).Time), .int .i64 (((gt s.Shifts ((which : Int).toNat)).Levels).Lo), .int .i64 (((gt s.Shifts ((which : Int).toNat)).Levels).Hi)]) (gt s.Shifts ((which : Int).toNat)) Try.sizeOf72 rfl rfl rfl rfl (Nat.zero_lt_succ _) rfl (by first | omega | (simp; omega) | simp) rfl rfl (one_cons rfl (one_cons rfl (one_cons rfl one_nil)))) ?_
        refine WL.nil ?_
        refine WK.nThen ?_
        refine WC.seq ?_
        refine WC.seq ?_
        have he159 : ((s.Shifts.set ((which : Int).toNat) (gt s.Shifts ((which + 1 : Int).toNat))).set ((which + 1 : Int).toNat) (gt s.Shifts ((which : Int).toNat))) = (twoX s.Shifts which.toNat (gt s.Shifts (which.toNat + 1)) (gt s.Shifts which.toNat)) := (by rw [hw1]; rfl)
        rw [he159]
        have hE1 : Eqv ⟨s.Values, twoX s.Shifts which.toNat (gt s.Shifts (which.toNat + 1)) (gt s.Shifts which.toNat)⟩ s := two_eqv hok hww ht.symm rfl ht (by omega) (by omega) (swap_ok hok hww ht)
        have htl := twoX_len s.Shifts which.toNat (gt s.Shifts (which.toNat + 1)) (gt s.Shifts which.toNat)
        refine WC.region ?_
        refine WL.x (X.loadBA (k := 9) Try.isAgg25 Try.sizeOf25 rfl rfl rfl) (by decide) ?_
        refine WL.x (X.loadBA (k := 0) Try.isAgg25 Try.sizeOf25 rfl rfl rfl) (by decide) ?_
        refine WL.x (X.loadBA (k := 8) Try.isAgg33 Try.sizeOf33 rfl rfl rfl) (by decide) ?_
        refine WL.x (X.move rfl) (by decide) ?_
        refine WL.x (X.move rfl) (by decide) ?_
        refine WL.x (X.callL Try.call57 rfl (fun w_ hw_ => same57 _ _ s ⟨_, _, rfl, (hs147.mono hw_.leAll), (hs148.mono hw_.leAll)⟩ _ (Ser.mk s.Values (twoX s.Shifts which.toNat (gt s.Shifts (which.toNat + 1)) (gt s.Shifts which.toNat))) ⟨_, _, rfl, (hs147.mono hw_.leAll), (hw_.rowFSl (k := 1) rfl (by unfold lenB; rw [twoX_len]; omega))⟩ _ a rfl time most hE1 (by omega))) (by decide) ?_
        refine WL.x (X.not rfl) (by decide) ?_
        refine WL.nil ?_
        refine WK.nThen ?_
        refine WC.condF rfl ?_
        refine WC.skip ?_
        refine WK.nThen ?_
        refine WC.seq ?_
        refine WC.region ?_
        refine WL.x (X.field Try.runUnderlying25 rfl Try.sizeOf23 rfl) (by decide) ?_
        refine WL.x (X.loadB (k := 0) Try.isAgg23 rfl rfl rfl) (by decide) ?_
        refine WL.x (X.move rfl) (by decide) ?_
        refine WL.x (X.field Try.runUnderlying72 rfl Try.sizeOf3 rfl) (by decide) ?_
        refine WL.x (X.loadB (k := 3) Try.isAgg3 rfl rfl rfl) (by decide) ?_
        refine WL.x (X.field Try.runUnderlying72 rfl Try.sizeOf33 rfl) (by decide) ?_
        refine WL.x (X.field Try.runUnderlying33 rfl Try.sizeOf3 rfl) (by decide) ?_
        refine WL.x (X.loadB (k := 3) Try.isAgg3 rfl rfl rfl) (by decide) ?_
        refine WL.x (X.field Try.runUnderlying72 rfl Try.sizeOf33 rfl) (by decide) ?_
        refine WL.x (X.field Try.runUnderlying33 rfl Try.sizeOf3 rfl) (by decide) ?_
        refine WL.x (X.loadB (k := 2) Try.isAgg3 rfl rfl rfl) (by decide) ?_
        refine WL.x (X.add rfl rfl (by omega) (by omega)) (by decide) ?_
        refine WL.x (X.field Try.runUnderlying72 rfl Try.sizeOf33 rfl) (by decide) ?_
        refine WL.x (X.field Try.runUnderlying33 rfl Try.sizeOf3 rfl) (by decide) ?_
        refine WL.x (X.loadB (k := 3) Try.isAgg3 rfl rfl rfl) (by decide) ?_
        refine WL.x (X.field Try.runUnderlying72 rfl Try.sizeOf33 rfl) (by decide) ?_
        refine WL.x (X.field Try.runUnderlying33 rfl Try.sizeOf3 rfl) (by decide) ?_
        refine WL.x (X.loadB (k := 2) Try.isAgg3 rfl rfl rfl) (by decide) ?_
        refine WL.x (X.add rfl rfl (by omega) (by omega)) (by decide) ?_
        refine WL.x (V := Value.agg [.int .i64 ((((gt s.Shifts ((which : Int).toNat)).Levels).Lo) + (((gt s.Shifts ((which + 1 : Int).toNat)).Levels).Lo)), .int .i64 ((((gt s.Shifts ((which : Int).toNat)).Levels).Hi) + (((gt s.Shifts ((which + 1 : Int).toNat)).Levels).Hi))].toArray) (X.build Try.zeroValue33 Try.runUnderlying33 (places33 _ Try.underlying33) rfl rfl) (by decide) ?_
        refine WL.x (V := Value.agg [.int .i64 ((gt s.Shifts ((which : Int).toNat)).Time), .int .i64 ((((gt s.Shifts ((which : Int).toNat)).Levels).Lo) + (((gt s.Shifts ((which + 1 : Int).toNat)).Levels).Lo)), .int .i64 ((((gt s.Shifts ((which : Int).toNat)).Levels).Hi) + (((gt s.Shifts ((which + 1 : Int).toNat)).Levels).Hi))].toArray) (X.build Try.zeroValue72 Try.runUnderlying72 (places72 _ Try.underlying72) rfl rfl) (by decide) ?_
        refine WL.x (X.idxRow (k := 1) Try.runUnderlying23 Try.sizeOf72 rfl rfl rfl (by first | omega | (simp; omega) | simp) (by first | omega | (simp; omega) | simp)) (by decide) ?_
        refine WL.ts (T.storeFp (k := 1) (i := (which : Int).toNat) (off := 0) (us := [.int .i64 ((gt s.Shifts ((which : Int).toNat)).Time), .int .i64 ((((gt s.Shifts ((which : Int).toNat)).Levels).Lo) + (((gt s.Shifts ((which + 1 : Int).toNat)).Levels).Lo)), .int .i64 ((((gt s.Shifts ((which : Int).toNat)).Levels).Hi) + (((gt s.Shifts ((which + 1 : Int).toNat)).Levels).Hi))]) ((Shf.mk ((gt s.Shifts ((which : Int).toNat)).Time) ((Span.mk ((((gt s.Shifts ((which : Int).toNat)).Levels).Lo) + (((gt s.Shifts ((which + 1 : Int).toNat)).Levels).Lo)) ((((gt s.Shifts ((which : Int).toNat)).Levels).Hi) + (((gt s.Shifts ((which + 1 : Int).toNat)).Levels).Hi)))))) Try.sizeOf72 rfl rfl rfl rfl (Nat.zero_lt_succ _) rfl (by first | omega | (simp; omega) | simp) rfl rfl (one_cons rfl (one_cons rfl (one_cons rfl one_nil)))) ?_
        refine WL.nil ?_
        refine WK.nThen ?_
        refine WC.seq ?_
        refine WC.region ?_
        refine WL.x (X.field Try.runUnderlying25 rfl Try.sizeOf23 rfl) (by decide) ?_
        refine WL.x (X.loadB (k := 0) Try.isAgg23 rfl rfl rfl) (by decide) ?_
        refine WL.x (X.move rfl) (by decide) ?_
        refine WL.x (X.add rfl rfl (by omega) (by omega)) (by decide) ?_
        refine WL.x (X.field Try.runUnderlying72 rfl Try.sizeOf3 rfl) (by decide) ?_
        refine WL.x (X.loadB (k := 3) Try.isAgg3 rfl rfl rfl) (by decide) ?_
        refine WL.x (V := Value.agg [.int .i64 ((gt s.Shifts ((which : Int).toNat)).Time), .int .i64 (0), .int .i64 (0)].toArray) (X.build Try.zeroValue72 Try.runUnderlying72 (places72 _ Try.underlying72) rfl rfl) (by decide) ?_
        refine WL.x (X.idxRow (k := 1) Try.runUnderlying23 Try.sizeOf72 rfl rfl rfl (by first | omega | (simp; omega) | simp) (by first | omega | (simp; omega) | simp)) (by decide) ?_
        refine WL.ts (T.storeFp (k := 1) (i := (which + 1 : Int).toNat) (off := 0) (us := [.int .i64 ((gt s.Shifts ((which : Int).toNat)).Time), .int .i64 (0), .int .i64 (0)]) ((Shf.mk ((gt s.Shifts ((which : Int).toNat)).Time) ((Span.mk (0) (0))))) Try.sizeOf72 rfl rfl rfl rfl (Nat.zero_lt_succ _) rfl (by first | omega | (simp; omega) | simp) rfl rfl (one_cons rfl (one_cons rfl (one_cons rfl one_nil)))) ?_
        refine WL.nil ?_
        refine WK.nThen ?_
        refine WC.seq ?_
        have he160 : (((twoX s.Shifts which.toNat (gt s.Shifts (which.toNat + 1)) (gt s.Shifts which.toNat)).set ((which : Int).toNat) ((Shf.mk ((gt s.Shifts ((which : Int).toNat)).Time) ((Span.mk ((((gt s.Shifts ((which : Int).toNat)).Levels).Lo) + (((gt s.Shifts ((which + 1 : Int).toNat)).Levels).Lo)) ((((gt s.Shifts ((which : Int).toNat)).Levels).Hi) + (((gt s.Shifts ((which + 1 : Int).toNat)).Levels).Hi))))))).set ((which + 1 : Int).toNat) ((Shf.mk ((gt s.Shifts ((which : Int).toNat)).Time) ((Span.mk (0) (0)))))) = (twoX s.Shifts which.toNat ⟨(gt s.Shifts which.toNat).Time, ⟨(gt s.Shifts which.toNat).Levels.Lo + (gt s.Shifts (which.toNat + 1)).Levels.Lo, (gt s.Shifts which.toNat).Levels.Hi + (gt s.Shifts (which.toNat + 1)).Levels.Hi⟩⟩ ⟨(gt s.Shifts which.toNat).Time, ⟨0, 0⟩⟩) := (by rw [hw1]; exact twoX_two (xs := s.Shifts) (w := which.toNat) _ _ _ _)
        rw [he160]
        refine WC.region ?_
        refine WL.x (X.loadBA (k := 0) Try.isAgg25 Try.sizeOf25 rfl rfl rfl) (by decide) ?_
        refine WL.freezeF 1 rfl rfl (by unfold lenB; first | (rw [twoX_len]; omega) | (simp; omega)) (fun m161 hle162 hs163 => ?_)
        replace hs2 := hs2.mono hle162
        replace hs4 := hs4.mono hle162
        replace hs19 := hs19.mono hle162
        replace hs21 := hs21.mono hle162
        replace hs32 := hs32.mono hle162
        replace hs34 := hs34.mono hle162
        replace hs45 := hs45.mono hle162
        replace hs47 := hs47.mono hle162
        replace hp63 := hp63.mono hle162
        replace hp64 := hp64.mono hle162
        replace hp66 := hp66.mono hle162
        replace hp67 := hp67.mono hle162
        replace hp70 := hp70.mono hle162
        replace hp75 := hp75.mono hle162
        replace hs140 := hs140.mono hle162
        replace hs141 := hs141.mono hle162
        replace hs142 := hs142.mono hle162
        replace hs143 := hs143.mono hle162
        replace hs144 := hs144.mono hle162
        replace hs145 := hs145.mono hle162
        replace hs146 := hs146.mono hle162
        replace hs147 := hs147.mono hle162
        replace hs148 := hs148.mono hle162
        refine WL.x (X.call Try.call34 rfl (check34 _ _ ((Ser.mk (s.Values) (twoX s.Shifts which.toNat ⟨(gt s.Shifts which.toNat).Time, ⟨(gt s.Shifts which.toNat).Levels.Lo + (gt s.Shifts (which.toNat + 1)).Levels.Lo, (gt s.Shifts which.toNat).Levels.Hi + (gt s.Shifts (which.toNat + 1)).Levels.Hi⟩⟩ ⟨(gt s.Shifts which.toNat).Time, ⟨0, 0⟩⟩))) ⟨_, _, rfl, hs147, hs163⟩ )) (by decide) ?_
        refine WL.x (X.move rfl) (by decide) ?_
        refine WL.x (X.extract rfl rfl) (by decide) ?_
        refine WL.x (X.extract rfl rfl) (by decide) ?_
        refine WL.x (X.assign rfl) (by decide) ?_
        refine WL.x (X.assign rfl) (by decide) ?_
        refine WL.nil ?_
        refine WK.nThen ?_
        refine WC.seq ?_
        refine WC.region ?_
        refine WL.x (X.move rfl) (by decide) ?_
        refine WL.x (X.move rfl) (by decide) ?_
        refine WL.yes rfl rfl ?_
        refine WL.x (X.move rfl) (by decide) ?_
        refine WL.yes rfl rfl ?_
        refine WL.condn (X.neq rfl rfl) (by decide) (fun h164 => ?_) (fun h164 => ?_)
        ·refine WL.yes rfl rfl ?_
         refine WL.x (X.move rfl) (by decide) ?_
         refine WL.no rfl rfl rfl (by decide) ?_
         refine WL.no rfl rfl rfl (by decide) ?_
         refine WL.no rfl rfl rfl (by decide) ?_
         refine WL.no rfl rfl rfl (by decide) ?_
         refine WL.no rfl rfl rfl (by decide) ?_
         refine WL.no rfl rfl rfl (by decide) ?_
         refine WL.yes rfl rfl ?_
         refine WL.x (X.pickT rfl rfl rfl) (by decide) ?_
         refine WL.x (X.pickT rfl rfl rfl) (by decide) ?_
         refine WL.x (X.assign rfl) (by decide) ?_
         refine WL.nil ?_
         refine WK.nThen ?_
         refine WC.ret ?_
         refine WK.ret1 rfl rfl (fun w' hw' => Ret.exact hw' ?_)
         first | rfl | (exfalso; omega) | (exfalso; contradiction) | exact (bool_true rfl).symm | exact (bool_true (by omega)).symm
        ·have hE2 : Eqv ⟨s.Values, twoX s.Shifts which.toNat ⟨(gt s.Shifts which.toNat).Time, ⟨(gt s.Shifts which.toNat).Levels.Lo + (gt s.Shifts (which.toNat + 1)).Levels.Lo, (gt s.Shifts which.toNat).Levels.Hi + (gt s.Shifts (which.toNat + 1)).Levels.Hi⟩⟩ ⟨(gt s.Shifts which.toNat).Time, ⟨0, 0⟩⟩⟩ s := two_eqv hok hww rfl rfl ht (by dsimp only; omega) (by dsimp only; omega) (Ok.of (by show (chk _).1 = 0; omega))
         refine WL.yes rfl rfl ?_
         refine WL.x (X.move rfl) (by decide) ?_
         refine WL.yes rfl rfl ?_
         refine WL.x (X.loadBA (k := 8) Try.isAgg25 Try.sizeOf25 rfl rfl rfl) (by decide) ?_
         refine WL.yes rfl rfl ?_
         refine WL.x (X.loadBA (k := 0) Try.isAgg25 Try.sizeOf25 rfl rfl rfl) (by decide) ?_
         refine WL.yes rfl rfl ?_
         refine WL.x (X.loadBA (k := 7) Try.isAgg33 Try.sizeOf33 rfl rfl rfl) (by decide) ?_
         refine WL.yes rfl rfl ?_
         refine WL.x (X.move rfl) (by decide) ?_
         refine WL.yes rfl rfl ?_
         refine WL.x (X.move rfl) (by decide) ?_
         refine WL.yes rfl rfl ?_
         refine WL.x (X.call Try.call57 rfl (same57 _ _ s ⟨_, _, rfl, hs147, hs148⟩ _ ((Ser.mk (s.Values) (twoX s.Shifts which.toNat ⟨(gt s.Shifts which.toNat).Time, ⟨(gt s.Shifts which.toNat).Levels.Lo + (gt s.Shifts (which.toNat + 1)).Levels.Lo, (gt s.Shifts which.toNat).Levels.Hi + (gt s.Shifts (which.toNat + 1)).Levels.Hi⟩⟩ ⟨(gt s.Shifts which.toNat).Time, ⟨0, 0⟩⟩))) ⟨_, _, rfl, hs147, hs163⟩ _ a rfl _ _ hE2 (by omega))) (by decide) ?_
         refine WL.yes rfl rfl ?_
         refine WL.x (X.pickF rfl rfl rfl) (by decide) ?_
         refine WL.x (X.pickT rfl rfl rfl) (by decide) ?_
         refine WL.x (X.assign rfl) (by decide) ?_
         refine WL.nil ?_
         refine WK.nThen ?_
         refine WC.ret ?_
         refine WK.ret1 rfl rfl (fun w' hw' => Ret.exact hw' ?_)
         first | rfl | (exfalso; omega) | (exfalso; contradiction) | exact (bool_true rfl).symm | exact (bool_true (by omega)).symm
 ·refine WL.x (X.not rfl) (by decide) ?_
  refine WL.x (X.move rfl) (by decide) ?_
  refine WL.no rfl rfl rfl (by decide) ?_
  refine WL.no rfl rfl rfl (by decide) ?_
  refine WL.x (X.pickT rfl rfl rfl) (by decide) ?_
  refine WL.nil ?_
  refine WK.nThen ?_
  refine WC.condT rfl ?_
  refine WC.seq ?_
  refine WC.region ?_
  refine WL.x (X.move rfl) (by decide) ?_
  refine WL.x (X.assign rfl) (by decide) ?_
  refine WL.nil ?_
  refine WK.nThen ?_
  refine WC.ret ?_
  refine WK.rThen ?_
  refine WK.ret1 rfl rfl (fun w' hw' => Ret.exact hw' ?_)
  first | rfl | (exfalso; omega) | (exfalso; contradiction) | exact (bool_true rfl).symm | exact (bool_true (by omega)).symm
end Go.Proofs.C8
