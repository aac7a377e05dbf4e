import Derived.Test.YtednficclnjmjaaC8Br
import Derived.Test.YtednficclnjmjaaC8W9
import Derived.Test.YtednficclnjmjaaC8Kept
import Derived.Test.YtednficclnjmjaaC8W20
import Derived.Test.YtednficclnjmjaaKxQ
/- The walk of the statement CenturyParts: its function answers true. -/
namespace Go.Proofs.C8
open Go Go.Kx
set_option linter.unusedSimpArgs false
set_option linter.unusedVariables false
set_option maxRecDepth 20000 in
set_option maxHeartbeats 8000000 in
theorem law20 (m : Mem) (cs : List Value) (s : Ser) (hs : Enc.rd m cs s) (ct : List Value) (t : Ser) (ht : Enc.rd m ct t) (ca : List Value) (a : Span) (ha : Enc.rd m ca a)  (ok0 : Rng.ok s) (ok1 : Rng.ok t) (ok2 : Rng.ok a) : Exact Try.prog 20 #[.agg cs.toArray, .agg ct.toArray, .agg ca.toArray] m (.bool true) := by
 obtain ⟨v1, v3, rfl, hs2, hs4⟩ := hs
 have hl5 := hs2.le
 have hl6 := hs4.le
 obtain ⟨v7, v9, rfl, hs8, hs10⟩ := ht
 have hl11 := hs8.le
 have hl12 := hs10.le
 obtain rfl := ha
 refine Exact.start Try.func20 rfl Try.ntmps20 rfl fun wld => ?_
 refine WC.seq ?_
 refine WC.region ?_
 refine WL.tn (T.boxB rfl rfl) (by decide) fun b13 => ?_
 refine WL.tn (T.boxB rfl rfl) (by decide) fun b14 => ?_
 refine WL.tn (T.boxB rfl rfl) (by decide) fun b15 => ?_
 refine WL.x (X.assign rfl) (by decide) ?_
 refine WL.nil ?_
 refine WK.nThen ?_
 refine WC.seq ?_
 refine WC.region ?_
 refine WL.x (X.call Try.call21 rfl (awake21 _  )) (by decide) ?_
 refine WL.x (X.assign rfl) (by decide) ?_
 refine WL.nil ?_
 refine WK.nThen ?_
 refine WC.seq ?_
 refine WC.seq ?_
 refine WC.region ?_
 refine WL.x (X.loadBA (k := 2) Try.isAgg25 Try.sizeOf25 rfl rfl rfl) (by decide) ?_
 refine WL.cond (X.call Try.call22 rfl (few22 _ _ s ⟨_, _, rfl, hs2, hs4⟩ )) (by decide) (fun h16 => ?_) (fun h16 => ?_)
 ·refine WL.x (X.not rfl) (by decide) ?_
  refine WL.x (X.move rfl) (by decide) ?_
  refine WL.yes rfl rfl ?_
  refine WL.x (X.loadBA (k := 1) Try.isAgg25 Try.sizeOf25 rfl rfl rfl) (by decide) ?_
  refine WL.yes rfl rfl ?_
  refine WL.cond (X.call Try.call22 rfl (few22 _ _ t ⟨_, _, rfl, hs8, hs10⟩ )) (by decide) (fun h17 => ?_) (fun h17 => ?_)
  ·refine WL.yes rfl rfl ?_
   refine WL.x (X.not rfl) (by decide) ?_
   refine WL.x (X.pickF rfl rfl rfl) (by decide) ?_
   refine WL.nil ?_
   refine WK.nThen ?_
   refine WC.condF rfl ?_
   refine WC.skip ?_
   refine WK.nThen ?_
   refine WC.seq ?_
   refine WC.region ?_
   refine WL.x (X.loadBA (k := 2) Try.isAgg25 Try.sizeOf25 rfl rfl rfl) (by decide) ?_
   refine WL.x (V := Value.agg [.int .i64 (0), .int .i64 (10000)].toArray) (X.build Try.zeroValue33 Try.runUnderlying33 (places33 _ Try.underlying33) rfl rfl) (by decide) ?_
   refine WL.tm (T.call Try.call59 rfl (cut59 _ _ s ⟨_, _, rfl, hs2, hs4⟩ _ ((Span.mk (0) (10000))) rfl )) (by decide) fun m18 r19 hle20 hR21 => ?_
   obtain ⟨c22, rfl, hc23⟩ := hR21
   replace hs2 := hs2.mono hle20
   replace hs4 := hs4.mono hle20
   replace hs8 := hs8.mono hle20
   replace hs10 := hs10.mono hle20
   obtain ⟨v24, v26, rfl, hs25, hs27⟩ := hc23
   have hl28 := hs25.le
   have hl29 := hs27.le
   refine WL.x (X.move rfl) (by decide) ?_
   refine WL.x (X.extract rfl rfl) (by decide) ?_
   refine WL.x (X.extract rfl rfl) (by decide) ?_
   refine WL.tn (T.alloc Try.zeroValue25 rfl) (by decide) fun b30 => ?_
   refine WL.ts (T.storeBA (k := 0) Try.sizeOf25 rfl rfl rfl (one_cons hs25.one (one_cons hs27.one one_nil)) rfl rfl) ?_
   refine WL.x (X.assign rfl) (by decide) ?_
   refine WL.nil ?_
   refine WK.nThen ?_
   refine WC.seq ?_
   refine WC.region ?_
   refine WL.x (X.loadBA (k := 3) Try.isAgg25 Try.sizeOf25 rfl rfl rfl) (by decide) ?_
   refine WL.x (X.loadBA (k := 3) Try.isAgg25 Try.sizeOf25 rfl rfl rfl) (by decide) ?_
   refine WL.tm (T.call Try.call76 rfl (join76 _ _ s ⟨_, _, rfl, hs2, hs4⟩ _ s ⟨_, _, rfl, hs2, hs4⟩ )) (by decide) fun m31 r32 hle33 hR34 => ?_
   obtain ⟨c35, rfl, hc36⟩ := hR34
   replace hs2 := hs2.mono hle33
   replace hs4 := hs4.mono hle33
   replace hs8 := hs8.mono hle33
   replace hs10 := hs10.mono hle33
   replace hs25 := hs25.mono hle33
   replace hs27 := hs27.mono hle33
   obtain ⟨v37, v39, rfl, hs38, hs40⟩ := hc36
   have hl41 := hs38.le
   have hl42 := hs40.le
   refine WL.x (X.move rfl) (by decide) ?_
   refine WL.x (X.extract rfl rfl) (by decide) ?_
   refine WL.x (X.extract rfl rfl) (by decide) ?_
   refine WL.tn (T.alloc Try.zeroValue25 rfl) (by decide) fun b43 => ?_
   refine WL.ts (T.storeBA (k := 0) Try.sizeOf25 rfl rfl rfl (one_cons hs38.one (one_cons hs40.one one_nil)) rfl rfl) ?_
   refine WL.x (X.assign rfl) (by decide) ?_
   refine WL.nil ?_
   refine WK.nThen ?_
   refine WC.seq ?_
   refine WC.seq ?_
   refine WC.region ?_
   refine WL.x (X.loadBA (k := 4) Try.isAgg25 Try.sizeOf25 rfl rfl rfl) (by decide) ?_
   refine WL.x (X.call Try.call34 rfl (check34 _ _ s ⟨_, _, rfl, hs2, hs4⟩ )) (by decide) ?_
   refine WL.x (X.move rfl) (by decide) ?_
   refine WL.x (X.extract rfl rfl) (by decide) ?_
   refine WL.x (X.extract rfl rfl) (by decide) ?_
   refine WL.x (X.assign rfl) (by decide) ?_
   refine WL.x (X.assign rfl) (by decide) ?_
   refine WL.nil ?_
   refine WK.nThen ?_
   refine WC.seq ?_
   refine WC.region ?_
   refine WL.x (X.move rfl) (by decide) ?_
   refine WL.condn (X.neq rfl rfl) (by decide) (fun h44 => ?_) (fun h44 => ?_)
   ·refine WL.nil ?_
    refine WK.nThen ?_
    refine WC.condT rfl ?_
    refine WC.seq ?_
    have hbb_ := bad_both (s := s) (by unfold chkE; first | assumption | omega)
    unfold chkE at hbb_
    refine WC.region ?_
    refine WL.x (X.move rfl) (by decide) ?_
    refine WL.x (X.move rfl) (by decide) ?_
    refine WL.yes rfl rfl ?_
    refine WL.x (X.move rfl) (by decide) ?_
    refine WL.yes rfl rfl ?_
    refine WL.x (X.move rfl) (by decide) ?_
    refine WL.yes rfl rfl ?_
    refine WL.x (OpX.t (X.eql rfl rfl) hbb_.1) (by decide) ?_
    refine WL.x (X.pickT rfl rfl rfl) (by decide) ?_
    refine WL.x (X.move rfl) (by decide) ?_
    refine WL.yes rfl rfl ?_
    refine WL.x (X.move rfl) (by decide) ?_
    refine WL.yes rfl rfl ?_
    refine WL.x (X.move rfl) (by decide) ?_
    refine WL.yes rfl rfl ?_
    refine WL.x (OpX.t (X.eql rfl rfl) hbb_.2) (by decide) ?_
    refine WL.x (X.pickT rfl rfl rfl) (by decide) ?_
    refine WL.x (X.assign rfl) (by decide) ?_
    refine WL.nil ?_
    refine WK.nThen ?_
    refine WC.ret ?_
    refine WK.rThen ?_
    refine WK.ret1 rfl rfl (fun w' hw' => Ret.exact hw' ?_)
    first | rfl | (exfalso; omega) | (exfalso; contradiction) | exact (bool_true rfl).symm | exact (bool_true (by omega)).symm | (simp; done)
   ·refine WL.nil ?_
    refine WK.nThen ?_
    refine WC.condF rfl ?_
    refine WC.skip ?_
    refine WK.nThen ?_
    refine WC.seq ?_
    refine WC.seq ?_
    have hok_ := Ok.of (s := s) (by unfold chkE; first | assumption | omega)
    have hca_ := cut_all hok_
    have hjs_ := join_self hok_
    refine WC.region ?_
    refine WL.x (X.move rfl) (by decide) ?_
    refine WL.x (OpX.f (X.neq rfl rfl) (fun h => h (by rw [hca_]))) (by decide) ?_
    refine WL.x (X.move rfl) (by decide) ?_
    refine WL.yes rfl rfl ?_
    refine WL.x (X.move rfl) (by decide) ?_
    refine WL.yes rfl rfl ?_
    refine WL.x (OpX.f (X.neq rfl rfl) (fun h => h (by rw [hjs_]))) (by decide) ?_
    refine WL.x (X.pickF rfl rfl rfl) (by decide) ?_
    refine WL.x (X.move rfl) (by decide) ?_
    refine WL.yes rfl rfl ?_
    refine WL.x (X.loadBA (k := 1) Try.isAgg25 Try.sizeOf25 rfl rfl rfl) (by decide) ?_
    refine WL.yes rfl rfl ?_
    refine WL.x (X.loadBA (k := 4) Try.isAgg25 Try.sizeOf25 rfl rfl rfl) (by decide) ?_
    refine WL.yes rfl rfl ?_
    refine WL.x (OpX.t (X.call Try.call56 rfl (sameSeries56 _ _ ((cutR s (((Span.mk (0) (10000))))).1) ⟨_, _, rfl, hs25, hs27⟩ _ s ⟨_, _, rfl, hs2, hs4⟩ )) (by rw [hca_])) (by decide) ?_
    refine WL.yes rfl rfl ?_
    refine WL.x (X.not rfl) (by decide) ?_
    refine WL.x (X.pickF rfl rfl rfl) (by decide) ?_
    refine WL.x (X.move rfl) (by decide) ?_
    refine WL.yes rfl rfl ?_
    refine WL.x (X.loadBA (k := 0) Try.isAgg25 Try.sizeOf25 rfl rfl rfl) (by decide) ?_
    refine WL.yes rfl rfl ?_
    refine WL.x (X.loadBA (k := 4) Try.isAgg25 Try.sizeOf25 rfl rfl rfl) (by decide) ?_
    refine WL.yes rfl rfl ?_
    refine WL.x (OpX.t (X.call Try.call56 rfl (sameSeries56 _ _ ((joinR s s).1) ⟨_, _, rfl, hs38, hs40⟩ _ s ⟨_, _, rfl, hs2, hs4⟩ )) (by rw [hjs_])) (by decide) ?_
    refine WL.yes rfl rfl ?_
    refine WL.x (X.not rfl) (by decide) ?_
    refine WL.x (X.pickF rfl rfl rfl) (by decide) ?_
    refine WL.nil ?_
    refine WK.nThen ?_
    refine WC.condF rfl ?_
    refine WC.skip ?_
    refine WK.nThen ?_
    refine WC.seq ?_
    refine WC.region ?_
    refine WL.x (X.loadBA (k := 4) Try.isAgg25 Try.sizeOf25 rfl rfl rfl) (by decide) ?_
    refine WL.x (X.loadBA (k := 3) Try.isAgg25 Try.sizeOf25 rfl rfl rfl) (by decide) ?_
    refine WL.tm (T.call Try.call76 rfl (join76 _ _ s ⟨_, _, rfl, hs2, hs4⟩ _ t ⟨_, _, rfl, hs8, hs10⟩ )) (by decide) fun m45 r46 hle47 hR48 => ?_
    obtain ⟨c49, rfl, hc50⟩ := hR48
    replace hs2 := hs2.mono hle47
    replace hs4 := hs4.mono hle47
    replace hs8 := hs8.mono hle47
    replace hs10 := hs10.mono hle47
    replace hs25 := hs25.mono hle47
    replace hs27 := hs27.mono hle47
    replace hs38 := hs38.mono hle47
    replace hs40 := hs40.mono hle47
    obtain ⟨v51, v53, rfl, hs52, hs54⟩ := hc50
    have hl55 := hs52.le
    have hl56 := hs54.le
    refine WL.x (X.move rfl) (by decide) ?_
    refine WL.x (X.extract rfl rfl) (by decide) ?_
    refine WL.x (X.extract rfl rfl) (by decide) ?_
    refine WL.tn (T.alloc Try.zeroValue25 rfl) (by decide) fun b57 => ?_
    refine WL.ts (T.storeBA (k := 0) Try.sizeOf25 rfl rfl rfl (one_cons hs52.one (one_cons hs54.one one_nil)) rfl rfl) ?_
    refine WL.x (X.assign rfl) (by decide) ?_
    refine WL.nil ?_
    refine WK.nThen ?_
    refine WC.seq ?_
    refine WC.region ?_
    refine WL.x (X.loadBA (k := 4) Try.isAgg25 Try.sizeOf25 rfl rfl rfl) (by decide) ?_
    refine WL.x (X.loadBA (k := 5) Try.isAgg25 Try.sizeOf25 rfl rfl rfl) (by decide) ?_
    refine WL.tm (T.call Try.call76 rfl (join76 _ _ t ⟨_, _, rfl, hs8, hs10⟩ _ s ⟨_, _, rfl, hs2, hs4⟩ )) (by decide) fun m58 r59 hle60 hR61 => ?_
    obtain ⟨c62, rfl, hc63⟩ := hR61
    replace hs2 := hs2.mono hle60
    replace hs4 := hs4.mono hle60
    replace hs8 := hs8.mono hle60
    replace hs10 := hs10.mono hle60
    replace hs25 := hs25.mono hle60
    replace hs27 := hs27.mono hle60
    replace hs38 := hs38.mono hle60
    replace hs40 := hs40.mono hle60
    replace hs52 := hs52.mono hle60
    replace hs54 := hs54.mono hle60
    obtain ⟨v64, v66, rfl, hs65, hs67⟩ := hc63
    have hl68 := hs65.le
    have hl69 := hs67.le
    refine WL.x (X.move rfl) (by decide) ?_
    refine WL.x (X.extract rfl rfl) (by decide) ?_
    refine WL.x (X.extract rfl rfl) (by decide) ?_
    refine WL.tn (T.alloc Try.zeroValue25 rfl) (by decide) fun b70 => ?_
    refine WL.ts (T.storeBA (k := 0) Try.sizeOf25 rfl rfl rfl (one_cons hs65.one (one_cons hs67.one one_nil)) rfl rfl) ?_
    refine WL.x (X.assign rfl) (by decide) ?_
    refine WL.nil ?_
    refine WK.nThen ?_
    refine WC.seq ?_
    refine WC.cut (G := Unit) (fun u_ => m58) (fun u_ => [blk b70 25 [v64, v66], blk b57 25 [v51, v53], blk b43 25 [v37, v39], blk b30 25 [v24, v26], blk b15 33 [.int .i64 (a.Lo), .int .i64 (a.Hi)], blk b14 25 [v7, v9], blk b13 25 [v1, v3]]) (fun u_ => [(3, .pointer (some ⟨b13, 0, none⟩)), (5, .pointer (some ⟨b15, 0, none⟩)), (7, .bool true), (123, .bool false)]) (fun u_ => True) ?_ ?_
    ·have hs1_ := fun h_ => join_swap (s := s) (t := t) h_
     have hs2_ := fun h_ => join_swap (s := t) (t := s) h_
     refine WC.region ?_
     refine WL.x (X.move rfl) (by decide) ?_
     refine WL.cond (X.eql rfl rfl) (by decide) (fun h71 => ?_) (fun h71 => ?_)
     ·refine WL.x (X.move rfl) (by decide) ?_
      refine WL.yes rfl rfl ?_
      refine WL.x (X.move rfl) (by decide) ?_
      refine WL.yes rfl rfl ?_
      refine WL.x (OpX.f (X.neq rfl rfl) (fun h => h (by rw [hs1_ (by assumption)]; assumption))) (by decide) ?_
      refine WL.yes rfl rfl ?_
      refine WL.x (X.move rfl) (by decide) ?_
      refine WL.yes rfl rfl ?_
      refine WL.x (X.loadBA (k := 1) Try.isAgg25 Try.sizeOf25 rfl rfl rfl) (by decide) ?_
      refine WL.yes rfl rfl ?_
      refine WL.x (X.loadBA (k := 0) Try.isAgg25 Try.sizeOf25 rfl rfl rfl) (by decide) ?_
      refine WL.yes rfl rfl ?_
      refine WL.x (OpX.t (X.call Try.call56 rfl (sameSeries56 _ _ ((joinR s t).1) ⟨_, _, rfl, hs52, hs54⟩ _ ((joinR t s).1) ⟨_, _, rfl, hs65, hs67⟩ )) (by rw [hs1_ (by assumption)])) (by decide) ?_
      refine WL.yes rfl rfl ?_
      refine WL.x (X.not rfl) (by decide) ?_
      refine WL.yes rfl rfl ?_
      refine WL.x (X.pickF rfl rfl rfl) (by decide) ?_
      refine WL.x (X.pickT rfl rfl rfl) (by decide) ?_
      refine WL.x (X.move rfl) (by decide) ?_
      refine WL.yes rfl rfl ?_
      refine WL.x (X.move rfl) (by decide) ?_
      refine WL.yes rfl rfl ?_
      refine WL.x (OpX.f (X.neq rfl rfl) (fun hn_ => hn_ h71)) (by decide) ?_
      refine WL.yes rfl rfl ?_
      refine WL.x (X.move rfl) (by decide) ?_
      refine WL.no rfl rfl rfl (by decide) ?_
      refine WL.no rfl rfl rfl (by decide) ?_
      refine WL.yes rfl rfl ?_
      refine WL.x (X.pickF rfl rfl rfl) (by decide) ?_
      refine WL.x (X.pickF rfl rfl rfl) (by decide) ?_
      refine WL.nil ?_
      refine WK.nThen ?_
      refine WK.meet (()) rfl (.refl _) (.cons rfl (.cons rfl (.cons rfl (.cons rfl .nil)))) ?_
      trivial
     ·refine WL.x (X.move rfl) (by decide) ?_
      refine WL.no rfl rfl rfl (by decide) ?_
      refine WL.no rfl rfl rfl (by decide) ?_
      refine WL.no rfl rfl rfl (by decide) ?_
      refine WL.noU rfl rfl (by decide) ?_
      refine WL.noU rfl rfl (by decide) ?_
      refine WL.noU rfl rfl (by decide) ?_
      refine WL.noU rfl rfl (by decide) ?_
      refine WL.no rfl rfl rfl (by decide) ?_
      refine WL.x (X.pickF rfl rfl rfl) (by decide) ?_
      refine WL.x (X.move rfl) (by decide) ?_
      refine WL.yes rfl rfl ?_
      refine WL.x (X.move rfl) (by decide) ?_
      refine WL.yes rfl rfl ?_
      refine WL.x (OpX.t (X.neq rfl rfl) h71) (by decide) ?_
      refine WL.yes rfl rfl ?_
      refine WL.x (X.move rfl) (by decide) ?_
      refine WL.yes rfl rfl ?_
      refine WL.x (X.move rfl) (by decide) ?_
      refine WL.yes rfl rfl ?_
      refine WL.x (OpX.f (X.eql rfl rfl) (fun h_ => absurd (show (joinR s t).2 = 0 by rw [hs2_ h_]; exact h_) (by assumption))) (by decide) ?_
      refine WL.yes rfl rfl ?_
      refine WL.x (X.pickT rfl rfl rfl) (by decide) ?_
      refine WL.x (X.pickF rfl rfl rfl) (by decide) ?_
      refine WL.nil ?_
      refine WK.nThen ?_
      refine WK.meet (()) rfl (.refl _) (.cons rfl (.cons rfl (.cons rfl (.cons rfl .nil)))) ?_
      trivial
    ·rintro u_ hF72
     show WK _ _ m58 [blk b70 25 [v64, v66], blk b57 25 [v51, v53], blk b43 25 [v37, v39], blk b30 25 [v24, v26], blk b15 33 [.int .i64 (a.Lo), .int .i64 (a.Hi)], blk b14 25 [v7, v9], blk b13 25 [v1, v3]] [(3, .pointer (some ⟨b13, 0, none⟩)), (5, .pointer (some ⟨b15, 0, none⟩)), (7, .bool true), (123, .bool false)] _
     replace hF72 : True := hF72
     refine WC.condF rfl ?_
     refine WC.skip ?_
     refine WK.nThen ?_
     refine WC.seq ?_
     refine WC.region ?_
     refine WL.x (X.loadBA (k := 6) Try.isAgg25 Try.sizeOf25 rfl rfl rfl) (by decide) ?_
     refine WL.x (X.loadBA (k := 4) Try.isAgg33 Try.sizeOf33 rfl rfl rfl) (by decide) ?_
     refine WL.x (X.call Try.call37 rfl (extremes37 _ _ s ⟨_, _, rfl, hs2, hs4⟩ _ a rfl )) (by decide) ?_
     refine WL.x (X.move rfl) (by decide) ?_
     refine WL.x (X.extract rfl rfl) (by decide) ?_
     refine WL.x (X.extract rfl rfl) (by decide) ?_
     refine WL.x (X.extract rfl rfl) (by decide) ?_
     refine WL.tn (T.alloc Try.zeroValue33 rfl) (by decide) fun b73 => ?_
     refine WL.tn (T.alloc Try.zeroValue33 rfl) (by decide) fun b74 => ?_
     refine WL.ts (T.storeBA (k := 1) Try.sizeOf33 rfl rfl rfl (one_cons rfl (one_cons rfl one_nil)) rfl rfl) ?_
     refine WL.ts (T.storeBA (k := 0) Try.sizeOf33 rfl rfl rfl (one_cons rfl (one_cons rfl one_nil)) rfl rfl) ?_
     refine WL.x (X.assign rfl) (by decide) ?_
     refine WL.nil ?_
     refine WK.nThen ?_
     refine WC.seq ?_
     refine WC.region ?_
     refine WL.x (X.loadBA (k := 8) Try.isAgg25 Try.sizeOf25 rfl rfl rfl) (by decide) ?_
     refine WL.x (X.loadBA (k := 6) Try.isAgg33 Try.sizeOf33 rfl rfl rfl) (by decide) ?_
     refine WL.x (X.call Try.call66 rfl (mean66 _ _ s ⟨_, _, rfl, hs2, hs4⟩ _ a rfl )) (by decide) ?_
     refine WL.x (X.move rfl) (by decide) ?_
     refine WL.x (X.extract rfl rfl) (by decide) ?_
     refine WL.x (X.extract rfl rfl) (by decide) ?_
     refine WL.x (X.extract rfl rfl) (by decide) ?_
     refine WL.tn (T.alloc Try.zeroValue45 rfl) (by decide) fun b75 => ?_
     refine WL.tn (T.alloc Try.zeroValue45 rfl) (by decide) fun b76 => ?_
     refine WL.ts (T.storeBA (k := 1) Try.sizeOf45 rfl rfl rfl (one_cons rfl (one_cons rfl one_nil)) rfl rfl) ?_
     refine WL.ts (T.storeBA (k := 0) Try.sizeOf45 rfl rfl rfl (one_cons rfl (one_cons rfl one_nil)) rfl rfl) ?_
     refine WL.x (X.assign rfl) (by decide) ?_
     refine WL.nil ?_
     refine WK.nThen ?_
     refine WC.seq ?_
     refine WC.seq ?_
     refine WC.region ?_
     refine WL.x (X.move rfl) (by decide) ?_
     refine WL.condn (X.neq rfl rfl) (by decide) (fun h77 => ?_) (fun h77 => ?_)
     ·refine WL.nil ?_
      refine WK.nThen ?_
      refine WC.condT rfl ?_
      refine WC.seq ?_
      refine WC.region ?_
      refine WL.x (X.move rfl) (by decide) ?_
      refine WL.x (X.move rfl) (by decide) ?_
      refine WL.yes rfl rfl ?_
      refine WL.x (X.move rfl) (by decide) ?_
      refine WL.yes rfl rfl ?_
      refine WL.x (X.move rfl) (by decide) ?_
      refine WL.yes rfl rfl ?_
      refine WL.x (OpX.t (X.eql rfl rfl) (ext_bad (by assumption))) (by decide) ?_
      refine WL.x (X.pickT rfl rfl rfl) (by decide) ?_
      refine WL.x (X.assign rfl) (by decide) ?_
      refine WL.nil ?_
      refine WK.nThen ?_
      refine WC.ret ?_
      refine WK.rThen ?_
      refine WK.ret1 rfl rfl (fun w' hw' => Ret.exact hw' ?_)
      first | rfl | (exfalso; omega) | (exfalso; contradiction) | exact (bool_true rfl).symm | exact (bool_true (by omega)).symm | (simp; done)
     ·refine WL.nil ?_
      refine WK.nThen ?_
      refine WC.condF rfl ?_
      refine WC.skip ?_
      refine WK.nThen ?_
      refine WC.seq ?_
      have hg_ := ext_good (s := s) (x := a) (by first | assumption | omega)
      have hcf_ := cut_front hg_.1 hg_.2.1
      have hkf_ := kept_front s hg_.2.1
      have hek_ : extR (Ser.mk (s.Values.filter (kpV a)) (s.Shifts.filter (kpX (Span.mk 0 a.Hi)))) a = extR s a := ext_kept hok_ a
      have hmk_ : mbR (Ser.mk (s.Values.filter (kpV a)) (s.Shifts.filter (kpX (Span.mk 0 a.Hi)))) a = mbR s a := mb_kept hok_ a
      refine WC.region ?_
      refine WL.x (X.loadBA (k := 10) Try.isAgg25 Try.sizeOf25 rfl rfl rfl) (by decide) ?_
      refine WL.x (X.field Try.runUnderlying33 rfl Try.sizeOf3 rfl) (by decide) ?_
      refine WL.x (X.loadB (k := 8) Try.isAgg3 rfl rfl rfl) (by decide) ?_
      refine WL.x (V := Value.agg [.int .i64 (0), .int .i64 (a.Hi)].toArray) (X.build Try.zeroValue33 Try.runUnderlying33 (places33 _ Try.underlying33) rfl rfl) (by decide) ?_
      refine WL.tm (T.call Try.call59 rfl (cut59 _ _ s ⟨_, _, rfl, hs2, hs4⟩ _ ((Span.mk (0) (a.Hi))) rfl )) (by decide) fun m78 r79 hle80 hR81 => ?_
      obtain ⟨c82, rfl, hc83⟩ := hR81
      replace hs2 := hs2.mono hle80
      replace hs4 := hs4.mono hle80
      replace hs8 := hs8.mono hle80
      replace hs10 := hs10.mono hle80
      replace hs25 := hs25.mono hle80
      replace hs27 := hs27.mono hle80
      replace hs38 := hs38.mono hle80
      replace hs40 := hs40.mono hle80
      replace hs52 := hs52.mono hle80
      replace hs54 := hs54.mono hle80
      replace hs65 := hs65.mono hle80
      replace hs67 := hs67.mono hle80
      obtain ⟨v84, v86, rfl, hs85, hs87⟩ := hc83
      have hl88 := hs85.le
      have hl89 := hs87.le
      refine WL.x (X.move rfl) (by decide) ?_
      refine WL.x (X.extract rfl rfl) (by decide) ?_
      refine WL.x (X.extract rfl rfl) (by decide) ?_
      refine WL.tn (T.alloc Try.zeroValue25 rfl) (by decide) fun b90 => ?_
      refine WL.ts (T.storeBA (k := 0) Try.sizeOf25 rfl rfl rfl (one_cons hs85.one (one_cons hs87.one one_nil)) rfl rfl) ?_
      refine WL.x (X.assign rfl) (by decide) ?_
      refine WL.nil ?_
      refine WK.nThen ?_
      refine WC.seq ?_
      refine WC.seq ?_
      refine WC.region ?_
      refine WL.x (X.move rfl) (by decide) ?_
      refine WL.x (OpX.f (X.neq rfl rfl) (fun h => h (by rw [hcf_]))) (by decide) ?_
      refine WL.nil ?_
      refine WK.nThen ?_
      refine WC.condF rfl ?_
      refine WC.skip ?_
      refine WK.nThen ?_
      refine WC.seq ?_
      have hcv_ : (cutR s (Span.mk 0 a.Hi)).1.Values = s.Values.filter (kpV (Span.mk 0 a.Hi)) := (by rw [hcf_])
      have hcx_ : (cutR s (Span.mk 0 a.Hi)).1.Shifts = s.Shifts.filter (kpX (Span.mk 0 a.Hi)) := (by rw [hcf_])
      have hfl2_ := List.length_filter_le (kpV (Span.mk 0 a.Hi)) s.Values
      have hnV_ := hok_.nV
      have hnX_ := hok_.nX
      rw [hcv_] at hs85
      rw [hcx_] at hs87
      refine WK.ownF Val 62 ?_
      refine WC.region ?_
      refine WL.x (X.assign rfl) (by decide) ?_
      refine WL.nil ?_
      refine WK.nThen ?_
      refine WC.seq ?_
      refine WC.seq ?_
      refine WC.region ?_
      refine WL.x (X.assign rfl) (by decide) ?_
      refine WL.nil ?_
      refine WK.nThen ?_
      refine WC.block ?_
      refine WC.loop (G := Nat × Value) (fun (k, vo) => (s.Values.filter (kpV (Span.mk 0 a.Hi))).length - k) (fun (k, vo) => m78) (fun (k, vo) => [rowF (vo) 62 (((s.Values.filter (kpV (Span.mk 0 a.Hi))).take k).filter (kpV a)), blk b90 25 [v84, v86], blk b76 45 [.int .i64 ((mbR s a).2.1.Num), .int .i64 ((mbR s a).2.1.Den)], blk b75 45 [.int .i64 ((mbR s a).1.Num), .int .i64 ((mbR s a).1.Den)], blk b74 33 [.int .i64 ((extR s a).2.1.Lo), .int .i64 ((extR s a).2.1.Hi)], blk b73 33 [.int .i64 ((extR s a).1.Lo), .int .i64 ((extR s a).1.Hi)], blk b70 25 [v64, v66], blk b57 25 [v51, v53], blk b43 25 [v37, v39], blk b30 25 [v24, v26], blk b15 33 [.int .i64 (a.Lo), .int .i64 (a.Hi)], blk b14 25 [v7, v9], blk b13 25 [v1, v3]]) (fun (k, vo) => [(5, .pointer (some ⟨b15, 0, none⟩)), (7, .bool true), (18, .pointer (some ⟨b73, 0, none⟩)), (19, .pointer (some ⟨b74, 0, none⟩)), (21, .pointer (some ⟨b75, 0, none⟩)), (22, .pointer (some ⟨b76, 0, none⟩)), (24, .pointer (some ⟨b90, 0, none⟩)), (26, vo), (27, .int .i64 (↑k))]) (fun (k, vo) => k ≤ (s.Values.filter (kpV (Span.mk 0 a.Hi))).length) ((0, Value.slice none 0 0)) rfl (.refl _) (.cons rfl (.cons rfl (.cons rfl (.cons rfl (.cons rfl (.cons rfl (.cons rfl (.cons rfl (.cons rfl .nil))))))))) ?_ ?_
      ·exact Nat.zero_le _
      ·rintro ⟨k, vo⟩ hF91
       show WK _ _ m78 [rowF (vo) 62 (((s.Values.filter (kpV (Span.mk 0 a.Hi))).take k).filter (kpV a)), blk b90 25 [v84, v86], blk b76 45 [.int .i64 ((mbR s a).2.1.Num), .int .i64 ((mbR s a).2.1.Den)], blk b75 45 [.int .i64 ((mbR s a).1.Num), .int .i64 ((mbR s a).1.Den)], blk b74 33 [.int .i64 ((extR s a).2.1.Lo), .int .i64 ((extR s a).2.1.Hi)], blk b73 33 [.int .i64 ((extR s a).1.Lo), .int .i64 ((extR s a).1.Hi)], blk b70 25 [v64, v66], blk b57 25 [v51, v53], blk b43 25 [v37, v39], blk b30 25 [v24, v26], blk b15 33 [.int .i64 (a.Lo), .int .i64 (a.Hi)], blk b14 25 [v7, v9], blk b13 25 [v1, v3]] [(5, .pointer (some ⟨b15, 0, none⟩)), (7, .bool true), (18, .pointer (some ⟨b73, 0, none⟩)), (19, .pointer (some ⟨b74, 0, none⟩)), (21, .pointer (some ⟨b75, 0, none⟩)), (22, .pointer (some ⟨b76, 0, none⟩)), (24, .pointer (some ⟨b90, 0, none⟩)), (26, vo), (27, .int .i64 (↑k))] _
       replace hF91 : k ≤ (s.Values.filter (kpV (Span.mk 0 a.Hi))).length := hF91
       have hk := hF91
       have hfl_ := List.length_filter_le (kpV a) ((s.Values.filter (kpV (Span.mk 0 a.Hi))).take k)
       have hft_ := List.length_take_le k (s.Values.filter (kpV (Span.mk 0 a.Hi)))
       refine WC.seq ?_
       refine WC.seq ?_
       refine WC.region ?_
       refine WL.x (X.move rfl) (by decide) ?_
       refine WL.x (X.field Try.runUnderlying25 rfl Try.sizeOf22 rfl) (by decide) ?_
       refine WL.x (X.loadB (k := 1) Try.isAgg22 rfl rfl rfl) (by decide) ?_
       refine WL.x (X.len Try.runUnderlying22 rfl hs85) (by decide) ?_
       refine WL.cond (X.lss rfl rfl) (by decide) (fun h92 => ?_) (fun h92 => ?_)
       ·refine WL.nil ?_
        refine WK.nThen ?_
        refine WC.condT rfl ?_
        refine WC.skip ?_
        refine WK.nThen ?_
        refine WC.seq ?_
        refine WC.block ?_
        refine WC.seq ?_
        refine WC.draw (π := (.cons 0 (.cons 1 (.cons 2 (.cons 3 (.cons 4 (.cons 5 (.cons 6 (.cons 7 .done))))))))) [] [] rfl (by kernel_rfl) ?_
        refine DW.x rfl rfl (X.loadBA (k := 10) Try.isAgg33 Try.sizeOf33 rfl rfl rfl) (by decide) ?_
        refine DW.x rfl rfl (X.field Try.runUnderlying25 rfl Try.sizeOf22 rfl) (by decide) ?_
        refine DW.x rfl rfl (X.loadB (k := 1) Try.isAgg22 rfl rfl rfl) (by decide) ?_
        refine DW.x rfl rfl (X.move rfl) (by decide) ?_
        refine DW.xe rfl rfl (E.idxN k Try.runUnderlying22 Try.sizeOf62 rfl rfl hs85 (by omega)) (by decide) (fun p93 hp94 => ?_)
        have hp95 := At.Val_0 hp94
        refine DW.x rfl rfl (X.field Try.runUnderlying62 rfl Try.sizeOf3 rfl) (by decide) ?_
        refine DW.x rfl rfl (X.loadInt Try.isAgg3 rfl hp95) (by decide) ?_
        refine DW.cond rfl rfl (X.call Try.call41 rfl (in41 _ _ a rfl _ )) (by decide) (fun h96 => ?_) (fun h96 => ?_)
        ·refine DW.nil ?_
         refine WK.nThen ?_
         refine WC.condT rfl ?_
         refine WC.region ?_
         refine WL.x (X.move rfl) (by decide) ?_
         refine WL.x (X.field Try.runUnderlying25 rfl Try.sizeOf22 rfl) (by decide) ?_
         refine WL.x (X.loadB (k := 1) Try.isAgg22 rfl rfl rfl) (by decide) ?_
         refine WL.x (X.move rfl) (by decide) ?_
         refine WL.xe (E.idxN k Try.runUnderlying22 Try.sizeOf62 rfl rfl hs85 (by omega)) (by decide) (fun p97 hp98 => ?_)
         refine WL.xe (E.loadAgg Try.isAgg62 Try.sizeOf62 rfl hp98) (by decide) (fun c99 hc100 => ?_)
         obtain rfl := hc100
         refine WL.tl (T.lit1 sl22 rfl rfl rfl (by decide)) (by decide) fun b101 => ?_
         refine WL.ta (T.appendF (k := 0) (a := gt (s.Values.filter (kpV (Span.mk 0 a.Hi))) k) sl22 rfl rfl rfl rfl (by first | omega | (simp; done) | (simp; omega)) (by decide)) (by decide) (fun v102 => ?_)
         refine WL.x (X.assign rfl) (by decide) ?_
         refine WL.nil ?_
         refine WK.nBlock ?_
         refine WK.nThen ?_
         refine WC.region ?_
         refine WL.x (X.move rfl) (by decide) ?_
         refine WL.x (X.add rfl rfl (by omega) (by omega)) (by decide) ?_
         refine WL.x (X.assign rfl) (by decide) ?_
         refine WL.nil ?_
         refine WK.nThen ?_
         have he103 : ((((s.Values.filter (kpV (Span.mk 0 a.Hi))).take k).filter (kpV a)) ++ [gt (s.Values.filter (kpV (Span.mk 0 a.Hi))) k]) = (((s.Values.filter (kpV (Span.mk 0 a.Hi))).take (k + 1)).filter (kpV a)) := (by first | exact filter_snoc_yes (by omega) (kpV_iff.2 (by assumption)) | exact filter_snoc_no (by omega) (kpV_not.2 (by assumption)))
         rw [he103]
         refine WK.next ((k + 1, v102)) rfl (.refl _) (.cons rfl (.cons rfl (.cons rfl (.cons rfl (.cons rfl (.cons rfl (.cons rfl (.cons rfl (.cons rfl .nil))))))))) ?_ ?_
         ·omega
         ·(dsimp only; omega)
        ·refine DW.nil ?_
         refine WK.nThen ?_
         refine WC.condF rfl ?_
         refine WC.skip ?_
         refine WK.nBlock ?_
         refine WK.nThen ?_
         refine WC.region ?_
         refine WL.x (X.move rfl) (by decide) ?_
         refine WL.x (X.add rfl rfl (by omega) (by omega)) (by decide) ?_
         refine WL.x (X.assign rfl) (by decide) ?_
         refine WL.nil ?_
         refine WK.nThen ?_
         have he104 : (((s.Values.filter (kpV (Span.mk 0 a.Hi))).take k).filter (kpV a)) = (((s.Values.filter (kpV (Span.mk 0 a.Hi))).take (k + 1)).filter (kpV a)) := (by first | exact filter_snoc_yes (by omega) (kpV_iff.2 (by assumption)) | exact filter_snoc_no (by omega) (kpV_not.2 (by assumption)))
         rw [he104]
         refine WK.next ((k + 1, vo)) rfl (.refl _) (.cons rfl (.cons rfl (.cons rfl (.cons rfl (.cons rfl (.cons rfl (.cons rfl (.cons rfl (.cons rfl .nil))))))))) ?_ ?_
         ·omega
         ·(dsimp only; omega)
       ·refine WL.nil ?_
        refine WK.nThen ?_
        refine WC.condF rfl ?_
        refine WC.exit ?_
        refine WK.eThen ?_
        refine WK.eThen ?_
        refine WK.eHit ?_
        refine WK.nThen ?_
        refine WC.seq ?_
        have he105 : (((s.Values.filter (kpV (Span.mk 0 a.Hi))).take k).filter (kpV a)) = (s.Values.filter (kpV a)) := (by rw [show k = (s.Values.filter (kpV (Span.mk 0 a.Hi))).length by omega, List.take_length]; exact hkf_)
        rw [he105]
        refine WC.region ?_
        refine WL.x (X.move rfl) (by decide) ?_
        refine WL.x (X.field Try.runUnderlying25 rfl Try.sizeOf22 rfl) (by decide) ?_
        refine WL.own1 (k := 0) rfl (fun ho106 => ?_)
        refine WL.ts (T.storeB (k := 1) Try.sizeOf22 rfl rfl rfl ho106 (Nat.le_of_ble_eq_true rfl)) ?_
        refine WL.nil ?_
        refine WK.nThen ?_
        refine WC.seq ?_
        refine WC.region ?_
        refine WL.x (X.loadBA (k := 1) Try.isAgg25 Try.sizeOf25 rfl rfl rfl) (by decide) ?_
        refine WL.x (X.loadBA (k := 10) Try.isAgg33 Try.sizeOf33 rfl rfl rfl) (by decide) ?_
        refine WL.freezeF 0 rfl rfl (by unfold lenB; have h1_ := List.length_filter_le (kpV a) s.Values; omega) (fun m107 hle108 hs109 => ?_)
        replace hs2 := hs2.mono hle108
        replace hs4 := hs4.mono hle108
        replace hs8 := hs8.mono hle108
        replace hs10 := hs10.mono hle108
        replace hs25 := hs25.mono hle108
        replace hs27 := hs27.mono hle108
        replace hs38 := hs38.mono hle108
        replace hs40 := hs40.mono hle108
        replace hs52 := hs52.mono hle108
        replace hs54 := hs54.mono hle108
        replace hs65 := hs65.mono hle108
        replace hs67 := hs67.mono hle108
        replace hs85 := hs85.mono hle108
        replace hs87 := hs87.mono hle108
        refine WL.x (X.call Try.call37 rfl (extremes37 _ _ ((Ser.mk (s.Values.filter (kpV a)) (s.Shifts.filter (kpX (Span.mk 0 a.Hi))))) ⟨_, _, rfl, hs109, hs87⟩ _ a rfl )) (by decide) ?_
        refine WL.x (X.move rfl) (by decide) ?_
        refine WL.x (X.extract rfl rfl) (by decide) ?_
        refine WL.x (X.extract rfl rfl) (by decide) ?_
        refine WL.x (X.extract rfl rfl) (by decide) ?_
        refine WL.tn (T.alloc Try.zeroValue33 rfl) (by decide) fun b110 => ?_
        refine WL.tn (T.alloc Try.zeroValue33 rfl) (by decide) fun b111 => ?_
        refine WL.ts (T.storeBA (k := 1) Try.sizeOf33 rfl rfl rfl (one_cons rfl (one_cons rfl one_nil)) rfl rfl) ?_
        refine WL.ts (T.storeBA (k := 0) Try.sizeOf33 rfl rfl rfl (one_cons rfl (one_cons rfl one_nil)) rfl rfl) ?_
        refine WL.x (X.assign rfl) (by decide) ?_
        refine WL.nil ?_
        refine WK.nThen ?_
        refine WC.seq ?_
        refine WC.region ?_
        refine WL.x (X.loadBA (k := 2) Try.isAgg25 Try.sizeOf25 rfl rfl rfl) (by decide) ?_
        refine WL.x (X.loadBA (k := 11) Try.isAgg33 Try.sizeOf33 rfl rfl rfl) (by decide) ?_
        refine WL.x (X.call Try.call66 rfl (mean66 _ _ ((Ser.mk (s.Values.filter (kpV a)) (s.Shifts.filter (kpX (Span.mk 0 a.Hi))))) ⟨_, _, rfl, hs109, hs87⟩ _ a rfl )) (by decide) ?_
        refine WL.x (X.move rfl) (by decide) ?_
        refine WL.x (X.extract rfl rfl) (by decide) ?_
        refine WL.x (X.extract rfl rfl) (by decide) ?_
        refine WL.x (X.extract rfl rfl) (by decide) ?_
        refine WL.tn (T.alloc Try.zeroValue45 rfl) (by decide) fun b112 => ?_
        refine WL.tn (T.alloc Try.zeroValue45 rfl) (by decide) fun b113 => ?_
        refine WL.ts (T.storeBA (k := 1) Try.sizeOf45 rfl rfl rfl (one_cons rfl (one_cons rfl one_nil)) rfl rfl) ?_
        refine WL.ts (T.storeBA (k := 0) Try.sizeOf45 rfl rfl rfl (one_cons rfl (one_cons rfl one_nil)) rfl rfl) ?_
        refine WL.x (X.assign rfl) (by decide) ?_
        refine WL.nil ?_
        refine WK.nThen ?_
        refine WC.seq ?_
        refine WC.region ?_
        refine WL.x (X.move rfl) (by decide) ?_
        refine WL.x (X.move rfl) (by decide) ?_
        refine WL.yes rfl rfl ?_
        refine WL.x (X.move rfl) (by decide) ?_
        refine WL.yes rfl rfl ?_
        refine WL.x (OpX.t (X.eql rfl rfl) (by rw [hek_]; assumption)) (by decide) ?_
        refine WL.x (X.pickT rfl rfl rfl) (by decide) ?_
        refine WL.x (X.move rfl) (by decide) ?_
        refine WL.yes rfl rfl ?_
        refine WL.x (X.loadBA (k := 3) Try.isAgg33 Try.sizeOf33 rfl rfl rfl) (by decide) ?_
        refine WL.yes rfl rfl ?_
        refine WL.x (X.loadBA (k := 8) Try.isAgg33 Try.sizeOf33 rfl rfl rfl) (by decide) ?_
        refine WL.yes rfl rfl ?_
        refine WL.x (OpX.t (X.eqlS (a := (extR (((Ser.mk (s.Values.filter (kpV a)) (s.Shifts.filter (kpX (Span.mk 0 a.Hi)))))) a).1) (b := (extR s a).1) gd33 (fun w => eqS33 9998 _ _ w) rfl rfl) (by rw [hek_])) (by decide) ?_
        refine WL.x (X.pickT rfl rfl rfl) (by decide) ?_
        refine WL.x (X.move rfl) (by decide) ?_
        refine WL.yes rfl rfl ?_
        refine WL.x (X.loadBA (k := 2) Try.isAgg33 Try.sizeOf33 rfl rfl rfl) (by decide) ?_
        refine WL.yes rfl rfl ?_
        refine WL.x (X.loadBA (k := 7) Try.isAgg33 Try.sizeOf33 rfl rfl rfl) (by decide) ?_
        refine WL.yes rfl rfl ?_
        refine WL.x (OpX.t (X.eqlS (a := (extR (((Ser.mk (s.Values.filter (kpV a)) (s.Shifts.filter (kpX (Span.mk 0 a.Hi)))))) a).2.1) (b := (extR s a).2.1) gd33 (fun w => eqS33 9998 _ _ w) rfl rfl) (by rw [hek_])) (by decide) ?_
        refine WL.x (X.pickT rfl rfl rfl) (by decide) ?_
        refine WL.x (X.move rfl) (by decide) ?_
        refine WL.yes rfl rfl ?_
        refine WL.x (X.move rfl) (by decide) ?_
        refine WL.yes rfl rfl ?_
        refine WL.x (OpX.t (X.eql rfl rfl) (by rw [hmk_]; exact hg_.2.2)) (by decide) ?_
        refine WL.x (X.pickT rfl rfl rfl) (by decide) ?_
        refine WL.x (X.move rfl) (by decide) ?_
        refine WL.yes rfl rfl ?_
        refine WL.x (X.loadBA (k := 1) Try.isAgg45 Try.sizeOf45 rfl rfl rfl) (by decide) ?_
        refine WL.yes rfl rfl ?_
        refine WL.x (X.loadBA (k := 6) Try.isAgg45 Try.sizeOf45 rfl rfl rfl) (by decide) ?_
        refine WL.yes rfl rfl ?_
        refine WL.x (OpX.t (X.eqlS (a := (mbR (((Ser.mk (s.Values.filter (kpV a)) (s.Shifts.filter (kpX (Span.mk 0 a.Hi)))))) a).1) (b := (mbR s a).1) gd45 (fun w => eqS45 9998 _ _ w) rfl rfl) (by rw [hmk_])) (by decide) ?_
        refine WL.x (X.pickT rfl rfl rfl) (by decide) ?_
        refine WL.x (X.move rfl) (by decide) ?_
        refine WL.yes rfl rfl ?_
        refine WL.x (X.loadBA (k := 0) Try.isAgg45 Try.sizeOf45 rfl rfl rfl) (by decide) ?_
        refine WL.yes rfl rfl ?_
        refine WL.x (X.loadBA (k := 5) Try.isAgg45 Try.sizeOf45 rfl rfl rfl) (by decide) ?_
        refine WL.yes rfl rfl ?_
        refine WL.x (OpX.t (X.eqlS (a := (mbR (((Ser.mk (s.Values.filter (kpV a)) (s.Shifts.filter (kpX (Span.mk 0 a.Hi)))))) a).2.1) (b := (mbR s a).2.1) gd45 (fun w => eqS45 9998 _ _ w) rfl rfl) (by rw [hmk_])) (by decide) ?_
        refine WL.x (X.pickT rfl rfl rfl) (by decide) ?_
        refine WL.x (X.assign rfl) (by decide) ?_
        refine WL.nil ?_
        refine WK.nThen ?_
        refine WC.ret ?_
        refine WK.ret1 rfl rfl (fun w' hw' => Ret.exact hw' ?_)
        first | rfl | (exfalso; omega) | (exfalso; contradiction) | exact (bool_true rfl).symm | exact (bool_true (by omega)).symm | (simp; done)
  ·refine WL.yes rfl rfl ?_
   refine WL.x (X.not rfl) (by decide) ?_
   refine WL.x (X.pickF rfl rfl rfl) (by decide) ?_
   refine WL.nil ?_
   refine WK.nThen ?_
   refine WC.condT rfl ?_
   refine WC.seq ?_
   refine WC.region ?_
   refine WL.x (X.move rfl) (by decide) ?_
   refine WL.x (X.assign rfl) (by decide) ?_
   refine WL.nil ?_
   refine WK.nThen ?_
   refine WC.ret ?_
   refine WK.rThen ?_
   refine WK.ret1 rfl rfl (fun w' hw' => Ret.exact hw' ?_)
   first | rfl | (exfalso; omega) | (exfalso; contradiction) | exact (bool_true rfl).symm | exact (bool_true (by omega)).symm | (simp; done)
 ·refine WL.x (X.not rfl) (by decide) ?_
  refine WL.x (X.move rfl) (by decide) ?_
  refine WL.no rfl rfl rfl (by decide) ?_
  refine WL.no rfl rfl rfl (by decide) ?_
  refine WL.no rfl rfl rfl (by decide) ?_
  refine WL.x (X.pickT rfl rfl rfl) (by decide) ?_
  refine WL.nil ?_
  refine WK.nThen ?_
  refine WC.condT rfl ?_
  refine WC.seq ?_
  refine WC.region ?_
  refine WL.x (X.move rfl) (by decide) ?_
  refine WL.x (X.assign rfl) (by decide) ?_
  refine WL.nil ?_
  refine WK.nThen ?_
  refine WC.ret ?_
  refine WK.rThen ?_
  refine WK.ret1 rfl rfl (fun w' hw' => Ret.exact hw' ?_)
  first | rfl | (exfalso; omega) | (exfalso; contradiction) | exact (bool_true rfl).symm | exact (bool_true (by omega)).symm | (simp; done)
end Go.Proofs.C8
