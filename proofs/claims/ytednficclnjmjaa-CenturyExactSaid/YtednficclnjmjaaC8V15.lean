/- The walk of the statement CenturyExact: its function answers true. -/
import Derived.Test.YtednficclnjmjaaC8Br
import Derived.Test.YtednficclnjmjaaC8W9
import Derived.Test.YtednficclnjmjaaC8LExact
import Derived.Test.YtednficclnjmjaaC8W11
namespace Go.Proofs.C8
open Go Go.Kx
set_option linter.unusedSimpArgs false
set_option linter.unusedVariables false
set_option maxRecDepth 20000 in
set_option maxHeartbeats 4000000 in
theorem law15 (m : Mem) (cs : List Value) (s : Ser) (hs : Enc.rd m cs s) (cx : List Value) (x : Rl) (hx : Enc.rd m cx x) (ca : List Value) (a : Span) (ha : Enc.rd m ca a) (most : Int)  (ok0 : Rng.ok s) (ok1 : Rng.ok x) (ok2 : Rng.ok a) (lo3 : -9223372036854775808 ≤ most) (hi3 : most ≤ 9223372036854775807) : Exact Try.prog 15 #[.agg cs.toArray, .agg cx.toArray, .agg ca.toArray, .int .i64 (most)] m (.bool true) := by
 obtain ⟨v1, v3, rfl, hs2, hs4⟩ := hs
 have hl5 := hs2.le
 have hl6 := hs4.le
 obtain ⟨v7, v9, rfl, hs8, hs10⟩ := hx
 have hl11 := hs8.le
 have hl12 := hs10.le
 obtain rfl := ha
 refine Exact.start Try.func15 rfl Try.ntmps15 rfl fun wld => ?_
 refine WC.seq ?_
 refine WC.region ?_
 refine WL.tn (T.boxB rfl rfl) (by decide) fun b13 => ?_
 refine WL.tn (T.boxB rfl rfl) (by decide) fun b14 => ?_
 refine WL.tn (T.boxB rfl rfl) (by decide) fun b15 => ?_
 refine WL.x (X.assign rfl) (by decide) ?_
 refine WL.nil ?_
 refine WK.nThen ?_
 refine WC.seq ?_
 refine WC.region ?_
 refine WL.x (X.call Try.call21 rfl (awake21 _  )) (by decide) ?_
 refine WL.x (X.assign rfl) (by decide) ?_
 refine WL.nil ?_
 refine WK.nThen ?_
 refine WC.seq ?_
 refine WC.seq ?_
 refine WC.region ?_
 refine WL.x (X.loadBA (k := 2) Try.isAgg25 Try.sizeOf25 rfl rfl rfl) (by decide) ?_
 refine WL.cond (X.call Try.call22 rfl (few22 _ _ s ⟨_, _, rfl, hs2, hs4⟩ )) (by decide) (fun h16 => ?_) (fun h16 => ?_)
 ·refine WL.x (X.not rfl) (by decide) ?_
  refine WL.x (X.move rfl) (by decide) ?_
  refine WL.yes rfl rfl ?_
  refine WL.x (X.loadBA (k := 1) Try.isAgg52 Try.sizeOf52 rfl rfl rfl) (by decide) ?_
  refine WL.yes rfl rfl ?_
  refine WL.cond (X.call Try.call38 rfl (light38 _ _ x ⟨_, _, rfl, hs8, hs10⟩ )) (by decide) (fun h17 => ?_) (fun h17 => ?_)
  ·refine WL.yes rfl rfl ?_
   refine WL.x (X.not rfl) (by decide) ?_
   refine WL.x (X.pickF rfl rfl rfl) (by decide) ?_
   refine WL.nil ?_
   refine WK.nThen ?_
   refine WC.condF rfl ?_
   refine WC.skip ?_
   refine WK.nThen ?_
   refine WC.seq ?_
   refine WC.region ?_
   refine WL.x (X.loadBA (k := 2) Try.isAgg25 Try.sizeOf25 rfl rfl rfl) (by decide) ?_
   refine WL.x (X.loadBA (k := 1) Try.isAgg52 Try.sizeOf52 rfl rfl rfl) (by decide) ?_
   refine WL.tm (T.call Try.call65 rfl (told65 _ _ s ⟨_, _, rfl, hs2, hs4⟩ _ x ⟨_, _, rfl, hs8, hs10⟩ )) (by decide) fun m18 r19 hle20 hR21 => ?_
   obtain ⟨c22, rfl, hc23⟩ := hR21
   replace hs2 := hs2.mono hle20
   replace hs4 := hs4.mono hle20
   replace hs8 := hs8.mono hle20
   replace hs10 := hs10.mono hle20
   obtain ⟨v24, v26, rfl, hs25, hs27⟩ := hc23
   have hl28 := hs25.le
   have hl29 := hs27.le
   refine WL.x (X.move rfl) (by decide) ?_
   refine WL.x (X.extract rfl rfl) (by decide) ?_
   refine WL.x (X.extract rfl rfl) (by decide) ?_
   refine WL.tn (T.alloc Try.zeroValue25 rfl) (by decide) fun b30 => ?_
   refine WL.ts (T.storeBA (k := 0) Try.sizeOf25 rfl rfl rfl (one_cons hs25.one (one_cons hs27.one one_nil)) rfl rfl) ?_
   refine WL.x (X.assign rfl) (by decide) ?_
   refine WL.nil ?_
   refine WK.nThen ?_
   refine WC.seq ?_
   refine WC.region ?_
   refine WL.x (X.loadBA (k := 3) Try.isAgg25 Try.sizeOf25 rfl rfl rfl) (by decide) ?_
   refine WL.x (X.field Try.runUnderlying52 rfl Try.sizeOf28 rfl) (by decide) ?_
   refine WL.x (X.loadB (k := 2) Try.isAgg28 rfl rfl rfl) (by decide) ?_
   refine WL.x (X.field Try.runUnderlying52 rfl Try.sizeOf28 rfl) (by decide) ?_
   refine WL.x (X.loadB (k := 2) Try.isAgg28 rfl rfl rfl) (by decide) ?_
   refine WL.tm (T.call Try.call39 rfl (even39 _ _ s ⟨_, _, rfl, hs2, hs4⟩ _ _ hs8 _ _ hs10 )) (by decide) fun m31 r32 hle33 hR34 => ?_
   obtain ⟨v35, rfl, hs36⟩ := hR34
   replace hs2 := hs2.mono hle33
   replace hs4 := hs4.mono hle33
   replace hs8 := hs8.mono hle33
   replace hs10 := hs10.mono hle33
   replace hs25 := hs25.mono hle33
   replace hs27 := hs27.mono hle33
   have hl37 := hs36.le
   refine WL.x (X.move rfl) (by decide) ?_
   refine WL.x (X.extract rfl rfl) (by decide) ?_
   refine WL.x (X.extract rfl rfl) (by decide) ?_
   refine WL.x (X.assign rfl) (by decide) ?_
   refine WL.x (X.assign rfl) (by decide) ?_
   refine WL.nil ?_
   refine WK.nThen ?_
   refine WC.seq ?_
   refine WC.seq ?_
   refine WC.region ?_
   refine WL.x (X.move rfl) (by decide) ?_
   refine WL.condb (X.not rfl) (by decide) (fun h38 => ?_) (fun h38 => ?_)
   ·refine WL.x (X.move rfl) (by decide) ?_
    refine WL.no rfl rfl rfl (by decide) ?_
    refine WL.no rfl rfl rfl (by decide) ?_
    refine WL.x (X.pickT rfl rfl rfl) (by decide) ?_
    refine WL.nil ?_
    refine WK.nThen ?_
    refine WC.condT rfl ?_
    refine WC.seq ?_
    refine WC.region ?_
    refine WL.x (X.move rfl) (by decide) ?_
    refine WL.x (X.assign rfl) (by decide) ?_
    refine WL.nil ?_
    refine WK.nThen ?_
    refine WC.ret ?_
    refine WK.rThen ?_
    refine WK.ret1 rfl rfl (fun w' hw' => Ret.exact hw' ?_)
    first | rfl | (exfalso; omega) | (exfalso; contradiction) | (exfalso; have q_ := decide_eq_decide.2 hsl3; contradiction) | exact (bool_true (decide_eq_decide.2 hsl4)).symm | exact (bool_true (by omega)).symm
   ·refine WL.x (X.move rfl) (by decide) ?_
    refine WL.yes rfl rfl ?_
    refine WL.x (X.move rfl) (by decide) ?_
    refine WL.yes rfl rfl ?_
    refine WL.condn (X.neq rfl rfl) (by decide) (fun h39 => ?_) (fun h39 => ?_)
    ·refine WL.x (X.pickF rfl rfl rfl) (by decide) ?_
     refine WL.nil ?_
     refine WK.nThen ?_
     refine WC.condT rfl ?_
     refine WC.seq ?_
     refine WC.region ?_
     refine WL.x (X.move rfl) (by decide) ?_
     refine WL.x (X.assign rfl) (by decide) ?_
     refine WL.nil ?_
     refine WK.nThen ?_
     refine WC.ret ?_
     refine WK.rThen ?_
     refine WK.ret1 rfl rfl (fun w' hw' => Ret.exact hw' ?_)
     first | rfl | (exfalso; omega) | (exfalso; contradiction) | (exfalso; have q_ := decide_eq_decide.2 hsl3; contradiction) | exact (bool_true (decide_eq_decide.2 hsl4)).symm | exact (bool_true (by omega)).symm
    ·refine WL.x (X.pickF rfl rfl rfl) (by decide) ?_
     refine WL.nil ?_
     refine WK.nThen ?_
     refine WC.condF rfl ?_
     refine WC.skip ?_
     refine WK.nThen ?_
     refine WC.seq ?_
     have hty := told_yes (s := s) (x := x) (by assumption)
     have hok := hty.1.1
     have hag := hty.1.2
     have htw : (toldR s x).1 = toldS s x := (by rw [hty.2])
     have hN := told_nar hok hag
     have he := evenR_ok (s := s) (lv := x.Levels) (sh := x.Shifts) (by omega)
     have hek := he.1
     have hea := he.2.1
     have her : (evenR s x.Levels x.Shifts).1 = evenL s x.Levels x.Shifts := (by rw [he.2.2])
     have hel := evenL_len s x.Levels x.Shifts
     have heb := evenL_bd hek hea
     have hen := hek.nV
     rw [htw] at hs25
     rw [htw] at hs27
     try rw [htw]
     rw [her] at hs36
     refine WC.region ?_
     refine WL.x (X.loadBA (k := 0) Try.isAgg25 Try.sizeOf25 rfl rfl rfl) (by decide) ?_
     refine WL.tm (T.call Try.call50 rfl (evens50 _ _ (toldS s x) ⟨_, _, rfl, hs25, hs27⟩ )) (by decide) fun m40 r41 hle42 hR43 => ?_
     obtain ⟨v44, rfl, hs45⟩ := hR43
     replace hs2 := hs2.mono hle42
     replace hs4 := hs4.mono hle42
     replace hs8 := hs8.mono hle42
     replace hs10 := hs10.mono hle42
     replace hs25 := hs25.mono hle42
     replace hs27 := hs27.mono hle42
     replace hs36 := hs36.mono hle42
     have hl46 := hs45.le
     refine WL.x (X.move rfl) (by decide) ?_
     refine WL.x (X.extract rfl rfl) (by decide) ?_
     refine WL.x (X.extract rfl rfl) (by decide) ?_
     refine WL.x (X.assign rfl) (by decide) ?_
     refine WL.x (X.assign rfl) (by decide) ?_
     refine WL.nil ?_
     refine WK.nThen ?_
     refine WC.seq ?_
     refine WC.cut (G := Unit) (fun u_ => m40) (fun u_ => [blk b30 25 [v24, v26], blk b15 33 [.int .i64 (a.Lo), .int .i64 (a.Hi)], blk b14 52 [v7, v9], blk b13 25 [v1, v3]]) (fun u_ => [(3, .int .i64 (most)), (4, .pointer (some ⟨b13, 0, none⟩)), (6, .pointer (some ⟨b15, 0, none⟩)), (9, .bool true), (10, .pointer (some ⟨b30, 0, none⟩)), (12, v35), (14, v44), (80, .bool false)]) (fun u_ => True) ?_ ?_
     ·have hev : (evsR (toldS s x)).1 = evsL (toldS s x) := (by unfold evsR; rw [if_neg (by rw [hN.ot.e]; omega)])
      have hev2 : (evsR (toldS s x)).2 = 0 := (by unfold evsR; rw [if_neg (by rw [hN.ot.e]; omega)])
      have hevl : (evsL (toldS s x)).length = s.Values.length := (by rw [told_evs hok hag]; exact (map_len _ _).trans rfl)
      rw [hev] at hs45
      try rw [hev]
      try rw [hev2]
      refine WC.region ?_
      refine WL.x (X.move rfl) (by decide) ?_
      refine WL.x (X.neq rfl rfl) (by decide) ?_
      refine WL.x (X.move rfl) (by decide) ?_
      refine WL.yes rfl rfl ?_
      refine WL.x (X.move rfl) (by decide) ?_
      refine WL.yes rfl rfl ?_
      refine WL.x (X.len Try.runUnderlying74 rfl hs45) (by decide) ?_
      refine WL.yes rfl rfl ?_
      refine WL.x (X.move rfl) (by decide) ?_
      refine WL.yes rfl rfl ?_
      refine WL.x (X.len Try.runUnderlying28 rfl hs36) (by decide) ?_
      refine WL.yes rfl rfl ?_
      refine WL.condn (X.neq rfl rfl) (by decide) (fun h47 => ?_) (fun h47 => ?_)
      ·refine WL.x (X.pickF rfl rfl rfl) (by decide) ?_
       refine WL.nil ?_
       refine WK.nThen ?_
       exfalso; first | omega | contradiction
      ·refine WL.x (X.pickF rfl rfl rfl) (by decide) ?_
       refine WL.nil ?_
       refine WK.nThen ?_
       refine WK.meet (()) rfl (.refl _) (.cons rfl (.cons rfl (.cons rfl (.cons rfl (.cons rfl (.cons rfl (.cons rfl (.cons rfl .nil)))))))) ?_
       trivial
     ·rintro u_ hF48
      show WK _ _ m40 [blk b30 25 [v24, v26], blk b15 33 [.int .i64 (a.Lo), .int .i64 (a.Hi)], blk b14 52 [v7, v9], blk b13 25 [v1, v3]] [(3, .int .i64 (most)), (4, .pointer (some ⟨b13, 0, none⟩)), (6, .pointer (some ⟨b15, 0, none⟩)), (9, .bool true), (10, .pointer (some ⟨b30, 0, none⟩)), (12, v35), (14, v44), (80, .bool false)] _
      replace hF48 : True := hF48
      refine WC.condF rfl ?_
      refine WC.skip ?_
      refine WK.nThen ?_
      refine WC.seq ?_
      refine WC.seq ?_
      have hev : (evsR (toldS s x)).1 = evsL (toldS s x) := (by unfold evsR; rw [if_neg (by rw [hN.ot.e]; omega)])
      have hev2 : (evsR (toldS s x)).2 = 0 := (by unfold evsR; rw [if_neg (by rw [hN.ot.e]; omega)])
      have hevl : (evsL (toldS s x)).length = s.Values.length := (by rw [told_evs hok hag]; exact (map_len _ _).trans rfl)
      rw [hev] at hs45
      try rw [hev]
      refine WC.region ?_
      refine WL.x (X.assign rfl) (by decide) ?_
      refine WL.nil ?_
      refine WK.nThen ?_
      refine WC.block ?_
      refine WC.loop (G := Nat) (fun i => s.Values.length - i) (fun i => m40) (fun i => [blk b30 25 [v24, v26], blk b15 33 [.int .i64 (a.Lo), .int .i64 (a.Hi)], blk b14 52 [v7, v9], blk b13 25 [v1, v3]]) (fun i => [(3, .int .i64 (most)), (4, .pointer (some ⟨b13, 0, none⟩)), (6, .pointer (some ⟨b15, 0, none⟩)), (9, .bool true), (10, .pointer (some ⟨b30, 0, none⟩)), (12, v35), (14, v44), (16, .int .i64 (↑i))]) (fun i => i ≤ s.Values.length) 0 rfl (.refl _) (.cons rfl (.cons rfl (.cons rfl (.cons rfl (.cons rfl (.cons rfl (.cons rfl (.cons rfl .nil)))))))) ?_ ?_
      ·exact Nat.zero_le _
      ·rintro i hF49
       show WK _ _ m40 [blk b30 25 [v24, v26], blk b15 33 [.int .i64 (a.Lo), .int .i64 (a.Hi)], blk b14 52 [v7, v9], blk b13 25 [v1, v3]] [(3, .int .i64 (most)), (4, .pointer (some ⟨b13, 0, none⟩)), (6, .pointer (some ⟨b15, 0, none⟩)), (9, .bool true), (10, .pointer (some ⟨b30, 0, none⟩)), (12, v35), (14, v44), (16, .int .i64 (↑i))] _
       replace hF49 : i ≤ s.Values.length := hF49
       have hi := hF49
       refine WC.seq ?_
       refine WC.seq ?_
       refine WC.region ?_
       refine WL.x (X.move rfl) (by decide) ?_
       refine WL.x (X.move rfl) (by decide) ?_
       refine WL.x (X.len Try.runUnderlying28 rfl hs36) (by decide) ?_
       refine WL.cond (X.lss rfl rfl) (by decide) (fun h50 => ?_) (fun h50 => ?_)
       ·refine WL.nil ?_
        refine WK.nThen ?_
        refine WC.condT rfl ?_
        refine WC.skip ?_
        refine WK.nThen ?_
        refine WC.seq ?_
        refine WC.block ?_
        refine WC.seq ?_
        have hii : gt (evsL (toldS s x)) i = ⟨gt (evenL s x.Levels x.Shifts) i, gt (evenL s x.Levels x.Shifts) i⟩ := (by rw [told_evs hok hag, gt_map (by omega), evenL_at (by omega)])
        have hil := congrArg Span.Lo hii
        have hih := congrArg Span.Hi hii
        dsimp only at hil hih
        refine WC.draw (π := (.cons 0 (.cons 1 (.cons 2 (.cons 3 (.cons 4 (.cons 5 (.cons 6 (.cons 7 (.cons 8 (.cons 9 (.cons 10 (.cons 11 (.cons 12 (.cons 13 .done))))))))))))))) [] [] rfl (by kernel_rfl) ?_
        refine DW.x rfl rfl (X.move rfl) (by decide) ?_
        refine DW.x rfl rfl (X.move rfl) (by decide) ?_
        refine DW.xe rfl rfl (E.idxN i Try.runUnderlying74 Try.sizeOf33 rfl rfl hs45 (by omega)) (by decide) (fun p51 hp52 => ?_)
        refine DW.xe rfl rfl (E.loadAgg Try.isAgg33 Try.sizeOf33 rfl hp52) (by decide) (fun c53 hc54 => ?_)
        obtain rfl := hc54
        refine DW.x rfl rfl (X.move rfl) (by decide) ?_
        refine DW.x rfl rfl (X.move rfl) (by decide) ?_
        refine DW.xe rfl rfl (E.idxN i Try.runUnderlying28 Try.sizeOf3 rfl rfl hs36 (by omega)) (by decide) (fun p55 hp56 => ?_)
        refine DW.x rfl rfl (X.loadInt Try.isAgg3 rfl hp56) (by decide) ?_
        refine DW.x rfl rfl (X.move rfl) (by decide) ?_
        refine DW.x rfl rfl (X.move rfl) (by decide) ?_
        refine DW.xe rfl rfl (E.idxN i Try.runUnderlying28 Try.sizeOf3 rfl rfl hs36 (by omega)) (by decide) (fun p57 hp58 => ?_)
        refine DW.x rfl rfl (X.loadInt Try.isAgg3 rfl hp58) (by decide) ?_
        refine DW.x (V := Value.agg [.int .i64 (gt (evenL s x.Levels x.Shifts) i), .int .i64 (gt (evenL s x.Levels x.Shifts) i)].toArray) rfl rfl (X.build Try.zeroValue33 Try.runUnderlying33 (places33 _ Try.underlying33) rfl rfl) (by decide) ?_
        refine DW.condn rfl rfl (X.neqS (a := gt (evsL (toldS s x)) i) (b := (Span.mk (gt (evenL s x.Levels x.Shifts) i) (gt (evenL s x.Levels x.Shifts) i))) gd33 (fun w => eqS33 9998 _ _ w) rfl rfl) (by decide) (fun h59 => ?_) (fun h59 => ?_)
        ·refine DW.nil ?_
         refine WK.nThen ?_
         refine WC.condT rfl ?_
         refine WC.seq ?_
         refine WC.region ?_
         refine WL.x (X.assign rfl) (by decide) ?_
         refine WL.nil ?_
         refine WK.nThen ?_
         refine WC.ret ?_
         refine WK.rBlock ?_
         refine WK.rThen ?_
         refine WK.rThen ?_
         refine WK.rBlock ?_
         refine WK.rThen ?_
         refine WK.ret1 rfl rfl (fun w' hw' => Ret.exact hw' ?_)
         first | rfl | (exfalso; omega) | (exfalso; contradiction) | (exfalso; have q_ := decide_eq_decide.2 hsl3; contradiction) | exact (bool_true (decide_eq_decide.2 hsl4)).symm | exact (bool_true (by omega)).symm
        ·refine DW.nil ?_
         refine WK.nThen ?_
         refine WC.condF rfl ?_
         refine WC.skip ?_
         refine WK.nBlock ?_
         refine WK.nThen ?_
         refine WC.region ?_
         refine WL.x (X.move rfl) (by decide) ?_
         refine WL.x (X.add rfl rfl (by omega) (by omega)) (by decide) ?_
         refine WL.x (X.assign rfl) (by decide) ?_
         refine WL.nil ?_
         refine WK.nThen ?_
         refine WK.next (i + 1) rfl (.refl _) (.cons rfl (.cons rfl (.cons rfl (.cons rfl (.cons rfl (.cons rfl (.cons rfl (.cons rfl .nil)))))))) ?_ ?_
         ·omega
         ·omega
       ·refine WL.nil ?_
        refine WK.nThen ?_
        refine WC.condF rfl ?_
        refine WC.exit ?_
        refine WK.eThen ?_
        refine WK.eThen ?_
        refine WK.eHit ?_
        refine WK.nThen ?_
        refine WC.seq ?_
        refine WC.region ?_
        refine WL.x (X.loadBA (k := 0) Try.isAgg25 Try.sizeOf25 rfl rfl rfl) (by decide) ?_
        refine WL.x (X.loadBA (k := 1) Try.isAgg33 Try.sizeOf33 rfl rfl rfl) (by decide) ?_
        refine WL.x (X.call Try.call66 rfl (mean66 _ _ (toldS s x) ⟨_, _, rfl, hs25, hs27⟩ _ a rfl )) (by decide) ?_
        refine WL.x (X.move rfl) (by decide) ?_
        refine WL.x (X.extract rfl rfl) (by decide) ?_
        refine WL.x (X.extract rfl rfl) (by decide) ?_
        refine WL.x (X.extract rfl rfl) (by decide) ?_
        refine WL.tn (T.alloc Try.zeroValue45 rfl) (by decide) fun b60 => ?_
        refine WL.tn (T.alloc Try.zeroValue45 rfl) (by decide) fun b61 => ?_
        refine WL.ts (T.storeBA (k := 1) Try.sizeOf45 rfl rfl rfl (one_cons rfl (one_cons rfl one_nil)) rfl rfl) ?_
        refine WL.ts (T.storeBA (k := 0) Try.sizeOf45 rfl rfl rfl (one_cons rfl (one_cons rfl one_nil)) rfl rfl) ?_
        refine WL.x (X.assign rfl) (by decide) ?_
        refine WL.nil ?_
        refine WK.nThen ?_
        refine WC.seq ?_
        refine WC.region ?_
        refine WL.x (X.loadBA (k := 2) Try.isAgg25 Try.sizeOf25 rfl rfl rfl) (by decide) ?_
        refine WL.x (X.loadBA (k := 3) Try.isAgg33 Try.sizeOf33 rfl rfl rfl) (by decide) ?_
        refine WL.x (X.call Try.call37 rfl (extremes37 _ _ (toldS s x) ⟨_, _, rfl, hs25, hs27⟩ _ a rfl )) (by decide) ?_
        refine WL.x (X.move rfl) (by decide) ?_
        refine WL.x (X.extract rfl rfl) (by decide) ?_
        refine WL.x (X.extract rfl rfl) (by decide) ?_
        refine WL.x (X.extract rfl rfl) (by decide) ?_
        refine WL.tn (T.alloc Try.zeroValue33 rfl) (by decide) fun b62 => ?_
        refine WL.tn (T.alloc Try.zeroValue33 rfl) (by decide) fun b63 => ?_
        refine WL.ts (T.storeBA (k := 1) Try.sizeOf33 rfl rfl rfl (one_cons rfl (one_cons rfl one_nil)) rfl rfl) ?_
        refine WL.ts (T.storeBA (k := 0) Try.sizeOf33 rfl rfl rfl (one_cons rfl (one_cons rfl one_nil)) rfl rfl) ?_
        refine WL.x (X.assign rfl) (by decide) ?_
        refine WL.nil ?_
        refine WK.nThen ?_
        refine WC.seq ?_
        refine WC.region ?_
        refine WL.x (X.loadBA (k := 7) Try.isAgg25 Try.sizeOf25 rfl rfl rfl) (by decide) ?_
        refine WL.x (X.move rfl) (by decide) ?_
        refine WL.x (X.loadBA (k := 5) Try.isAgg33 Try.sizeOf33 rfl rfl rfl) (by decide) ?_
        refine WL.x (X.call Try.call40 rfl (mean40 _ _ s ⟨_, _, rfl, hs2, hs4⟩ _ _ hs36 _ a rfl (by omega) (by assumption))) (by decide) ?_
        refine WL.x (X.move rfl) (by decide) ?_
        refine WL.x (X.extract rfl rfl) (by decide) ?_
        refine WL.x (X.extract rfl rfl) (by decide) ?_
        refine WL.x (X.extract rfl rfl) (by decide) ?_
        refine WL.tn (T.alloc Try.zeroValue45 rfl) (by decide) fun b64 => ?_
        refine WL.tn (T.alloc Try.zeroValue33 rfl) (by decide) fun b65 => ?_
        refine WL.ts (T.storeBA (k := 1) Try.sizeOf45 rfl rfl rfl (one_cons rfl (one_cons rfl one_nil)) rfl rfl) ?_
        refine WL.ts (T.storeBA (k := 0) Try.sizeOf33 rfl rfl rfl (one_cons rfl (one_cons rfl one_nil)) rfl rfl) ?_
        refine WL.x (X.assign rfl) (by decide) ?_
        refine WL.nil ?_
        refine WK.nThen ?_
        refine WC.seq ?_
        refine WC.cut (G := Unit) (fun u_ => m40) (fun u_ => [blk b65 33 [.int .i64 ((meanR s ((evenL s x.Levels x.Shifts)) a).2.1.Lo), .int .i64 ((meanR s ((evenL s x.Levels x.Shifts)) a).2.1.Hi)], blk b64 45 [.int .i64 ((meanR s ((evenL s x.Levels x.Shifts)) a).1.Num), .int .i64 ((meanR s ((evenL s x.Levels x.Shifts)) a).1.Den)], blk b63 33 [.int .i64 ((extR ((toldS s x)) a).2.1.Lo), .int .i64 ((extR ((toldS s x)) a).2.1.Hi)], blk b62 33 [.int .i64 ((extR ((toldS s x)) a).1.Lo), .int .i64 ((extR ((toldS s x)) a).1.Hi)], blk b61 45 [.int .i64 ((mbR ((toldS s x)) a).2.1.Num), .int .i64 ((mbR ((toldS s x)) a).2.1.Den)], blk b60 45 [.int .i64 ((mbR ((toldS s x)) a).1.Num), .int .i64 ((mbR ((toldS s x)) a).1.Den)], blk b30 25 [v24, v26], blk b15 33 [.int .i64 (a.Lo), .int .i64 (a.Hi)], blk b14 52 [v7, v9], blk b13 25 [v1, v3]]) (fun u_ => [(3, .int .i64 (most)), (4, .pointer (some ⟨b13, 0, none⟩)), (9, .bool true), (10, .pointer (some ⟨b30, 0, none⟩)), (12, v35), (165, .bool false)]) (fun u_ => True) ?_ ?_
        ·refine WC.region ?_
         refine WL.x (X.move rfl) (by decide) ?_
         refine WL.cond (X.eql rfl rfl) (by decide) (fun h66 => ?_) (fun h66 => ?_)
         ·have hm_ := told_mean hok hag (a := a) (by omega)
          have hm1_ := hm_.1
          have hm0_ := hm_.2.1
          have hm2_ := hm_.2.2.1
          have hm3_ := hm_.2.2.2.1
          have hm4_ := hm_.2.2.2.2.1
          have hx_ := told_extR hok hag hm_.2.2.2.2.2.1 hm_.2.2.2.2.2.2
          have hx0_ := hx_.1
          have hx5_ := hx_.2.1
          have hx6_ := hx_.2.2
          have hx1_ := congrArg Span.Lo hx_.2.1
          have hx2_ := congrArg Span.Hi hx_.2.1
          have hx3_ := congrArg Span.Lo hx_.2.2
          have hx4_ := congrArg Span.Hi hx_.2.2
          dsimp only at hx1_ hx2_ hx3_ hx4_
          unfold LBd at hm0_ hm2_
          refine WL.x (X.move rfl) (by decide) ?_
          refine WL.yes rfl rfl ?_
          refine WL.x (X.move rfl) (by decide) ?_
          refine WL.yes rfl rfl ?_
          refine WL.condn (X.notp rfl) (by decide) (fun h67 => ?_) (fun h67 => ?_)
          ·refine WL.yes rfl rfl ?_
           refine WL.x (X.move rfl) (by decide) ?_
           refine WL.no rfl rfl rfl (by decide) ?_
           refine WL.no rfl rfl rfl (by decide) ?_
           refine WL.no rfl rfl rfl (by decide) ?_
           refine WL.yes rfl rfl ?_
           refine WL.x (X.pickT rfl rfl rfl) (by decide) ?_
           refine WL.yes rfl rfl ?_
           refine WL.x (X.move rfl) (by decide) ?_
           refine WL.no rfl rfl rfl (by decide) ?_
           refine WL.no rfl rfl rfl (by decide) ?_
           refine WL.no rfl rfl rfl (by decide) ?_
           refine WL.yes rfl rfl ?_
           refine WL.x (X.pickT rfl rfl rfl) (by decide) ?_
           refine WL.yes rfl rfl ?_
           refine WL.x (X.move rfl) (by decide) ?_
           refine WL.no rfl rfl rfl (by decide) ?_
           refine WL.no rfl rfl rfl (by decide) ?_
           refine WL.no rfl rfl rfl (by decide) ?_
           refine WL.yes rfl rfl ?_
           refine WL.x (X.pickT rfl rfl rfl) (by decide) ?_
           refine WL.yes rfl rfl ?_
           refine WL.x (X.move rfl) (by decide) ?_
           refine WL.no rfl rfl rfl (by decide) ?_
           refine WL.no rfl rfl rfl (by decide) ?_
           refine WL.yes rfl rfl ?_
           refine WL.x (X.pickT rfl rfl rfl) (by decide) ?_
           refine WL.yes rfl rfl ?_
           refine WL.x (X.move rfl) (by decide) ?_
           refine WL.no rfl rfl rfl (by decide) ?_
           refine WL.no rfl rfl rfl (by decide) ?_
           refine WL.no rfl rfl rfl (by decide) ?_
           refine WL.no rfl rfl rfl (by decide) ?_
           refine WL.no rfl rfl rfl (by decide) ?_
           refine WL.no rfl rfl rfl (by decide) ?_
           refine WL.no rfl rfl rfl (by decide) ?_
           refine WL.yes rfl rfl ?_
           refine WL.x (X.pickT rfl rfl rfl) (by decide) ?_
           refine WL.yes rfl rfl ?_
           refine WL.x (X.move rfl) (by decide) ?_
           refine WL.no rfl rfl rfl (by decide) ?_
           refine WL.no rfl rfl rfl (by decide) ?_
           refine WL.no rfl rfl rfl (by decide) ?_
           refine WL.no rfl rfl rfl (by decide) ?_
           refine WL.no rfl rfl rfl (by decide) ?_
           refine WL.no rfl rfl rfl (by decide) ?_
           refine WL.no rfl rfl rfl (by decide) ?_
           refine WL.yes rfl rfl ?_
           refine WL.x (X.pickT rfl rfl rfl) (by decide) ?_
           refine WL.x (X.pickT rfl rfl rfl) (by decide) ?_
           refine WL.nil ?_
           refine WK.nThen ?_
           exfalso; first | omega | contradiction
          ·refine WL.yes rfl rfl ?_
           refine WL.x (X.move rfl) (by decide) ?_
           refine WL.yes rfl rfl ?_
           refine WL.x (X.loadBA (k := 5) Try.isAgg45 Try.sizeOf45 rfl rfl rfl) (by decide) ?_
           refine WL.yes rfl rfl ?_
           refine WL.x (X.loadBA (k := 4) Try.isAgg45 Try.sizeOf45 rfl rfl rfl) (by decide) ?_
           refine WL.yes rfl rfl ?_
           refine WL.condn (X.neqS (a := (mbR ((toldS s x)) a).1) (b := (mbR ((toldS s x)) a).2.1) gd45 (fun w => eqS45 9998 _ _ w) rfl rfl) (by decide) (fun h68 => ?_) (fun h68 => ?_)
           ·refine WL.yes rfl rfl ?_
            refine WL.x (X.pickF rfl rfl rfl) (by decide) ?_
            refine WL.yes rfl rfl ?_
            refine WL.x (X.move rfl) (by decide) ?_
            refine WL.no rfl rfl rfl (by decide) ?_
            refine WL.no rfl rfl rfl (by decide) ?_
            refine WL.no rfl rfl rfl (by decide) ?_
            refine WL.yes rfl rfl ?_
            refine WL.x (X.pickT rfl rfl rfl) (by decide) ?_
            refine WL.yes rfl rfl ?_
            refine WL.x (X.move rfl) (by decide) ?_
            refine WL.no rfl rfl rfl (by decide) ?_
            refine WL.no rfl rfl rfl (by decide) ?_
            refine WL.no rfl rfl rfl (by decide) ?_
            refine WL.yes rfl rfl ?_
            refine WL.x (X.pickT rfl rfl rfl) (by decide) ?_
            refine WL.yes rfl rfl ?_
            refine WL.x (X.move rfl) (by decide) ?_
            refine WL.no rfl rfl rfl (by decide) ?_
            refine WL.no rfl rfl rfl (by decide) ?_
            refine WL.yes rfl rfl ?_
            refine WL.x (X.pickT rfl rfl rfl) (by decide) ?_
            refine WL.yes rfl rfl ?_
            refine WL.x (X.move rfl) (by decide) ?_
            refine WL.no rfl rfl rfl (by decide) ?_
            refine WL.no rfl rfl rfl (by decide) ?_
            refine WL.no rfl rfl rfl (by decide) ?_
            refine WL.no rfl rfl rfl (by decide) ?_
            refine WL.no rfl rfl rfl (by decide) ?_
            refine WL.no rfl rfl rfl (by decide) ?_
            refine WL.no rfl rfl rfl (by decide) ?_
            refine WL.yes rfl rfl ?_
            refine WL.x (X.pickT rfl rfl rfl) (by decide) ?_
            refine WL.yes rfl rfl ?_
            refine WL.x (X.move rfl) (by decide) ?_
            refine WL.no rfl rfl rfl (by decide) ?_
            refine WL.no rfl rfl rfl (by decide) ?_
            refine WL.no rfl rfl rfl (by decide) ?_
            refine WL.no rfl rfl rfl (by decide) ?_
            refine WL.no rfl rfl rfl (by decide) ?_
            refine WL.no rfl rfl rfl (by decide) ?_
            refine WL.no rfl rfl rfl (by decide) ?_
            refine WL.yes rfl rfl ?_
            refine WL.x (X.pickT rfl rfl rfl) (by decide) ?_
            refine WL.x (X.pickT rfl rfl rfl) (by decide) ?_
            refine WL.nil ?_
            refine WK.nThen ?_
            exfalso; first | omega | contradiction
           ·refine WL.yes rfl rfl ?_
            refine WL.x (X.pickF rfl rfl rfl) (by decide) ?_
            refine WL.yes rfl rfl ?_
            refine WL.x (X.move rfl) (by decide) ?_
            refine WL.yes rfl rfl ?_
            refine WL.x (X.loadBA (k := 1) Try.isAgg45 Try.sizeOf45 rfl rfl rfl) (by decide) ?_
            refine WL.yes rfl rfl ?_
            refine WL.x (X.loadBA (k := 5) Try.isAgg45 Try.sizeOf45 rfl rfl rfl) (by decide) ?_
            refine WL.yes rfl rfl ?_
            refine WL.x (OpX.f (X.call Try.call67 rfl (less67 _ _ ((meanR s ((evenL s x.Levels x.Shifts)) a).1) rfl _ ((mbR ((toldS s x)) a).1) rfl (by omega) (by omega))) hm3_) (by decide) ?_
            refine WL.yes rfl rfl ?_
            refine WL.x (X.pickF rfl rfl rfl) (by decide) ?_
            refine WL.yes rfl rfl ?_
            refine WL.x (X.move rfl) (by decide) ?_
            refine WL.yes rfl rfl ?_
            refine WL.x (X.loadBA (k := 5) Try.isAgg45 Try.sizeOf45 rfl rfl rfl) (by decide) ?_
            refine WL.yes rfl rfl ?_
            refine WL.x (X.loadBA (k := 1) Try.isAgg45 Try.sizeOf45 rfl rfl rfl) (by decide) ?_
            refine WL.yes rfl rfl ?_
            refine WL.x (OpX.f (X.call Try.call67 rfl (less67 _ _ ((mbR ((toldS s x)) a).1) rfl _ ((meanR s ((evenL s x.Levels x.Shifts)) a).1) rfl (by omega) (by omega))) hm4_) (by decide) ?_
            refine WL.yes rfl rfl ?_
            refine WL.x (X.pickF rfl rfl rfl) (by decide) ?_
            refine WL.yes rfl rfl ?_
            refine WL.x (X.move rfl) (by decide) ?_
            refine WL.yes rfl rfl ?_
            refine WL.x (X.move rfl) (by decide) ?_
            refine WL.yes rfl rfl ?_
            refine WL.condn (X.neq rfl rfl) (by decide) (fun h69 => ?_) (fun h69 => ?_)
            ·refine WL.yes rfl rfl ?_
             refine WL.x (X.pickF rfl rfl rfl) (by decide) ?_
             refine WL.yes rfl rfl ?_
             refine WL.x (X.move rfl) (by decide) ?_
             refine WL.no rfl rfl rfl (by decide) ?_
             refine WL.no rfl rfl rfl (by decide) ?_
             refine WL.no rfl rfl rfl (by decide) ?_
             refine WL.no rfl rfl rfl (by decide) ?_
             refine WL.no rfl rfl rfl (by decide) ?_
             refine WL.no rfl rfl rfl (by decide) ?_
             refine WL.no rfl rfl rfl (by decide) ?_
             refine WL.yes rfl rfl ?_
             refine WL.x (X.pickT rfl rfl rfl) (by decide) ?_
             refine WL.yes rfl rfl ?_
             refine WL.x (X.move rfl) (by decide) ?_
             refine WL.no rfl rfl rfl (by decide) ?_
             refine WL.no rfl rfl rfl (by decide) ?_
             refine WL.no rfl rfl rfl (by decide) ?_
             refine WL.no rfl rfl rfl (by decide) ?_
             refine WL.no rfl rfl rfl (by decide) ?_
             refine WL.no rfl rfl rfl (by decide) ?_
             refine WL.no rfl rfl rfl (by decide) ?_
             refine WL.yes rfl rfl ?_
             refine WL.x (X.pickT rfl rfl rfl) (by decide) ?_
             refine WL.x (X.pickT rfl rfl rfl) (by decide) ?_
             refine WL.nil ?_
             refine WK.nThen ?_
             exfalso; first | omega | contradiction
            ·refine WL.yes rfl rfl ?_
             refine WL.x (X.pickF rfl rfl rfl) (by decide) ?_
             refine WL.yes rfl rfl ?_
             refine WL.x (X.move rfl) (by decide) ?_
             refine WL.yes rfl rfl ?_
             refine WL.x (X.loadBA (k := 3) Try.isAgg33 Try.sizeOf33 rfl rfl rfl) (by decide) ?_
             refine WL.yes rfl rfl ?_
             refine WL.x (X.field Try.runUnderlying33 rfl Try.sizeOf3 rfl) (by decide) ?_
             refine WL.yes rfl rfl ?_
             refine WL.x (X.loadB (k := 0) Try.isAgg3 rfl rfl rfl) (by decide) ?_
             refine WL.yes rfl rfl ?_
             refine WL.x (X.field Try.runUnderlying33 rfl Try.sizeOf3 rfl) (by decide) ?_
             refine WL.yes rfl rfl ?_
             refine WL.x (X.loadB (k := 0) Try.isAgg3 rfl rfl rfl) (by decide) ?_
             refine WL.yes rfl rfl ?_
             refine WL.x (V := Value.agg [.int .i64 ((meanR s ((evenL s x.Levels x.Shifts)) a).2.1.Lo), .int .i64 ((meanR s ((evenL s x.Levels x.Shifts)) a).2.1.Lo)].toArray) (X.build Try.zeroValue33 Try.runUnderlying33 (places33 _ Try.underlying33) rfl rfl) (by decide) ?_
             refine WL.yes rfl rfl ?_
             refine WL.condn (X.neqS (a := (extR ((toldS s x)) a).1) (b := (Span.mk ((meanR s ((evenL s x.Levels x.Shifts)) a).2.1.Lo) ((meanR s ((evenL s x.Levels x.Shifts)) a).2.1.Lo))) gd33 (fun w => eqS33 9998 _ _ w) rfl rfl) (by decide) (fun h70 => ?_) (fun h70 => ?_)
             ·refine WL.yes rfl rfl ?_
              refine WL.x (X.pickF rfl rfl rfl) (by decide) ?_
              refine WL.yes rfl rfl ?_
              refine WL.x (X.move rfl) (by decide) ?_
              refine WL.no rfl rfl rfl (by decide) ?_
              refine WL.no rfl rfl rfl (by decide) ?_
              refine WL.no rfl rfl rfl (by decide) ?_
              refine WL.no rfl rfl rfl (by decide) ?_
              refine WL.no rfl rfl rfl (by decide) ?_
              refine WL.no rfl rfl rfl (by decide) ?_
              refine WL.no rfl rfl rfl (by decide) ?_
              refine WL.yes rfl rfl ?_
              refine WL.x (X.pickT rfl rfl rfl) (by decide) ?_
              refine WL.x (X.pickT rfl rfl rfl) (by decide) ?_
              refine WL.nil ?_
              refine WK.nThen ?_
              exfalso; first | omega | contradiction
             ·refine WL.yes rfl rfl ?_
              refine WL.x (X.pickF rfl rfl rfl) (by decide) ?_
              refine WL.yes rfl rfl ?_
              refine WL.x (X.move rfl) (by decide) ?_
              refine WL.yes rfl rfl ?_
              refine WL.x (X.loadBA (k := 2) Try.isAgg33 Try.sizeOf33 rfl rfl rfl) (by decide) ?_
              refine WL.yes rfl rfl ?_
              refine WL.x (X.field Try.runUnderlying33 rfl Try.sizeOf3 rfl) (by decide) ?_
              refine WL.yes rfl rfl ?_
              refine WL.x (X.loadB (k := 0) Try.isAgg3 rfl rfl rfl) (by decide) ?_
              refine WL.yes rfl rfl ?_
              refine WL.x (X.field Try.runUnderlying33 rfl Try.sizeOf3 rfl) (by decide) ?_
              refine WL.yes rfl rfl ?_
              refine WL.x (X.loadB (k := 0) Try.isAgg3 rfl rfl rfl) (by decide) ?_
              refine WL.yes rfl rfl ?_
              refine WL.x (V := Value.agg [.int .i64 ((meanR s ((evenL s x.Levels x.Shifts)) a).2.1.Hi), .int .i64 ((meanR s ((evenL s x.Levels x.Shifts)) a).2.1.Hi)].toArray) (X.build Try.zeroValue33 Try.runUnderlying33 (places33 _ Try.underlying33) rfl rfl) (by decide) ?_
              refine WL.yes rfl rfl ?_
              refine WL.condn (X.neqS (a := (extR ((toldS s x)) a).2.1) (b := (Span.mk ((meanR s ((evenL s x.Levels x.Shifts)) a).2.1.Hi) ((meanR s ((evenL s x.Levels x.Shifts)) a).2.1.Hi))) gd33 (fun w => eqS33 9998 _ _ w) rfl rfl) (by decide) (fun h71 => ?_) (fun h71 => ?_)
              ·refine WL.yes rfl rfl ?_
               refine WL.x (X.pickF rfl rfl rfl) (by decide) ?_
               refine WL.x (X.pickT rfl rfl rfl) (by decide) ?_
               refine WL.nil ?_
               refine WK.nThen ?_
               exfalso; first | omega | contradiction
              ·refine WL.yes rfl rfl ?_
               refine WL.x (X.pickF rfl rfl rfl) (by decide) ?_
               refine WL.x (X.pickT rfl rfl rfl) (by decide) ?_
               refine WL.nil ?_
               refine WK.nThen ?_
               refine WK.meet (()) rfl (.refl _) (.cons rfl (.cons rfl (.cons rfl (.cons rfl (.cons rfl (.cons rfl .nil)))))) ?_
               trivial
         ·refine WL.x (X.move rfl) (by decide) ?_
          refine WL.no rfl rfl rfl (by decide) ?_
          refine WL.no rfl rfl rfl (by decide) ?_
          refine WL.no rfl rfl rfl (by decide) ?_
          refine WL.noU rfl rfl (by decide) ?_
          refine WL.noU rfl rfl (by decide) ?_
          refine WL.noU rfl rfl (by decide) ?_
          refine WL.no rfl rfl rfl (by decide) ?_
          refine WL.no rfl rfl rfl (by decide) ?_
          refine WL.noU rfl rfl (by decide) ?_
          refine WL.noU rfl rfl (by decide) ?_
          refine WL.noU rfl rfl (by decide) ?_
          refine WL.no rfl rfl rfl (by decide) ?_
          refine WL.no rfl rfl rfl (by decide) ?_
          refine WL.noU rfl rfl (by decide) ?_
          refine WL.noU rfl rfl (by decide) ?_
          refine WL.noU rfl rfl (by decide) ?_
          refine WL.no rfl rfl rfl (by decide) ?_
          refine WL.no rfl rfl rfl (by decide) ?_
          refine WL.noU rfl rfl (by decide) ?_
          refine WL.noU rfl rfl (by decide) ?_
          refine WL.no rfl rfl rfl (by decide) ?_
          refine WL.no rfl rfl rfl (by decide) ?_
          refine WL.noU rfl rfl (by decide) ?_
          refine WL.noU rfl rfl (by decide) ?_
          refine WL.noU rfl rfl (by decide) ?_
          refine WL.noU rfl rfl (by decide) ?_
          refine WL.noU rfl rfl (by decide) ?_
          refine WL.noU rfl rfl (by decide) ?_
          refine WL.noU rfl rfl (by decide) ?_
          refine WL.no rfl rfl rfl (by decide) ?_
          refine WL.no rfl rfl rfl (by decide) ?_
          refine WL.noU rfl rfl (by decide) ?_
          refine WL.noU rfl rfl (by decide) ?_
          refine WL.noU rfl rfl (by decide) ?_
          refine WL.noU rfl rfl (by decide) ?_
          refine WL.noU rfl rfl (by decide) ?_
          refine WL.noU rfl rfl (by decide) ?_
          refine WL.noU rfl rfl (by decide) ?_
          refine WL.no rfl rfl rfl (by decide) ?_
          refine WL.x (X.pickF rfl rfl rfl) (by decide) ?_
          refine WL.nil ?_
          refine WK.nThen ?_
          refine WK.meet (()) rfl (.refl _) (.cons rfl (.cons rfl (.cons rfl (.cons rfl (.cons rfl (.cons rfl .nil)))))) ?_
          trivial
        ·rintro u_ hF72
         show WK _ _ m40 [blk b65 33 [.int .i64 ((meanR s ((evenL s x.Levels x.Shifts)) a).2.1.Lo), .int .i64 ((meanR s ((evenL s x.Levels x.Shifts)) a).2.1.Hi)], blk b64 45 [.int .i64 ((meanR s ((evenL s x.Levels x.Shifts)) a).1.Num), .int .i64 ((meanR s ((evenL s x.Levels x.Shifts)) a).1.Den)], blk b63 33 [.int .i64 ((extR ((toldS s x)) a).2.1.Lo), .int .i64 ((extR ((toldS s x)) a).2.1.Hi)], blk b62 33 [.int .i64 ((extR ((toldS s x)) a).1.Lo), .int .i64 ((extR ((toldS s x)) a).1.Hi)], blk b61 45 [.int .i64 ((mbR ((toldS s x)) a).2.1.Num), .int .i64 ((mbR ((toldS s x)) a).2.1.Den)], blk b60 45 [.int .i64 ((mbR ((toldS s x)) a).1.Num), .int .i64 ((mbR ((toldS s x)) a).1.Den)], blk b30 25 [v24, v26], blk b15 33 [.int .i64 (a.Lo), .int .i64 (a.Hi)], blk b14 52 [v7, v9], blk b13 25 [v1, v3]] [(3, .int .i64 (most)), (4, .pointer (some ⟨b13, 0, none⟩)), (9, .bool true), (10, .pointer (some ⟨b30, 0, none⟩)), (12, v35), (165, .bool false)] _
         replace hF72 : True := hF72
         refine WC.condF rfl ?_
         refine WC.skip ?_
         refine WK.nThen ?_
         refine WC.seq ?_
         refine WC.region ?_
         refine WL.x (X.loadBA (k := 6) Try.isAgg25 Try.sizeOf25 rfl rfl rfl) (by decide) ?_
         refine WL.x (X.move rfl) (by decide) ?_
         refine WL.tm (T.call Try.call28 rfl (steps28 _ _ (toldS s x) ⟨_, _, rfl, hs25, hs27⟩ _ )) (by decide) fun m73 r74 hle75 hR76 => ?_
         obtain ⟨v77, rfl, hs78⟩ := hR76
         replace hs2 := hs2.mono hle75
         replace hs4 := hs4.mono hle75
         replace hs8 := hs8.mono hle75
         replace hs10 := hs10.mono hle75
         replace hs25 := hs25.mono hle75
         replace hs27 := hs27.mono hle75
         replace hs36 := hs36.mono hle75
         replace hs45 := hs45.mono hle75
         have hl79 := hs78.le
         refine WL.x (X.move rfl) (by decide) ?_
         refine WL.x (X.extract rfl rfl) (by decide) ?_
         refine WL.x (X.extract rfl rfl) (by decide) ?_
         refine WL.x (X.extract rfl rfl) (by decide) ?_
         refine WL.x (X.assign rfl) (by decide) ?_
         refine WL.x (X.assign rfl) (by decide) ?_
         refine WL.x (X.assign rfl) (by decide) ?_
         refine WL.nil ?_
         refine WK.nThen ?_
         refine WC.seq ?_
         refine WC.cut (G := Unit) (fun u_ => m73) (fun u_ => [blk b65 33 [.int .i64 ((meanR s ((evenL s x.Levels x.Shifts)) a).2.1.Lo), .int .i64 ((meanR s ((evenL s x.Levels x.Shifts)) a).2.1.Hi)], blk b64 45 [.int .i64 ((meanR s ((evenL s x.Levels x.Shifts)) a).1.Num), .int .i64 ((meanR s ((evenL s x.Levels x.Shifts)) a).1.Den)], blk b63 33 [.int .i64 ((extR ((toldS s x)) a).2.1.Lo), .int .i64 ((extR ((toldS s x)) a).2.1.Hi)], blk b62 33 [.int .i64 ((extR ((toldS s x)) a).1.Lo), .int .i64 ((extR ((toldS s x)) a).1.Hi)], blk b61 45 [.int .i64 ((mbR ((toldS s x)) a).2.1.Num), .int .i64 ((mbR ((toldS s x)) a).2.1.Den)], blk b60 45 [.int .i64 ((mbR ((toldS s x)) a).1.Num), .int .i64 ((mbR ((toldS s x)) a).1.Den)], blk b30 25 [v24, v26], blk b15 33 [.int .i64 (a.Lo), .int .i64 (a.Hi)], blk b14 52 [v7, v9], blk b13 25 [v1, v3]]) (fun u_ => [(4, .pointer (some ⟨b13, 0, none⟩)), (9, .bool true), (10, .pointer (some ⟨b30, 0, none⟩)), (12, v35), (185, .bool false)]) (fun u_ => True) ?_ ?_
         ·have hst := fun h => told_stp hok hag (most := most) h
          refine WC.region ?_
          refine WL.x (X.move rfl) (by decide) ?_
          refine WL.cond (X.eql rfl rfl) (by decide) (fun h80 => ?_) (fun h80 => ?_)
          ·refine WL.x (X.move rfl) (by decide) ?_
           refine WL.yes rfl rfl ?_
           refine WL.x (X.move rfl) (by decide) ?_
           refine WL.yes rfl rfl ?_
           refine WL.x (X.move rfl) (by decide) ?_
           refine WL.yes rfl rfl ?_
           refine WL.x (X.len Try.runUnderlying28 rfl hs36) (by decide) ?_
           refine WL.yes rfl rfl ?_
           refine WL.x (X.mn rfl rfl) (by decide) ?_
           refine WL.yes rfl rfl ?_
           refine WL.x (X.add rfl rfl (by omega) (by omega)) (by decide) ?_
           refine WL.yes rfl rfl ?_
           refine WL.x (X.move rfl) (by decide) ?_
           refine WL.yes rfl rfl ?_
           refine WL.x (X.move rfl) (by decide) ?_
           refine WL.yes rfl rfl ?_
           refine WL.x (X.call Try.call58 rfl (parts58 _ _ _ hs36 _ (by omega) (by assumption))) (by decide) ?_
           refine WL.yes rfl rfl ?_
           refine WL.condn (X.neq rfl rfl) (by decide) (fun h81 => ?_) (fun h81 => ?_)
           ·refine WL.x (X.pickT rfl rfl rfl) (by decide) ?_
            refine WL.nil ?_
            refine WK.nThen ?_
            exfalso; first | omega | contradiction | (have q_ := hst (by omega); omega)
           ·refine WL.x (X.pickT rfl rfl rfl) (by decide) ?_
            refine WL.nil ?_
            refine WK.nThen ?_
            refine WK.meet (()) rfl (.refl _) (.cons rfl (.cons rfl (.cons rfl (.cons rfl (.cons rfl .nil))))) ?_
            trivial
          ·refine WL.x (X.move rfl) (by decide) ?_
           refine WL.no rfl rfl rfl (by decide) ?_
           refine WL.no rfl rfl rfl (by decide) ?_
           refine WL.no rfl rfl rfl (by decide) ?_
           refine WL.no rfl rfl rfl (by decide) ?_
           refine WL.no rfl rfl rfl (by decide) ?_
           refine WL.no rfl rfl rfl (by decide) ?_
           refine WL.no rfl rfl rfl (by decide) ?_
           refine WL.no rfl rfl rfl (by decide) ?_
           refine WL.no rfl rfl rfl (by decide) ?_
           refine WL.x (X.pickF rfl rfl rfl) (by decide) ?_
           refine WL.nil ?_
           refine WK.nThen ?_
           refine WK.meet (()) rfl (.refl _) (.cons rfl (.cons rfl (.cons rfl (.cons rfl (.cons rfl .nil))))) ?_
           trivial
         ·rintro u_ hF82
          show WK _ _ m73 [blk b65 33 [.int .i64 ((meanR s ((evenL s x.Levels x.Shifts)) a).2.1.Lo), .int .i64 ((meanR s ((evenL s x.Levels x.Shifts)) a).2.1.Hi)], blk b64 45 [.int .i64 ((meanR s ((evenL s x.Levels x.Shifts)) a).1.Num), .int .i64 ((meanR s ((evenL s x.Levels x.Shifts)) a).1.Den)], blk b63 33 [.int .i64 ((extR ((toldS s x)) a).2.1.Lo), .int .i64 ((extR ((toldS s x)) a).2.1.Hi)], blk b62 33 [.int .i64 ((extR ((toldS s x)) a).1.Lo), .int .i64 ((extR ((toldS s x)) a).1.Hi)], blk b61 45 [.int .i64 ((mbR ((toldS s x)) a).2.1.Num), .int .i64 ((mbR ((toldS s x)) a).2.1.Den)], blk b60 45 [.int .i64 ((mbR ((toldS s x)) a).1.Num), .int .i64 ((mbR ((toldS s x)) a).1.Den)], blk b30 25 [v24, v26], blk b15 33 [.int .i64 (a.Lo), .int .i64 (a.Hi)], blk b14 52 [v7, v9], blk b13 25 [v1, v3]] [(4, .pointer (some ⟨b13, 0, none⟩)), (9, .bool true), (10, .pointer (some ⟨b30, 0, none⟩)), (12, v35), (185, .bool false)] _
          replace hF82 : True := hF82
          refine WC.condF rfl ?_
          refine WC.skip ?_
          refine WK.nThen ?_
          refine WC.seq ?_
          refine WC.region ?_
          refine WL.x (X.loadBA (k := 6) Try.isAgg25 Try.sizeOf25 rfl rfl rfl) (by decide) ?_
          refine WL.x (X.call Try.call36 rfl (slope36 _ _ (toldS s x) ⟨_, _, rfl, hs25, hs27⟩ )) (by decide) ?_
          refine WL.x (X.move rfl) (by decide) ?_
          refine WL.x (X.extract rfl rfl) (by decide) ?_
          refine WL.x (X.extract rfl rfl) (by decide) ?_
          refine WL.x (X.extract rfl rfl) (by decide) ?_
          refine WL.tn (T.alloc Try.zeroValue45 rfl) (by decide) fun b83 => ?_
          refine WL.tn (T.alloc Try.zeroValue45 rfl) (by decide) fun b84 => ?_
          refine WL.ts (T.storeBA (k := 1) Try.sizeOf45 rfl rfl rfl (one_cons rfl (one_cons rfl one_nil)) rfl rfl) ?_
          refine WL.ts (T.storeBA (k := 0) Try.sizeOf45 rfl rfl rfl (one_cons rfl (one_cons rfl one_nil)) rfl rfl) ?_
          refine WL.x (X.assign rfl) (by decide) ?_
          refine WL.nil ?_
          refine WK.nThen ?_
          refine WC.seq ?_
          refine WC.region ?_
          refine WL.x (X.loadBA (k := 8) Try.isAgg25 Try.sizeOf25 rfl rfl rfl) (by decide) ?_
          refine WL.x (X.call Try.call61 rfl (trend61 _ _ (toldS s x) ⟨_, _, rfl, hs25, hs27⟩ )) (by decide) ?_
          refine WL.x (X.move rfl) (by decide) ?_
          refine WL.x (X.extract rfl rfl) (by decide) ?_
          refine WL.x (X.extract rfl rfl) (by decide) ?_
          refine WL.x (X.assign rfl) (by decide) ?_
          refine WL.x (X.assign rfl) (by decide) ?_
          refine WL.nil ?_
          refine WK.nThen ?_
          refine WC.seq ?_
          refine WC.seq ?_
          have htr := trend_err (toldS s x)
          refine WC.region ?_
          refine WL.x (X.move rfl) (by decide) ?_
          refine WL.condn (X.neq rfl rfl) (by decide) (fun h85 => ?_) (fun h85 => ?_)
          ·refine WL.nil ?_
           refine WK.nThen ?_
           refine WC.condT rfl ?_
           refine WC.seq ?_
           refine WC.region ?_
           refine WL.x (X.move rfl) (by decide) ?_
           refine WL.x (X.move rfl) (by decide) ?_
           refine WL.yes rfl rfl ?_
           refine WL.x (X.move rfl) (by decide) ?_
           refine WL.yes rfl rfl ?_
           refine WL.x (X.move rfl) (by decide) ?_
           refine WL.yes rfl rfl ?_
           refine WL.x (X.eql rfl rfl) (by decide) ?_
           refine WL.x (X.pickT rfl rfl rfl) (by decide) ?_
           refine WL.x (X.assign rfl) (by decide) ?_
           refine WL.nil ?_
           refine WK.nThen ?_
           refine WC.ret ?_
           refine WK.rThen ?_
           refine WK.ret1 rfl rfl (fun w' hw' => Ret.exact hw' ?_)
           first | rfl | (exfalso; omega) | (exfalso; contradiction) | (exfalso; have q_ := decide_eq_decide.2 hsl3; contradiction) | exact (bool_true (decide_eq_decide.2 hsl4)).symm | exact (bool_true (by omega)).symm
          ·refine WL.nil ?_
           refine WK.nThen ?_
           refine WC.condF rfl ?_
           refine WC.skip ?_
           refine WK.nThen ?_
           refine WC.seq ?_
           have hsl := told_slope hok hag (by omega)
           have hsl0 := hsl.1
           have heb2 := fun i (h : i < s.Values.length) => heb i (by omega)
           have hsl1 := hsl.2.1
           have hsl2 := hsl.2.2.1
           have hsl3 := hsl.2.2.2.1
           have hsl4 := hsl.2.2.2.2
           refine WC.region ?_
           refine WL.x (X.loadBA (k := 11) Try.isAgg25 Try.sizeOf25 rfl rfl rfl) (by decide) ?_
           refine WL.x (X.move rfl) (by decide) ?_
           refine WL.x (X.call Try.call64 rfl (exact64 _ _ s ⟨_, _, rfl, hs2, hs4⟩ _ _ hs36 (by assumption) (by omega) (by omega) (by assumption))) (by decide) ?_
           refine WL.tn (T.alloc Try.zeroValue45 rfl) (by decide) fun b86 => ?_
           refine WL.ts (T.storeBA (k := 0) Try.sizeOf45 rfl rfl rfl (one_cons rfl (one_cons rfl one_nil)) rfl rfl) ?_
           refine WL.nil ?_
           refine WK.nThen ?_
           refine WC.seq ?_
           refine WC.region ?_
           refine WL.x (X.move rfl) (by decide) ?_
           refine WL.x (X.move rfl) (by decide) ?_
           refine WL.yes rfl rfl ?_
           refine WL.x (X.loadBA (k := 2) Try.isAgg45 Try.sizeOf45 rfl rfl rfl) (by decide) ?_
           refine WL.yes rfl rfl ?_
           refine WL.x (X.loadBA (k := 0) Try.isAgg45 Try.sizeOf45 rfl rfl rfl) (by decide) ?_
           refine WL.yes rfl rfl ?_
           refine WL.cond (X.eqlS (a := (slopeR ((toldS s x))).1) (b := exactR s ((evenL s x.Levels x.Shifts))) gd45 (fun w => eqS45 9998 _ _ w) rfl rfl) (by decide) (fun h87 => ?_) (fun h87 => ?_)
           ·refine WL.x (X.pickT rfl rfl rfl) (by decide) ?_
            refine WL.x (X.move rfl) (by decide) ?_
            refine WL.yes rfl rfl ?_
            refine WL.x (X.loadBA (k := 1) Try.isAgg45 Try.sizeOf45 rfl rfl rfl) (by decide) ?_
            refine WL.yes rfl rfl ?_
            refine WL.x (X.loadBA (k := 0) Try.isAgg45 Try.sizeOf45 rfl rfl rfl) (by decide) ?_
            refine WL.yes rfl rfl ?_
            refine WL.cond (X.eqlS (a := (slopeR ((toldS s x))).2.1) (b := exactR s ((evenL s x.Levels x.Shifts))) gd45 (fun w => eqS45 9998 _ _ w) rfl rfl) (by decide) (fun h88 => ?_) (fun h88 => ?_)
            ·refine WL.x (X.pickT rfl rfl rfl) (by decide) ?_
             refine WL.x (X.move rfl) (by decide) ?_
             refine WL.yes rfl rfl ?_
             refine WL.x (X.move rfl) (by decide) ?_
             refine WL.yes rfl rfl ?_
             refine WL.x (X.gtr rfl rfl) (by decide) ?_
             refine WL.yes rfl rfl ?_
             refine WL.x (X.field Try.runUnderlying45 rfl Try.sizeOf3 rfl) (by decide) ?_
             refine WL.yes rfl rfl ?_
             refine WL.x (X.loadB (k := 0) Try.isAgg3 rfl rfl rfl) (by decide) ?_
             refine WL.yes rfl rfl ?_
             refine WL.x (X.gtr rfl rfl) (by decide) ?_
             refine WL.yes rfl rfl ?_
             refine WL.x (OpX.t (X.eqlB Try.underlying4 rfl rfl) (decide_eq_decide.2 hsl3)) (by decide) ?_
             refine WL.x (X.pickT rfl rfl rfl) (by decide) ?_
             refine WL.x (X.move rfl) (by decide) ?_
             refine WL.yes rfl rfl ?_
             refine WL.x (X.move rfl) (by decide) ?_
             refine WL.yes rfl rfl ?_
             refine WL.x (X.lss rfl rfl) (by decide) ?_
             refine WL.yes rfl rfl ?_
             refine WL.x (X.field Try.runUnderlying45 rfl Try.sizeOf3 rfl) (by decide) ?_
             refine WL.yes rfl rfl ?_
             refine WL.x (X.loadB (k := 0) Try.isAgg3 rfl rfl rfl) (by decide) ?_
             refine WL.yes rfl rfl ?_
             refine WL.x (X.lss rfl rfl) (by decide) ?_
             refine WL.yes rfl rfl ?_
             refine WL.x (X.eqlB Try.underlying4 rfl rfl) (by decide) ?_
             refine WL.x (X.pickT rfl rfl rfl) (by decide) ?_
             refine WL.x (X.assign rfl) (by decide) ?_
             refine WL.nil ?_
             refine WK.nThen ?_
             refine WC.ret ?_
             refine WK.ret1 rfl rfl (fun w' hw' => Ret.exact hw' ?_)
             first | rfl | (exfalso; omega) | (exfalso; contradiction) | (exfalso; have q_ := decide_eq_decide.2 hsl3; contradiction) | exact (bool_true (decide_eq_decide.2 hsl4)).symm | exact (bool_true (by omega)).symm
            ·refine WL.x (X.pickT rfl rfl rfl) (by decide) ?_
             refine WL.x (X.move rfl) (by decide) ?_
             refine WL.no rfl rfl rfl (by decide) ?_
             refine WL.no rfl rfl rfl (by decide) ?_
             refine WL.no rfl rfl rfl (by decide) ?_
             refine WL.no rfl rfl rfl (by decide) ?_
             refine WL.no rfl rfl rfl (by decide) ?_
             refine WL.no rfl rfl rfl (by decide) ?_
             refine WL.x (X.pickF rfl rfl rfl) (by decide) ?_
             refine WL.x (X.move rfl) (by decide) ?_
             refine WL.no rfl rfl rfl (by decide) ?_
             refine WL.no rfl rfl rfl (by decide) ?_
             refine WL.no rfl rfl rfl (by decide) ?_
             refine WL.no rfl rfl rfl (by decide) ?_
             refine WL.no rfl rfl rfl (by decide) ?_
             refine WL.no rfl rfl rfl (by decide) ?_
             refine WL.x (X.pickF rfl rfl rfl) (by decide) ?_
             refine WL.x (X.assign rfl) (by decide) ?_
             refine WL.nil ?_
             refine WK.nThen ?_
             refine WC.ret ?_
             refine WK.ret1 rfl rfl (fun w' hw' => Ret.exact hw' ?_)
             first | rfl | (exfalso; omega) | (exfalso; contradiction) | (exfalso; have q_ := decide_eq_decide.2 hsl3; contradiction) | exact (bool_true (decide_eq_decide.2 hsl4)).symm | exact (bool_true (by omega)).symm
           ·refine WL.x (X.pickT rfl rfl rfl) (by decide) ?_
            refine WL.x (X.move rfl) (by decide) ?_
            refine WL.no rfl rfl rfl (by decide) ?_
            refine WL.no rfl rfl rfl (by decide) ?_
            refine WL.no rfl rfl rfl (by decide) ?_
            refine WL.x (X.pickF rfl rfl rfl) (by decide) ?_
            refine WL.x (X.move rfl) (by decide) ?_
            refine WL.no rfl rfl rfl (by decide) ?_
            refine WL.no rfl rfl rfl (by decide) ?_
            refine WL.no rfl rfl rfl (by decide) ?_
            refine WL.no rfl rfl rfl (by decide) ?_
            refine WL.no rfl rfl rfl (by decide) ?_
            refine WL.no rfl rfl rfl (by decide) ?_
            refine WL.x (X.pickF rfl rfl rfl) (by decide) ?_
            refine WL.x (X.move rfl) (by decide) ?_
            refine WL.no rfl rfl rfl (by decide) ?_
            refine WL.no rfl rfl rfl (by decide) ?_
            refine WL.no rfl rfl rfl (by decide) ?_
            refine WL.no rfl rfl rfl (by decide) ?_
            refine WL.no rfl rfl rfl (by decide) ?_
            refine WL.no rfl rfl rfl (by decide) ?_
            refine WL.x (X.pickF rfl rfl rfl) (by decide) ?_
            refine WL.x (X.assign rfl) (by decide) ?_
            refine WL.nil ?_
            refine WK.nThen ?_
            refine WC.ret ?_
            refine WK.ret1 rfl rfl (fun w' hw' => Ret.exact hw' ?_)
            first | rfl | (exfalso; omega) | (exfalso; contradiction) | (exfalso; have q_ := decide_eq_decide.2 hsl3; contradiction) | exact (bool_true (decide_eq_decide.2 hsl4)).symm | exact (bool_true (by omega)).symm
  ·refine WL.yes rfl rfl ?_
   refine WL.x (X.not rfl) (by decide) ?_
   refine WL.x (X.pickF rfl rfl rfl) (by decide) ?_
   refine WL.nil ?_
   refine WK.nThen ?_
   refine WC.condT rfl ?_
   refine WC.seq ?_
   refine WC.region ?_
   refine WL.x (X.move rfl) (by decide) ?_
   refine WL.x (X.assign rfl) (by decide) ?_
   refine WL.nil ?_
   refine WK.nThen ?_
   refine WC.ret ?_
   refine WK.rThen ?_
   refine WK.ret1 rfl rfl (fun w' hw' => Ret.exact hw' ?_)
   first | rfl | (exfalso; omega) | (exfalso; contradiction) | (exfalso; have q_ := decide_eq_decide.2 hsl3; contradiction) | exact (bool_true (decide_eq_decide.2 hsl4)).symm | exact (bool_true (by omega)).symm
 ·refine WL.x (X.not rfl) (by decide) ?_
  refine WL.x (X.move rfl) (by decide) ?_
  refine WL.no rfl rfl rfl (by decide) ?_
  refine WL.no rfl rfl rfl (by decide) ?_
  refine WL.no rfl rfl rfl (by decide) ?_
  refine WL.x (X.pickT rfl rfl rfl) (by decide) ?_
  refine WL.nil ?_
  refine WK.nThen ?_
  refine WC.condT rfl ?_
  refine WC.seq ?_
  refine WC.region ?_
  refine WL.x (X.move rfl) (by decide) ?_
  refine WL.x (X.assign rfl) (by decide) ?_
  refine WL.nil ?_
  refine WK.nThen ?_
  refine WC.ret ?_
  refine WK.rThen ?_
  refine WK.ret1 rfl rfl (fun w' hw' => Ret.exact hw' ?_)
  first | rfl | (exfalso; omega) | (exfalso; contradiction) | (exfalso; have q_ := decide_eq_decide.2 hsl3; contradiction) | exact (bool_true (decide_eq_decide.2 hsl4)).symm | exact (bool_true (by omega)).symm
end Go.Proofs.C8
