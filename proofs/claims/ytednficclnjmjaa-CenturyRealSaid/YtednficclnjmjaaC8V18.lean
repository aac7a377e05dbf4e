/- The walk of the statement CenturyReal: its function answers true. -/
import Derived.Test.YtednficclnjmjaaC8Br
import Derived.Test.YtednficclnjmjaaC8W9
import Derived.Test.YtednficclnjmjaaC8LReal
import Derived.Test.YtednficclnjmjaaC8W11
namespace Go.Proofs.C8
open Go Go.Kx
set_option linter.unusedSimpArgs false
set_option linter.unusedVariables false
set_option maxRecDepth 20000 in
set_option maxHeartbeats 4000000 in
theorem law18 (m : Mem) (cs : List Value) (s : Ser) (hs : Enc.rd m cs s) (cx : List Value) (x : Rl) (hx : Enc.rd m cx x) (ca : List Value) (a : Span) (ha : Enc.rd m ca a) (cb : List Value) (b : Span) (hb : Enc.rd m cb b)  (ok0 : Rng.ok s) (ok1 : Rng.ok x) (ok2 : Rng.ok a) (ok3 : Rng.ok b) : Exact Try.prog 18 #[.agg cs.toArray, .agg cx.toArray, .agg ca.toArray, .agg cb.toArray] m (.bool true) := by
 obtain ⟨v1, v3, rfl, hs2, hs4⟩ := hs
 have hl5 := hs2.le
 have hl6 := hs4.le
 obtain ⟨v7, v9, rfl, hs8, hs10⟩ := hx
 have hl11 := hs8.le
 have hl12 := hs10.le
 obtain rfl := ha
 obtain rfl := hb
 refine Exact.start Try.func18 rfl Try.ntmps18 rfl fun wld => ?_
 refine WC.seq ?_
 refine WC.region ?_
 refine WL.tn (T.boxB rfl rfl) (by decide) fun b13 => ?_
 refine WL.tn (T.boxB rfl rfl) (by decide) fun b14 => ?_
 refine WL.tn (T.boxB rfl rfl) (by decide) fun b15 => ?_
 refine WL.tn (T.boxB rfl rfl) (by decide) fun b16 => ?_
 refine WL.x (X.assign rfl) (by decide) ?_
 refine WL.nil ?_
 refine WK.nThen ?_
 refine WC.seq ?_
 refine WC.region ?_
 refine WL.x (X.call Try.call21 rfl (awake21 _  )) (by decide) ?_
 refine WL.x (X.assign rfl) (by decide) ?_
 refine WL.nil ?_
 refine WK.nThen ?_
 refine WC.seq ?_
 refine WC.seq ?_
 refine WC.region ?_
 refine WL.x (X.loadBA (k := 3) Try.isAgg25 Try.sizeOf25 rfl rfl rfl) (by decide) ?_
 refine WL.cond (X.call Try.call22 rfl (few22 _ _ s ⟨_, _, rfl, hs2, hs4⟩ )) (by decide) (fun h17 => ?_) (fun h17 => ?_)
 ·refine WL.x (X.not rfl) (by decide) ?_
  refine WL.x (X.move rfl) (by decide) ?_
  refine WL.yes rfl rfl ?_
  refine WL.x (X.loadBA (k := 2) Try.isAgg52 Try.sizeOf52 rfl rfl rfl) (by decide) ?_
  refine WL.yes rfl rfl ?_
  refine WL.cond (X.call Try.call38 rfl (light38 _ _ x ⟨_, _, rfl, hs8, hs10⟩ )) (by decide) (fun h18 => ?_) (fun h18 => ?_)
  ·refine WL.yes rfl rfl ?_
   refine WL.x (X.not rfl) (by decide) ?_
   refine WL.x (X.pickF rfl rfl rfl) (by decide) ?_
   refine WL.nil ?_
   refine WK.nThen ?_
   refine WC.condF rfl ?_
   refine WC.skip ?_
   refine WK.nThen ?_
   refine WC.seq ?_
   refine WC.region ?_
   refine WL.x (X.loadBA (k := 3) Try.isAgg25 Try.sizeOf25 rfl rfl rfl) (by decide) ?_
   refine WL.x (X.field Try.runUnderlying52 rfl Try.sizeOf28 rfl) (by decide) ?_
   refine WL.x (X.loadB (k := 2) Try.isAgg28 rfl rfl rfl) (by decide) ?_
   refine WL.x (X.field Try.runUnderlying52 rfl Try.sizeOf28 rfl) (by decide) ?_
   refine WL.x (X.loadB (k := 2) Try.isAgg28 rfl rfl rfl) (by decide) ?_
   refine WL.tm (T.call Try.call39 rfl (even39 _ _ s ⟨_, _, rfl, hs2, hs4⟩ _ _ hs8 _ _ hs10 )) (by decide) fun m19 r20 hle21 hR22 => ?_
   obtain ⟨v23, rfl, hs24⟩ := hR22
   replace hs2 := hs2.mono hle21
   replace hs4 := hs4.mono hle21
   replace hs8 := hs8.mono hle21
   replace hs10 := hs10.mono hle21
   have hl25 := hs24.le
   refine WL.x (X.move rfl) (by decide) ?_
   refine WL.x (X.extract rfl rfl) (by decide) ?_
   refine WL.x (X.extract rfl rfl) (by decide) ?_
   refine WL.x (X.assign rfl) (by decide) ?_
   refine WL.x (X.assign rfl) (by decide) ?_
   refine WL.nil ?_
   refine WK.nThen ?_
   refine WC.seq ?_
   refine WC.seq ?_
   refine WC.region ?_
   refine WL.x (X.move rfl) (by decide) ?_
   refine WL.condn (X.neq rfl rfl) (by decide) (fun h26 => ?_) (fun h26 => ?_)
   ·refine WL.nil ?_
    refine WK.nThen ?_
    refine WC.condT rfl ?_
    refine WC.seq ?_
    refine WC.region ?_
    refine WL.x (X.move rfl) (by decide) ?_
    refine WL.x (X.assign rfl) (by decide) ?_
    refine WL.nil ?_
    refine WK.nThen ?_
    refine WC.ret ?_
    refine WK.rThen ?_
    refine WK.ret1 rfl rfl (fun w' hw' => Ret.exact hw' ?_)
    first | rfl | (exfalso; omega) | (exfalso; contradiction) | (exfalso; have q_ := hc2 (by omega); contradiction) | (exfalso; have q_ := hc3 (by omega); contradiction) | exact (bool_true (by omega)).symm | exact (bool_true (by have q_ := hs5_ (by omega); omega)).symm | exact (bool_true (by have q_ := hs6_ (by omega); omega)).symm | (exfalso; have q_ := hs5_ (by omega); omega) | (exfalso; have q_ := hs6_ (by omega); omega)
   ·refine WL.nil ?_
    refine WK.nThen ?_
    refine WC.condF rfl ?_
    refine WC.skip ?_
    refine WK.nThen ?_
    refine WC.seq ?_
    have he := evenR_ok (s := s) (lv := x.Levels) (sh := x.Shifts) (by omega)
    have hek := he.1
    have hea := he.2.1
    have her : (evenR s x.Levels x.Shifts).1 = evenL s x.Levels x.Shifts := (by rw [he.2.2])
    have hel := evenL_len s x.Levels x.Shifts
    have heb := evenL_bd hek hea
    have hen := hek.nV
    have hok := hek
    have hev : (evsR s).1 = evsL s := (by unfold evsR; rw [if_neg (by rw [hek.e]; omega)])
    have hev2 : (evsR s).2 = 0 := (by unfold evsR; rw [if_neg (by rw [hek.e]; omega)])
    have hevl : (evsL s).length = s.Values.length := map_len _ _
    rw [her] at hs24
    refine WC.region ?_
    refine WL.x (X.loadBA (k := 3) Try.isAgg25 Try.sizeOf25 rfl rfl rfl) (by decide) ?_
    refine WL.tm (T.call Try.call50 rfl (evens50 _ _ s ⟨_, _, rfl, hs2, hs4⟩ )) (by decide) fun m27 r28 hle29 hR30 => ?_
    obtain ⟨v31, rfl, hs32⟩ := hR30
    replace hs2 := hs2.mono hle29
    replace hs4 := hs4.mono hle29
    replace hs8 := hs8.mono hle29
    replace hs10 := hs10.mono hle29
    replace hs24 := hs24.mono hle29
    have hl33 := hs32.le
    refine WL.x (X.move rfl) (by decide) ?_
    refine WL.x (X.extract rfl rfl) (by decide) ?_
    refine WL.x (X.extract rfl rfl) (by decide) ?_
    refine WL.x (X.assign rfl) (by decide) ?_
    refine WL.x (X.assign rfl) (by decide) ?_
    refine WL.nil ?_
    refine WK.nThen ?_
    refine WC.seq ?_
    refine WC.seq ?_
    rw [hev] at hs32
    rw [hev2]
    refine WC.region ?_
    refine WL.x (X.move rfl) (by decide) ?_
    refine WL.x (X.neq rfl rfl) (by decide) ?_
    refine WL.x (X.move rfl) (by decide) ?_
    refine WL.yes rfl rfl ?_
    refine WL.x (X.move rfl) (by decide) ?_
    refine WL.yes rfl rfl ?_
    refine WL.x (X.len Try.runUnderlying74 rfl hs32) (by decide) ?_
    refine WL.yes rfl rfl ?_
    refine WL.x (X.move rfl) (by decide) ?_
    refine WL.yes rfl rfl ?_
    refine WL.x (X.len Try.runUnderlying28 rfl hs24) (by decide) ?_
    refine WL.yes rfl rfl ?_
    refine WL.condn (X.neq rfl rfl) (by decide) (fun h34 => ?_) (fun h34 => ?_)
    ·refine WL.x (X.pickF rfl rfl rfl) (by decide) ?_
     refine WL.nil ?_
     refine WK.nThen ?_
     refine WC.condT rfl ?_
     refine WC.seq ?_
     refine WC.region ?_
     refine WL.x (X.assign rfl) (by decide) ?_
     refine WL.nil ?_
     refine WK.nThen ?_
     refine WC.ret ?_
     refine WK.rThen ?_
     refine WK.ret1 rfl rfl (fun w' hw' => Ret.exact hw' ?_)
     first | rfl | (exfalso; omega) | (exfalso; contradiction) | (exfalso; have q_ := hc2 (by omega); contradiction) | (exfalso; have q_ := hc3 (by omega); contradiction) | exact (bool_true (by omega)).symm | exact (bool_true (by have q_ := hs5_ (by omega); omega)).symm | exact (bool_true (by have q_ := hs6_ (by omega); omega)).symm | (exfalso; have q_ := hs5_ (by omega); omega) | (exfalso; have q_ := hs6_ (by omega); omega)
    ·refine WL.x (X.pickF rfl rfl rfl) (by decide) ?_
     refine WL.nil ?_
     refine WK.nThen ?_
     refine WC.condF rfl ?_
     refine WC.skip ?_
     refine WK.nThen ?_
     refine WC.seq ?_
     refine WC.seq ?_
     refine WC.region ?_
     refine WL.x (X.assign rfl) (by decide) ?_
     refine WL.nil ?_
     refine WK.nThen ?_
     refine WC.block ?_
     refine WC.loop (G := Nat) (fun i => s.Values.length - i) (fun i => m27) (fun i => [blk b16 33 [.int .i64 (b.Lo), .int .i64 (b.Hi)], blk b15 33 [.int .i64 (a.Lo), .int .i64 (a.Hi)], blk b14 52 [v7, v9], blk b13 25 [v1, v3]]) (fun i => [(4, .pointer (some ⟨b13, 0, none⟩)), (6, .pointer (some ⟨b15, 0, none⟩)), (7, .pointer (some ⟨b16, 0, none⟩)), (9, .bool true), (10, v23), (12, v31), (14, .int .i64 (↑i))]) (fun i => i ≤ s.Values.length) 0 rfl (.refl _) (.cons rfl (.cons rfl (.cons rfl (.cons rfl (.cons rfl (.cons rfl (.cons rfl .nil))))))) ?_ ?_
     ·exact Nat.zero_le _
     ·rintro i hF35
      show WK _ _ m27 [blk b16 33 [.int .i64 (b.Lo), .int .i64 (b.Hi)], blk b15 33 [.int .i64 (a.Lo), .int .i64 (a.Hi)], blk b14 52 [v7, v9], blk b13 25 [v1, v3]] [(4, .pointer (some ⟨b13, 0, none⟩)), (6, .pointer (some ⟨b15, 0, none⟩)), (7, .pointer (some ⟨b16, 0, none⟩)), (9, .bool true), (10, v23), (12, v31), (14, .int .i64 (↑i))] _
      replace hF35 : i ≤ s.Values.length := hF35
      have hi := hF35
      refine WC.seq ?_
      refine WC.seq ?_
      refine WC.region ?_
      refine WL.x (X.move rfl) (by decide) ?_
      refine WL.x (X.move rfl) (by decide) ?_
      refine WL.x (X.len Try.runUnderlying28 rfl hs24) (by decide) ?_
      refine WL.cond (X.lss rfl rfl) (by decide) (fun h36 => ?_) (fun h36 => ?_)
      ·refine WL.nil ?_
       refine WK.nThen ?_
       refine WC.condT rfl ?_
       refine WC.skip ?_
       refine WK.nThen ?_
       refine WC.seq ?_
       refine WC.block ?_
       refine WC.seq ?_
       have hin := even_in hek hea (i := i) (by omega)
       have hin2 : inT (gt (evsL s) i) (gt (evenL s x.Levels x.Shifts) i) := (by rw [evsL_at (by omega), evenL_at (by omega)]; exact hin)
       refine WC.draw (π := (.cons 0 (.cons 1 (.cons 2 (.cons 3 (.cons 4 (.cons 5 (.cons 6 (.cons 7 (.cons 8 (.cons 9 .done))))))))))) [] [] rfl (by kernel_rfl) ?_
       refine DW.x rfl rfl (X.move rfl) (by decide) ?_
       refine DW.x rfl rfl (X.move rfl) (by decide) ?_
       refine DW.xe rfl rfl (E.idxN i Try.runUnderlying74 Try.sizeOf33 rfl rfl hs32 (by omega)) (by decide) (fun p37 hp38 => ?_)
       refine DW.xe rfl rfl (E.loadAgg Try.isAgg33 Try.sizeOf33 rfl hp38) (by decide) (fun c39 hc40 => ?_)
       obtain rfl := hc40
       refine DW.x rfl rfl (X.move rfl) (by decide) ?_
       refine DW.x rfl rfl (X.move rfl) (by decide) ?_
       refine DW.xe rfl rfl (E.idxN i Try.runUnderlying28 Try.sizeOf3 rfl rfl hs24 (by omega)) (by decide) (fun p41 hp42 => ?_)
       refine DW.x rfl rfl (X.loadInt Try.isAgg3 rfl hp42) (by decide) ?_
       refine DW.cond rfl rfl (X.call Try.call41 rfl (in41 _ _ (gt (evsL s) i) rfl _ )) (by decide) (fun h43 => ?_) (fun h43 => ?_)
       ·refine DW.x rfl rfl (X.not rfl) (by decide) ?_
        refine DW.nil ?_
        refine WK.nThen ?_
        refine WC.condF rfl ?_
        refine WC.skip ?_
        refine WK.nBlock ?_
        refine WK.nThen ?_
        refine WC.region ?_
        refine WL.x (X.move rfl) (by decide) ?_
        refine WL.x (X.add rfl rfl (by omega) (by omega)) (by decide) ?_
        refine WL.x (X.assign rfl) (by decide) ?_
        refine WL.nil ?_
        refine WK.nThen ?_
        refine WK.next (i + 1) rfl (.refl _) (.cons rfl (.cons rfl (.cons rfl (.cons rfl (.cons rfl (.cons rfl (.cons rfl .nil))))))) ?_ ?_
        ·omega
        ·omega
       ·refine DW.x rfl rfl (X.not rfl) (by decide) ?_
        refine DW.nil ?_
        refine WK.nThen ?_
        refine WC.condT rfl ?_
        refine WC.seq ?_
        refine WC.region ?_
        refine WL.x (X.assign rfl) (by decide) ?_
        refine WL.nil ?_
        refine WK.nThen ?_
        refine WC.ret ?_
        refine WK.rBlock ?_
        refine WK.rThen ?_
        refine WK.rThen ?_
        refine WK.rBlock ?_
        refine WK.rThen ?_
        refine WK.ret1 rfl rfl (fun w' hw' => Ret.exact hw' ?_)
        first | rfl | (exfalso; omega) | (exfalso; contradiction) | (exfalso; have q_ := hc2 (by omega); contradiction) | (exfalso; have q_ := hc3 (by omega); contradiction) | exact (bool_true (by omega)).symm | exact (bool_true (by have q_ := hs5_ (by omega); omega)).symm | exact (bool_true (by have q_ := hs6_ (by omega); omega)).symm | (exfalso; have q_ := hs5_ (by omega); omega) | (exfalso; have q_ := hs6_ (by omega); omega)
      ·refine WL.nil ?_
       refine WK.nThen ?_
       refine WC.condF rfl ?_
       refine WC.exit ?_
       refine WK.eThen ?_
       refine WK.eThen ?_
       refine WK.eHit ?_
       refine WK.nThen ?_
       refine WC.seq ?_
       refine WC.region ?_
       refine WL.x (X.loadBA (k := 3) Try.isAgg25 Try.sizeOf25 rfl rfl rfl) (by decide) ?_
       refine WL.x (X.loadBA (k := 1) Try.isAgg33 Try.sizeOf33 rfl rfl rfl) (by decide) ?_
       refine WL.x (X.call Try.call66 rfl (mean66 _ _ s ⟨_, _, rfl, hs2, hs4⟩ _ a rfl )) (by decide) ?_
       refine WL.x (X.move rfl) (by decide) ?_
       refine WL.x (X.extract rfl rfl) (by decide) ?_
       refine WL.x (X.extract rfl rfl) (by decide) ?_
       refine WL.x (X.extract rfl rfl) (by decide) ?_
       refine WL.tn (T.alloc Try.zeroValue45 rfl) (by decide) fun b44 => ?_
       refine WL.tn (T.alloc Try.zeroValue45 rfl) (by decide) fun b45 => ?_
       refine WL.ts (T.storeBA (k := 1) Try.sizeOf45 rfl rfl rfl (one_cons rfl (one_cons rfl one_nil)) rfl rfl) ?_
       refine WL.ts (T.storeBA (k := 0) Try.sizeOf45 rfl rfl rfl (one_cons rfl (one_cons rfl one_nil)) rfl rfl) ?_
       refine WL.x (X.assign rfl) (by decide) ?_
       refine WL.nil ?_
       refine WK.nThen ?_
       refine WC.seq ?_
       refine WC.region ?_
       refine WL.x (X.loadBA (k := 5) Try.isAgg25 Try.sizeOf25 rfl rfl rfl) (by decide) ?_
       refine WL.x (X.move rfl) (by decide) ?_
       refine WL.x (X.loadBA (k := 3) Try.isAgg33 Try.sizeOf33 rfl rfl rfl) (by decide) ?_
       refine WL.x (X.call Try.call40 rfl (mean40 _ _ s ⟨_, _, rfl, hs2, hs4⟩ _ _ hs24 _ a rfl (by omega) (by assumption))) (by decide) ?_
       refine WL.x (X.move rfl) (by decide) ?_
       refine WL.x (X.extract rfl rfl) (by decide) ?_
       refine WL.x (X.extract rfl rfl) (by decide) ?_
       refine WL.x (X.extract rfl rfl) (by decide) ?_
       refine WL.tn (T.alloc Try.zeroValue45 rfl) (by decide) fun b46 => ?_
       refine WL.tn (T.alloc Try.zeroValue33 rfl) (by decide) fun b47 => ?_
       refine WL.ts (T.storeBA (k := 1) Try.sizeOf45 rfl rfl rfl (one_cons rfl (one_cons rfl one_nil)) rfl rfl) ?_
       refine WL.ts (T.storeBA (k := 0) Try.sizeOf33 rfl rfl rfl (one_cons rfl (one_cons rfl one_nil)) rfl rfl) ?_
       refine WL.x (X.assign rfl) (by decide) ?_
       refine WL.nil ?_
       refine WK.nThen ?_
       refine WC.seq ?_
       refine WC.seq ?_
       refine WC.region ?_
       refine WL.x (X.move rfl) (by decide) ?_
       refine WL.cond (X.eql rfl rfl) (by decide) (fun h48 => ?_) (fun h48 => ?_)
       ·have hm := mean_real hea (x := a) (by omega)
        have hm0 := hm.1
        have hm1 := hm.2.1
        have hm2 := hm.2.2.1
        have hm3 := hm.2.2.2.1
        have hm4 := hm.2.2.2.2
        unfold LBd at hm0 hm1 hm2
        refine WL.x (X.move rfl) (by decide) ?_
        refine WL.yes rfl rfl ?_
        refine WL.x (X.move rfl) (by decide) ?_
        refine WL.yes rfl rfl ?_
        refine WL.condn (X.notp rfl) (by decide) (fun h49 => ?_) (fun h49 => ?_)
        ·refine WL.yes rfl rfl ?_
         refine WL.x (X.move rfl) (by decide) ?_
         refine WL.no rfl rfl rfl (by decide) ?_
         refine WL.no rfl rfl rfl (by decide) ?_
         refine WL.no rfl rfl rfl (by decide) ?_
         refine WL.yes rfl rfl ?_
         refine WL.x (X.pickT rfl rfl rfl) (by decide) ?_
         refine WL.yes rfl rfl ?_
         refine WL.x (X.move rfl) (by decide) ?_
         refine WL.no rfl rfl rfl (by decide) ?_
         refine WL.no rfl rfl rfl (by decide) ?_
         refine WL.no rfl rfl rfl (by decide) ?_
         refine WL.yes rfl rfl ?_
         refine WL.x (X.pickT rfl rfl rfl) (by decide) ?_
         refine WL.x (X.pickT rfl rfl rfl) (by decide) ?_
         refine WL.nil ?_
         refine WK.nThen ?_
         refine WC.condT rfl ?_
         refine WC.seq ?_
         refine WC.region ?_
         refine WL.x (X.assign rfl) (by decide) ?_
         refine WL.nil ?_
         refine WK.nThen ?_
         refine WC.ret ?_
         refine WK.rThen ?_
         refine WK.ret1 rfl rfl (fun w' hw' => Ret.exact hw' ?_)
         first | rfl | (exfalso; omega) | (exfalso; contradiction) | (exfalso; have q_ := hc2 (by omega); contradiction) | (exfalso; have q_ := hc3 (by omega); contradiction) | exact (bool_true (by omega)).symm | exact (bool_true (by have q_ := hs5_ (by omega); omega)).symm | exact (bool_true (by have q_ := hs6_ (by omega); omega)).symm | (exfalso; have q_ := hs5_ (by omega); omega) | (exfalso; have q_ := hs6_ (by omega); omega)
        ·refine WL.yes rfl rfl ?_
         refine WL.x (X.move rfl) (by decide) ?_
         refine WL.yes rfl rfl ?_
         refine WL.x (X.loadBA (k := 1) Try.isAgg45 Try.sizeOf45 rfl rfl rfl) (by decide) ?_
         refine WL.yes rfl rfl ?_
         refine WL.x (X.loadBA (k := 3) Try.isAgg45 Try.sizeOf45 rfl rfl rfl) (by decide) ?_
         refine WL.yes rfl rfl ?_
         refine WL.x (OpX.f (X.call Try.call67 rfl (less67 _ _ ((meanR s ((evenL s x.Levels x.Shifts)) a).1) rfl _ ((mbR s a).1) rfl (by omega) (by omega))) hm3) (by decide) ?_
         refine WL.yes rfl rfl ?_
         refine WL.x (X.pickF rfl rfl rfl) (by decide) ?_
         refine WL.yes rfl rfl ?_
         refine WL.x (X.move rfl) (by decide) ?_
         refine WL.yes rfl rfl ?_
         refine WL.x (X.loadBA (k := 2) Try.isAgg45 Try.sizeOf45 rfl rfl rfl) (by decide) ?_
         refine WL.yes rfl rfl ?_
         refine WL.x (X.loadBA (k := 1) Try.isAgg45 Try.sizeOf45 rfl rfl rfl) (by decide) ?_
         refine WL.yes rfl rfl ?_
         refine WL.x (OpX.f (X.call Try.call67 rfl (less67 _ _ ((mbR s a).2.1) rfl _ ((meanR s ((evenL s x.Levels x.Shifts)) a).1) rfl (by omega) (by omega))) hm4) (by decide) ?_
         refine WL.yes rfl rfl ?_
         refine WL.x (X.pickF rfl rfl rfl) (by decide) ?_
         refine WL.x (X.pickT rfl rfl rfl) (by decide) ?_
         refine WL.nil ?_
         refine WK.nThen ?_
         refine WC.condF rfl ?_
         refine WC.skip ?_
         refine WK.nThen ?_
         refine WC.seq ?_
         refine WC.region ?_
         refine WL.x (X.loadBA (k := 7) Try.isAgg25 Try.sizeOf25 rfl rfl rfl) (by decide) ?_
         refine WL.x (X.move rfl) (by decide) ?_
         refine WL.x (X.loadBA (k := 4) Try.isAgg33 Try.sizeOf33 rfl rfl rfl) (by decide) ?_
         refine WL.x (X.call Try.call40 rfl (mean40 _ _ s ⟨_, _, rfl, hs2, hs4⟩ _ _ hs24 _ b rfl (by omega) (by assumption))) (by decide) ?_
         refine WL.x (X.move rfl) (by decide) ?_
         refine WL.x (X.extract rfl rfl) (by decide) ?_
         refine WL.x (X.extract rfl rfl) (by decide) ?_
         refine WL.x (X.extract rfl rfl) (by decide) ?_
         refine WL.tn (T.alloc Try.zeroValue45 rfl) (by decide) fun b50 => ?_
         refine WL.tn (T.alloc Try.zeroValue33 rfl) (by decide) fun b51 => ?_
         refine WL.ts (T.storeBA (k := 1) Try.sizeOf45 rfl rfl rfl (one_cons rfl (one_cons rfl one_nil)) rfl rfl) ?_
         refine WL.ts (T.storeBA (k := 0) Try.sizeOf33 rfl rfl rfl (one_cons rfl (one_cons rfl one_nil)) rfl rfl) ?_
         refine WL.x (X.assign rfl) (by decide) ?_
         refine WL.nil ?_
         refine WK.nThen ?_
         refine WC.seq ?_
         refine WC.region ?_
         refine WL.x (X.loadBA (k := 9) Try.isAgg25 Try.sizeOf25 rfl rfl rfl) (by decide) ?_
         refine WL.x (X.loadBA (k := 7) Try.isAgg33 Try.sizeOf33 rfl rfl rfl) (by decide) ?_
         refine WL.x (X.loadBA (k := 6) Try.isAgg33 Try.sizeOf33 rfl rfl rfl) (by decide) ?_
         refine WL.x (X.call Try.call71 rfl (change71 _ _ s ⟨_, _, rfl, hs2, hs4⟩ _ a rfl _ b rfl )) (by decide) ?_
         refine WL.x (X.move rfl) (by decide) ?_
         refine WL.x (X.extract rfl rfl) (by decide) ?_
         refine WL.x (X.extract rfl rfl) (by decide) ?_
         refine WL.x (X.assign rfl) (by decide) ?_
         refine WL.x (X.assign rfl) (by decide) ?_
         refine WL.nil ?_
         refine WK.nThen ?_
         refine WC.seq ?_
         refine WC.seq ?_
         refine WC.region ?_
         refine WL.x (X.move rfl) (by decide) ?_
         refine WL.cond (X.eql rfl rfl) (by decide) (fun h52 => ?_) (fun h52 => ?_)
         ·have hc := chg_real hea (a := a) (b := b) (by omega)
          have hc0 := hc.1
          have hc1 := hc.2.1
          have hc2 := hc.2.2.1
          have hc3 := hc.2.2.2
          unfold LBd at hc0 hc1
          refine WL.x (X.move rfl) (by decide) ?_
          refine WL.yes rfl rfl ?_
          refine WL.x (X.move rfl) (by decide) ?_
          refine WL.yes rfl rfl ?_
          refine WL.condn (X.notp rfl) (by decide) (fun h53 => ?_) (fun h53 => ?_)
          ·refine WL.yes rfl rfl ?_
           refine WL.x (X.move rfl) (by decide) ?_
           refine WL.no rfl rfl rfl (by decide) ?_
           refine WL.no rfl rfl rfl (by decide) ?_
           refine WL.yes rfl rfl ?_
           refine WL.x (X.pickT rfl rfl rfl) (by decide) ?_
           refine WL.yes rfl rfl ?_
           refine WL.x (X.move rfl) (by decide) ?_
           refine WL.no rfl rfl rfl (by decide) ?_
           refine WL.no rfl rfl rfl (by decide) ?_
           refine WL.no rfl rfl rfl (by decide) ?_
           refine WL.noU rfl rfl (by decide) ?_
           refine WL.noU rfl rfl (by decide) ?_
           refine WL.noU rfl rfl (by decide) ?_
           refine WL.noU rfl rfl (by decide) ?_
           refine WL.no rfl rfl rfl (by decide) ?_
           refine WL.yes rfl rfl ?_
           refine WL.x (X.pickT rfl rfl rfl) (by decide) ?_
           refine WL.yes rfl rfl ?_
           refine WL.x (X.move rfl) (by decide) ?_
           refine WL.no rfl rfl rfl (by decide) ?_
           refine WL.no rfl rfl rfl (by decide) ?_
           refine WL.no rfl rfl rfl (by decide) ?_
           refine WL.noU rfl rfl (by decide) ?_
           refine WL.noU rfl rfl (by decide) ?_
           refine WL.noU rfl rfl (by decide) ?_
           refine WL.noU rfl rfl (by decide) ?_
           refine WL.no rfl rfl rfl (by decide) ?_
           refine WL.yes rfl rfl ?_
           refine WL.x (X.pickT rfl rfl rfl) (by decide) ?_
           refine WL.x (X.pickT rfl rfl rfl) (by decide) ?_
           refine WL.nil ?_
           refine WK.nThen ?_
           refine WC.condT rfl ?_
           refine WC.seq ?_
           refine WC.region ?_
           refine WL.x (X.assign rfl) (by decide) ?_
           refine WL.nil ?_
           refine WK.nThen ?_
           refine WC.ret ?_
           refine WK.rThen ?_
           refine WK.ret1 rfl rfl (fun w' hw' => Ret.exact hw' ?_)
           first | rfl | (exfalso; omega) | (exfalso; contradiction) | (exfalso; have q_ := hc2 (by omega); contradiction) | (exfalso; have q_ := hc3 (by omega); contradiction) | exact (bool_true (by omega)).symm | exact (bool_true (by have q_ := hs5_ (by omega); omega)).symm | exact (bool_true (by have q_ := hs6_ (by omega); omega)).symm | (exfalso; have q_ := hs5_ (by omega); omega) | (exfalso; have q_ := hs6_ (by omega); omega)
          ·refine WL.yes rfl rfl ?_
           refine WL.x (X.move rfl) (by decide) ?_
           refine WL.yes rfl rfl ?_
           refine WL.x (X.move rfl) (by decide) ?_
           refine WL.yes rfl rfl ?_
           refine WL.condn (X.notp rfl) (by decide) (fun h54 => ?_) (fun h54 => ?_)
           ·refine WL.yes rfl rfl ?_
            refine WL.x (X.pickF rfl rfl rfl) (by decide) ?_
            refine WL.yes rfl rfl ?_
            refine WL.x (X.move rfl) (by decide) ?_
            refine WL.no rfl rfl rfl (by decide) ?_
            refine WL.no rfl rfl rfl (by decide) ?_
            refine WL.no rfl rfl rfl (by decide) ?_
            refine WL.noU rfl rfl (by decide) ?_
            refine WL.noU rfl rfl (by decide) ?_
            refine WL.noU rfl rfl (by decide) ?_
            refine WL.noU rfl rfl (by decide) ?_
            refine WL.no rfl rfl rfl (by decide) ?_
            refine WL.yes rfl rfl ?_
            refine WL.x (X.pickT rfl rfl rfl) (by decide) ?_
            refine WL.yes rfl rfl ?_
            refine WL.x (X.move rfl) (by decide) ?_
            refine WL.no rfl rfl rfl (by decide) ?_
            refine WL.no rfl rfl rfl (by decide) ?_
            refine WL.no rfl rfl rfl (by decide) ?_
            refine WL.noU rfl rfl (by decide) ?_
            refine WL.noU rfl rfl (by decide) ?_
            refine WL.noU rfl rfl (by decide) ?_
            refine WL.noU rfl rfl (by decide) ?_
            refine WL.no rfl rfl rfl (by decide) ?_
            refine WL.yes rfl rfl ?_
            refine WL.x (X.pickT rfl rfl rfl) (by decide) ?_
            refine WL.x (X.pickT rfl rfl rfl) (by decide) ?_
            refine WL.nil ?_
            refine WK.nThen ?_
            refine WC.condT rfl ?_
            refine WC.seq ?_
            refine WC.region ?_
            refine WL.x (X.assign rfl) (by decide) ?_
            refine WL.nil ?_
            refine WK.nThen ?_
            refine WC.ret ?_
            refine WK.rThen ?_
            refine WK.ret1 rfl rfl (fun w' hw' => Ret.exact hw' ?_)
            first | rfl | (exfalso; omega) | (exfalso; contradiction) | (exfalso; have q_ := hc2 (by omega); contradiction) | (exfalso; have q_ := hc3 (by omega); contradiction) | exact (bool_true (by omega)).symm | exact (bool_true (by have q_ := hs5_ (by omega); omega)).symm | exact (bool_true (by have q_ := hs6_ (by omega); omega)).symm | (exfalso; have q_ := hs5_ (by omega); omega) | (exfalso; have q_ := hs6_ (by omega); omega)
           ·refine WL.yes rfl rfl ?_
            refine WL.x (X.pickF rfl rfl rfl) (by decide) ?_
            refine WL.yes rfl rfl ?_
            refine WL.x (X.move rfl) (by decide) ?_
            refine WL.yes rfl rfl ?_
            refine WL.x (X.move rfl) (by decide) ?_
            refine WL.yes rfl rfl ?_
            refine WL.cond (X.eql rfl rfl) (by decide) (fun h55 => ?_) (fun h55 => ?_)
            ·refine WL.yes rfl rfl ?_
             refine WL.x (X.move rfl) (by decide) ?_
             refine WL.yes rfl rfl ?_
             refine WL.x (X.loadBA (k := 3) Try.isAgg45 Try.sizeOf45 rfl rfl rfl) (by decide) ?_
             refine WL.yes rfl rfl ?_
             refine WL.x (X.loadBA (k := 1) Try.isAgg45 Try.sizeOf45 rfl rfl rfl) (by decide) ?_
             refine WL.yes rfl rfl ?_
             refine WL.cond (X.call Try.call67 rfl (less67 _ _ ((meanR s ((evenL s x.Levels x.Shifts)) a).1) rfl _ ((meanR s ((evenL s x.Levels x.Shifts)) b).1) rfl (by omega) (by omega))) (by decide) (fun h56 => ?_) (fun h56 => ?_)
             ·refine WL.yes rfl rfl ?_
              refine WL.x (X.not rfl) (by decide) ?_
              refine WL.yes rfl rfl ?_
              refine WL.x (X.pickT rfl rfl rfl) (by decide) ?_
              refine WL.yes rfl rfl ?_
              refine WL.x (X.pickF rfl rfl rfl) (by decide) ?_
              refine WL.yes rfl rfl ?_
              refine WL.x (X.move rfl) (by decide) ?_
              refine WL.yes rfl rfl ?_
              refine WL.x (X.move rfl) (by decide) ?_
              refine WL.yes rfl rfl ?_
              refine WL.cond (X.eql rfl rfl) (by decide) (fun h57 => ?_) (fun h57 => ?_)
              ·refine WL.yes rfl rfl ?_
               refine WL.x (X.move rfl) (by decide) ?_
               refine WL.yes rfl rfl ?_
               refine WL.x (X.loadBA (k := 1) Try.isAgg45 Try.sizeOf45 rfl rfl rfl) (by decide) ?_
               refine WL.yes rfl rfl ?_
               refine WL.x (X.loadBA (k := 3) Try.isAgg45 Try.sizeOf45 rfl rfl rfl) (by decide) ?_
               refine WL.yes rfl rfl ?_
               refine WL.cond (X.call Try.call67 rfl (less67 _ _ ((meanR s ((evenL s x.Levels x.Shifts)) b).1) rfl _ ((meanR s ((evenL s x.Levels x.Shifts)) a).1) rfl (by omega) (by omega))) (by decide) (fun h58 => ?_) (fun h58 => ?_)
               ·refine WL.yes rfl rfl ?_
                refine WL.x (X.not rfl) (by decide) ?_
                refine WL.yes rfl rfl ?_
                refine WL.x (X.pickT rfl rfl rfl) (by decide) ?_
                refine WL.yes rfl rfl ?_
                refine WL.x (X.pickF rfl rfl rfl) (by decide) ?_
                refine WL.x (X.pickT rfl rfl rfl) (by decide) ?_
                refine WL.nil ?_
                refine WK.nThen ?_
                refine WC.condF rfl ?_
                refine WC.skip ?_
                refine WK.nThen ?_
                refine WC.seq ?_
                refine WC.region ?_
                refine WL.x (X.loadBA (k := 9) Try.isAgg25 Try.sizeOf25 rfl rfl rfl) (by decide) ?_
                refine WL.x (X.call Try.call36 rfl (slope36 _ _ s ⟨_, _, rfl, hs2, hs4⟩ )) (by decide) ?_
                refine WL.x (X.move rfl) (by decide) ?_
                refine WL.x (X.extract rfl rfl) (by decide) ?_
                refine WL.x (X.extract rfl rfl) (by decide) ?_
                refine WL.x (X.extract rfl rfl) (by decide) ?_
                refine WL.ts (T.storeBA (k := 5) Try.sizeOf45 rfl rfl rfl (one_cons rfl (one_cons rfl one_nil)) rfl rfl) ?_
                refine WL.ts (T.storeBA (k := 4) Try.sizeOf45 rfl rfl rfl (one_cons rfl (one_cons rfl one_nil)) rfl rfl) ?_
                refine WL.x (X.assign rfl) (by decide) ?_
                refine WL.nil ?_
                refine WK.nThen ?_
                refine WC.seq ?_
                refine WC.region ?_
                refine WL.x (X.loadBA (k := 9) Try.isAgg25 Try.sizeOf25 rfl rfl rfl) (by decide) ?_
                refine WL.x (X.call Try.call61 rfl (trend61 _ _ s ⟨_, _, rfl, hs2, hs4⟩ )) (by decide) ?_
                refine WL.x (X.move rfl) (by decide) ?_
                refine WL.x (X.extract rfl rfl) (by decide) ?_
                refine WL.x (X.extract rfl rfl) (by decide) ?_
                refine WL.x (X.assign rfl) (by decide) ?_
                refine WL.x (X.assign rfl) (by decide) ?_
                refine WL.nil ?_
                refine WK.nThen ?_
                refine WC.seq ?_
                refine WC.seq ?_
                have htr := trend_err s
                refine WC.region ?_
                refine WL.x (X.move rfl) (by decide) ?_
                refine WL.condn (X.neq rfl rfl) (by decide) (fun h59 => ?_) (fun h59 => ?_)
                ·refine WL.nil ?_
                 refine WK.nThen ?_
                 refine WC.condT rfl ?_
                 refine WC.seq ?_
                 refine WC.region ?_
                 refine WL.x (X.move rfl) (by decide) ?_
                 refine WL.x (X.move rfl) (by decide) ?_
                 refine WL.yes rfl rfl ?_
                 refine WL.x (X.move rfl) (by decide) ?_
                 refine WL.yes rfl rfl ?_
                 refine WL.x (X.move rfl) (by decide) ?_
                 refine WL.yes rfl rfl ?_
                 refine WL.x (X.eql rfl rfl) (by decide) ?_
                 refine WL.x (X.pickT rfl rfl rfl) (by decide) ?_
                 refine WL.x (X.assign rfl) (by decide) ?_
                 refine WL.nil ?_
                 refine WK.nThen ?_
                 refine WC.ret ?_
                 refine WK.rThen ?_
                 refine WK.ret1 rfl rfl (fun w' hw' => Ret.exact hw' ?_)
                 first | rfl | (exfalso; omega) | (exfalso; contradiction) | (exfalso; have q_ := hc2 (by omega); contradiction) | (exfalso; have q_ := hc3 (by omega); contradiction) | exact (bool_true (by omega)).symm | exact (bool_true (by have q_ := hs5_ (by omega); omega)).symm | exact (bool_true (by have q_ := hs6_ (by omega); omega)).symm | (exfalso; have q_ := hs5_ (by omega); omega) | (exfalso; have q_ := hs6_ (by omega); omega)
                ·refine WL.nil ?_
                 refine WK.nThen ?_
                 refine WC.condF rfl ?_
                 refine WC.skip ?_
                 refine WK.nThen ?_
                 refine WC.seq ?_
                 have hs_ := slope_real hea (by omega)
                 have hs0_ := hs_.2.1
                 have hs1_ := hs_.2.2.1
                 have hs2_ := hs_.2.2.2.1
                 have hs3_ := hs_.2.2.2.2.1
                 have hs4_ := hs_.2.2.2.2.2.1
                 have hs5_ := hs_.2.2.2.2.2.2.1
                 have hs6_ := hs_.2.2.2.2.2.2.2
                 have hs7_ := hs_.1.2
                 unfold LBd at hs0_ hs1_ hs2_
                 have heb2 := fun i (h : i < s.Values.length) => heb i (by omega)
                 refine WC.region ?_
                 refine WL.x (X.loadBA (k := 9) Try.isAgg25 Try.sizeOf25 rfl rfl rfl) (by decide) ?_
                 refine WL.x (X.move rfl) (by decide) ?_
                 refine WL.x (X.call Try.call64 rfl (exact64 _ _ s ⟨_, _, rfl, hs2, hs4⟩ _ _ hs24 (by assumption) (by omega) (by omega) (by assumption))) (by decide) ?_
                 refine WL.tn (T.alloc Try.zeroValue45 rfl) (by decide) fun b60 => ?_
                 refine WL.ts (T.storeBA (k := 0) Try.sizeOf45 rfl rfl rfl (one_cons rfl (one_cons rfl one_nil)) rfl rfl) ?_
                 refine WL.nil ?_
                 refine WK.nThen ?_
                 refine WC.seq ?_
                 refine WC.region ?_
                 refine WL.x (X.move rfl) (by decide) ?_
                 refine WL.x (X.move rfl) (by decide) ?_
                 refine WL.yes rfl rfl ?_
                 refine WL.x (X.loadBA (k := 0) Try.isAgg45 Try.sizeOf45 rfl rfl rfl) (by decide) ?_
                 refine WL.yes rfl rfl ?_
                 refine WL.x (X.loadBA (k := 6) Try.isAgg45 Try.sizeOf45 rfl rfl rfl) (by decide) ?_
                 refine WL.yes rfl rfl ?_
                 refine WL.x (OpX.f (X.call Try.call67 rfl (less67 _ _ (exactR s ((evenL s x.Levels x.Shifts))) rfl _ ((slopeR s).1) rfl (by omega) (by omega))) hs3_) (by decide) ?_
                 refine WL.yes rfl rfl ?_
                 refine WL.x (X.not rfl) (by decide) ?_
                 refine WL.x (X.pickT rfl rfl rfl) (by decide) ?_
                 refine WL.x (X.move rfl) (by decide) ?_
                 refine WL.yes rfl rfl ?_
                 refine WL.x (X.loadBA (k := 5) Try.isAgg45 Try.sizeOf45 rfl rfl rfl) (by decide) ?_
                 refine WL.yes rfl rfl ?_
                 refine WL.x (X.loadBA (k := 0) Try.isAgg45 Try.sizeOf45 rfl rfl rfl) (by decide) ?_
                 refine WL.yes rfl rfl ?_
                 refine WL.x (OpX.f (X.call Try.call67 rfl (less67 _ _ ((slopeR s).2.1) rfl _ (exactR s ((evenL s x.Levels x.Shifts))) rfl (by omega) (by omega))) hs4_) (by decide) ?_
                 refine WL.yes rfl rfl ?_
                 refine WL.x (X.not rfl) (by decide) ?_
                 refine WL.x (X.pickT rfl rfl rfl) (by decide) ?_
                 refine WL.x (X.move rfl) (by decide) ?_
                 refine WL.yes rfl rfl ?_
                 refine WL.x (X.move rfl) (by decide) ?_
                 refine WL.yes rfl rfl ?_
                 refine WL.condn (X.neq rfl rfl) (by decide) (fun h61 => ?_) (fun h61 => ?_)
                 ·refine WL.yes rfl rfl ?_
                  refine WL.x (X.move rfl) (by decide) ?_
                  refine WL.no rfl rfl rfl (by decide) ?_
                  refine WL.no rfl rfl rfl (by decide) ?_
                  refine WL.no rfl rfl rfl (by decide) ?_
                  refine WL.yes rfl rfl ?_
                  refine WL.x (X.pickT rfl rfl rfl) (by decide) ?_
                  refine WL.x (X.pickT rfl rfl rfl) (by decide) ?_
                  refine WL.x (X.move rfl) (by decide) ?_
                  refine WL.yes rfl rfl ?_
                  refine WL.x (X.move rfl) (by decide) ?_
                  refine WL.yes rfl rfl ?_
                  refine WL.condn (X.neq rfl rfl) (by decide) (fun h62 => ?_) (fun h62 => ?_)
                  ·refine WL.yes rfl rfl ?_
                   refine WL.x (X.move rfl) (by decide) ?_
                   refine WL.no rfl rfl rfl (by decide) ?_
                   refine WL.no rfl rfl rfl (by decide) ?_
                   refine WL.no rfl rfl rfl (by decide) ?_
                   refine WL.yes rfl rfl ?_
                   refine WL.x (X.pickT rfl rfl rfl) (by decide) ?_
                   refine WL.x (X.pickT rfl rfl rfl) (by decide) ?_
                   refine WL.x (X.assign rfl) (by decide) ?_
                   refine WL.nil ?_
                   refine WK.nThen ?_
                   refine WC.ret ?_
                   refine WK.ret1 rfl rfl (fun w' hw' => Ret.exact hw' ?_)
                   first | rfl | (exfalso; omega) | (exfalso; contradiction) | (exfalso; have q_ := hc2 (by omega); contradiction) | (exfalso; have q_ := hc3 (by omega); contradiction) | exact (bool_true (by omega)).symm | exact (bool_true (by have q_ := hs5_ (by omega); omega)).symm | exact (bool_true (by have q_ := hs6_ (by omega); omega)).symm | (exfalso; have q_ := hs5_ (by omega); omega) | (exfalso; have q_ := hs6_ (by omega); omega)
                  ·refine WL.yes rfl rfl ?_
                   refine WL.x (X.move rfl) (by decide) ?_
                   refine WL.yes rfl rfl ?_
                   refine WL.x (X.field Try.runUnderlying45 rfl Try.sizeOf3 rfl) (by decide) ?_
                   refine WL.yes rfl rfl ?_
                   refine WL.x (X.loadB (k := 0) Try.isAgg3 rfl rfl rfl) (by decide) ?_
                   refine WL.yes rfl rfl ?_
                   refine WL.x (X.lss rfl rfl) (by decide) ?_
                   refine WL.yes rfl rfl ?_
                   refine WL.x (X.pickF rfl rfl rfl) (by decide) ?_
                   refine WL.x (X.pickT rfl rfl rfl) (by decide) ?_
                   refine WL.x (X.assign rfl) (by decide) ?_
                   refine WL.nil ?_
                   refine WK.nThen ?_
                   refine WC.ret ?_
                   refine WK.ret1 rfl rfl (fun w' hw' => Ret.exact hw' ?_)
                   first | rfl | (exfalso; omega) | (exfalso; contradiction) | (exfalso; have q_ := hc2 (by omega); contradiction) | (exfalso; have q_ := hc3 (by omega); contradiction) | exact (bool_true (by omega)).symm | exact (bool_true (by have q_ := hs5_ (by omega); omega)).symm | exact (bool_true (by have q_ := hs6_ (by omega); omega)).symm | (exfalso; have q_ := hs5_ (by omega); omega) | (exfalso; have q_ := hs6_ (by omega); omega)
                 ·refine WL.yes rfl rfl ?_
                  refine WL.x (X.move rfl) (by decide) ?_
                  refine WL.yes rfl rfl ?_
                  refine WL.x (X.field Try.runUnderlying45 rfl Try.sizeOf3 rfl) (by decide) ?_
                  refine WL.yes rfl rfl ?_
                  refine WL.x (X.loadB (k := 0) Try.isAgg3 rfl rfl rfl) (by decide) ?_
                  refine WL.yes rfl rfl ?_
                  refine WL.cond (X.gtr rfl rfl) (by decide) (fun h63 => ?_) (fun h63 => ?_)
                  ·refine WL.yes rfl rfl ?_
                   refine WL.x (X.pickF rfl rfl rfl) (by decide) ?_
                   refine WL.x (X.pickT rfl rfl rfl) (by decide) ?_
                   refine WL.x (X.move rfl) (by decide) ?_
                   refine WL.yes rfl rfl ?_
                   refine WL.x (X.move rfl) (by decide) ?_
                   refine WL.yes rfl rfl ?_
                   refine WL.condn (X.neq rfl rfl) (by decide) (fun h64 => ?_) (fun h64 => ?_)
                   ·refine WL.yes rfl rfl ?_
                    refine WL.x (X.move rfl) (by decide) ?_
                    refine WL.no rfl rfl rfl (by decide) ?_
                    refine WL.no rfl rfl rfl (by decide) ?_
                    refine WL.no rfl rfl rfl (by decide) ?_
                    refine WL.yes rfl rfl ?_
                    refine WL.x (X.pickT rfl rfl rfl) (by decide) ?_
                    refine WL.x (X.pickT rfl rfl rfl) (by decide) ?_
                    refine WL.x (X.assign rfl) (by decide) ?_
                    refine WL.nil ?_
                    refine WK.nThen ?_
                    refine WC.ret ?_
                    refine WK.ret1 rfl rfl (fun w' hw' => Ret.exact hw' ?_)
                    first | rfl | (exfalso; omega) | (exfalso; contradiction) | (exfalso; have q_ := hc2 (by omega); contradiction) | (exfalso; have q_ := hc3 (by omega); contradiction) | exact (bool_true (by omega)).symm | exact (bool_true (by have q_ := hs5_ (by omega); omega)).symm | exact (bool_true (by have q_ := hs6_ (by omega); omega)).symm | (exfalso; have q_ := hs5_ (by omega); omega) | (exfalso; have q_ := hs6_ (by omega); omega)
                   ·refine WL.yes rfl rfl ?_
                    refine WL.x (X.move rfl) (by decide) ?_
                    refine WL.yes rfl rfl ?_
                    refine WL.x (X.field Try.runUnderlying45 rfl Try.sizeOf3 rfl) (by decide) ?_
                    refine WL.yes rfl rfl ?_
                    refine WL.x (X.loadB (k := 0) Try.isAgg3 rfl rfl rfl) (by decide) ?_
                    refine WL.yes rfl rfl ?_
                    refine WL.x (X.lss rfl rfl) (by decide) ?_
                    refine WL.yes rfl rfl ?_
                    refine WL.x (X.pickF rfl rfl rfl) (by decide) ?_
                    refine WL.x (X.pickT rfl rfl rfl) (by decide) ?_
                    refine WL.x (X.assign rfl) (by decide) ?_
                    refine WL.nil ?_
                    refine WK.nThen ?_
                    refine WC.ret ?_
                    refine WK.ret1 rfl rfl (fun w' hw' => Ret.exact hw' ?_)
                    first | rfl | (exfalso; omega) | (exfalso; contradiction) | (exfalso; have q_ := hc2 (by omega); contradiction) | (exfalso; have q_ := hc3 (by omega); contradiction) | exact (bool_true (by omega)).symm | exact (bool_true (by have q_ := hs5_ (by omega); omega)).symm | exact (bool_true (by have q_ := hs6_ (by omega); omega)).symm | (exfalso; have q_ := hs5_ (by omega); omega) | (exfalso; have q_ := hs6_ (by omega); omega)
                  ·refine WL.yes rfl rfl ?_
                   refine WL.x (X.pickF rfl rfl rfl) (by decide) ?_
                   refine WL.x (X.pickT rfl rfl rfl) (by decide) ?_
                   refine WL.x (X.move rfl) (by decide) ?_
                   refine WL.no rfl rfl rfl (by decide) ?_
                   refine WL.no rfl rfl rfl (by decide) ?_
                   refine WL.no rfl rfl rfl (by decide) ?_
                   refine WL.noU rfl rfl (by decide) ?_
                   refine WL.noU rfl rfl (by decide) ?_
                   refine WL.noU rfl rfl (by decide) ?_
                   refine WL.no rfl rfl rfl (by decide) ?_
                   refine WL.x (X.pickF rfl rfl rfl) (by decide) ?_
                   refine WL.x (X.assign rfl) (by decide) ?_
                   refine WL.nil ?_
                   refine WK.nThen ?_
                   refine WC.ret ?_
                   refine WK.ret1 rfl rfl (fun w' hw' => Ret.exact hw' ?_)
                   first | rfl | (exfalso; omega) | (exfalso; contradiction) | (exfalso; have q_ := hc2 (by omega); contradiction) | (exfalso; have q_ := hc3 (by omega); contradiction) | exact (bool_true (by omega)).symm | exact (bool_true (by have q_ := hs5_ (by omega); omega)).symm | exact (bool_true (by have q_ := hs6_ (by omega); omega)).symm | (exfalso; have q_ := hs5_ (by omega); omega) | (exfalso; have q_ := hs6_ (by omega); omega)
               ·refine WL.yes rfl rfl ?_
                refine WL.x (X.not rfl) (by decide) ?_
                refine WL.yes rfl rfl ?_
                refine WL.x (X.pickT rfl rfl rfl) (by decide) ?_
                refine WL.yes rfl rfl ?_
                refine WL.x (X.pickF rfl rfl rfl) (by decide) ?_
                refine WL.x (X.pickT rfl rfl rfl) (by decide) ?_
                refine WL.nil ?_
                refine WK.nThen ?_
                refine WC.condT rfl ?_
                refine WC.seq ?_
                refine WC.region ?_
                refine WL.x (X.assign rfl) (by decide) ?_
                refine WL.nil ?_
                refine WK.nThen ?_
                refine WC.ret ?_
                refine WK.rThen ?_
                refine WK.ret1 rfl rfl (fun w' hw' => Ret.exact hw' ?_)
                first | rfl | (exfalso; omega) | (exfalso; contradiction) | (exfalso; have q_ := hc2 (by omega); contradiction) | (exfalso; have q_ := hc3 (by omega); contradiction) | exact (bool_true (by omega)).symm | exact (bool_true (by have q_ := hs5_ (by omega); omega)).symm | exact (bool_true (by have q_ := hs6_ (by omega); omega)).symm | (exfalso; have q_ := hs5_ (by omega); omega) | (exfalso; have q_ := hs6_ (by omega); omega)
              ·refine WL.yes rfl rfl ?_
               refine WL.x (X.move rfl) (by decide) ?_
               refine WL.no rfl rfl rfl (by decide) ?_
               refine WL.no rfl rfl rfl (by decide) ?_
               refine WL.no rfl rfl rfl (by decide) ?_
               refine WL.no rfl rfl rfl (by decide) ?_
               refine WL.yes rfl rfl ?_
               refine WL.x (X.pickF rfl rfl rfl) (by decide) ?_
               refine WL.yes rfl rfl ?_
               refine WL.x (X.pickF rfl rfl rfl) (by decide) ?_
               refine WL.x (X.pickT rfl rfl rfl) (by decide) ?_
               refine WL.nil ?_
               refine WK.nThen ?_
               refine WC.condF rfl ?_
               refine WC.skip ?_
               refine WK.nThen ?_
               refine WC.seq ?_
               refine WC.region ?_
               refine WL.x (X.loadBA (k := 9) Try.isAgg25 Try.sizeOf25 rfl rfl rfl) (by decide) ?_
               refine WL.x (X.call Try.call36 rfl (slope36 _ _ s ⟨_, _, rfl, hs2, hs4⟩ )) (by decide) ?_
               refine WL.x (X.move rfl) (by decide) ?_
               refine WL.x (X.extract rfl rfl) (by decide) ?_
               refine WL.x (X.extract rfl rfl) (by decide) ?_
               refine WL.x (X.extract rfl rfl) (by decide) ?_
               refine WL.ts (T.storeBA (k := 5) Try.sizeOf45 rfl rfl rfl (one_cons rfl (one_cons rfl one_nil)) rfl rfl) ?_
               refine WL.ts (T.storeBA (k := 4) Try.sizeOf45 rfl rfl rfl (one_cons rfl (one_cons rfl one_nil)) rfl rfl) ?_
               refine WL.x (X.assign rfl) (by decide) ?_
               refine WL.nil ?_
               refine WK.nThen ?_
               refine WC.seq ?_
               refine WC.region ?_
               refine WL.x (X.loadBA (k := 9) Try.isAgg25 Try.sizeOf25 rfl rfl rfl) (by decide) ?_
               refine WL.x (X.call Try.call61 rfl (trend61 _ _ s ⟨_, _, rfl, hs2, hs4⟩ )) (by decide) ?_
               refine WL.x (X.move rfl) (by decide) ?_
               refine WL.x (X.extract rfl rfl) (by decide) ?_
               refine WL.x (X.extract rfl rfl) (by decide) ?_
               refine WL.x (X.assign rfl) (by decide) ?_
               refine WL.x (X.assign rfl) (by decide) ?_
               refine WL.nil ?_
               refine WK.nThen ?_
               refine WC.seq ?_
               refine WC.seq ?_
               have htr := trend_err s
               refine WC.region ?_
               refine WL.x (X.move rfl) (by decide) ?_
               refine WL.condn (X.neq rfl rfl) (by decide) (fun h65 => ?_) (fun h65 => ?_)
               ·refine WL.nil ?_
                refine WK.nThen ?_
                refine WC.condT rfl ?_
                refine WC.seq ?_
                refine WC.region ?_
                refine WL.x (X.move rfl) (by decide) ?_
                refine WL.x (X.move rfl) (by decide) ?_
                refine WL.yes rfl rfl ?_
                refine WL.x (X.move rfl) (by decide) ?_
                refine WL.yes rfl rfl ?_
                refine WL.x (X.move rfl) (by decide) ?_
                refine WL.yes rfl rfl ?_
                refine WL.x (X.eql rfl rfl) (by decide) ?_
                refine WL.x (X.pickT rfl rfl rfl) (by decide) ?_
                refine WL.x (X.assign rfl) (by decide) ?_
                refine WL.nil ?_
                refine WK.nThen ?_
                refine WC.ret ?_
                refine WK.rThen ?_
                refine WK.ret1 rfl rfl (fun w' hw' => Ret.exact hw' ?_)
                first | rfl | (exfalso; omega) | (exfalso; contradiction) | (exfalso; have q_ := hc2 (by omega); contradiction) | (exfalso; have q_ := hc3 (by omega); contradiction) | exact (bool_true (by omega)).symm | exact (bool_true (by have q_ := hs5_ (by omega); omega)).symm | exact (bool_true (by have q_ := hs6_ (by omega); omega)).symm | (exfalso; have q_ := hs5_ (by omega); omega) | (exfalso; have q_ := hs6_ (by omega); omega)
               ·refine WL.nil ?_
                refine WK.nThen ?_
                refine WC.condF rfl ?_
                refine WC.skip ?_
                refine WK.nThen ?_
                refine WC.seq ?_
                have hs_ := slope_real hea (by omega)
                have hs0_ := hs_.2.1
                have hs1_ := hs_.2.2.1
                have hs2_ := hs_.2.2.2.1
                have hs3_ := hs_.2.2.2.2.1
                have hs4_ := hs_.2.2.2.2.2.1
                have hs5_ := hs_.2.2.2.2.2.2.1
                have hs6_ := hs_.2.2.2.2.2.2.2
                have hs7_ := hs_.1.2
                unfold LBd at hs0_ hs1_ hs2_
                have heb2 := fun i (h : i < s.Values.length) => heb i (by omega)
                refine WC.region ?_
                refine WL.x (X.loadBA (k := 9) Try.isAgg25 Try.sizeOf25 rfl rfl rfl) (by decide) ?_
                refine WL.x (X.move rfl) (by decide) ?_
                refine WL.x (X.call Try.call64 rfl (exact64 _ _ s ⟨_, _, rfl, hs2, hs4⟩ _ _ hs24 (by assumption) (by omega) (by omega) (by assumption))) (by decide) ?_
                refine WL.tn (T.alloc Try.zeroValue45 rfl) (by decide) fun b66 => ?_
                refine WL.ts (T.storeBA (k := 0) Try.sizeOf45 rfl rfl rfl (one_cons rfl (one_cons rfl one_nil)) rfl rfl) ?_
                refine WL.nil ?_
                refine WK.nThen ?_
                refine WC.seq ?_
                refine WC.region ?_
                refine WL.x (X.move rfl) (by decide) ?_
                refine WL.x (X.move rfl) (by decide) ?_
                refine WL.yes rfl rfl ?_
                refine WL.x (X.loadBA (k := 0) Try.isAgg45 Try.sizeOf45 rfl rfl rfl) (by decide) ?_
                refine WL.yes rfl rfl ?_
                refine WL.x (X.loadBA (k := 6) Try.isAgg45 Try.sizeOf45 rfl rfl rfl) (by decide) ?_
                refine WL.yes rfl rfl ?_
                refine WL.x (OpX.f (X.call Try.call67 rfl (less67 _ _ (exactR s ((evenL s x.Levels x.Shifts))) rfl _ ((slopeR s).1) rfl (by omega) (by omega))) hs3_) (by decide) ?_
                refine WL.yes rfl rfl ?_
                refine WL.x (X.not rfl) (by decide) ?_
                refine WL.x (X.pickT rfl rfl rfl) (by decide) ?_
                refine WL.x (X.move rfl) (by decide) ?_
                refine WL.yes rfl rfl ?_
                refine WL.x (X.loadBA (k := 5) Try.isAgg45 Try.sizeOf45 rfl rfl rfl) (by decide) ?_
                refine WL.yes rfl rfl ?_
                refine WL.x (X.loadBA (k := 0) Try.isAgg45 Try.sizeOf45 rfl rfl rfl) (by decide) ?_
                refine WL.yes rfl rfl ?_
                refine WL.x (OpX.f (X.call Try.call67 rfl (less67 _ _ ((slopeR s).2.1) rfl _ (exactR s ((evenL s x.Levels x.Shifts))) rfl (by omega) (by omega))) hs4_) (by decide) ?_
                refine WL.yes rfl rfl ?_
                refine WL.x (X.not rfl) (by decide) ?_
                refine WL.x (X.pickT rfl rfl rfl) (by decide) ?_
                refine WL.x (X.move rfl) (by decide) ?_
                refine WL.yes rfl rfl ?_
                refine WL.x (X.move rfl) (by decide) ?_
                refine WL.yes rfl rfl ?_
                refine WL.condn (X.neq rfl rfl) (by decide) (fun h67 => ?_) (fun h67 => ?_)
                ·refine WL.yes rfl rfl ?_
                 refine WL.x (X.move rfl) (by decide) ?_
                 refine WL.no rfl rfl rfl (by decide) ?_
                 refine WL.no rfl rfl rfl (by decide) ?_
                 refine WL.no rfl rfl rfl (by decide) ?_
                 refine WL.yes rfl rfl ?_
                 refine WL.x (X.pickT rfl rfl rfl) (by decide) ?_
                 refine WL.x (X.pickT rfl rfl rfl) (by decide) ?_
                 refine WL.x (X.move rfl) (by decide) ?_
                 refine WL.yes rfl rfl ?_
                 refine WL.x (X.move rfl) (by decide) ?_
                 refine WL.yes rfl rfl ?_
                 refine WL.condn (X.neq rfl rfl) (by decide) (fun h68 => ?_) (fun h68 => ?_)
                 ·refine WL.yes rfl rfl ?_
                  refine WL.x (X.move rfl) (by decide) ?_
                  refine WL.no rfl rfl rfl (by decide) ?_
                  refine WL.no rfl rfl rfl (by decide) ?_
                  refine WL.no rfl rfl rfl (by decide) ?_
                  refine WL.yes rfl rfl ?_
                  refine WL.x (X.pickT rfl rfl rfl) (by decide) ?_
                  refine WL.x (X.pickT rfl rfl rfl) (by decide) ?_
                  refine WL.x (X.assign rfl) (by decide) ?_
                  refine WL.nil ?_
                  refine WK.nThen ?_
                  refine WC.ret ?_
                  refine WK.ret1 rfl rfl (fun w' hw' => Ret.exact hw' ?_)
                  first | rfl | (exfalso; omega) | (exfalso; contradiction) | (exfalso; have q_ := hc2 (by omega); contradiction) | (exfalso; have q_ := hc3 (by omega); contradiction) | exact (bool_true (by omega)).symm | exact (bool_true (by have q_ := hs5_ (by omega); omega)).symm | exact (bool_true (by have q_ := hs6_ (by omega); omega)).symm | (exfalso; have q_ := hs5_ (by omega); omega) | (exfalso; have q_ := hs6_ (by omega); omega)
                 ·refine WL.yes rfl rfl ?_
                  refine WL.x (X.move rfl) (by decide) ?_
                  refine WL.yes rfl rfl ?_
                  refine WL.x (X.field Try.runUnderlying45 rfl Try.sizeOf3 rfl) (by decide) ?_
                  refine WL.yes rfl rfl ?_
                  refine WL.x (X.loadB (k := 0) Try.isAgg3 rfl rfl rfl) (by decide) ?_
                  refine WL.yes rfl rfl ?_
                  refine WL.x (X.lss rfl rfl) (by decide) ?_
                  refine WL.yes rfl rfl ?_
                  refine WL.x (X.pickF rfl rfl rfl) (by decide) ?_
                  refine WL.x (X.pickT rfl rfl rfl) (by decide) ?_
                  refine WL.x (X.assign rfl) (by decide) ?_
                  refine WL.nil ?_
                  refine WK.nThen ?_
                  refine WC.ret ?_
                  refine WK.ret1 rfl rfl (fun w' hw' => Ret.exact hw' ?_)
                  first | rfl | (exfalso; omega) | (exfalso; contradiction) | (exfalso; have q_ := hc2 (by omega); contradiction) | (exfalso; have q_ := hc3 (by omega); contradiction) | exact (bool_true (by omega)).symm | exact (bool_true (by have q_ := hs5_ (by omega); omega)).symm | exact (bool_true (by have q_ := hs6_ (by omega); omega)).symm | (exfalso; have q_ := hs5_ (by omega); omega) | (exfalso; have q_ := hs6_ (by omega); omega)
                ·refine WL.yes rfl rfl ?_
                 refine WL.x (X.move rfl) (by decide) ?_
                 refine WL.yes rfl rfl ?_
                 refine WL.x (X.field Try.runUnderlying45 rfl Try.sizeOf3 rfl) (by decide) ?_
                 refine WL.yes rfl rfl ?_
                 refine WL.x (X.loadB (k := 0) Try.isAgg3 rfl rfl rfl) (by decide) ?_
                 refine WL.yes rfl rfl ?_
                 refine WL.cond (X.gtr rfl rfl) (by decide) (fun h69 => ?_) (fun h69 => ?_)
                 ·refine WL.yes rfl rfl ?_
                  refine WL.x (X.pickF rfl rfl rfl) (by decide) ?_
                  refine WL.x (X.pickT rfl rfl rfl) (by decide) ?_
                  refine WL.x (X.move rfl) (by decide) ?_
                  refine WL.yes rfl rfl ?_
                  refine WL.x (X.move rfl) (by decide) ?_
                  refine WL.yes rfl rfl ?_
                  refine WL.condn (X.neq rfl rfl) (by decide) (fun h70 => ?_) (fun h70 => ?_)
                  ·refine WL.yes rfl rfl ?_
                   refine WL.x (X.move rfl) (by decide) ?_
                   refine WL.no rfl rfl rfl (by decide) ?_
                   refine WL.no rfl rfl rfl (by decide) ?_
                   refine WL.no rfl rfl rfl (by decide) ?_
                   refine WL.yes rfl rfl ?_
                   refine WL.x (X.pickT rfl rfl rfl) (by decide) ?_
                   refine WL.x (X.pickT rfl rfl rfl) (by decide) ?_
                   refine WL.x (X.assign rfl) (by decide) ?_
                   refine WL.nil ?_
                   refine WK.nThen ?_
                   refine WC.ret ?_
                   refine WK.ret1 rfl rfl (fun w' hw' => Ret.exact hw' ?_)
                   first | rfl | (exfalso; omega) | (exfalso; contradiction) | (exfalso; have q_ := hc2 (by omega); contradiction) | (exfalso; have q_ := hc3 (by omega); contradiction) | exact (bool_true (by omega)).symm | exact (bool_true (by have q_ := hs5_ (by omega); omega)).symm | exact (bool_true (by have q_ := hs6_ (by omega); omega)).symm | (exfalso; have q_ := hs5_ (by omega); omega) | (exfalso; have q_ := hs6_ (by omega); omega)
                  ·refine WL.yes rfl rfl ?_
                   refine WL.x (X.move rfl) (by decide) ?_
                   refine WL.yes rfl rfl ?_
                   refine WL.x (X.field Try.runUnderlying45 rfl Try.sizeOf3 rfl) (by decide) ?_
                   refine WL.yes rfl rfl ?_
                   refine WL.x (X.loadB (k := 0) Try.isAgg3 rfl rfl rfl) (by decide) ?_
                   refine WL.yes rfl rfl ?_
                   refine WL.x (X.lss rfl rfl) (by decide) ?_
                   refine WL.yes rfl rfl ?_
                   refine WL.x (X.pickF rfl rfl rfl) (by decide) ?_
                   refine WL.x (X.pickT rfl rfl rfl) (by decide) ?_
                   refine WL.x (X.assign rfl) (by decide) ?_
                   refine WL.nil ?_
                   refine WK.nThen ?_
                   refine WC.ret ?_
                   refine WK.ret1 rfl rfl (fun w' hw' => Ret.exact hw' ?_)
                   first | rfl | (exfalso; omega) | (exfalso; contradiction) | (exfalso; have q_ := hc2 (by omega); contradiction) | (exfalso; have q_ := hc3 (by omega); contradiction) | exact (bool_true (by omega)).symm | exact (bool_true (by have q_ := hs5_ (by omega); omega)).symm | exact (bool_true (by have q_ := hs6_ (by omega); omega)).symm | (exfalso; have q_ := hs5_ (by omega); omega) | (exfalso; have q_ := hs6_ (by omega); omega)
                 ·refine WL.yes rfl rfl ?_
                  refine WL.x (X.pickF rfl rfl rfl) (by decide) ?_
                  refine WL.x (X.pickT rfl rfl rfl) (by decide) ?_
                  refine WL.x (X.move rfl) (by decide) ?_
                  refine WL.no rfl rfl rfl (by decide) ?_
                  refine WL.no rfl rfl rfl (by decide) ?_
                  refine WL.no rfl rfl rfl (by decide) ?_
                  refine WL.noU rfl rfl (by decide) ?_
                  refine WL.noU rfl rfl (by decide) ?_
                  refine WL.noU rfl rfl (by decide) ?_
                  refine WL.no rfl rfl rfl (by decide) ?_
                  refine WL.x (X.pickF rfl rfl rfl) (by decide) ?_
                  refine WL.x (X.assign rfl) (by decide) ?_
                  refine WL.nil ?_
                  refine WK.nThen ?_
                  refine WC.ret ?_
                  refine WK.ret1 rfl rfl (fun w' hw' => Ret.exact hw' ?_)
                  first | rfl | (exfalso; omega) | (exfalso; contradiction) | (exfalso; have q_ := hc2 (by omega); contradiction) | (exfalso; have q_ := hc3 (by omega); contradiction) | exact (bool_true (by omega)).symm | exact (bool_true (by have q_ := hs5_ (by omega); omega)).symm | exact (bool_true (by have q_ := hs6_ (by omega); omega)).symm | (exfalso; have q_ := hs5_ (by omega); omega) | (exfalso; have q_ := hs6_ (by omega); omega)
             ·refine WL.yes rfl rfl ?_
              refine WL.x (X.not rfl) (by decide) ?_
              refine WL.yes rfl rfl ?_
              refine WL.x (X.pickT rfl rfl rfl) (by decide) ?_
              refine WL.yes rfl rfl ?_
              refine WL.x (X.pickF rfl rfl rfl) (by decide) ?_
              refine WL.yes rfl rfl ?_
              refine WL.x (X.move rfl) (by decide) ?_
              refine WL.no rfl rfl rfl (by decide) ?_
              refine WL.no rfl rfl rfl (by decide) ?_
              refine WL.no rfl rfl rfl (by decide) ?_
              refine WL.noU rfl rfl (by decide) ?_
              refine WL.noU rfl rfl (by decide) ?_
              refine WL.noU rfl rfl (by decide) ?_
              refine WL.noU rfl rfl (by decide) ?_
              refine WL.no rfl rfl rfl (by decide) ?_
              refine WL.yes rfl rfl ?_
              refine WL.x (X.pickT rfl rfl rfl) (by decide) ?_
              refine WL.x (X.pickT rfl rfl rfl) (by decide) ?_
              refine WL.nil ?_
              refine WK.nThen ?_
              refine WC.condT rfl ?_
              refine WC.seq ?_
              refine WC.region ?_
              refine WL.x (X.assign rfl) (by decide) ?_
              refine WL.nil ?_
              refine WK.nThen ?_
              refine WC.ret ?_
              refine WK.rThen ?_
              refine WK.ret1 rfl rfl (fun w' hw' => Ret.exact hw' ?_)
              first | rfl | (exfalso; omega) | (exfalso; contradiction) | (exfalso; have q_ := hc2 (by omega); contradiction) | (exfalso; have q_ := hc3 (by omega); contradiction) | exact (bool_true (by omega)).symm | exact (bool_true (by have q_ := hs5_ (by omega); omega)).symm | exact (bool_true (by have q_ := hs6_ (by omega); omega)).symm | (exfalso; have q_ := hs5_ (by omega); omega) | (exfalso; have q_ := hs6_ (by omega); omega)
            ·refine WL.yes rfl rfl ?_
             refine WL.x (X.move rfl) (by decide) ?_
             refine WL.no rfl rfl rfl (by decide) ?_
             refine WL.no rfl rfl rfl (by decide) ?_
             refine WL.no rfl rfl rfl (by decide) ?_
             refine WL.no rfl rfl rfl (by decide) ?_
             refine WL.yes rfl rfl ?_
             refine WL.x (X.pickF rfl rfl rfl) (by decide) ?_
             refine WL.yes rfl rfl ?_
             refine WL.x (X.pickF rfl rfl rfl) (by decide) ?_
             refine WL.yes rfl rfl ?_
             refine WL.x (X.move rfl) (by decide) ?_
             refine WL.yes rfl rfl ?_
             refine WL.x (X.move rfl) (by decide) ?_
             refine WL.yes rfl rfl ?_
             refine WL.cond (X.eql rfl rfl) (by decide) (fun h71 => ?_) (fun h71 => ?_)
             ·refine WL.yes rfl rfl ?_
              refine WL.x (X.move rfl) (by decide) ?_
              refine WL.yes rfl rfl ?_
              refine WL.x (X.loadBA (k := 1) Try.isAgg45 Try.sizeOf45 rfl rfl rfl) (by decide) ?_
              refine WL.yes rfl rfl ?_
              refine WL.x (X.loadBA (k := 3) Try.isAgg45 Try.sizeOf45 rfl rfl rfl) (by decide) ?_
              refine WL.yes rfl rfl ?_
              refine WL.cond (X.call Try.call67 rfl (less67 _ _ ((meanR s ((evenL s x.Levels x.Shifts)) b).1) rfl _ ((meanR s ((evenL s x.Levels x.Shifts)) a).1) rfl (by omega) (by omega))) (by decide) (fun h72 => ?_) (fun h72 => ?_)
              ·refine WL.yes rfl rfl ?_
               refine WL.x (X.not rfl) (by decide) ?_
               refine WL.yes rfl rfl ?_
               refine WL.x (X.pickT rfl rfl rfl) (by decide) ?_
               refine WL.yes rfl rfl ?_
               refine WL.x (X.pickF rfl rfl rfl) (by decide) ?_
               refine WL.x (X.pickT rfl rfl rfl) (by decide) ?_
               refine WL.nil ?_
               refine WK.nThen ?_
               refine WC.condF rfl ?_
               refine WC.skip ?_
               refine WK.nThen ?_
               refine WC.seq ?_
               refine WC.region ?_
               refine WL.x (X.loadBA (k := 9) Try.isAgg25 Try.sizeOf25 rfl rfl rfl) (by decide) ?_
               refine WL.x (X.call Try.call36 rfl (slope36 _ _ s ⟨_, _, rfl, hs2, hs4⟩ )) (by decide) ?_
               refine WL.x (X.move rfl) (by decide) ?_
               refine WL.x (X.extract rfl rfl) (by decide) ?_
               refine WL.x (X.extract rfl rfl) (by decide) ?_
               refine WL.x (X.extract rfl rfl) (by decide) ?_
               refine WL.ts (T.storeBA (k := 5) Try.sizeOf45 rfl rfl rfl (one_cons rfl (one_cons rfl one_nil)) rfl rfl) ?_
               refine WL.ts (T.storeBA (k := 4) Try.sizeOf45 rfl rfl rfl (one_cons rfl (one_cons rfl one_nil)) rfl rfl) ?_
               refine WL.x (X.assign rfl) (by decide) ?_
               refine WL.nil ?_
               refine WK.nThen ?_
               refine WC.seq ?_
               refine WC.region ?_
               refine WL.x (X.loadBA (k := 9) Try.isAgg25 Try.sizeOf25 rfl rfl rfl) (by decide) ?_
               refine WL.x (X.call Try.call61 rfl (trend61 _ _ s ⟨_, _, rfl, hs2, hs4⟩ )) (by decide) ?_
               refine WL.x (X.move rfl) (by decide) ?_
               refine WL.x (X.extract rfl rfl) (by decide) ?_
               refine WL.x (X.extract rfl rfl) (by decide) ?_
               refine WL.x (X.assign rfl) (by decide) ?_
               refine WL.x (X.assign rfl) (by decide) ?_
               refine WL.nil ?_
               refine WK.nThen ?_
               refine WC.seq ?_
               refine WC.seq ?_
               have htr := trend_err s
               refine WC.region ?_
               refine WL.x (X.move rfl) (by decide) ?_
               refine WL.condn (X.neq rfl rfl) (by decide) (fun h73 => ?_) (fun h73 => ?_)
               ·refine WL.nil ?_
                refine WK.nThen ?_
                refine WC.condT rfl ?_
                refine WC.seq ?_
                refine WC.region ?_
                refine WL.x (X.move rfl) (by decide) ?_
                refine WL.x (X.move rfl) (by decide) ?_
                refine WL.yes rfl rfl ?_
                refine WL.x (X.move rfl) (by decide) ?_
                refine WL.yes rfl rfl ?_
                refine WL.x (X.move rfl) (by decide) ?_
                refine WL.yes rfl rfl ?_
                refine WL.x (X.eql rfl rfl) (by decide) ?_
                refine WL.x (X.pickT rfl rfl rfl) (by decide) ?_
                refine WL.x (X.assign rfl) (by decide) ?_
                refine WL.nil ?_
                refine WK.nThen ?_
                refine WC.ret ?_
                refine WK.rThen ?_
                refine WK.ret1 rfl rfl (fun w' hw' => Ret.exact hw' ?_)
                first | rfl | (exfalso; omega) | (exfalso; contradiction) | (exfalso; have q_ := hc2 (by omega); contradiction) | (exfalso; have q_ := hc3 (by omega); contradiction) | exact (bool_true (by omega)).symm | exact (bool_true (by have q_ := hs5_ (by omega); omega)).symm | exact (bool_true (by have q_ := hs6_ (by omega); omega)).symm | (exfalso; have q_ := hs5_ (by omega); omega) | (exfalso; have q_ := hs6_ (by omega); omega)
               ·refine WL.nil ?_
                refine WK.nThen ?_
                refine WC.condF rfl ?_
                refine WC.skip ?_
                refine WK.nThen ?_
                refine WC.seq ?_
                have hs_ := slope_real hea (by omega)
                have hs0_ := hs_.2.1
                have hs1_ := hs_.2.2.1
                have hs2_ := hs_.2.2.2.1
                have hs3_ := hs_.2.2.2.2.1
                have hs4_ := hs_.2.2.2.2.2.1
                have hs5_ := hs_.2.2.2.2.2.2.1
                have hs6_ := hs_.2.2.2.2.2.2.2
                have hs7_ := hs_.1.2
                unfold LBd at hs0_ hs1_ hs2_
                have heb2 := fun i (h : i < s.Values.length) => heb i (by omega)
                refine WC.region ?_
                refine WL.x (X.loadBA (k := 9) Try.isAgg25 Try.sizeOf25 rfl rfl rfl) (by decide) ?_
                refine WL.x (X.move rfl) (by decide) ?_
                refine WL.x (X.call Try.call64 rfl (exact64 _ _ s ⟨_, _, rfl, hs2, hs4⟩ _ _ hs24 (by assumption) (by omega) (by omega) (by assumption))) (by decide) ?_
                refine WL.tn (T.alloc Try.zeroValue45 rfl) (by decide) fun b74 => ?_
                refine WL.ts (T.storeBA (k := 0) Try.sizeOf45 rfl rfl rfl (one_cons rfl (one_cons rfl one_nil)) rfl rfl) ?_
                refine WL.nil ?_
                refine WK.nThen ?_
                refine WC.seq ?_
                refine WC.region ?_
                refine WL.x (X.move rfl) (by decide) ?_
                refine WL.x (X.move rfl) (by decide) ?_
                refine WL.yes rfl rfl ?_
                refine WL.x (X.loadBA (k := 0) Try.isAgg45 Try.sizeOf45 rfl rfl rfl) (by decide) ?_
                refine WL.yes rfl rfl ?_
                refine WL.x (X.loadBA (k := 6) Try.isAgg45 Try.sizeOf45 rfl rfl rfl) (by decide) ?_
                refine WL.yes rfl rfl ?_
                refine WL.x (OpX.f (X.call Try.call67 rfl (less67 _ _ (exactR s ((evenL s x.Levels x.Shifts))) rfl _ ((slopeR s).1) rfl (by omega) (by omega))) hs3_) (by decide) ?_
                refine WL.yes rfl rfl ?_
                refine WL.x (X.not rfl) (by decide) ?_
                refine WL.x (X.pickT rfl rfl rfl) (by decide) ?_
                refine WL.x (X.move rfl) (by decide) ?_
                refine WL.yes rfl rfl ?_
                refine WL.x (X.loadBA (k := 5) Try.isAgg45 Try.sizeOf45 rfl rfl rfl) (by decide) ?_
                refine WL.yes rfl rfl ?_
                refine WL.x (X.loadBA (k := 0) Try.isAgg45 Try.sizeOf45 rfl rfl rfl) (by decide) ?_
                refine WL.yes rfl rfl ?_
                refine WL.x (OpX.f (X.call Try.call67 rfl (less67 _ _ ((slopeR s).2.1) rfl _ (exactR s ((evenL s x.Levels x.Shifts))) rfl (by omega) (by omega))) hs4_) (by decide) ?_
                refine WL.yes rfl rfl ?_
                refine WL.x (X.not rfl) (by decide) ?_
                refine WL.x (X.pickT rfl rfl rfl) (by decide) ?_
                refine WL.x (X.move rfl) (by decide) ?_
                refine WL.yes rfl rfl ?_
                refine WL.x (X.move rfl) (by decide) ?_
                refine WL.yes rfl rfl ?_
                refine WL.condn (X.neq rfl rfl) (by decide) (fun h75 => ?_) (fun h75 => ?_)
                ·refine WL.yes rfl rfl ?_
                 refine WL.x (X.move rfl) (by decide) ?_
                 refine WL.no rfl rfl rfl (by decide) ?_
                 refine WL.no rfl rfl rfl (by decide) ?_
                 refine WL.no rfl rfl rfl (by decide) ?_
                 refine WL.yes rfl rfl ?_
                 refine WL.x (X.pickT rfl rfl rfl) (by decide) ?_
                 refine WL.x (X.pickT rfl rfl rfl) (by decide) ?_
                 refine WL.x (X.move rfl) (by decide) ?_
                 refine WL.yes rfl rfl ?_
                 refine WL.x (X.move rfl) (by decide) ?_
                 refine WL.yes rfl rfl ?_
                 refine WL.condn (X.neq rfl rfl) (by decide) (fun h76 => ?_) (fun h76 => ?_)
                 ·refine WL.yes rfl rfl ?_
                  refine WL.x (X.move rfl) (by decide) ?_
                  refine WL.no rfl rfl rfl (by decide) ?_
                  refine WL.no rfl rfl rfl (by decide) ?_
                  refine WL.no rfl rfl rfl (by decide) ?_
                  refine WL.yes rfl rfl ?_
                  refine WL.x (X.pickT rfl rfl rfl) (by decide) ?_
                  refine WL.x (X.pickT rfl rfl rfl) (by decide) ?_
                  refine WL.x (X.assign rfl) (by decide) ?_
                  refine WL.nil ?_
                  refine WK.nThen ?_
                  refine WC.ret ?_
                  refine WK.ret1 rfl rfl (fun w' hw' => Ret.exact hw' ?_)
                  first | rfl | (exfalso; omega) | (exfalso; contradiction) | (exfalso; have q_ := hc2 (by omega); contradiction) | (exfalso; have q_ := hc3 (by omega); contradiction) | exact (bool_true (by omega)).symm | exact (bool_true (by have q_ := hs5_ (by omega); omega)).symm | exact (bool_true (by have q_ := hs6_ (by omega); omega)).symm | (exfalso; have q_ := hs5_ (by omega); omega) | (exfalso; have q_ := hs6_ (by omega); omega)
                 ·refine WL.yes rfl rfl ?_
                  refine WL.x (X.move rfl) (by decide) ?_
                  refine WL.yes rfl rfl ?_
                  refine WL.x (X.field Try.runUnderlying45 rfl Try.sizeOf3 rfl) (by decide) ?_
                  refine WL.yes rfl rfl ?_
                  refine WL.x (X.loadB (k := 0) Try.isAgg3 rfl rfl rfl) (by decide) ?_
                  refine WL.yes rfl rfl ?_
                  refine WL.x (X.lss rfl rfl) (by decide) ?_
                  refine WL.yes rfl rfl ?_
                  refine WL.x (X.pickF rfl rfl rfl) (by decide) ?_
                  refine WL.x (X.pickT rfl rfl rfl) (by decide) ?_
                  refine WL.x (X.assign rfl) (by decide) ?_
                  refine WL.nil ?_
                  refine WK.nThen ?_
                  refine WC.ret ?_
                  refine WK.ret1 rfl rfl (fun w' hw' => Ret.exact hw' ?_)
                  first | rfl | (exfalso; omega) | (exfalso; contradiction) | (exfalso; have q_ := hc2 (by omega); contradiction) | (exfalso; have q_ := hc3 (by omega); contradiction) | exact (bool_true (by omega)).symm | exact (bool_true (by have q_ := hs5_ (by omega); omega)).symm | exact (bool_true (by have q_ := hs6_ (by omega); omega)).symm | (exfalso; have q_ := hs5_ (by omega); omega) | (exfalso; have q_ := hs6_ (by omega); omega)
                ·refine WL.yes rfl rfl ?_
                 refine WL.x (X.move rfl) (by decide) ?_
                 refine WL.yes rfl rfl ?_
                 refine WL.x (X.field Try.runUnderlying45 rfl Try.sizeOf3 rfl) (by decide) ?_
                 refine WL.yes rfl rfl ?_
                 refine WL.x (X.loadB (k := 0) Try.isAgg3 rfl rfl rfl) (by decide) ?_
                 refine WL.yes rfl rfl ?_
                 refine WL.cond (X.gtr rfl rfl) (by decide) (fun h77 => ?_) (fun h77 => ?_)
                 ·refine WL.yes rfl rfl ?_
                  refine WL.x (X.pickF rfl rfl rfl) (by decide) ?_
                  refine WL.x (X.pickT rfl rfl rfl) (by decide) ?_
                  refine WL.x (X.move rfl) (by decide) ?_
                  refine WL.yes rfl rfl ?_
                  refine WL.x (X.move rfl) (by decide) ?_
                  refine WL.yes rfl rfl ?_
                  refine WL.condn (X.neq rfl rfl) (by decide) (fun h78 => ?_) (fun h78 => ?_)
                  ·refine WL.yes rfl rfl ?_
                   refine WL.x (X.move rfl) (by decide) ?_
                   refine WL.no rfl rfl rfl (by decide) ?_
                   refine WL.no rfl rfl rfl (by decide) ?_
                   refine WL.no rfl rfl rfl (by decide) ?_
                   refine WL.yes rfl rfl ?_
                   refine WL.x (X.pickT rfl rfl rfl) (by decide) ?_
                   refine WL.x (X.pickT rfl rfl rfl) (by decide) ?_
                   refine WL.x (X.assign rfl) (by decide) ?_
                   refine WL.nil ?_
                   refine WK.nThen ?_
                   refine WC.ret ?_
                   refine WK.ret1 rfl rfl (fun w' hw' => Ret.exact hw' ?_)
                   first | rfl | (exfalso; omega) | (exfalso; contradiction) | (exfalso; have q_ := hc2 (by omega); contradiction) | (exfalso; have q_ := hc3 (by omega); contradiction) | exact (bool_true (by omega)).symm | exact (bool_true (by have q_ := hs5_ (by omega); omega)).symm | exact (bool_true (by have q_ := hs6_ (by omega); omega)).symm | (exfalso; have q_ := hs5_ (by omega); omega) | (exfalso; have q_ := hs6_ (by omega); omega)
                  ·refine WL.yes rfl rfl ?_
                   refine WL.x (X.move rfl) (by decide) ?_
                   refine WL.yes rfl rfl ?_
                   refine WL.x (X.field Try.runUnderlying45 rfl Try.sizeOf3 rfl) (by decide) ?_
                   refine WL.yes rfl rfl ?_
                   refine WL.x (X.loadB (k := 0) Try.isAgg3 rfl rfl rfl) (by decide) ?_
                   refine WL.yes rfl rfl ?_
                   refine WL.x (X.lss rfl rfl) (by decide) ?_
                   refine WL.yes rfl rfl ?_
                   refine WL.x (X.pickF rfl rfl rfl) (by decide) ?_
                   refine WL.x (X.pickT rfl rfl rfl) (by decide) ?_
                   refine WL.x (X.assign rfl) (by decide) ?_
                   refine WL.nil ?_
                   refine WK.nThen ?_
                   refine WC.ret ?_
                   refine WK.ret1 rfl rfl (fun w' hw' => Ret.exact hw' ?_)
                   first | rfl | (exfalso; omega) | (exfalso; contradiction) | (exfalso; have q_ := hc2 (by omega); contradiction) | (exfalso; have q_ := hc3 (by omega); contradiction) | exact (bool_true (by omega)).symm | exact (bool_true (by have q_ := hs5_ (by omega); omega)).symm | exact (bool_true (by have q_ := hs6_ (by omega); omega)).symm | (exfalso; have q_ := hs5_ (by omega); omega) | (exfalso; have q_ := hs6_ (by omega); omega)
                 ·refine WL.yes rfl rfl ?_
                  refine WL.x (X.pickF rfl rfl rfl) (by decide) ?_
                  refine WL.x (X.pickT rfl rfl rfl) (by decide) ?_
                  refine WL.x (X.move rfl) (by decide) ?_
                  refine WL.no rfl rfl rfl (by decide) ?_
                  refine WL.no rfl rfl rfl (by decide) ?_
                  refine WL.no rfl rfl rfl (by decide) ?_
                  refine WL.noU rfl rfl (by decide) ?_
                  refine WL.noU rfl rfl (by decide) ?_
                  refine WL.noU rfl rfl (by decide) ?_
                  refine WL.no rfl rfl rfl (by decide) ?_
                  refine WL.x (X.pickF rfl rfl rfl) (by decide) ?_
                  refine WL.x (X.assign rfl) (by decide) ?_
                  refine WL.nil ?_
                  refine WK.nThen ?_
                  refine WC.ret ?_
                  refine WK.ret1 rfl rfl (fun w' hw' => Ret.exact hw' ?_)
                  first | rfl | (exfalso; omega) | (exfalso; contradiction) | (exfalso; have q_ := hc2 (by omega); contradiction) | (exfalso; have q_ := hc3 (by omega); contradiction) | exact (bool_true (by omega)).symm | exact (bool_true (by have q_ := hs5_ (by omega); omega)).symm | exact (bool_true (by have q_ := hs6_ (by omega); omega)).symm | (exfalso; have q_ := hs5_ (by omega); omega) | (exfalso; have q_ := hs6_ (by omega); omega)
              ·refine WL.yes rfl rfl ?_
               refine WL.x (X.not rfl) (by decide) ?_
               refine WL.yes rfl rfl ?_
               refine WL.x (X.pickT rfl rfl rfl) (by decide) ?_
               refine WL.yes rfl rfl ?_
               refine WL.x (X.pickF rfl rfl rfl) (by decide) ?_
               refine WL.x (X.pickT rfl rfl rfl) (by decide) ?_
               refine WL.nil ?_
               refine WK.nThen ?_
               refine WC.condT rfl ?_
               refine WC.seq ?_
               refine WC.region ?_
               refine WL.x (X.assign rfl) (by decide) ?_
               refine WL.nil ?_
               refine WK.nThen ?_
               refine WC.ret ?_
               refine WK.rThen ?_
               refine WK.ret1 rfl rfl (fun w' hw' => Ret.exact hw' ?_)
               first | rfl | (exfalso; omega) | (exfalso; contradiction) | (exfalso; have q_ := hc2 (by omega); contradiction) | (exfalso; have q_ := hc3 (by omega); contradiction) | exact (bool_true (by omega)).symm | exact (bool_true (by have q_ := hs5_ (by omega); omega)).symm | exact (bool_true (by have q_ := hs6_ (by omega); omega)).symm | (exfalso; have q_ := hs5_ (by omega); omega) | (exfalso; have q_ := hs6_ (by omega); omega)
             ·refine WL.yes rfl rfl ?_
              refine WL.x (X.move rfl) (by decide) ?_
              refine WL.no rfl rfl rfl (by decide) ?_
              refine WL.no rfl rfl rfl (by decide) ?_
              refine WL.no rfl rfl rfl (by decide) ?_
              refine WL.no rfl rfl rfl (by decide) ?_
              refine WL.yes rfl rfl ?_
              refine WL.x (X.pickF rfl rfl rfl) (by decide) ?_
              refine WL.yes rfl rfl ?_
              refine WL.x (X.pickF rfl rfl rfl) (by decide) ?_
              refine WL.x (X.pickT rfl rfl rfl) (by decide) ?_
              refine WL.nil ?_
              refine WK.nThen ?_
              refine WC.condF rfl ?_
              refine WC.skip ?_
              refine WK.nThen ?_
              refine WC.seq ?_
              refine WC.region ?_
              refine WL.x (X.loadBA (k := 9) Try.isAgg25 Try.sizeOf25 rfl rfl rfl) (by decide) ?_
              refine WL.x (X.call Try.call36 rfl (slope36 _ _ s ⟨_, _, rfl, hs2, hs4⟩ )) (by decide) ?_
              refine WL.x (X.move rfl) (by decide) ?_
              refine WL.x (X.extract rfl rfl) (by decide) ?_
              refine WL.x (X.extract rfl rfl) (by decide) ?_
              refine WL.x (X.extract rfl rfl) (by decide) ?_
              refine WL.ts (T.storeBA (k := 5) Try.sizeOf45 rfl rfl rfl (one_cons rfl (one_cons rfl one_nil)) rfl rfl) ?_
              refine WL.ts (T.storeBA (k := 4) Try.sizeOf45 rfl rfl rfl (one_cons rfl (one_cons rfl one_nil)) rfl rfl) ?_
              refine WL.x (X.assign rfl) (by decide) ?_
              refine WL.nil ?_
              refine WK.nThen ?_
              refine WC.seq ?_
              refine WC.region ?_
              refine WL.x (X.loadBA (k := 9) Try.isAgg25 Try.sizeOf25 rfl rfl rfl) (by decide) ?_
              refine WL.x (X.call Try.call61 rfl (trend61 _ _ s ⟨_, _, rfl, hs2, hs4⟩ )) (by decide) ?_
              refine WL.x (X.move rfl) (by decide) ?_
              refine WL.x (X.extract rfl rfl) (by decide) ?_
              refine WL.x (X.extract rfl rfl) (by decide) ?_
              refine WL.x (X.assign rfl) (by decide) ?_
              refine WL.x (X.assign rfl) (by decide) ?_
              refine WL.nil ?_
              refine WK.nThen ?_
              refine WC.seq ?_
              refine WC.seq ?_
              have htr := trend_err s
              refine WC.region ?_
              refine WL.x (X.move rfl) (by decide) ?_
              refine WL.condn (X.neq rfl rfl) (by decide) (fun h79 => ?_) (fun h79 => ?_)
              ·refine WL.nil ?_
               refine WK.nThen ?_
               refine WC.condT rfl ?_
               refine WC.seq ?_
               refine WC.region ?_
               refine WL.x (X.move rfl) (by decide) ?_
               refine WL.x (X.move rfl) (by decide) ?_
               refine WL.yes rfl rfl ?_
               refine WL.x (X.move rfl) (by decide) ?_
               refine WL.yes rfl rfl ?_
               refine WL.x (X.move rfl) (by decide) ?_
               refine WL.yes rfl rfl ?_
               refine WL.x (X.eql rfl rfl) (by decide) ?_
               refine WL.x (X.pickT rfl rfl rfl) (by decide) ?_
               refine WL.x (X.assign rfl) (by decide) ?_
               refine WL.nil ?_
               refine WK.nThen ?_
               refine WC.ret ?_
               refine WK.rThen ?_
               refine WK.ret1 rfl rfl (fun w' hw' => Ret.exact hw' ?_)
               first | rfl | (exfalso; omega) | (exfalso; contradiction) | (exfalso; have q_ := hc2 (by omega); contradiction) | (exfalso; have q_ := hc3 (by omega); contradiction) | exact (bool_true (by omega)).symm | exact (bool_true (by have q_ := hs5_ (by omega); omega)).symm | exact (bool_true (by have q_ := hs6_ (by omega); omega)).symm | (exfalso; have q_ := hs5_ (by omega); omega) | (exfalso; have q_ := hs6_ (by omega); omega)
              ·refine WL.nil ?_
               refine WK.nThen ?_
               refine WC.condF rfl ?_
               refine WC.skip ?_
               refine WK.nThen ?_
               refine WC.seq ?_
               have hs_ := slope_real hea (by omega)
               have hs0_ := hs_.2.1
               have hs1_ := hs_.2.2.1
               have hs2_ := hs_.2.2.2.1
               have hs3_ := hs_.2.2.2.2.1
               have hs4_ := hs_.2.2.2.2.2.1
               have hs5_ := hs_.2.2.2.2.2.2.1
               have hs6_ := hs_.2.2.2.2.2.2.2
               have hs7_ := hs_.1.2
               unfold LBd at hs0_ hs1_ hs2_
               have heb2 := fun i (h : i < s.Values.length) => heb i (by omega)
               refine WC.region ?_
               refine WL.x (X.loadBA (k := 9) Try.isAgg25 Try.sizeOf25 rfl rfl rfl) (by decide) ?_
               refine WL.x (X.move rfl) (by decide) ?_
               refine WL.x (X.call Try.call64 rfl (exact64 _ _ s ⟨_, _, rfl, hs2, hs4⟩ _ _ hs24 (by assumption) (by omega) (by omega) (by assumption))) (by decide) ?_
               refine WL.tn (T.alloc Try.zeroValue45 rfl) (by decide) fun b80 => ?_
               refine WL.ts (T.storeBA (k := 0) Try.sizeOf45 rfl rfl rfl (one_cons rfl (one_cons rfl one_nil)) rfl rfl) ?_
               refine WL.nil ?_
               refine WK.nThen ?_
               refine WC.seq ?_
               refine WC.region ?_
               refine WL.x (X.move rfl) (by decide) ?_
               refine WL.x (X.move rfl) (by decide) ?_
               refine WL.yes rfl rfl ?_
               refine WL.x (X.loadBA (k := 0) Try.isAgg45 Try.sizeOf45 rfl rfl rfl) (by decide) ?_
               refine WL.yes rfl rfl ?_
               refine WL.x (X.loadBA (k := 6) Try.isAgg45 Try.sizeOf45 rfl rfl rfl) (by decide) ?_
               refine WL.yes rfl rfl ?_
               refine WL.x (OpX.f (X.call Try.call67 rfl (less67 _ _ (exactR s ((evenL s x.Levels x.Shifts))) rfl _ ((slopeR s).1) rfl (by omega) (by omega))) hs3_) (by decide) ?_
               refine WL.yes rfl rfl ?_
               refine WL.x (X.not rfl) (by decide) ?_
               refine WL.x (X.pickT rfl rfl rfl) (by decide) ?_
               refine WL.x (X.move rfl) (by decide) ?_
               refine WL.yes rfl rfl ?_
               refine WL.x (X.loadBA (k := 5) Try.isAgg45 Try.sizeOf45 rfl rfl rfl) (by decide) ?_
               refine WL.yes rfl rfl ?_
               refine WL.x (X.loadBA (k := 0) Try.isAgg45 Try.sizeOf45 rfl rfl rfl) (by decide) ?_
               refine WL.yes rfl rfl ?_
               refine WL.x (OpX.f (X.call Try.call67 rfl (less67 _ _ ((slopeR s).2.1) rfl _ (exactR s ((evenL s x.Levels x.Shifts))) rfl (by omega) (by omega))) hs4_) (by decide) ?_
               refine WL.yes rfl rfl ?_
               refine WL.x (X.not rfl) (by decide) ?_
               refine WL.x (X.pickT rfl rfl rfl) (by decide) ?_
               refine WL.x (X.move rfl) (by decide) ?_
               refine WL.yes rfl rfl ?_
               refine WL.x (X.move rfl) (by decide) ?_
               refine WL.yes rfl rfl ?_
               refine WL.condn (X.neq rfl rfl) (by decide) (fun h81 => ?_) (fun h81 => ?_)
               ·refine WL.yes rfl rfl ?_
                refine WL.x (X.move rfl) (by decide) ?_
                refine WL.no rfl rfl rfl (by decide) ?_
                refine WL.no rfl rfl rfl (by decide) ?_
                refine WL.no rfl rfl rfl (by decide) ?_
                refine WL.yes rfl rfl ?_
                refine WL.x (X.pickT rfl rfl rfl) (by decide) ?_
                refine WL.x (X.pickT rfl rfl rfl) (by decide) ?_
                refine WL.x (X.move rfl) (by decide) ?_
                refine WL.yes rfl rfl ?_
                refine WL.x (X.move rfl) (by decide) ?_
                refine WL.yes rfl rfl ?_
                refine WL.condn (X.neq rfl rfl) (by decide) (fun h82 => ?_) (fun h82 => ?_)
                ·refine WL.yes rfl rfl ?_
                 refine WL.x (X.move rfl) (by decide) ?_
                 refine WL.no rfl rfl rfl (by decide) ?_
                 refine WL.no rfl rfl rfl (by decide) ?_
                 refine WL.no rfl rfl rfl (by decide) ?_
                 refine WL.yes rfl rfl ?_
                 refine WL.x (X.pickT rfl rfl rfl) (by decide) ?_
                 refine WL.x (X.pickT rfl rfl rfl) (by decide) ?_
                 refine WL.x (X.assign rfl) (by decide) ?_
                 refine WL.nil ?_
                 refine WK.nThen ?_
                 refine WC.ret ?_
                 refine WK.ret1 rfl rfl (fun w' hw' => Ret.exact hw' ?_)
                 first | rfl | (exfalso; omega) | (exfalso; contradiction) | (exfalso; have q_ := hc2 (by omega); contradiction) | (exfalso; have q_ := hc3 (by omega); contradiction) | exact (bool_true (by omega)).symm | exact (bool_true (by have q_ := hs5_ (by omega); omega)).symm | exact (bool_true (by have q_ := hs6_ (by omega); omega)).symm | (exfalso; have q_ := hs5_ (by omega); omega) | (exfalso; have q_ := hs6_ (by omega); omega)
                ·refine WL.yes rfl rfl ?_
                 refine WL.x (X.move rfl) (by decide) ?_
                 refine WL.yes rfl rfl ?_
                 refine WL.x (X.field Try.runUnderlying45 rfl Try.sizeOf3 rfl) (by decide) ?_
                 refine WL.yes rfl rfl ?_
                 refine WL.x (X.loadB (k := 0) Try.isAgg3 rfl rfl rfl) (by decide) ?_
                 refine WL.yes rfl rfl ?_
                 refine WL.x (X.lss rfl rfl) (by decide) ?_
                 refine WL.yes rfl rfl ?_
                 refine WL.x (X.pickF rfl rfl rfl) (by decide) ?_
                 refine WL.x (X.pickT rfl rfl rfl) (by decide) ?_
                 refine WL.x (X.assign rfl) (by decide) ?_
                 refine WL.nil ?_
                 refine WK.nThen ?_
                 refine WC.ret ?_
                 refine WK.ret1 rfl rfl (fun w' hw' => Ret.exact hw' ?_)
                 first | rfl | (exfalso; omega) | (exfalso; contradiction) | (exfalso; have q_ := hc2 (by omega); contradiction) | (exfalso; have q_ := hc3 (by omega); contradiction) | exact (bool_true (by omega)).symm | exact (bool_true (by have q_ := hs5_ (by omega); omega)).symm | exact (bool_true (by have q_ := hs6_ (by omega); omega)).symm | (exfalso; have q_ := hs5_ (by omega); omega) | (exfalso; have q_ := hs6_ (by omega); omega)
               ·refine WL.yes rfl rfl ?_
                refine WL.x (X.move rfl) (by decide) ?_
                refine WL.yes rfl rfl ?_
                refine WL.x (X.field Try.runUnderlying45 rfl Try.sizeOf3 rfl) (by decide) ?_
                refine WL.yes rfl rfl ?_
                refine WL.x (X.loadB (k := 0) Try.isAgg3 rfl rfl rfl) (by decide) ?_
                refine WL.yes rfl rfl ?_
                refine WL.cond (X.gtr rfl rfl) (by decide) (fun h83 => ?_) (fun h83 => ?_)
                ·refine WL.yes rfl rfl ?_
                 refine WL.x (X.pickF rfl rfl rfl) (by decide) ?_
                 refine WL.x (X.pickT rfl rfl rfl) (by decide) ?_
                 refine WL.x (X.move rfl) (by decide) ?_
                 refine WL.yes rfl rfl ?_
                 refine WL.x (X.move rfl) (by decide) ?_
                 refine WL.yes rfl rfl ?_
                 refine WL.condn (X.neq rfl rfl) (by decide) (fun h84 => ?_) (fun h84 => ?_)
                 ·refine WL.yes rfl rfl ?_
                  refine WL.x (X.move rfl) (by decide) ?_
                  refine WL.no rfl rfl rfl (by decide) ?_
                  refine WL.no rfl rfl rfl (by decide) ?_
                  refine WL.no rfl rfl rfl (by decide) ?_
                  refine WL.yes rfl rfl ?_
                  refine WL.x (X.pickT rfl rfl rfl) (by decide) ?_
                  refine WL.x (X.pickT rfl rfl rfl) (by decide) ?_
                  refine WL.x (X.assign rfl) (by decide) ?_
                  refine WL.nil ?_
                  refine WK.nThen ?_
                  refine WC.ret ?_
                  refine WK.ret1 rfl rfl (fun w' hw' => Ret.exact hw' ?_)
                  first | rfl | (exfalso; omega) | (exfalso; contradiction) | (exfalso; have q_ := hc2 (by omega); contradiction) | (exfalso; have q_ := hc3 (by omega); contradiction) | exact (bool_true (by omega)).symm | exact (bool_true (by have q_ := hs5_ (by omega); omega)).symm | exact (bool_true (by have q_ := hs6_ (by omega); omega)).symm | (exfalso; have q_ := hs5_ (by omega); omega) | (exfalso; have q_ := hs6_ (by omega); omega)
                 ·refine WL.yes rfl rfl ?_
                  refine WL.x (X.move rfl) (by decide) ?_
                  refine WL.yes rfl rfl ?_
                  refine WL.x (X.field Try.runUnderlying45 rfl Try.sizeOf3 rfl) (by decide) ?_
                  refine WL.yes rfl rfl ?_
                  refine WL.x (X.loadB (k := 0) Try.isAgg3 rfl rfl rfl) (by decide) ?_
                  refine WL.yes rfl rfl ?_
                  refine WL.x (X.lss rfl rfl) (by decide) ?_
                  refine WL.yes rfl rfl ?_
                  refine WL.x (X.pickF rfl rfl rfl) (by decide) ?_
                  refine WL.x (X.pickT rfl rfl rfl) (by decide) ?_
                  refine WL.x (X.assign rfl) (by decide) ?_
                  refine WL.nil ?_
                  refine WK.nThen ?_
                  refine WC.ret ?_
                  refine WK.ret1 rfl rfl (fun w' hw' => Ret.exact hw' ?_)
                  first | rfl | (exfalso; omega) | (exfalso; contradiction) | (exfalso; have q_ := hc2 (by omega); contradiction) | (exfalso; have q_ := hc3 (by omega); contradiction) | exact (bool_true (by omega)).symm | exact (bool_true (by have q_ := hs5_ (by omega); omega)).symm | exact (bool_true (by have q_ := hs6_ (by omega); omega)).symm | (exfalso; have q_ := hs5_ (by omega); omega) | (exfalso; have q_ := hs6_ (by omega); omega)
                ·refine WL.yes rfl rfl ?_
                 refine WL.x (X.pickF rfl rfl rfl) (by decide) ?_
                 refine WL.x (X.pickT rfl rfl rfl) (by decide) ?_
                 refine WL.x (X.move rfl) (by decide) ?_
                 refine WL.no rfl rfl rfl (by decide) ?_
                 refine WL.no rfl rfl rfl (by decide) ?_
                 refine WL.no rfl rfl rfl (by decide) ?_
                 refine WL.noU rfl rfl (by decide) ?_
                 refine WL.noU rfl rfl (by decide) ?_
                 refine WL.noU rfl rfl (by decide) ?_
                 refine WL.no rfl rfl rfl (by decide) ?_
                 refine WL.x (X.pickF rfl rfl rfl) (by decide) ?_
                 refine WL.x (X.assign rfl) (by decide) ?_
                 refine WL.nil ?_
                 refine WK.nThen ?_
                 refine WC.ret ?_
                 refine WK.ret1 rfl rfl (fun w' hw' => Ret.exact hw' ?_)
                 first | rfl | (exfalso; omega) | (exfalso; contradiction) | (exfalso; have q_ := hc2 (by omega); contradiction) | (exfalso; have q_ := hc3 (by omega); contradiction) | exact (bool_true (by omega)).symm | exact (bool_true (by have q_ := hs5_ (by omega); omega)).symm | exact (bool_true (by have q_ := hs6_ (by omega); omega)).symm | (exfalso; have q_ := hs5_ (by omega); omega) | (exfalso; have q_ := hs6_ (by omega); omega)
         ·refine WL.x (X.move rfl) (by decide) ?_
          refine WL.no rfl rfl rfl (by decide) ?_
          refine WL.no rfl rfl rfl (by decide) ?_
          refine WL.no rfl rfl rfl (by decide) ?_
          refine WL.noU rfl rfl (by decide) ?_
          refine WL.noU rfl rfl (by decide) ?_
          refine WL.no rfl rfl rfl (by decide) ?_
          refine WL.no rfl rfl rfl (by decide) ?_
          refine WL.noU rfl rfl (by decide) ?_
          refine WL.noU rfl rfl (by decide) ?_
          refine WL.noU rfl rfl (by decide) ?_
          refine WL.noU rfl rfl (by decide) ?_
          refine WL.noU rfl rfl (by decide) ?_
          refine WL.noU rfl rfl (by decide) ?_
          refine WL.noU rfl rfl (by decide) ?_
          refine WL.noU rfl rfl (by decide) ?_
          refine WL.no rfl rfl rfl (by decide) ?_
          refine WL.no rfl rfl rfl (by decide) ?_
          refine WL.noU rfl rfl (by decide) ?_
          refine WL.noU rfl rfl (by decide) ?_
          refine WL.noU rfl rfl (by decide) ?_
          refine WL.noU rfl rfl (by decide) ?_
          refine WL.noU rfl rfl (by decide) ?_
          refine WL.noU rfl rfl (by decide) ?_
          refine WL.noU rfl rfl (by decide) ?_
          refine WL.noU rfl rfl (by decide) ?_
          refine WL.no rfl rfl rfl (by decide) ?_
          refine WL.x (X.pickF rfl rfl rfl) (by decide) ?_
          refine WL.nil ?_
          refine WK.nThen ?_
          refine WC.condF rfl ?_
          refine WC.skip ?_
          refine WK.nThen ?_
          refine WC.seq ?_
          refine WC.region ?_
          refine WL.x (X.loadBA (k := 9) Try.isAgg25 Try.sizeOf25 rfl rfl rfl) (by decide) ?_
          refine WL.x (X.call Try.call36 rfl (slope36 _ _ s ⟨_, _, rfl, hs2, hs4⟩ )) (by decide) ?_
          refine WL.x (X.move rfl) (by decide) ?_
          refine WL.x (X.extract rfl rfl) (by decide) ?_
          refine WL.x (X.extract rfl rfl) (by decide) ?_
          refine WL.x (X.extract rfl rfl) (by decide) ?_
          refine WL.ts (T.storeBA (k := 5) Try.sizeOf45 rfl rfl rfl (one_cons rfl (one_cons rfl one_nil)) rfl rfl) ?_
          refine WL.ts (T.storeBA (k := 4) Try.sizeOf45 rfl rfl rfl (one_cons rfl (one_cons rfl one_nil)) rfl rfl) ?_
          refine WL.x (X.assign rfl) (by decide) ?_
          refine WL.nil ?_
          refine WK.nThen ?_
          refine WC.seq ?_
          refine WC.region ?_
          refine WL.x (X.loadBA (k := 9) Try.isAgg25 Try.sizeOf25 rfl rfl rfl) (by decide) ?_
          refine WL.x (X.call Try.call61 rfl (trend61 _ _ s ⟨_, _, rfl, hs2, hs4⟩ )) (by decide) ?_
          refine WL.x (X.move rfl) (by decide) ?_
          refine WL.x (X.extract rfl rfl) (by decide) ?_
          refine WL.x (X.extract rfl rfl) (by decide) ?_
          refine WL.x (X.assign rfl) (by decide) ?_
          refine WL.x (X.assign rfl) (by decide) ?_
          refine WL.nil ?_
          refine WK.nThen ?_
          refine WC.seq ?_
          refine WC.seq ?_
          have htr := trend_err s
          refine WC.region ?_
          refine WL.x (X.move rfl) (by decide) ?_
          refine WL.condn (X.neq rfl rfl) (by decide) (fun h85 => ?_) (fun h85 => ?_)
          ·refine WL.nil ?_
           refine WK.nThen ?_
           refine WC.condT rfl ?_
           refine WC.seq ?_
           refine WC.region ?_
           refine WL.x (X.move rfl) (by decide) ?_
           refine WL.x (X.move rfl) (by decide) ?_
           refine WL.yes rfl rfl ?_
           refine WL.x (X.move rfl) (by decide) ?_
           refine WL.yes rfl rfl ?_
           refine WL.x (X.move rfl) (by decide) ?_
           refine WL.yes rfl rfl ?_
           refine WL.x (X.eql rfl rfl) (by decide) ?_
           refine WL.x (X.pickT rfl rfl rfl) (by decide) ?_
           refine WL.x (X.assign rfl) (by decide) ?_
           refine WL.nil ?_
           refine WK.nThen ?_
           refine WC.ret ?_
           refine WK.rThen ?_
           refine WK.ret1 rfl rfl (fun w' hw' => Ret.exact hw' ?_)
           first | rfl | (exfalso; omega) | (exfalso; contradiction) | (exfalso; have q_ := hc2 (by omega); contradiction) | (exfalso; have q_ := hc3 (by omega); contradiction) | exact (bool_true (by omega)).symm | exact (bool_true (by have q_ := hs5_ (by omega); omega)).symm | exact (bool_true (by have q_ := hs6_ (by omega); omega)).symm | (exfalso; have q_ := hs5_ (by omega); omega) | (exfalso; have q_ := hs6_ (by omega); omega)
          ·refine WL.nil ?_
           refine WK.nThen ?_
           refine WC.condF rfl ?_
           refine WC.skip ?_
           refine WK.nThen ?_
           refine WC.seq ?_
           have hs_ := slope_real hea (by omega)
           have hs0_ := hs_.2.1
           have hs1_ := hs_.2.2.1
           have hs2_ := hs_.2.2.2.1
           have hs3_ := hs_.2.2.2.2.1
           have hs4_ := hs_.2.2.2.2.2.1
           have hs5_ := hs_.2.2.2.2.2.2.1
           have hs6_ := hs_.2.2.2.2.2.2.2
           have hs7_ := hs_.1.2
           unfold LBd at hs0_ hs1_ hs2_
           have heb2 := fun i (h : i < s.Values.length) => heb i (by omega)
           refine WC.region ?_
           refine WL.x (X.loadBA (k := 9) Try.isAgg25 Try.sizeOf25 rfl rfl rfl) (by decide) ?_
           refine WL.x (X.move rfl) (by decide) ?_
           refine WL.x (X.call Try.call64 rfl (exact64 _ _ s ⟨_, _, rfl, hs2, hs4⟩ _ _ hs24 (by assumption) (by omega) (by omega) (by assumption))) (by decide) ?_
           refine WL.tn (T.alloc Try.zeroValue45 rfl) (by decide) fun b86 => ?_
           refine WL.ts (T.storeBA (k := 0) Try.sizeOf45 rfl rfl rfl (one_cons rfl (one_cons rfl one_nil)) rfl rfl) ?_
           refine WL.nil ?_
           refine WK.nThen ?_
           refine WC.seq ?_
           refine WC.region ?_
           refine WL.x (X.move rfl) (by decide) ?_
           refine WL.x (X.move rfl) (by decide) ?_
           refine WL.yes rfl rfl ?_
           refine WL.x (X.loadBA (k := 0) Try.isAgg45 Try.sizeOf45 rfl rfl rfl) (by decide) ?_
           refine WL.yes rfl rfl ?_
           refine WL.x (X.loadBA (k := 6) Try.isAgg45 Try.sizeOf45 rfl rfl rfl) (by decide) ?_
           refine WL.yes rfl rfl ?_
           refine WL.x (OpX.f (X.call Try.call67 rfl (less67 _ _ (exactR s ((evenL s x.Levels x.Shifts))) rfl _ ((slopeR s).1) rfl (by omega) (by omega))) hs3_) (by decide) ?_
           refine WL.yes rfl rfl ?_
           refine WL.x (X.not rfl) (by decide) ?_
           refine WL.x (X.pickT rfl rfl rfl) (by decide) ?_
           refine WL.x (X.move rfl) (by decide) ?_
           refine WL.yes rfl rfl ?_
           refine WL.x (X.loadBA (k := 5) Try.isAgg45 Try.sizeOf45 rfl rfl rfl) (by decide) ?_
           refine WL.yes rfl rfl ?_
           refine WL.x (X.loadBA (k := 0) Try.isAgg45 Try.sizeOf45 rfl rfl rfl) (by decide) ?_
           refine WL.yes rfl rfl ?_
           refine WL.x (OpX.f (X.call Try.call67 rfl (less67 _ _ ((slopeR s).2.1) rfl _ (exactR s ((evenL s x.Levels x.Shifts))) rfl (by omega) (by omega))) hs4_) (by decide) ?_
           refine WL.yes rfl rfl ?_
           refine WL.x (X.not rfl) (by decide) ?_
           refine WL.x (X.pickT rfl rfl rfl) (by decide) ?_
           refine WL.x (X.move rfl) (by decide) ?_
           refine WL.yes rfl rfl ?_
           refine WL.x (X.move rfl) (by decide) ?_
           refine WL.yes rfl rfl ?_
           refine WL.condn (X.neq rfl rfl) (by decide) (fun h87 => ?_) (fun h87 => ?_)
           ·refine WL.yes rfl rfl ?_
            refine WL.x (X.move rfl) (by decide) ?_
            refine WL.no rfl rfl rfl (by decide) ?_
            refine WL.no rfl rfl rfl (by decide) ?_
            refine WL.no rfl rfl rfl (by decide) ?_
            refine WL.yes rfl rfl ?_
            refine WL.x (X.pickT rfl rfl rfl) (by decide) ?_
            refine WL.x (X.pickT rfl rfl rfl) (by decide) ?_
            refine WL.x (X.move rfl) (by decide) ?_
            refine WL.yes rfl rfl ?_
            refine WL.x (X.move rfl) (by decide) ?_
            refine WL.yes rfl rfl ?_
            refine WL.condn (X.neq rfl rfl) (by decide) (fun h88 => ?_) (fun h88 => ?_)
            ·refine WL.yes rfl rfl ?_
             refine WL.x (X.move rfl) (by decide) ?_
             refine WL.no rfl rfl rfl (by decide) ?_
             refine WL.no rfl rfl rfl (by decide) ?_
             refine WL.no rfl rfl rfl (by decide) ?_
             refine WL.yes rfl rfl ?_
             refine WL.x (X.pickT rfl rfl rfl) (by decide) ?_
             refine WL.x (X.pickT rfl rfl rfl) (by decide) ?_
             refine WL.x (X.assign rfl) (by decide) ?_
             refine WL.nil ?_
             refine WK.nThen ?_
             refine WC.ret ?_
             refine WK.ret1 rfl rfl (fun w' hw' => Ret.exact hw' ?_)
             first | rfl | (exfalso; omega) | (exfalso; contradiction) | (exfalso; have q_ := hc2 (by omega); contradiction) | (exfalso; have q_ := hc3 (by omega); contradiction) | exact (bool_true (by omega)).symm | exact (bool_true (by have q_ := hs5_ (by omega); omega)).symm | exact (bool_true (by have q_ := hs6_ (by omega); omega)).symm | (exfalso; have q_ := hs5_ (by omega); omega) | (exfalso; have q_ := hs6_ (by omega); omega)
            ·refine WL.yes rfl rfl ?_
             refine WL.x (X.move rfl) (by decide) ?_
             refine WL.yes rfl rfl ?_
             refine WL.x (X.field Try.runUnderlying45 rfl Try.sizeOf3 rfl) (by decide) ?_
             refine WL.yes rfl rfl ?_
             refine WL.x (X.loadB (k := 0) Try.isAgg3 rfl rfl rfl) (by decide) ?_
             refine WL.yes rfl rfl ?_
             refine WL.x (X.lss rfl rfl) (by decide) ?_
             refine WL.yes rfl rfl ?_
             refine WL.x (X.pickF rfl rfl rfl) (by decide) ?_
             refine WL.x (X.pickT rfl rfl rfl) (by decide) ?_
             refine WL.x (X.assign rfl) (by decide) ?_
             refine WL.nil ?_
             refine WK.nThen ?_
             refine WC.ret ?_
             refine WK.ret1 rfl rfl (fun w' hw' => Ret.exact hw' ?_)
             first | rfl | (exfalso; omega) | (exfalso; contradiction) | (exfalso; have q_ := hc2 (by omega); contradiction) | (exfalso; have q_ := hc3 (by omega); contradiction) | exact (bool_true (by omega)).symm | exact (bool_true (by have q_ := hs5_ (by omega); omega)).symm | exact (bool_true (by have q_ := hs6_ (by omega); omega)).symm | (exfalso; have q_ := hs5_ (by omega); omega) | (exfalso; have q_ := hs6_ (by omega); omega)
           ·refine WL.yes rfl rfl ?_
            refine WL.x (X.move rfl) (by decide) ?_
            refine WL.yes rfl rfl ?_
            refine WL.x (X.field Try.runUnderlying45 rfl Try.sizeOf3 rfl) (by decide) ?_
            refine WL.yes rfl rfl ?_
            refine WL.x (X.loadB (k := 0) Try.isAgg3 rfl rfl rfl) (by decide) ?_
            refine WL.yes rfl rfl ?_
            refine WL.cond (X.gtr rfl rfl) (by decide) (fun h89 => ?_) (fun h89 => ?_)
            ·refine WL.yes rfl rfl ?_
             refine WL.x (X.pickF rfl rfl rfl) (by decide) ?_
             refine WL.x (X.pickT rfl rfl rfl) (by decide) ?_
             refine WL.x (X.move rfl) (by decide) ?_
             refine WL.yes rfl rfl ?_
             refine WL.x (X.move rfl) (by decide) ?_
             refine WL.yes rfl rfl ?_
             refine WL.condn (X.neq rfl rfl) (by decide) (fun h90 => ?_) (fun h90 => ?_)
             ·refine WL.yes rfl rfl ?_
              refine WL.x (X.move rfl) (by decide) ?_
              refine WL.no rfl rfl rfl (by decide) ?_
              refine WL.no rfl rfl rfl (by decide) ?_
              refine WL.no rfl rfl rfl (by decide) ?_
              refine WL.yes rfl rfl ?_
              refine WL.x (X.pickT rfl rfl rfl) (by decide) ?_
              refine WL.x (X.pickT rfl rfl rfl) (by decide) ?_
              refine WL.x (X.assign rfl) (by decide) ?_
              refine WL.nil ?_
              refine WK.nThen ?_
              refine WC.ret ?_
              refine WK.ret1 rfl rfl (fun w' hw' => Ret.exact hw' ?_)
              first | rfl | (exfalso; omega) | (exfalso; contradiction) | (exfalso; have q_ := hc2 (by omega); contradiction) | (exfalso; have q_ := hc3 (by omega); contradiction) | exact (bool_true (by omega)).symm | exact (bool_true (by have q_ := hs5_ (by omega); omega)).symm | exact (bool_true (by have q_ := hs6_ (by omega); omega)).symm | (exfalso; have q_ := hs5_ (by omega); omega) | (exfalso; have q_ := hs6_ (by omega); omega)
             ·refine WL.yes rfl rfl ?_
              refine WL.x (X.move rfl) (by decide) ?_
              refine WL.yes rfl rfl ?_
              refine WL.x (X.field Try.runUnderlying45 rfl Try.sizeOf3 rfl) (by decide) ?_
              refine WL.yes rfl rfl ?_
              refine WL.x (X.loadB (k := 0) Try.isAgg3 rfl rfl rfl) (by decide) ?_
              refine WL.yes rfl rfl ?_
              refine WL.x (X.lss rfl rfl) (by decide) ?_
              refine WL.yes rfl rfl ?_
              refine WL.x (X.pickF rfl rfl rfl) (by decide) ?_
              refine WL.x (X.pickT rfl rfl rfl) (by decide) ?_
              refine WL.x (X.assign rfl) (by decide) ?_
              refine WL.nil ?_
              refine WK.nThen ?_
              refine WC.ret ?_
              refine WK.ret1 rfl rfl (fun w' hw' => Ret.exact hw' ?_)
              first | rfl | (exfalso; omega) | (exfalso; contradiction) | (exfalso; have q_ := hc2 (by omega); contradiction) | (exfalso; have q_ := hc3 (by omega); contradiction) | exact (bool_true (by omega)).symm | exact (bool_true (by have q_ := hs5_ (by omega); omega)).symm | exact (bool_true (by have q_ := hs6_ (by omega); omega)).symm | (exfalso; have q_ := hs5_ (by omega); omega) | (exfalso; have q_ := hs6_ (by omega); omega)
            ·refine WL.yes rfl rfl ?_
             refine WL.x (X.pickF rfl rfl rfl) (by decide) ?_
             refine WL.x (X.pickT rfl rfl rfl) (by decide) ?_
             refine WL.x (X.move rfl) (by decide) ?_
             refine WL.no rfl rfl rfl (by decide) ?_
             refine WL.no rfl rfl rfl (by decide) ?_
             refine WL.no rfl rfl rfl (by decide) ?_
             refine WL.noU rfl rfl (by decide) ?_
             refine WL.noU rfl rfl (by decide) ?_
             refine WL.noU rfl rfl (by decide) ?_
             refine WL.no rfl rfl rfl (by decide) ?_
             refine WL.x (X.pickF rfl rfl rfl) (by decide) ?_
             refine WL.x (X.assign rfl) (by decide) ?_
             refine WL.nil ?_
             refine WK.nThen ?_
             refine WC.ret ?_
             refine WK.ret1 rfl rfl (fun w' hw' => Ret.exact hw' ?_)
             first | rfl | (exfalso; omega) | (exfalso; contradiction) | (exfalso; have q_ := hc2 (by omega); contradiction) | (exfalso; have q_ := hc3 (by omega); contradiction) | exact (bool_true (by omega)).symm | exact (bool_true (by have q_ := hs5_ (by omega); omega)).symm | exact (bool_true (by have q_ := hs6_ (by omega); omega)).symm | (exfalso; have q_ := hs5_ (by omega); omega) | (exfalso; have q_ := hs6_ (by omega); omega)
       ·refine WL.x (X.move rfl) (by decide) ?_
        refine WL.no rfl rfl rfl (by decide) ?_
        refine WL.no rfl rfl rfl (by decide) ?_
        refine WL.no rfl rfl rfl (by decide) ?_
        refine WL.noU rfl rfl (by decide) ?_
        refine WL.noU rfl rfl (by decide) ?_
        refine WL.noU rfl rfl (by decide) ?_
        refine WL.no rfl rfl rfl (by decide) ?_
        refine WL.no rfl rfl rfl (by decide) ?_
        refine WL.noU rfl rfl (by decide) ?_
        refine WL.noU rfl rfl (by decide) ?_
        refine WL.noU rfl rfl (by decide) ?_
        refine WL.no rfl rfl rfl (by decide) ?_
        refine WL.x (X.pickF rfl rfl rfl) (by decide) ?_
        refine WL.nil ?_
        refine WK.nThen ?_
        refine WC.condF rfl ?_
        refine WC.skip ?_
        refine WK.nThen ?_
        refine WC.seq ?_
        refine WC.region ?_
        refine WL.x (X.loadBA (k := 7) Try.isAgg25 Try.sizeOf25 rfl rfl rfl) (by decide) ?_
        refine WL.x (X.move rfl) (by decide) ?_
        refine WL.x (X.loadBA (k := 4) Try.isAgg33 Try.sizeOf33 rfl rfl rfl) (by decide) ?_
        refine WL.x (X.call Try.call40 rfl (mean40 _ _ s ⟨_, _, rfl, hs2, hs4⟩ _ _ hs24 _ b rfl (by omega) (by assumption))) (by decide) ?_
        refine WL.x (X.move rfl) (by decide) ?_
        refine WL.x (X.extract rfl rfl) (by decide) ?_
        refine WL.x (X.extract rfl rfl) (by decide) ?_
        refine WL.x (X.extract rfl rfl) (by decide) ?_
        refine WL.tn (T.alloc Try.zeroValue45 rfl) (by decide) fun b91 => ?_
        refine WL.tn (T.alloc Try.zeroValue33 rfl) (by decide) fun b92 => ?_
        refine WL.ts (T.storeBA (k := 1) Try.sizeOf45 rfl rfl rfl (one_cons rfl (one_cons rfl one_nil)) rfl rfl) ?_
        refine WL.ts (T.storeBA (k := 0) Try.sizeOf33 rfl rfl rfl (one_cons rfl (one_cons rfl one_nil)) rfl rfl) ?_
        refine WL.x (X.assign rfl) (by decide) ?_
        refine WL.nil ?_
        refine WK.nThen ?_
        refine WC.seq ?_
        refine WC.region ?_
        refine WL.x (X.loadBA (k := 9) Try.isAgg25 Try.sizeOf25 rfl rfl rfl) (by decide) ?_
        refine WL.x (X.loadBA (k := 7) Try.isAgg33 Try.sizeOf33 rfl rfl rfl) (by decide) ?_
        refine WL.x (X.loadBA (k := 6) Try.isAgg33 Try.sizeOf33 rfl rfl rfl) (by decide) ?_
        refine WL.x (X.call Try.call71 rfl (change71 _ _ s ⟨_, _, rfl, hs2, hs4⟩ _ a rfl _ b rfl )) (by decide) ?_
        refine WL.x (X.move rfl) (by decide) ?_
        refine WL.x (X.extract rfl rfl) (by decide) ?_
        refine WL.x (X.extract rfl rfl) (by decide) ?_
        refine WL.x (X.assign rfl) (by decide) ?_
        refine WL.x (X.assign rfl) (by decide) ?_
        refine WL.nil ?_
        refine WK.nThen ?_
        refine WC.seq ?_
        refine WC.seq ?_
        refine WC.region ?_
        refine WL.x (X.move rfl) (by decide) ?_
        refine WL.cond (X.eql rfl rfl) (by decide) (fun h93 => ?_) (fun h93 => ?_)
        ·have hc := chg_real hea (a := a) (b := b) (by omega)
         have hc0 := hc.1
         have hc1 := hc.2.1
         have hc2 := hc.2.2.1
         have hc3 := hc.2.2.2
         unfold LBd at hc0 hc1
         refine WL.x (X.move rfl) (by decide) ?_
         refine WL.yes rfl rfl ?_
         refine WL.x (X.move rfl) (by decide) ?_
         refine WL.yes rfl rfl ?_
         refine WL.condn (X.notp rfl) (by decide) (fun h94 => ?_) (fun h94 => ?_)
         ·refine WL.yes rfl rfl ?_
          refine WL.x (X.move rfl) (by decide) ?_
          refine WL.no rfl rfl rfl (by decide) ?_
          refine WL.no rfl rfl rfl (by decide) ?_
          refine WL.yes rfl rfl ?_
          refine WL.x (X.pickT rfl rfl rfl) (by decide) ?_
          refine WL.yes rfl rfl ?_
          refine WL.x (X.move rfl) (by decide) ?_
          refine WL.no rfl rfl rfl (by decide) ?_
          refine WL.no rfl rfl rfl (by decide) ?_
          refine WL.no rfl rfl rfl (by decide) ?_
          refine WL.noU rfl rfl (by decide) ?_
          refine WL.noU rfl rfl (by decide) ?_
          refine WL.noU rfl rfl (by decide) ?_
          refine WL.noU rfl rfl (by decide) ?_
          refine WL.no rfl rfl rfl (by decide) ?_
          refine WL.yes rfl rfl ?_
          refine WL.x (X.pickT rfl rfl rfl) (by decide) ?_
          refine WL.yes rfl rfl ?_
          refine WL.x (X.move rfl) (by decide) ?_
          refine WL.no rfl rfl rfl (by decide) ?_
          refine WL.no rfl rfl rfl (by decide) ?_
          refine WL.no rfl rfl rfl (by decide) ?_
          refine WL.noU rfl rfl (by decide) ?_
          refine WL.noU rfl rfl (by decide) ?_
          refine WL.noU rfl rfl (by decide) ?_
          refine WL.noU rfl rfl (by decide) ?_
          refine WL.no rfl rfl rfl (by decide) ?_
          refine WL.yes rfl rfl ?_
          refine WL.x (X.pickT rfl rfl rfl) (by decide) ?_
          refine WL.x (X.pickT rfl rfl rfl) (by decide) ?_
          refine WL.nil ?_
          refine WK.nThen ?_
          refine WC.condT rfl ?_
          refine WC.seq ?_
          refine WC.region ?_
          refine WL.x (X.assign rfl) (by decide) ?_
          refine WL.nil ?_
          refine WK.nThen ?_
          refine WC.ret ?_
          refine WK.rThen ?_
          refine WK.ret1 rfl rfl (fun w' hw' => Ret.exact hw' ?_)
          first | rfl | (exfalso; omega) | (exfalso; contradiction) | (exfalso; have q_ := hc2 (by omega); contradiction) | (exfalso; have q_ := hc3 (by omega); contradiction) | exact (bool_true (by omega)).symm | exact (bool_true (by have q_ := hs5_ (by omega); omega)).symm | exact (bool_true (by have q_ := hs6_ (by omega); omega)).symm | (exfalso; have q_ := hs5_ (by omega); omega) | (exfalso; have q_ := hs6_ (by omega); omega)
         ·refine WL.yes rfl rfl ?_
          refine WL.x (X.move rfl) (by decide) ?_
          refine WL.yes rfl rfl ?_
          refine WL.x (X.move rfl) (by decide) ?_
          refine WL.yes rfl rfl ?_
          refine WL.condn (X.notp rfl) (by decide) (fun h95 => ?_) (fun h95 => ?_)
          ·refine WL.yes rfl rfl ?_
           refine WL.x (X.pickF rfl rfl rfl) (by decide) ?_
           refine WL.yes rfl rfl ?_
           refine WL.x (X.move rfl) (by decide) ?_
           refine WL.no rfl rfl rfl (by decide) ?_
           refine WL.no rfl rfl rfl (by decide) ?_
           refine WL.no rfl rfl rfl (by decide) ?_
           refine WL.noU rfl rfl (by decide) ?_
           refine WL.noU rfl rfl (by decide) ?_
           refine WL.noU rfl rfl (by decide) ?_
           refine WL.noU rfl rfl (by decide) ?_
           refine WL.no rfl rfl rfl (by decide) ?_
           refine WL.yes rfl rfl ?_
           refine WL.x (X.pickT rfl rfl rfl) (by decide) ?_
           refine WL.yes rfl rfl ?_
           refine WL.x (X.move rfl) (by decide) ?_
           refine WL.no rfl rfl rfl (by decide) ?_
           refine WL.no rfl rfl rfl (by decide) ?_
           refine WL.no rfl rfl rfl (by decide) ?_
           refine WL.noU rfl rfl (by decide) ?_
           refine WL.noU rfl rfl (by decide) ?_
           refine WL.noU rfl rfl (by decide) ?_
           refine WL.noU rfl rfl (by decide) ?_
           refine WL.no rfl rfl rfl (by decide) ?_
           refine WL.yes rfl rfl ?_
           refine WL.x (X.pickT rfl rfl rfl) (by decide) ?_
           refine WL.x (X.pickT rfl rfl rfl) (by decide) ?_
           refine WL.nil ?_
           refine WK.nThen ?_
           refine WC.condT rfl ?_
           refine WC.seq ?_
           refine WC.region ?_
           refine WL.x (X.assign rfl) (by decide) ?_
           refine WL.nil ?_
           refine WK.nThen ?_
           refine WC.ret ?_
           refine WK.rThen ?_
           refine WK.ret1 rfl rfl (fun w' hw' => Ret.exact hw' ?_)
           first | rfl | (exfalso; omega) | (exfalso; contradiction) | (exfalso; have q_ := hc2 (by omega); contradiction) | (exfalso; have q_ := hc3 (by omega); contradiction) | exact (bool_true (by omega)).symm | exact (bool_true (by have q_ := hs5_ (by omega); omega)).symm | exact (bool_true (by have q_ := hs6_ (by omega); omega)).symm | (exfalso; have q_ := hs5_ (by omega); omega) | (exfalso; have q_ := hs6_ (by omega); omega)
          ·refine WL.yes rfl rfl ?_
           refine WL.x (X.pickF rfl rfl rfl) (by decide) ?_
           refine WL.yes rfl rfl ?_
           refine WL.x (X.move rfl) (by decide) ?_
           refine WL.yes rfl rfl ?_
           refine WL.x (X.move rfl) (by decide) ?_
           refine WL.yes rfl rfl ?_
           refine WL.cond (X.eql rfl rfl) (by decide) (fun h96 => ?_) (fun h96 => ?_)
           ·refine WL.yes rfl rfl ?_
            refine WL.x (X.move rfl) (by decide) ?_
            refine WL.yes rfl rfl ?_
            refine WL.x (X.loadBA (k := 3) Try.isAgg45 Try.sizeOf45 rfl rfl rfl) (by decide) ?_
            refine WL.yes rfl rfl ?_
            refine WL.x (X.loadBA (k := 1) Try.isAgg45 Try.sizeOf45 rfl rfl rfl) (by decide) ?_
            refine WL.yes rfl rfl ?_
            refine WL.cond (X.call Try.call67 rfl (less67 _ _ ((meanR s ((evenL s x.Levels x.Shifts)) a).1) rfl _ ((meanR s ((evenL s x.Levels x.Shifts)) b).1) rfl (by omega) (by omega))) (by decide) (fun h97 => ?_) (fun h97 => ?_)
            ·refine WL.yes rfl rfl ?_
             refine WL.x (X.not rfl) (by decide) ?_
             refine WL.yes rfl rfl ?_
             refine WL.x (X.pickT rfl rfl rfl) (by decide) ?_
             refine WL.yes rfl rfl ?_
             refine WL.x (X.pickF rfl rfl rfl) (by decide) ?_
             refine WL.yes rfl rfl ?_
             refine WL.x (X.move rfl) (by decide) ?_
             refine WL.yes rfl rfl ?_
             refine WL.x (X.move rfl) (by decide) ?_
             refine WL.yes rfl rfl ?_
             refine WL.cond (X.eql rfl rfl) (by decide) (fun h98 => ?_) (fun h98 => ?_)
             ·refine WL.yes rfl rfl ?_
              refine WL.x (X.move rfl) (by decide) ?_
              refine WL.yes rfl rfl ?_
              refine WL.x (X.loadBA (k := 1) Try.isAgg45 Try.sizeOf45 rfl rfl rfl) (by decide) ?_
              refine WL.yes rfl rfl ?_
              refine WL.x (X.loadBA (k := 3) Try.isAgg45 Try.sizeOf45 rfl rfl rfl) (by decide) ?_
              refine WL.yes rfl rfl ?_
              refine WL.cond (X.call Try.call67 rfl (less67 _ _ ((meanR s ((evenL s x.Levels x.Shifts)) b).1) rfl _ ((meanR s ((evenL s x.Levels x.Shifts)) a).1) rfl (by omega) (by omega))) (by decide) (fun h99 => ?_) (fun h99 => ?_)
              ·refine WL.yes rfl rfl ?_
               refine WL.x (X.not rfl) (by decide) ?_
               refine WL.yes rfl rfl ?_
               refine WL.x (X.pickT rfl rfl rfl) (by decide) ?_
               refine WL.yes rfl rfl ?_
               refine WL.x (X.pickF rfl rfl rfl) (by decide) ?_
               refine WL.x (X.pickT rfl rfl rfl) (by decide) ?_
               refine WL.nil ?_
               refine WK.nThen ?_
               refine WC.condF rfl ?_
               refine WC.skip ?_
               refine WK.nThen ?_
               refine WC.seq ?_
               refine WC.region ?_
               refine WL.x (X.loadBA (k := 9) Try.isAgg25 Try.sizeOf25 rfl rfl rfl) (by decide) ?_
               refine WL.x (X.call Try.call36 rfl (slope36 _ _ s ⟨_, _, rfl, hs2, hs4⟩ )) (by decide) ?_
               refine WL.x (X.move rfl) (by decide) ?_
               refine WL.x (X.extract rfl rfl) (by decide) ?_
               refine WL.x (X.extract rfl rfl) (by decide) ?_
               refine WL.x (X.extract rfl rfl) (by decide) ?_
               refine WL.ts (T.storeBA (k := 5) Try.sizeOf45 rfl rfl rfl (one_cons rfl (one_cons rfl one_nil)) rfl rfl) ?_
               refine WL.ts (T.storeBA (k := 4) Try.sizeOf45 rfl rfl rfl (one_cons rfl (one_cons rfl one_nil)) rfl rfl) ?_
               refine WL.x (X.assign rfl) (by decide) ?_
               refine WL.nil ?_
               refine WK.nThen ?_
               refine WC.seq ?_
               refine WC.region ?_
               refine WL.x (X.loadBA (k := 9) Try.isAgg25 Try.sizeOf25 rfl rfl rfl) (by decide) ?_
               refine WL.x (X.call Try.call61 rfl (trend61 _ _ s ⟨_, _, rfl, hs2, hs4⟩ )) (by decide) ?_
               refine WL.x (X.move rfl) (by decide) ?_
               refine WL.x (X.extract rfl rfl) (by decide) ?_
               refine WL.x (X.extract rfl rfl) (by decide) ?_
               refine WL.x (X.assign rfl) (by decide) ?_
               refine WL.x (X.assign rfl) (by decide) ?_
               refine WL.nil ?_
               refine WK.nThen ?_
               refine WC.seq ?_
               refine WC.seq ?_
               have htr := trend_err s
               refine WC.region ?_
               refine WL.x (X.move rfl) (by decide) ?_
               refine WL.condn (X.neq rfl rfl) (by decide) (fun h100 => ?_) (fun h100 => ?_)
               ·refine WL.nil ?_
                refine WK.nThen ?_
                refine WC.condT rfl ?_
                refine WC.seq ?_
                refine WC.region ?_
                refine WL.x (X.move rfl) (by decide) ?_
                refine WL.x (X.move rfl) (by decide) ?_
                refine WL.yes rfl rfl ?_
                refine WL.x (X.move rfl) (by decide) ?_
                refine WL.yes rfl rfl ?_
                refine WL.x (X.move rfl) (by decide) ?_
                refine WL.yes rfl rfl ?_
                refine WL.x (X.eql rfl rfl) (by decide) ?_
                refine WL.x (X.pickT rfl rfl rfl) (by decide) ?_
                refine WL.x (X.assign rfl) (by decide) ?_
                refine WL.nil ?_
                refine WK.nThen ?_
                refine WC.ret ?_
                refine WK.rThen ?_
                refine WK.ret1 rfl rfl (fun w' hw' => Ret.exact hw' ?_)
                first | rfl | (exfalso; omega) | (exfalso; contradiction) | (exfalso; have q_ := hc2 (by omega); contradiction) | (exfalso; have q_ := hc3 (by omega); contradiction) | exact (bool_true (by omega)).symm | exact (bool_true (by have q_ := hs5_ (by omega); omega)).symm | exact (bool_true (by have q_ := hs6_ (by omega); omega)).symm | (exfalso; have q_ := hs5_ (by omega); omega) | (exfalso; have q_ := hs6_ (by omega); omega)
               ·refine WL.nil ?_
                refine WK.nThen ?_
                refine WC.condF rfl ?_
                refine WC.skip ?_
                refine WK.nThen ?_
                refine WC.seq ?_
                have hs_ := slope_real hea (by omega)
                have hs0_ := hs_.2.1
                have hs1_ := hs_.2.2.1
                have hs2_ := hs_.2.2.2.1
                have hs3_ := hs_.2.2.2.2.1
                have hs4_ := hs_.2.2.2.2.2.1
                have hs5_ := hs_.2.2.2.2.2.2.1
                have hs6_ := hs_.2.2.2.2.2.2.2
                have hs7_ := hs_.1.2
                unfold LBd at hs0_ hs1_ hs2_
                have heb2 := fun i (h : i < s.Values.length) => heb i (by omega)
                refine WC.region ?_
                refine WL.x (X.loadBA (k := 9) Try.isAgg25 Try.sizeOf25 rfl rfl rfl) (by decide) ?_
                refine WL.x (X.move rfl) (by decide) ?_
                refine WL.x (X.call Try.call64 rfl (exact64 _ _ s ⟨_, _, rfl, hs2, hs4⟩ _ _ hs24 (by assumption) (by omega) (by omega) (by assumption))) (by decide) ?_
                refine WL.tn (T.alloc Try.zeroValue45 rfl) (by decide) fun b101 => ?_
                refine WL.ts (T.storeBA (k := 0) Try.sizeOf45 rfl rfl rfl (one_cons rfl (one_cons rfl one_nil)) rfl rfl) ?_
                refine WL.nil ?_
                refine WK.nThen ?_
                refine WC.seq ?_
                refine WC.region ?_
                refine WL.x (X.move rfl) (by decide) ?_
                refine WL.x (X.move rfl) (by decide) ?_
                refine WL.yes rfl rfl ?_
                refine WL.x (X.loadBA (k := 0) Try.isAgg45 Try.sizeOf45 rfl rfl rfl) (by decide) ?_
                refine WL.yes rfl rfl ?_
                refine WL.x (X.loadBA (k := 6) Try.isAgg45 Try.sizeOf45 rfl rfl rfl) (by decide) ?_
                refine WL.yes rfl rfl ?_
                refine WL.x (OpX.f (X.call Try.call67 rfl (less67 _ _ (exactR s ((evenL s x.Levels x.Shifts))) rfl _ ((slopeR s).1) rfl (by omega) (by omega))) hs3_) (by decide) ?_
                refine WL.yes rfl rfl ?_
                refine WL.x (X.not rfl) (by decide) ?_
                refine WL.x (X.pickT rfl rfl rfl) (by decide) ?_
                refine WL.x (X.move rfl) (by decide) ?_
                refine WL.yes rfl rfl ?_
                refine WL.x (X.loadBA (k := 5) Try.isAgg45 Try.sizeOf45 rfl rfl rfl) (by decide) ?_
                refine WL.yes rfl rfl ?_
                refine WL.x (X.loadBA (k := 0) Try.isAgg45 Try.sizeOf45 rfl rfl rfl) (by decide) ?_
                refine WL.yes rfl rfl ?_
                refine WL.x (OpX.f (X.call Try.call67 rfl (less67 _ _ ((slopeR s).2.1) rfl _ (exactR s ((evenL s x.Levels x.Shifts))) rfl (by omega) (by omega))) hs4_) (by decide) ?_
                refine WL.yes rfl rfl ?_
                refine WL.x (X.not rfl) (by decide) ?_
                refine WL.x (X.pickT rfl rfl rfl) (by decide) ?_
                refine WL.x (X.move rfl) (by decide) ?_
                refine WL.yes rfl rfl ?_
                refine WL.x (X.move rfl) (by decide) ?_
                refine WL.yes rfl rfl ?_
                refine WL.condn (X.neq rfl rfl) (by decide) (fun h102 => ?_) (fun h102 => ?_)
                ·refine WL.yes rfl rfl ?_
                 refine WL.x (X.move rfl) (by decide) ?_
                 refine WL.no rfl rfl rfl (by decide) ?_
                 refine WL.no rfl rfl rfl (by decide) ?_
                 refine WL.no rfl rfl rfl (by decide) ?_
                 refine WL.yes rfl rfl ?_
                 refine WL.x (X.pickT rfl rfl rfl) (by decide) ?_
                 refine WL.x (X.pickT rfl rfl rfl) (by decide) ?_
                 refine WL.x (X.move rfl) (by decide) ?_
                 refine WL.yes rfl rfl ?_
                 refine WL.x (X.move rfl) (by decide) ?_
                 refine WL.yes rfl rfl ?_
                 refine WL.condn (X.neq rfl rfl) (by decide) (fun h103 => ?_) (fun h103 => ?_)
                 ·refine WL.yes rfl rfl ?_
                  refine WL.x (X.move rfl) (by decide) ?_
                  refine WL.no rfl rfl rfl (by decide) ?_
                  refine WL.no rfl rfl rfl (by decide) ?_
                  refine WL.no rfl rfl rfl (by decide) ?_
                  refine WL.yes rfl rfl ?_
                  refine WL.x (X.pickT rfl rfl rfl) (by decide) ?_
                  refine WL.x (X.pickT rfl rfl rfl) (by decide) ?_
                  refine WL.x (X.assign rfl) (by decide) ?_
                  refine WL.nil ?_
                  refine WK.nThen ?_
                  refine WC.ret ?_
                  refine WK.ret1 rfl rfl (fun w' hw' => Ret.exact hw' ?_)
                  first | rfl | (exfalso; omega) | (exfalso; contradiction) | (exfalso; have q_ := hc2 (by omega); contradiction) | (exfalso; have q_ := hc3 (by omega); contradiction) | exact (bool_true (by omega)).symm | exact (bool_true (by have q_ := hs5_ (by omega); omega)).symm | exact (bool_true (by have q_ := hs6_ (by omega); omega)).symm | (exfalso; have q_ := hs5_ (by omega); omega) | (exfalso; have q_ := hs6_ (by omega); omega)
                 ·refine WL.yes rfl rfl ?_
                  refine WL.x (X.move rfl) (by decide) ?_
                  refine WL.yes rfl rfl ?_
                  refine WL.x (X.field Try.runUnderlying45 rfl Try.sizeOf3 rfl) (by decide) ?_
                  refine WL.yes rfl rfl ?_
                  refine WL.x (X.loadB (k := 0) Try.isAgg3 rfl rfl rfl) (by decide) ?_
                  refine WL.yes rfl rfl ?_
                  refine WL.x (X.lss rfl rfl) (by decide) ?_
                  refine WL.yes rfl rfl ?_
                  refine WL.x (X.pickF rfl rfl rfl) (by decide) ?_
                  refine WL.x (X.pickT rfl rfl rfl) (by decide) ?_
                  refine WL.x (X.assign rfl) (by decide) ?_
                  refine WL.nil ?_
                  refine WK.nThen ?_
                  refine WC.ret ?_
                  refine WK.ret1 rfl rfl (fun w' hw' => Ret.exact hw' ?_)
                  first | rfl | (exfalso; omega) | (exfalso; contradiction) | (exfalso; have q_ := hc2 (by omega); contradiction) | (exfalso; have q_ := hc3 (by omega); contradiction) | exact (bool_true (by omega)).symm | exact (bool_true (by have q_ := hs5_ (by omega); omega)).symm | exact (bool_true (by have q_ := hs6_ (by omega); omega)).symm | (exfalso; have q_ := hs5_ (by omega); omega) | (exfalso; have q_ := hs6_ (by omega); omega)
                ·refine WL.yes rfl rfl ?_
                 refine WL.x (X.move rfl) (by decide) ?_
                 refine WL.yes rfl rfl ?_
                 refine WL.x (X.field Try.runUnderlying45 rfl Try.sizeOf3 rfl) (by decide) ?_
                 refine WL.yes rfl rfl ?_
                 refine WL.x (X.loadB (k := 0) Try.isAgg3 rfl rfl rfl) (by decide) ?_
                 refine WL.yes rfl rfl ?_
                 refine WL.cond (X.gtr rfl rfl) (by decide) (fun h104 => ?_) (fun h104 => ?_)
                 ·refine WL.yes rfl rfl ?_
                  refine WL.x (X.pickF rfl rfl rfl) (by decide) ?_
                  refine WL.x (X.pickT rfl rfl rfl) (by decide) ?_
                  refine WL.x (X.move rfl) (by decide) ?_
                  refine WL.yes rfl rfl ?_
                  refine WL.x (X.move rfl) (by decide) ?_
                  refine WL.yes rfl rfl ?_
                  refine WL.condn (X.neq rfl rfl) (by decide) (fun h105 => ?_) (fun h105 => ?_)
                  ·refine WL.yes rfl rfl ?_
                   refine WL.x (X.move rfl) (by decide) ?_
                   refine WL.no rfl rfl rfl (by decide) ?_
                   refine WL.no rfl rfl rfl (by decide) ?_
                   refine WL.no rfl rfl rfl (by decide) ?_
                   refine WL.yes rfl rfl ?_
                   refine WL.x (X.pickT rfl rfl rfl) (by decide) ?_
                   refine WL.x (X.pickT rfl rfl rfl) (by decide) ?_
                   refine WL.x (X.assign rfl) (by decide) ?_
                   refine WL.nil ?_
                   refine WK.nThen ?_
                   refine WC.ret ?_
                   refine WK.ret1 rfl rfl (fun w' hw' => Ret.exact hw' ?_)
                   first | rfl | (exfalso; omega) | (exfalso; contradiction) | (exfalso; have q_ := hc2 (by omega); contradiction) | (exfalso; have q_ := hc3 (by omega); contradiction) | exact (bool_true (by omega)).symm | exact (bool_true (by have q_ := hs5_ (by omega); omega)).symm | exact (bool_true (by have q_ := hs6_ (by omega); omega)).symm | (exfalso; have q_ := hs5_ (by omega); omega) | (exfalso; have q_ := hs6_ (by omega); omega)
                  ·refine WL.yes rfl rfl ?_
                   refine WL.x (X.move rfl) (by decide) ?_
                   refine WL.yes rfl rfl ?_
                   refine WL.x (X.field Try.runUnderlying45 rfl Try.sizeOf3 rfl) (by decide) ?_
                   refine WL.yes rfl rfl ?_
                   refine WL.x (X.loadB (k := 0) Try.isAgg3 rfl rfl rfl) (by decide) ?_
                   refine WL.yes rfl rfl ?_
                   refine WL.x (X.lss rfl rfl) (by decide) ?_
                   refine WL.yes rfl rfl ?_
                   refine WL.x (X.pickF rfl rfl rfl) (by decide) ?_
                   refine WL.x (X.pickT rfl rfl rfl) (by decide) ?_
                   refine WL.x (X.assign rfl) (by decide) ?_
                   refine WL.nil ?_
                   refine WK.nThen ?_
                   refine WC.ret ?_
                   refine WK.ret1 rfl rfl (fun w' hw' => Ret.exact hw' ?_)
                   first | rfl | (exfalso; omega) | (exfalso; contradiction) | (exfalso; have q_ := hc2 (by omega); contradiction) | (exfalso; have q_ := hc3 (by omega); contradiction) | exact (bool_true (by omega)).symm | exact (bool_true (by have q_ := hs5_ (by omega); omega)).symm | exact (bool_true (by have q_ := hs6_ (by omega); omega)).symm | (exfalso; have q_ := hs5_ (by omega); omega) | (exfalso; have q_ := hs6_ (by omega); omega)
                 ·refine WL.yes rfl rfl ?_
                  refine WL.x (X.pickF rfl rfl rfl) (by decide) ?_
                  refine WL.x (X.pickT rfl rfl rfl) (by decide) ?_
                  refine WL.x (X.move rfl) (by decide) ?_
                  refine WL.no rfl rfl rfl (by decide) ?_
                  refine WL.no rfl rfl rfl (by decide) ?_
                  refine WL.no rfl rfl rfl (by decide) ?_
                  refine WL.noU rfl rfl (by decide) ?_
                  refine WL.noU rfl rfl (by decide) ?_
                  refine WL.noU rfl rfl (by decide) ?_
                  refine WL.no rfl rfl rfl (by decide) ?_
                  refine WL.x (X.pickF rfl rfl rfl) (by decide) ?_
                  refine WL.x (X.assign rfl) (by decide) ?_
                  refine WL.nil ?_
                  refine WK.nThen ?_
                  refine WC.ret ?_
                  refine WK.ret1 rfl rfl (fun w' hw' => Ret.exact hw' ?_)
                  first | rfl | (exfalso; omega) | (exfalso; contradiction) | (exfalso; have q_ := hc2 (by omega); contradiction) | (exfalso; have q_ := hc3 (by omega); contradiction) | exact (bool_true (by omega)).symm | exact (bool_true (by have q_ := hs5_ (by omega); omega)).symm | exact (bool_true (by have q_ := hs6_ (by omega); omega)).symm | (exfalso; have q_ := hs5_ (by omega); omega) | (exfalso; have q_ := hs6_ (by omega); omega)
              ·refine WL.yes rfl rfl ?_
               refine WL.x (X.not rfl) (by decide) ?_
               refine WL.yes rfl rfl ?_
               refine WL.x (X.pickT rfl rfl rfl) (by decide) ?_
               refine WL.yes rfl rfl ?_
               refine WL.x (X.pickF rfl rfl rfl) (by decide) ?_
               refine WL.x (X.pickT rfl rfl rfl) (by decide) ?_
               refine WL.nil ?_
               refine WK.nThen ?_
               refine WC.condT rfl ?_
               refine WC.seq ?_
               refine WC.region ?_
               refine WL.x (X.assign rfl) (by decide) ?_
               refine WL.nil ?_
               refine WK.nThen ?_
               refine WC.ret ?_
               refine WK.rThen ?_
               refine WK.ret1 rfl rfl (fun w' hw' => Ret.exact hw' ?_)
               first | rfl | (exfalso; omega) | (exfalso; contradiction) | (exfalso; have q_ := hc2 (by omega); contradiction) | (exfalso; have q_ := hc3 (by omega); contradiction) | exact (bool_true (by omega)).symm | exact (bool_true (by have q_ := hs5_ (by omega); omega)).symm | exact (bool_true (by have q_ := hs6_ (by omega); omega)).symm | (exfalso; have q_ := hs5_ (by omega); omega) | (exfalso; have q_ := hs6_ (by omega); omega)
             ·refine WL.yes rfl rfl ?_
              refine WL.x (X.move rfl) (by decide) ?_
              refine WL.no rfl rfl rfl (by decide) ?_
              refine WL.no rfl rfl rfl (by decide) ?_
              refine WL.no rfl rfl rfl (by decide) ?_
              refine WL.no rfl rfl rfl (by decide) ?_
              refine WL.yes rfl rfl ?_
              refine WL.x (X.pickF rfl rfl rfl) (by decide) ?_
              refine WL.yes rfl rfl ?_
              refine WL.x (X.pickF rfl rfl rfl) (by decide) ?_
              refine WL.x (X.pickT rfl rfl rfl) (by decide) ?_
              refine WL.nil ?_
              refine WK.nThen ?_
              refine WC.condF rfl ?_
              refine WC.skip ?_
              refine WK.nThen ?_
              refine WC.seq ?_
              refine WC.region ?_
              refine WL.x (X.loadBA (k := 9) Try.isAgg25 Try.sizeOf25 rfl rfl rfl) (by decide) ?_
              refine WL.x (X.call Try.call36 rfl (slope36 _ _ s ⟨_, _, rfl, hs2, hs4⟩ )) (by decide) ?_
              refine WL.x (X.move rfl) (by decide) ?_
              refine WL.x (X.extract rfl rfl) (by decide) ?_
              refine WL.x (X.extract rfl rfl) (by decide) ?_
              refine WL.x (X.extract rfl rfl) (by decide) ?_
              refine WL.ts (T.storeBA (k := 5) Try.sizeOf45 rfl rfl rfl (one_cons rfl (one_cons rfl one_nil)) rfl rfl) ?_
              refine WL.ts (T.storeBA (k := 4) Try.sizeOf45 rfl rfl rfl (one_cons rfl (one_cons rfl one_nil)) rfl rfl) ?_
              refine WL.x (X.assign rfl) (by decide) ?_
              refine WL.nil ?_
              refine WK.nThen ?_
              refine WC.seq ?_
              refine WC.region ?_
              refine WL.x (X.loadBA (k := 9) Try.isAgg25 Try.sizeOf25 rfl rfl rfl) (by decide) ?_
              refine WL.x (X.call Try.call61 rfl (trend61 _ _ s ⟨_, _, rfl, hs2, hs4⟩ )) (by decide) ?_
              refine WL.x (X.move rfl) (by decide) ?_
              refine WL.x (X.extract rfl rfl) (by decide) ?_
              refine WL.x (X.extract rfl rfl) (by decide) ?_
              refine WL.x (X.assign rfl) (by decide) ?_
              refine WL.x (X.assign rfl) (by decide) ?_
              refine WL.nil ?_
              refine WK.nThen ?_
              refine WC.seq ?_
              refine WC.seq ?_
              have htr := trend_err s
              refine WC.region ?_
              refine WL.x (X.move rfl) (by decide) ?_
              refine WL.condn (X.neq rfl rfl) (by decide) (fun h106 => ?_) (fun h106 => ?_)
              ·refine WL.nil ?_
               refine WK.nThen ?_
               refine WC.condT rfl ?_
               refine WC.seq ?_
               refine WC.region ?_
               refine WL.x (X.move rfl) (by decide) ?_
               refine WL.x (X.move rfl) (by decide) ?_
               refine WL.yes rfl rfl ?_
               refine WL.x (X.move rfl) (by decide) ?_
               refine WL.yes rfl rfl ?_
               refine WL.x (X.move rfl) (by decide) ?_
               refine WL.yes rfl rfl ?_
               refine WL.x (X.eql rfl rfl) (by decide) ?_
               refine WL.x (X.pickT rfl rfl rfl) (by decide) ?_
               refine WL.x (X.assign rfl) (by decide) ?_
               refine WL.nil ?_
               refine WK.nThen ?_
               refine WC.ret ?_
               refine WK.rThen ?_
               refine WK.ret1 rfl rfl (fun w' hw' => Ret.exact hw' ?_)
               first | rfl | (exfalso; omega) | (exfalso; contradiction) | (exfalso; have q_ := hc2 (by omega); contradiction) | (exfalso; have q_ := hc3 (by omega); contradiction) | exact (bool_true (by omega)).symm | exact (bool_true (by have q_ := hs5_ (by omega); omega)).symm | exact (bool_true (by have q_ := hs6_ (by omega); omega)).symm | (exfalso; have q_ := hs5_ (by omega); omega) | (exfalso; have q_ := hs6_ (by omega); omega)
              ·refine WL.nil ?_
               refine WK.nThen ?_
               refine WC.condF rfl ?_
               refine WC.skip ?_
               refine WK.nThen ?_
               refine WC.seq ?_
               have hs_ := slope_real hea (by omega)
               have hs0_ := hs_.2.1
               have hs1_ := hs_.2.2.1
               have hs2_ := hs_.2.2.2.1
               have hs3_ := hs_.2.2.2.2.1
               have hs4_ := hs_.2.2.2.2.2.1
               have hs5_ := hs_.2.2.2.2.2.2.1
               have hs6_ := hs_.2.2.2.2.2.2.2
               have hs7_ := hs_.1.2
               unfold LBd at hs0_ hs1_ hs2_
               have heb2 := fun i (h : i < s.Values.length) => heb i (by omega)
               refine WC.region ?_
               refine WL.x (X.loadBA (k := 9) Try.isAgg25 Try.sizeOf25 rfl rfl rfl) (by decide) ?_
               refine WL.x (X.move rfl) (by decide) ?_
               refine WL.x (X.call Try.call64 rfl (exact64 _ _ s ⟨_, _, rfl, hs2, hs4⟩ _ _ hs24 (by assumption) (by omega) (by omega) (by assumption))) (by decide) ?_
               refine WL.tn (T.alloc Try.zeroValue45 rfl) (by decide) fun b107 => ?_
               refine WL.ts (T.storeBA (k := 0) Try.sizeOf45 rfl rfl rfl (one_cons rfl (one_cons rfl one_nil)) rfl rfl) ?_
               refine WL.nil ?_
               refine WK.nThen ?_
               refine WC.seq ?_
               refine WC.region ?_
               refine WL.x (X.move rfl) (by decide) ?_
               refine WL.x (X.move rfl) (by decide) ?_
               refine WL.yes rfl rfl ?_
               refine WL.x (X.loadBA (k := 0) Try.isAgg45 Try.sizeOf45 rfl rfl rfl) (by decide) ?_
               refine WL.yes rfl rfl ?_
               refine WL.x (X.loadBA (k := 6) Try.isAgg45 Try.sizeOf45 rfl rfl rfl) (by decide) ?_
               refine WL.yes rfl rfl ?_
               refine WL.x (OpX.f (X.call Try.call67 rfl (less67 _ _ (exactR s ((evenL s x.Levels x.Shifts))) rfl _ ((slopeR s).1) rfl (by omega) (by omega))) hs3_) (by decide) ?_
               refine WL.yes rfl rfl ?_
               refine WL.x (X.not rfl) (by decide) ?_
               refine WL.x (X.pickT rfl rfl rfl) (by decide) ?_
               refine WL.x (X.move rfl) (by decide) ?_
               refine WL.yes rfl rfl ?_
               refine WL.x (X.loadBA (k := 5) Try.isAgg45 Try.sizeOf45 rfl rfl rfl) (by decide) ?_
               refine WL.yes rfl rfl ?_
               refine WL.x (X.loadBA (k := 0) Try.isAgg45 Try.sizeOf45 rfl rfl rfl) (by decide) ?_
               refine WL.yes rfl rfl ?_
               refine WL.x (OpX.f (X.call Try.call67 rfl (less67 _ _ ((slopeR s).2.1) rfl _ (exactR s ((evenL s x.Levels x.Shifts))) rfl (by omega) (by omega))) hs4_) (by decide) ?_
               refine WL.yes rfl rfl ?_
               refine WL.x (X.not rfl) (by decide) ?_
               refine WL.x (X.pickT rfl rfl rfl) (by decide) ?_
               refine WL.x (X.move rfl) (by decide) ?_
               refine WL.yes rfl rfl ?_
               refine WL.x (X.move rfl) (by decide) ?_
               refine WL.yes rfl rfl ?_
               refine WL.condn (X.neq rfl rfl) (by decide) (fun h108 => ?_) (fun h108 => ?_)
               ·refine WL.yes rfl rfl ?_
                refine WL.x (X.move rfl) (by decide) ?_
                refine WL.no rfl rfl rfl (by decide) ?_
                refine WL.no rfl rfl rfl (by decide) ?_
                refine WL.no rfl rfl rfl (by decide) ?_
                refine WL.yes rfl rfl ?_
                refine WL.x (X.pickT rfl rfl rfl) (by decide) ?_
                refine WL.x (X.pickT rfl rfl rfl) (by decide) ?_
                refine WL.x (X.move rfl) (by decide) ?_
                refine WL.yes rfl rfl ?_
                refine WL.x (X.move rfl) (by decide) ?_
                refine WL.yes rfl rfl ?_
                refine WL.condn (X.neq rfl rfl) (by decide) (fun h109 => ?_) (fun h109 => ?_)
                ·refine WL.yes rfl rfl ?_
                 refine WL.x (X.move rfl) (by decide) ?_
                 refine WL.no rfl rfl rfl (by decide) ?_
                 refine WL.no rfl rfl rfl (by decide) ?_
                 refine WL.no rfl rfl rfl (by decide) ?_
                 refine WL.yes rfl rfl ?_
                 refine WL.x (X.pickT rfl rfl rfl) (by decide) ?_
                 refine WL.x (X.pickT rfl rfl rfl) (by decide) ?_
                 refine WL.x (X.assign rfl) (by decide) ?_
                 refine WL.nil ?_
                 refine WK.nThen ?_
                 refine WC.ret ?_
                 refine WK.ret1 rfl rfl (fun w' hw' => Ret.exact hw' ?_)
                 first | rfl | (exfalso; omega) | (exfalso; contradiction) | (exfalso; have q_ := hc2 (by omega); contradiction) | (exfalso; have q_ := hc3 (by omega); contradiction) | exact (bool_true (by omega)).symm | exact (bool_true (by have q_ := hs5_ (by omega); omega)).symm | exact (bool_true (by have q_ := hs6_ (by omega); omega)).symm | (exfalso; have q_ := hs5_ (by omega); omega) | (exfalso; have q_ := hs6_ (by omega); omega)
                ·refine WL.yes rfl rfl ?_
                 refine WL.x (X.move rfl) (by decide) ?_
                 refine WL.yes rfl rfl ?_
                 refine WL.x (X.field Try.runUnderlying45 rfl Try.sizeOf3 rfl) (by decide) ?_
                 refine WL.yes rfl rfl ?_
                 refine WL.x (X.loadB (k := 0) Try.isAgg3 rfl rfl rfl) (by decide) ?_
                 refine WL.yes rfl rfl ?_
                 refine WL.x (X.lss rfl rfl) (by decide) ?_
                 refine WL.yes rfl rfl ?_
                 refine WL.x (X.pickF rfl rfl rfl) (by decide) ?_
                 refine WL.x (X.pickT rfl rfl rfl) (by decide) ?_
                 refine WL.x (X.assign rfl) (by decide) ?_
                 refine WL.nil ?_
                 refine WK.nThen ?_
                 refine WC.ret ?_
                 refine WK.ret1 rfl rfl (fun w' hw' => Ret.exact hw' ?_)
                 first | rfl | (exfalso; omega) | (exfalso; contradiction) | (exfalso; have q_ := hc2 (by omega); contradiction) | (exfalso; have q_ := hc3 (by omega); contradiction) | exact (bool_true (by omega)).symm | exact (bool_true (by have q_ := hs5_ (by omega); omega)).symm | exact (bool_true (by have q_ := hs6_ (by omega); omega)).symm | (exfalso; have q_ := hs5_ (by omega); omega) | (exfalso; have q_ := hs6_ (by omega); omega)
               ·refine WL.yes rfl rfl ?_
                refine WL.x (X.move rfl) (by decide) ?_
                refine WL.yes rfl rfl ?_
                refine WL.x (X.field Try.runUnderlying45 rfl Try.sizeOf3 rfl) (by decide) ?_
                refine WL.yes rfl rfl ?_
                refine WL.x (X.loadB (k := 0) Try.isAgg3 rfl rfl rfl) (by decide) ?_
                refine WL.yes rfl rfl ?_
                refine WL.cond (X.gtr rfl rfl) (by decide) (fun h110 => ?_) (fun h110 => ?_)
                ·refine WL.yes rfl rfl ?_
                 refine WL.x (X.pickF rfl rfl rfl) (by decide) ?_
                 refine WL.x (X.pickT rfl rfl rfl) (by decide) ?_
                 refine WL.x (X.move rfl) (by decide) ?_
                 refine WL.yes rfl rfl ?_
                 refine WL.x (X.move rfl) (by decide) ?_
                 refine WL.yes rfl rfl ?_
                 refine WL.condn (X.neq rfl rfl) (by decide) (fun h111 => ?_) (fun h111 => ?_)
                 ·refine WL.yes rfl rfl ?_
                  refine WL.x (X.move rfl) (by decide) ?_
                  refine WL.no rfl rfl rfl (by decide) ?_
                  refine WL.no rfl rfl rfl (by decide) ?_
                  refine WL.no rfl rfl rfl (by decide) ?_
                  refine WL.yes rfl rfl ?_
                  refine WL.x (X.pickT rfl rfl rfl) (by decide) ?_
                  refine WL.x (X.pickT rfl rfl rfl) (by decide) ?_
                  refine WL.x (X.assign rfl) (by decide) ?_
                  refine WL.nil ?_
                  refine WK.nThen ?_
                  refine WC.ret ?_
                  refine WK.ret1 rfl rfl (fun w' hw' => Ret.exact hw' ?_)
                  first | rfl | (exfalso; omega) | (exfalso; contradiction) | (exfalso; have q_ := hc2 (by omega); contradiction) | (exfalso; have q_ := hc3 (by omega); contradiction) | exact (bool_true (by omega)).symm | exact (bool_true (by have q_ := hs5_ (by omega); omega)).symm | exact (bool_true (by have q_ := hs6_ (by omega); omega)).symm | (exfalso; have q_ := hs5_ (by omega); omega) | (exfalso; have q_ := hs6_ (by omega); omega)
                 ·refine WL.yes rfl rfl ?_
                  refine WL.x (X.move rfl) (by decide) ?_
                  refine WL.yes rfl rfl ?_
                  refine WL.x (X.field Try.runUnderlying45 rfl Try.sizeOf3 rfl) (by decide) ?_
                  refine WL.yes rfl rfl ?_
                  refine WL.x (X.loadB (k := 0) Try.isAgg3 rfl rfl rfl) (by decide) ?_
                  refine WL.yes rfl rfl ?_
                  refine WL.x (X.lss rfl rfl) (by decide) ?_
                  refine WL.yes rfl rfl ?_
                  refine WL.x (X.pickF rfl rfl rfl) (by decide) ?_
                  refine WL.x (X.pickT rfl rfl rfl) (by decide) ?_
                  refine WL.x (X.assign rfl) (by decide) ?_
                  refine WL.nil ?_
                  refine WK.nThen ?_
                  refine WC.ret ?_
                  refine WK.ret1 rfl rfl (fun w' hw' => Ret.exact hw' ?_)
                  first | rfl | (exfalso; omega) | (exfalso; contradiction) | (exfalso; have q_ := hc2 (by omega); contradiction) | (exfalso; have q_ := hc3 (by omega); contradiction) | exact (bool_true (by omega)).symm | exact (bool_true (by have q_ := hs5_ (by omega); omega)).symm | exact (bool_true (by have q_ := hs6_ (by omega); omega)).symm | (exfalso; have q_ := hs5_ (by omega); omega) | (exfalso; have q_ := hs6_ (by omega); omega)
                ·refine WL.yes rfl rfl ?_
                 refine WL.x (X.pickF rfl rfl rfl) (by decide) ?_
                 refine WL.x (X.pickT rfl rfl rfl) (by decide) ?_
                 refine WL.x (X.move rfl) (by decide) ?_
                 refine WL.no rfl rfl rfl (by decide) ?_
                 refine WL.no rfl rfl rfl (by decide) ?_
                 refine WL.no rfl rfl rfl (by decide) ?_
                 refine WL.noU rfl rfl (by decide) ?_
                 refine WL.noU rfl rfl (by decide) ?_
                 refine WL.noU rfl rfl (by decide) ?_
                 refine WL.no rfl rfl rfl (by decide) ?_
                 refine WL.x (X.pickF rfl rfl rfl) (by decide) ?_
                 refine WL.x (X.assign rfl) (by decide) ?_
                 refine WL.nil ?_
                 refine WK.nThen ?_
                 refine WC.ret ?_
                 refine WK.ret1 rfl rfl (fun w' hw' => Ret.exact hw' ?_)
                 first | rfl | (exfalso; omega) | (exfalso; contradiction) | (exfalso; have q_ := hc2 (by omega); contradiction) | (exfalso; have q_ := hc3 (by omega); contradiction) | exact (bool_true (by omega)).symm | exact (bool_true (by have q_ := hs5_ (by omega); omega)).symm | exact (bool_true (by have q_ := hs6_ (by omega); omega)).symm | (exfalso; have q_ := hs5_ (by omega); omega) | (exfalso; have q_ := hs6_ (by omega); omega)
            ·refine WL.yes rfl rfl ?_
             refine WL.x (X.not rfl) (by decide) ?_
             refine WL.yes rfl rfl ?_
             refine WL.x (X.pickT rfl rfl rfl) (by decide) ?_
             refine WL.yes rfl rfl ?_
             refine WL.x (X.pickF rfl rfl rfl) (by decide) ?_
             refine WL.yes rfl rfl ?_
             refine WL.x (X.move rfl) (by decide) ?_
             refine WL.no rfl rfl rfl (by decide) ?_
             refine WL.no rfl rfl rfl (by decide) ?_
             refine WL.no rfl rfl rfl (by decide) ?_
             refine WL.noU rfl rfl (by decide) ?_
             refine WL.noU rfl rfl (by decide) ?_
             refine WL.noU rfl rfl (by decide) ?_
             refine WL.noU rfl rfl (by decide) ?_
             refine WL.no rfl rfl rfl (by decide) ?_
             refine WL.yes rfl rfl ?_
             refine WL.x (X.pickT rfl rfl rfl) (by decide) ?_
             refine WL.x (X.pickT rfl rfl rfl) (by decide) ?_
             refine WL.nil ?_
             refine WK.nThen ?_
             refine WC.condT rfl ?_
             refine WC.seq ?_
             refine WC.region ?_
             refine WL.x (X.assign rfl) (by decide) ?_
             refine WL.nil ?_
             refine WK.nThen ?_
             refine WC.ret ?_
             refine WK.rThen ?_
             refine WK.ret1 rfl rfl (fun w' hw' => Ret.exact hw' ?_)
             first | rfl | (exfalso; omega) | (exfalso; contradiction) | (exfalso; have q_ := hc2 (by omega); contradiction) | (exfalso; have q_ := hc3 (by omega); contradiction) | exact (bool_true (by omega)).symm | exact (bool_true (by have q_ := hs5_ (by omega); omega)).symm | exact (bool_true (by have q_ := hs6_ (by omega); omega)).symm | (exfalso; have q_ := hs5_ (by omega); omega) | (exfalso; have q_ := hs6_ (by omega); omega)
           ·refine WL.yes rfl rfl ?_
            refine WL.x (X.move rfl) (by decide) ?_
            refine WL.no rfl rfl rfl (by decide) ?_
            refine WL.no rfl rfl rfl (by decide) ?_
            refine WL.no rfl rfl rfl (by decide) ?_
            refine WL.no rfl rfl rfl (by decide) ?_
            refine WL.yes rfl rfl ?_
            refine WL.x (X.pickF rfl rfl rfl) (by decide) ?_
            refine WL.yes rfl rfl ?_
            refine WL.x (X.pickF rfl rfl rfl) (by decide) ?_
            refine WL.yes rfl rfl ?_
            refine WL.x (X.move rfl) (by decide) ?_
            refine WL.yes rfl rfl ?_
            refine WL.x (X.move rfl) (by decide) ?_
            refine WL.yes rfl rfl ?_
            refine WL.cond (X.eql rfl rfl) (by decide) (fun h112 => ?_) (fun h112 => ?_)
            ·refine WL.yes rfl rfl ?_
             refine WL.x (X.move rfl) (by decide) ?_
             refine WL.yes rfl rfl ?_
             refine WL.x (X.loadBA (k := 1) Try.isAgg45 Try.sizeOf45 rfl rfl rfl) (by decide) ?_
             refine WL.yes rfl rfl ?_
             refine WL.x (X.loadBA (k := 3) Try.isAgg45 Try.sizeOf45 rfl rfl rfl) (by decide) ?_
             refine WL.yes rfl rfl ?_
             refine WL.cond (X.call Try.call67 rfl (less67 _ _ ((meanR s ((evenL s x.Levels x.Shifts)) b).1) rfl _ ((meanR s ((evenL s x.Levels x.Shifts)) a).1) rfl (by omega) (by omega))) (by decide) (fun h113 => ?_) (fun h113 => ?_)
             ·refine WL.yes rfl rfl ?_
              refine WL.x (X.not rfl) (by decide) ?_
              refine WL.yes rfl rfl ?_
              refine WL.x (X.pickT rfl rfl rfl) (by decide) ?_
              refine WL.yes rfl rfl ?_
              refine WL.x (X.pickF rfl rfl rfl) (by decide) ?_
              refine WL.x (X.pickT rfl rfl rfl) (by decide) ?_
              refine WL.nil ?_
              refine WK.nThen ?_
              refine WC.condF rfl ?_
              refine WC.skip ?_
              refine WK.nThen ?_
              refine WC.seq ?_
              refine WC.region ?_
              refine WL.x (X.loadBA (k := 9) Try.isAgg25 Try.sizeOf25 rfl rfl rfl) (by decide) ?_
              refine WL.x (X.call Try.call36 rfl (slope36 _ _ s ⟨_, _, rfl, hs2, hs4⟩ )) (by decide) ?_
              refine WL.x (X.move rfl) (by decide) ?_
              refine WL.x (X.extract rfl rfl) (by decide) ?_
              refine WL.x (X.extract rfl rfl) (by decide) ?_
              refine WL.x (X.extract rfl rfl) (by decide) ?_
              refine WL.ts (T.storeBA (k := 5) Try.sizeOf45 rfl rfl rfl (one_cons rfl (one_cons rfl one_nil)) rfl rfl) ?_
              refine WL.ts (T.storeBA (k := 4) Try.sizeOf45 rfl rfl rfl (one_cons rfl (one_cons rfl one_nil)) rfl rfl) ?_
              refine WL.x (X.assign rfl) (by decide) ?_
              refine WL.nil ?_
              refine WK.nThen ?_
              refine WC.seq ?_
              refine WC.region ?_
              refine WL.x (X.loadBA (k := 9) Try.isAgg25 Try.sizeOf25 rfl rfl rfl) (by decide) ?_
              refine WL.x (X.call Try.call61 rfl (trend61 _ _ s ⟨_, _, rfl, hs2, hs4⟩ )) (by decide) ?_
              refine WL.x (X.move rfl) (by decide) ?_
              refine WL.x (X.extract rfl rfl) (by decide) ?_
              refine WL.x (X.extract rfl rfl) (by decide) ?_
              refine WL.x (X.assign rfl) (by decide) ?_
              refine WL.x (X.assign rfl) (by decide) ?_
              refine WL.nil ?_
              refine WK.nThen ?_
              refine WC.seq ?_
              refine WC.seq ?_
              have htr := trend_err s
              refine WC.region ?_
              refine WL.x (X.move rfl) (by decide) ?_
              refine WL.condn (X.neq rfl rfl) (by decide) (fun h114 => ?_) (fun h114 => ?_)
              ·refine WL.nil ?_
               refine WK.nThen ?_
               refine WC.condT rfl ?_
               refine WC.seq ?_
               refine WC.region ?_
               refine WL.x (X.move rfl) (by decide) ?_
               refine WL.x (X.move rfl) (by decide) ?_
               refine WL.yes rfl rfl ?_
               refine WL.x (X.move rfl) (by decide) ?_
               refine WL.yes rfl rfl ?_
               refine WL.x (X.move rfl) (by decide) ?_
               refine WL.yes rfl rfl ?_
               refine WL.x (X.eql rfl rfl) (by decide) ?_
               refine WL.x (X.pickT rfl rfl rfl) (by decide) ?_
               refine WL.x (X.assign rfl) (by decide) ?_
               refine WL.nil ?_
               refine WK.nThen ?_
               refine WC.ret ?_
               refine WK.rThen ?_
               refine WK.ret1 rfl rfl (fun w' hw' => Ret.exact hw' ?_)
               first | rfl | (exfalso; omega) | (exfalso; contradiction) | (exfalso; have q_ := hc2 (by omega); contradiction) | (exfalso; have q_ := hc3 (by omega); contradiction) | exact (bool_true (by omega)).symm | exact (bool_true (by have q_ := hs5_ (by omega); omega)).symm | exact (bool_true (by have q_ := hs6_ (by omega); omega)).symm | (exfalso; have q_ := hs5_ (by omega); omega) | (exfalso; have q_ := hs6_ (by omega); omega)
              ·refine WL.nil ?_
               refine WK.nThen ?_
               refine WC.condF rfl ?_
               refine WC.skip ?_
               refine WK.nThen ?_
               refine WC.seq ?_
               have hs_ := slope_real hea (by omega)
               have hs0_ := hs_.2.1
               have hs1_ := hs_.2.2.1
               have hs2_ := hs_.2.2.2.1
               have hs3_ := hs_.2.2.2.2.1
               have hs4_ := hs_.2.2.2.2.2.1
               have hs5_ := hs_.2.2.2.2.2.2.1
               have hs6_ := hs_.2.2.2.2.2.2.2
               have hs7_ := hs_.1.2
               unfold LBd at hs0_ hs1_ hs2_
               have heb2 := fun i (h : i < s.Values.length) => heb i (by omega)
               refine WC.region ?_
               refine WL.x (X.loadBA (k := 9) Try.isAgg25 Try.sizeOf25 rfl rfl rfl) (by decide) ?_
               refine WL.x (X.move rfl) (by decide) ?_
               refine WL.x (X.call Try.call64 rfl (exact64 _ _ s ⟨_, _, rfl, hs2, hs4⟩ _ _ hs24 (by assumption) (by omega) (by omega) (by assumption))) (by decide) ?_
               refine WL.tn (T.alloc Try.zeroValue45 rfl) (by decide) fun b115 => ?_
               refine WL.ts (T.storeBA (k := 0) Try.sizeOf45 rfl rfl rfl (one_cons rfl (one_cons rfl one_nil)) rfl rfl) ?_
               refine WL.nil ?_
               refine WK.nThen ?_
               refine WC.seq ?_
               refine WC.region ?_
               refine WL.x (X.move rfl) (by decide) ?_
               refine WL.x (X.move rfl) (by decide) ?_
               refine WL.yes rfl rfl ?_
               refine WL.x (X.loadBA (k := 0) Try.isAgg45 Try.sizeOf45 rfl rfl rfl) (by decide) ?_
               refine WL.yes rfl rfl ?_
               refine WL.x (X.loadBA (k := 6) Try.isAgg45 Try.sizeOf45 rfl rfl rfl) (by decide) ?_
               refine WL.yes rfl rfl ?_
               refine WL.x (OpX.f (X.call Try.call67 rfl (less67 _ _ (exactR s ((evenL s x.Levels x.Shifts))) rfl _ ((slopeR s).1) rfl (by omega) (by omega))) hs3_) (by decide) ?_
               refine WL.yes rfl rfl ?_
               refine WL.x (X.not rfl) (by decide) ?_
               refine WL.x (X.pickT rfl rfl rfl) (by decide) ?_
               refine WL.x (X.move rfl) (by decide) ?_
               refine WL.yes rfl rfl ?_
               refine WL.x (X.loadBA (k := 5) Try.isAgg45 Try.sizeOf45 rfl rfl rfl) (by decide) ?_
               refine WL.yes rfl rfl ?_
               refine WL.x (X.loadBA (k := 0) Try.isAgg45 Try.sizeOf45 rfl rfl rfl) (by decide) ?_
               refine WL.yes rfl rfl ?_
               refine WL.x (OpX.f (X.call Try.call67 rfl (less67 _ _ ((slopeR s).2.1) rfl _ (exactR s ((evenL s x.Levels x.Shifts))) rfl (by omega) (by omega))) hs4_) (by decide) ?_
               refine WL.yes rfl rfl ?_
               refine WL.x (X.not rfl) (by decide) ?_
               refine WL.x (X.pickT rfl rfl rfl) (by decide) ?_
               refine WL.x (X.move rfl) (by decide) ?_
               refine WL.yes rfl rfl ?_
               refine WL.x (X.move rfl) (by decide) ?_
               refine WL.yes rfl rfl ?_
               refine WL.condn (X.neq rfl rfl) (by decide) (fun h116 => ?_) (fun h116 => ?_)
               ·refine WL.yes rfl rfl ?_
                refine WL.x (X.move rfl) (by decide) ?_
                refine WL.no rfl rfl rfl (by decide) ?_
                refine WL.no rfl rfl rfl (by decide) ?_
                refine WL.no rfl rfl rfl (by decide) ?_
                refine WL.yes rfl rfl ?_
                refine WL.x (X.pickT rfl rfl rfl) (by decide) ?_
                refine WL.x (X.pickT rfl rfl rfl) (by decide) ?_
                refine WL.x (X.move rfl) (by decide) ?_
                refine WL.yes rfl rfl ?_
                refine WL.x (X.move rfl) (by decide) ?_
                refine WL.yes rfl rfl ?_
                refine WL.condn (X.neq rfl rfl) (by decide) (fun h117 => ?_) (fun h117 => ?_)
                ·refine WL.yes rfl rfl ?_
                 refine WL.x (X.move rfl) (by decide) ?_
                 refine WL.no rfl rfl rfl (by decide) ?_
                 refine WL.no rfl rfl rfl (by decide) ?_
                 refine WL.no rfl rfl rfl (by decide) ?_
                 refine WL.yes rfl rfl ?_
                 refine WL.x (X.pickT rfl rfl rfl) (by decide) ?_
                 refine WL.x (X.pickT rfl rfl rfl) (by decide) ?_
                 refine WL.x (X.assign rfl) (by decide) ?_
                 refine WL.nil ?_
                 refine WK.nThen ?_
                 refine WC.ret ?_
                 refine WK.ret1 rfl rfl (fun w' hw' => Ret.exact hw' ?_)
                 first | rfl | (exfalso; omega) | (exfalso; contradiction) | (exfalso; have q_ := hc2 (by omega); contradiction) | (exfalso; have q_ := hc3 (by omega); contradiction) | exact (bool_true (by omega)).symm | exact (bool_true (by have q_ := hs5_ (by omega); omega)).symm | exact (bool_true (by have q_ := hs6_ (by omega); omega)).symm | (exfalso; have q_ := hs5_ (by omega); omega) | (exfalso; have q_ := hs6_ (by omega); omega)
                ·refine WL.yes rfl rfl ?_
                 refine WL.x (X.move rfl) (by decide) ?_
                 refine WL.yes rfl rfl ?_
                 refine WL.x (X.field Try.runUnderlying45 rfl Try.sizeOf3 rfl) (by decide) ?_
                 refine WL.yes rfl rfl ?_
                 refine WL.x (X.loadB (k := 0) Try.isAgg3 rfl rfl rfl) (by decide) ?_
                 refine WL.yes rfl rfl ?_
                 refine WL.x (X.lss rfl rfl) (by decide) ?_
                 refine WL.yes rfl rfl ?_
                 refine WL.x (X.pickF rfl rfl rfl) (by decide) ?_
                 refine WL.x (X.pickT rfl rfl rfl) (by decide) ?_
                 refine WL.x (X.assign rfl) (by decide) ?_
                 refine WL.nil ?_
                 refine WK.nThen ?_
                 refine WC.ret ?_
                 refine WK.ret1 rfl rfl (fun w' hw' => Ret.exact hw' ?_)
                 first | rfl | (exfalso; omega) | (exfalso; contradiction) | (exfalso; have q_ := hc2 (by omega); contradiction) | (exfalso; have q_ := hc3 (by omega); contradiction) | exact (bool_true (by omega)).symm | exact (bool_true (by have q_ := hs5_ (by omega); omega)).symm | exact (bool_true (by have q_ := hs6_ (by omega); omega)).symm | (exfalso; have q_ := hs5_ (by omega); omega) | (exfalso; have q_ := hs6_ (by omega); omega)
               ·refine WL.yes rfl rfl ?_
                refine WL.x (X.move rfl) (by decide) ?_
                refine WL.yes rfl rfl ?_
                refine WL.x (X.field Try.runUnderlying45 rfl Try.sizeOf3 rfl) (by decide) ?_
                refine WL.yes rfl rfl ?_
                refine WL.x (X.loadB (k := 0) Try.isAgg3 rfl rfl rfl) (by decide) ?_
                refine WL.yes rfl rfl ?_
                refine WL.cond (X.gtr rfl rfl) (by decide) (fun h118 => ?_) (fun h118 => ?_)
                ·refine WL.yes rfl rfl ?_
                 refine WL.x (X.pickF rfl rfl rfl) (by decide) ?_
                 refine WL.x (X.pickT rfl rfl rfl) (by decide) ?_
                 refine WL.x (X.move rfl) (by decide) ?_
                 refine WL.yes rfl rfl ?_
                 refine WL.x (X.move rfl) (by decide) ?_
                 refine WL.yes rfl rfl ?_
                 refine WL.condn (X.neq rfl rfl) (by decide) (fun h119 => ?_) (fun h119 => ?_)
                 ·refine WL.yes rfl rfl ?_
                  refine WL.x (X.move rfl) (by decide) ?_
                  refine WL.no rfl rfl rfl (by decide) ?_
                  refine WL.no rfl rfl rfl (by decide) ?_
                  refine WL.no rfl rfl rfl (by decide) ?_
                  refine WL.yes rfl rfl ?_
                  refine WL.x (X.pickT rfl rfl rfl) (by decide) ?_
                  refine WL.x (X.pickT rfl rfl rfl) (by decide) ?_
                  refine WL.x (X.assign rfl) (by decide) ?_
                  refine WL.nil ?_
                  refine WK.nThen ?_
                  refine WC.ret ?_
                  refine WK.ret1 rfl rfl (fun w' hw' => Ret.exact hw' ?_)
                  first | rfl | (exfalso; omega) | (exfalso; contradiction) | (exfalso; have q_ := hc2 (by omega); contradiction) | (exfalso; have q_ := hc3 (by omega); contradiction) | exact (bool_true (by omega)).symm | exact (bool_true (by have q_ := hs5_ (by omega); omega)).symm | exact (bool_true (by have q_ := hs6_ (by omega); omega)).symm | (exfalso; have q_ := hs5_ (by omega); omega) | (exfalso; have q_ := hs6_ (by omega); omega)
                 ·refine WL.yes rfl rfl ?_
                  refine WL.x (X.move rfl) (by decide) ?_
                  refine WL.yes rfl rfl ?_
                  refine WL.x (X.field Try.runUnderlying45 rfl Try.sizeOf3 rfl) (by decide) ?_
                  refine WL.yes rfl rfl ?_
                  refine WL.x (X.loadB (k := 0) Try.isAgg3 rfl rfl rfl) (by decide) ?_
                  refine WL.yes rfl rfl ?_
                  refine WL.x (X.lss rfl rfl) (by decide) ?_
                  refine WL.yes rfl rfl ?_
                  refine WL.x (X.pickF rfl rfl rfl) (by decide) ?_
                  refine WL.x (X.pickT rfl rfl rfl) (by decide) ?_
                  refine WL.x (X.assign rfl) (by decide) ?_
                  refine WL.nil ?_
                  refine WK.nThen ?_
                  refine WC.ret ?_
                  refine WK.ret1 rfl rfl (fun w' hw' => Ret.exact hw' ?_)
                  first | rfl | (exfalso; omega) | (exfalso; contradiction) | (exfalso; have q_ := hc2 (by omega); contradiction) | (exfalso; have q_ := hc3 (by omega); contradiction) | exact (bool_true (by omega)).symm | exact (bool_true (by have q_ := hs5_ (by omega); omega)).symm | exact (bool_true (by have q_ := hs6_ (by omega); omega)).symm | (exfalso; have q_ := hs5_ (by omega); omega) | (exfalso; have q_ := hs6_ (by omega); omega)
                ·refine WL.yes rfl rfl ?_
                 refine WL.x (X.pickF rfl rfl rfl) (by decide) ?_
                 refine WL.x (X.pickT rfl rfl rfl) (by decide) ?_
                 refine WL.x (X.move rfl) (by decide) ?_
                 refine WL.no rfl rfl rfl (by decide) ?_
                 refine WL.no rfl rfl rfl (by decide) ?_
                 refine WL.no rfl rfl rfl (by decide) ?_
                 refine WL.noU rfl rfl (by decide) ?_
                 refine WL.noU rfl rfl (by decide) ?_
                 refine WL.noU rfl rfl (by decide) ?_
                 refine WL.no rfl rfl rfl (by decide) ?_
                 refine WL.x (X.pickF rfl rfl rfl) (by decide) ?_
                 refine WL.x (X.assign rfl) (by decide) ?_
                 refine WL.nil ?_
                 refine WK.nThen ?_
                 refine WC.ret ?_
                 refine WK.ret1 rfl rfl (fun w' hw' => Ret.exact hw' ?_)
                 first | rfl | (exfalso; omega) | (exfalso; contradiction) | (exfalso; have q_ := hc2 (by omega); contradiction) | (exfalso; have q_ := hc3 (by omega); contradiction) | exact (bool_true (by omega)).symm | exact (bool_true (by have q_ := hs5_ (by omega); omega)).symm | exact (bool_true (by have q_ := hs6_ (by omega); omega)).symm | (exfalso; have q_ := hs5_ (by omega); omega) | (exfalso; have q_ := hs6_ (by omega); omega)
             ·refine WL.yes rfl rfl ?_
              refine WL.x (X.not rfl) (by decide) ?_
              refine WL.yes rfl rfl ?_
              refine WL.x (X.pickT rfl rfl rfl) (by decide) ?_
              refine WL.yes rfl rfl ?_
              refine WL.x (X.pickF rfl rfl rfl) (by decide) ?_
              refine WL.x (X.pickT rfl rfl rfl) (by decide) ?_
              refine WL.nil ?_
              refine WK.nThen ?_
              refine WC.condT rfl ?_
              refine WC.seq ?_
              refine WC.region ?_
              refine WL.x (X.assign rfl) (by decide) ?_
              refine WL.nil ?_
              refine WK.nThen ?_
              refine WC.ret ?_
              refine WK.rThen ?_
              refine WK.ret1 rfl rfl (fun w' hw' => Ret.exact hw' ?_)
              first | rfl | (exfalso; omega) | (exfalso; contradiction) | (exfalso; have q_ := hc2 (by omega); contradiction) | (exfalso; have q_ := hc3 (by omega); contradiction) | exact (bool_true (by omega)).symm | exact (bool_true (by have q_ := hs5_ (by omega); omega)).symm | exact (bool_true (by have q_ := hs6_ (by omega); omega)).symm | (exfalso; have q_ := hs5_ (by omega); omega) | (exfalso; have q_ := hs6_ (by omega); omega)
            ·refine WL.yes rfl rfl ?_
             refine WL.x (X.move rfl) (by decide) ?_
             refine WL.no rfl rfl rfl (by decide) ?_
             refine WL.no rfl rfl rfl (by decide) ?_
             refine WL.no rfl rfl rfl (by decide) ?_
             refine WL.no rfl rfl rfl (by decide) ?_
             refine WL.yes rfl rfl ?_
             refine WL.x (X.pickF rfl rfl rfl) (by decide) ?_
             refine WL.yes rfl rfl ?_
             refine WL.x (X.pickF rfl rfl rfl) (by decide) ?_
             refine WL.x (X.pickT rfl rfl rfl) (by decide) ?_
             refine WL.nil ?_
             refine WK.nThen ?_
             refine WC.condF rfl ?_
             refine WC.skip ?_
             refine WK.nThen ?_
             refine WC.seq ?_
             refine WC.region ?_
             refine WL.x (X.loadBA (k := 9) Try.isAgg25 Try.sizeOf25 rfl rfl rfl) (by decide) ?_
             refine WL.x (X.call Try.call36 rfl (slope36 _ _ s ⟨_, _, rfl, hs2, hs4⟩ )) (by decide) ?_
             refine WL.x (X.move rfl) (by decide) ?_
             refine WL.x (X.extract rfl rfl) (by decide) ?_
             refine WL.x (X.extract rfl rfl) (by decide) ?_
             refine WL.x (X.extract rfl rfl) (by decide) ?_
             refine WL.ts (T.storeBA (k := 5) Try.sizeOf45 rfl rfl rfl (one_cons rfl (one_cons rfl one_nil)) rfl rfl) ?_
             refine WL.ts (T.storeBA (k := 4) Try.sizeOf45 rfl rfl rfl (one_cons rfl (one_cons rfl one_nil)) rfl rfl) ?_
             refine WL.x (X.assign rfl) (by decide) ?_
             refine WL.nil ?_
             refine WK.nThen ?_
             refine WC.seq ?_
             refine WC.region ?_
             refine WL.x (X.loadBA (k := 9) Try.isAgg25 Try.sizeOf25 rfl rfl rfl) (by decide) ?_
             refine WL.x (X.call Try.call61 rfl (trend61 _ _ s ⟨_, _, rfl, hs2, hs4⟩ )) (by decide) ?_
             refine WL.x (X.move rfl) (by decide) ?_
             refine WL.x (X.extract rfl rfl) (by decide) ?_
             refine WL.x (X.extract rfl rfl) (by decide) ?_
             refine WL.x (X.assign rfl) (by decide) ?_
             refine WL.x (X.assign rfl) (by decide) ?_
             refine WL.nil ?_
             refine WK.nThen ?_
             refine WC.seq ?_
             refine WC.seq ?_
             have htr := trend_err s
             refine WC.region ?_
             refine WL.x (X.move rfl) (by decide) ?_
             refine WL.condn (X.neq rfl rfl) (by decide) (fun h120 => ?_) (fun h120 => ?_)
             ·refine WL.nil ?_
              refine WK.nThen ?_
              refine WC.condT rfl ?_
              refine WC.seq ?_
              refine WC.region ?_
              refine WL.x (X.move rfl) (by decide) ?_
              refine WL.x (X.move rfl) (by decide) ?_
              refine WL.yes rfl rfl ?_
              refine WL.x (X.move rfl) (by decide) ?_
              refine WL.yes rfl rfl ?_
              refine WL.x (X.move rfl) (by decide) ?_
              refine WL.yes rfl rfl ?_
              refine WL.x (X.eql rfl rfl) (by decide) ?_
              refine WL.x (X.pickT rfl rfl rfl) (by decide) ?_
              refine WL.x (X.assign rfl) (by decide) ?_
              refine WL.nil ?_
              refine WK.nThen ?_
              refine WC.ret ?_
              refine WK.rThen ?_
              refine WK.ret1 rfl rfl (fun w' hw' => Ret.exact hw' ?_)
              first | rfl | (exfalso; omega) | (exfalso; contradiction) | (exfalso; have q_ := hc2 (by omega); contradiction) | (exfalso; have q_ := hc3 (by omega); contradiction) | exact (bool_true (by omega)).symm | exact (bool_true (by have q_ := hs5_ (by omega); omega)).symm | exact (bool_true (by have q_ := hs6_ (by omega); omega)).symm | (exfalso; have q_ := hs5_ (by omega); omega) | (exfalso; have q_ := hs6_ (by omega); omega)
             ·refine WL.nil ?_
              refine WK.nThen ?_
              refine WC.condF rfl ?_
              refine WC.skip ?_
              refine WK.nThen ?_
              refine WC.seq ?_
              have hs_ := slope_real hea (by omega)
              have hs0_ := hs_.2.1
              have hs1_ := hs_.2.2.1
              have hs2_ := hs_.2.2.2.1
              have hs3_ := hs_.2.2.2.2.1
              have hs4_ := hs_.2.2.2.2.2.1
              have hs5_ := hs_.2.2.2.2.2.2.1
              have hs6_ := hs_.2.2.2.2.2.2.2
              have hs7_ := hs_.1.2
              unfold LBd at hs0_ hs1_ hs2_
              have heb2 := fun i (h : i < s.Values.length) => heb i (by omega)
              refine WC.region ?_
              refine WL.x (X.loadBA (k := 9) Try.isAgg25 Try.sizeOf25 rfl rfl rfl) (by decide) ?_
              refine WL.x (X.move rfl) (by decide) ?_
              refine WL.x (X.call Try.call64 rfl (exact64 _ _ s ⟨_, _, rfl, hs2, hs4⟩ _ _ hs24 (by assumption) (by omega) (by omega) (by assumption))) (by decide) ?_
              refine WL.tn (T.alloc Try.zeroValue45 rfl) (by decide) fun b121 => ?_
              refine WL.ts (T.storeBA (k := 0) Try.sizeOf45 rfl rfl rfl (one_cons rfl (one_cons rfl one_nil)) rfl rfl) ?_
              refine WL.nil ?_
              refine WK.nThen ?_
              refine WC.seq ?_
              refine WC.region ?_
              refine WL.x (X.move rfl) (by decide) ?_
              refine WL.x (X.move rfl) (by decide) ?_
              refine WL.yes rfl rfl ?_
              refine WL.x (X.loadBA (k := 0) Try.isAgg45 Try.sizeOf45 rfl rfl rfl) (by decide) ?_
              refine WL.yes rfl rfl ?_
              refine WL.x (X.loadBA (k := 6) Try.isAgg45 Try.sizeOf45 rfl rfl rfl) (by decide) ?_
              refine WL.yes rfl rfl ?_
              refine WL.x (OpX.f (X.call Try.call67 rfl (less67 _ _ (exactR s ((evenL s x.Levels x.Shifts))) rfl _ ((slopeR s).1) rfl (by omega) (by omega))) hs3_) (by decide) ?_
              refine WL.yes rfl rfl ?_
              refine WL.x (X.not rfl) (by decide) ?_
              refine WL.x (X.pickT rfl rfl rfl) (by decide) ?_
              refine WL.x (X.move rfl) (by decide) ?_
              refine WL.yes rfl rfl ?_
              refine WL.x (X.loadBA (k := 5) Try.isAgg45 Try.sizeOf45 rfl rfl rfl) (by decide) ?_
              refine WL.yes rfl rfl ?_
              refine WL.x (X.loadBA (k := 0) Try.isAgg45 Try.sizeOf45 rfl rfl rfl) (by decide) ?_
              refine WL.yes rfl rfl ?_
              refine WL.x (OpX.f (X.call Try.call67 rfl (less67 _ _ ((slopeR s).2.1) rfl _ (exactR s ((evenL s x.Levels x.Shifts))) rfl (by omega) (by omega))) hs4_) (by decide) ?_
              refine WL.yes rfl rfl ?_
              refine WL.x (X.not rfl) (by decide) ?_
              refine WL.x (X.pickT rfl rfl rfl) (by decide) ?_
              refine WL.x (X.move rfl) (by decide) ?_
              refine WL.yes rfl rfl ?_
              refine WL.x (X.move rfl) (by decide) ?_
              refine WL.yes rfl rfl ?_
              refine WL.condn (X.neq rfl rfl) (by decide) (fun h122 => ?_) (fun h122 => ?_)
              ·refine WL.yes rfl rfl ?_
               refine WL.x (X.move rfl) (by decide) ?_
               refine WL.no rfl rfl rfl (by decide) ?_
               refine WL.no rfl rfl rfl (by decide) ?_
               refine WL.no rfl rfl rfl (by decide) ?_
               refine WL.yes rfl rfl ?_
               refine WL.x (X.pickT rfl rfl rfl) (by decide) ?_
               refine WL.x (X.pickT rfl rfl rfl) (by decide) ?_
               refine WL.x (X.move rfl) (by decide) ?_
               refine WL.yes rfl rfl ?_
               refine WL.x (X.move rfl) (by decide) ?_
               refine WL.yes rfl rfl ?_
               refine WL.condn (X.neq rfl rfl) (by decide) (fun h123 => ?_) (fun h123 => ?_)
               ·refine WL.yes rfl rfl ?_
                refine WL.x (X.move rfl) (by decide) ?_
                refine WL.no rfl rfl rfl (by decide) ?_
                refine WL.no rfl rfl rfl (by decide) ?_
                refine WL.no rfl rfl rfl (by decide) ?_
                refine WL.yes rfl rfl ?_
                refine WL.x (X.pickT rfl rfl rfl) (by decide) ?_
                refine WL.x (X.pickT rfl rfl rfl) (by decide) ?_
                refine WL.x (X.assign rfl) (by decide) ?_
                refine WL.nil ?_
                refine WK.nThen ?_
                refine WC.ret ?_
                refine WK.ret1 rfl rfl (fun w' hw' => Ret.exact hw' ?_)
                first | rfl | (exfalso; omega) | (exfalso; contradiction) | (exfalso; have q_ := hc2 (by omega); contradiction) | (exfalso; have q_ := hc3 (by omega); contradiction) | exact (bool_true (by omega)).symm | exact (bool_true (by have q_ := hs5_ (by omega); omega)).symm | exact (bool_true (by have q_ := hs6_ (by omega); omega)).symm | (exfalso; have q_ := hs5_ (by omega); omega) | (exfalso; have q_ := hs6_ (by omega); omega)
               ·refine WL.yes rfl rfl ?_
                refine WL.x (X.move rfl) (by decide) ?_
                refine WL.yes rfl rfl ?_
                refine WL.x (X.field Try.runUnderlying45 rfl Try.sizeOf3 rfl) (by decide) ?_
                refine WL.yes rfl rfl ?_
                refine WL.x (X.loadB (k := 0) Try.isAgg3 rfl rfl rfl) (by decide) ?_
                refine WL.yes rfl rfl ?_
                refine WL.x (X.lss rfl rfl) (by decide) ?_
                refine WL.yes rfl rfl ?_
                refine WL.x (X.pickF rfl rfl rfl) (by decide) ?_
                refine WL.x (X.pickT rfl rfl rfl) (by decide) ?_
                refine WL.x (X.assign rfl) (by decide) ?_
                refine WL.nil ?_
                refine WK.nThen ?_
                refine WC.ret ?_
                refine WK.ret1 rfl rfl (fun w' hw' => Ret.exact hw' ?_)
                first | rfl | (exfalso; omega) | (exfalso; contradiction) | (exfalso; have q_ := hc2 (by omega); contradiction) | (exfalso; have q_ := hc3 (by omega); contradiction) | exact (bool_true (by omega)).symm | exact (bool_true (by have q_ := hs5_ (by omega); omega)).symm | exact (bool_true (by have q_ := hs6_ (by omega); omega)).symm | (exfalso; have q_ := hs5_ (by omega); omega) | (exfalso; have q_ := hs6_ (by omega); omega)
              ·refine WL.yes rfl rfl ?_
               refine WL.x (X.move rfl) (by decide) ?_
               refine WL.yes rfl rfl ?_
               refine WL.x (X.field Try.runUnderlying45 rfl Try.sizeOf3 rfl) (by decide) ?_
               refine WL.yes rfl rfl ?_
               refine WL.x (X.loadB (k := 0) Try.isAgg3 rfl rfl rfl) (by decide) ?_
               refine WL.yes rfl rfl ?_
               refine WL.cond (X.gtr rfl rfl) (by decide) (fun h124 => ?_) (fun h124 => ?_)
               ·refine WL.yes rfl rfl ?_
                refine WL.x (X.pickF rfl rfl rfl) (by decide) ?_
                refine WL.x (X.pickT rfl rfl rfl) (by decide) ?_
                refine WL.x (X.move rfl) (by decide) ?_
                refine WL.yes rfl rfl ?_
                refine WL.x (X.move rfl) (by decide) ?_
                refine WL.yes rfl rfl ?_
                refine WL.condn (X.neq rfl rfl) (by decide) (fun h125 => ?_) (fun h125 => ?_)
                ·refine WL.yes rfl rfl ?_
                 refine WL.x (X.move rfl) (by decide) ?_
                 refine WL.no rfl rfl rfl (by decide) ?_
                 refine WL.no rfl rfl rfl (by decide) ?_
                 refine WL.no rfl rfl rfl (by decide) ?_
                 refine WL.yes rfl rfl ?_
                 refine WL.x (X.pickT rfl rfl rfl) (by decide) ?_
                 refine WL.x (X.pickT rfl rfl rfl) (by decide) ?_
                 refine WL.x (X.assign rfl) (by decide) ?_
                 refine WL.nil ?_
                 refine WK.nThen ?_
                 refine WC.ret ?_
                 refine WK.ret1 rfl rfl (fun w' hw' => Ret.exact hw' ?_)
                 first | rfl | (exfalso; omega) | (exfalso; contradiction) | (exfalso; have q_ := hc2 (by omega); contradiction) | (exfalso; have q_ := hc3 (by omega); contradiction) | exact (bool_true (by omega)).symm | exact (bool_true (by have q_ := hs5_ (by omega); omega)).symm | exact (bool_true (by have q_ := hs6_ (by omega); omega)).symm | (exfalso; have q_ := hs5_ (by omega); omega) | (exfalso; have q_ := hs6_ (by omega); omega)
                ·refine WL.yes rfl rfl ?_
                 refine WL.x (X.move rfl) (by decide) ?_
                 refine WL.yes rfl rfl ?_
                 refine WL.x (X.field Try.runUnderlying45 rfl Try.sizeOf3 rfl) (by decide) ?_
                 refine WL.yes rfl rfl ?_
                 refine WL.x (X.loadB (k := 0) Try.isAgg3 rfl rfl rfl) (by decide) ?_
                 refine WL.yes rfl rfl ?_
                 refine WL.x (X.lss rfl rfl) (by decide) ?_
                 refine WL.yes rfl rfl ?_
                 refine WL.x (X.pickF rfl rfl rfl) (by decide) ?_
                 refine WL.x (X.pickT rfl rfl rfl) (by decide) ?_
                 refine WL.x (X.assign rfl) (by decide) ?_
                 refine WL.nil ?_
                 refine WK.nThen ?_
                 refine WC.ret ?_
                 refine WK.ret1 rfl rfl (fun w' hw' => Ret.exact hw' ?_)
                 first | rfl | (exfalso; omega) | (exfalso; contradiction) | (exfalso; have q_ := hc2 (by omega); contradiction) | (exfalso; have q_ := hc3 (by omega); contradiction) | exact (bool_true (by omega)).symm | exact (bool_true (by have q_ := hs5_ (by omega); omega)).symm | exact (bool_true (by have q_ := hs6_ (by omega); omega)).symm | (exfalso; have q_ := hs5_ (by omega); omega) | (exfalso; have q_ := hs6_ (by omega); omega)
               ·refine WL.yes rfl rfl ?_
                refine WL.x (X.pickF rfl rfl rfl) (by decide) ?_
                refine WL.x (X.pickT rfl rfl rfl) (by decide) ?_
                refine WL.x (X.move rfl) (by decide) ?_
                refine WL.no rfl rfl rfl (by decide) ?_
                refine WL.no rfl rfl rfl (by decide) ?_
                refine WL.no rfl rfl rfl (by decide) ?_
                refine WL.noU rfl rfl (by decide) ?_
                refine WL.noU rfl rfl (by decide) ?_
                refine WL.noU rfl rfl (by decide) ?_
                refine WL.no rfl rfl rfl (by decide) ?_
                refine WL.x (X.pickF rfl rfl rfl) (by decide) ?_
                refine WL.x (X.assign rfl) (by decide) ?_
                refine WL.nil ?_
                refine WK.nThen ?_
                refine WC.ret ?_
                refine WK.ret1 rfl rfl (fun w' hw' => Ret.exact hw' ?_)
                first | rfl | (exfalso; omega) | (exfalso; contradiction) | (exfalso; have q_ := hc2 (by omega); contradiction) | (exfalso; have q_ := hc3 (by omega); contradiction) | exact (bool_true (by omega)).symm | exact (bool_true (by have q_ := hs5_ (by omega); omega)).symm | exact (bool_true (by have q_ := hs6_ (by omega); omega)).symm | (exfalso; have q_ := hs5_ (by omega); omega) | (exfalso; have q_ := hs6_ (by omega); omega)
        ·refine WL.x (X.move rfl) (by decide) ?_
         refine WL.no rfl rfl rfl (by decide) ?_
         refine WL.no rfl rfl rfl (by decide) ?_
         refine WL.no rfl rfl rfl (by decide) ?_
         refine WL.noU rfl rfl (by decide) ?_
         refine WL.noU rfl rfl (by decide) ?_
         refine WL.no rfl rfl rfl (by decide) ?_
         refine WL.no rfl rfl rfl (by decide) ?_
         refine WL.noU rfl rfl (by decide) ?_
         refine WL.noU rfl rfl (by decide) ?_
         refine WL.noU rfl rfl (by decide) ?_
         refine WL.noU rfl rfl (by decide) ?_
         refine WL.noU rfl rfl (by decide) ?_
         refine WL.noU rfl rfl (by decide) ?_
         refine WL.noU rfl rfl (by decide) ?_
         refine WL.noU rfl rfl (by decide) ?_
         refine WL.no rfl rfl rfl (by decide) ?_
         refine WL.no rfl rfl rfl (by decide) ?_
         refine WL.noU rfl rfl (by decide) ?_
         refine WL.noU rfl rfl (by decide) ?_
         refine WL.noU rfl rfl (by decide) ?_
         refine WL.noU rfl rfl (by decide) ?_
         refine WL.noU rfl rfl (by decide) ?_
         refine WL.noU rfl rfl (by decide) ?_
         refine WL.noU rfl rfl (by decide) ?_
         refine WL.noU rfl rfl (by decide) ?_
         refine WL.no rfl rfl rfl (by decide) ?_
         refine WL.x (X.pickF rfl rfl rfl) (by decide) ?_
         refine WL.nil ?_
         refine WK.nThen ?_
         refine WC.condF rfl ?_
         refine WC.skip ?_
         refine WK.nThen ?_
         refine WC.seq ?_
         refine WC.region ?_
         refine WL.x (X.loadBA (k := 9) Try.isAgg25 Try.sizeOf25 rfl rfl rfl) (by decide) ?_
         refine WL.x (X.call Try.call36 rfl (slope36 _ _ s ⟨_, _, rfl, hs2, hs4⟩ )) (by decide) ?_
         refine WL.x (X.move rfl) (by decide) ?_
         refine WL.x (X.extract rfl rfl) (by decide) ?_
         refine WL.x (X.extract rfl rfl) (by decide) ?_
         refine WL.x (X.extract rfl rfl) (by decide) ?_
         refine WL.ts (T.storeBA (k := 5) Try.sizeOf45 rfl rfl rfl (one_cons rfl (one_cons rfl one_nil)) rfl rfl) ?_
         refine WL.ts (T.storeBA (k := 4) Try.sizeOf45 rfl rfl rfl (one_cons rfl (one_cons rfl one_nil)) rfl rfl) ?_
         refine WL.x (X.assign rfl) (by decide) ?_
         refine WL.nil ?_
         refine WK.nThen ?_
         refine WC.seq ?_
         refine WC.region ?_
         refine WL.x (X.loadBA (k := 9) Try.isAgg25 Try.sizeOf25 rfl rfl rfl) (by decide) ?_
         refine WL.x (X.call Try.call61 rfl (trend61 _ _ s ⟨_, _, rfl, hs2, hs4⟩ )) (by decide) ?_
         refine WL.x (X.move rfl) (by decide) ?_
         refine WL.x (X.extract rfl rfl) (by decide) ?_
         refine WL.x (X.extract rfl rfl) (by decide) ?_
         refine WL.x (X.assign rfl) (by decide) ?_
         refine WL.x (X.assign rfl) (by decide) ?_
         refine WL.nil ?_
         refine WK.nThen ?_
         refine WC.seq ?_
         refine WC.seq ?_
         have htr := trend_err s
         refine WC.region ?_
         refine WL.x (X.move rfl) (by decide) ?_
         refine WL.condn (X.neq rfl rfl) (by decide) (fun h126 => ?_) (fun h126 => ?_)
         ·refine WL.nil ?_
          refine WK.nThen ?_
          refine WC.condT rfl ?_
          refine WC.seq ?_
          refine WC.region ?_
          refine WL.x (X.move rfl) (by decide) ?_
          refine WL.x (X.move rfl) (by decide) ?_
          refine WL.yes rfl rfl ?_
          refine WL.x (X.move rfl) (by decide) ?_
          refine WL.yes rfl rfl ?_
          refine WL.x (X.move rfl) (by decide) ?_
          refine WL.yes rfl rfl ?_
          refine WL.x (X.eql rfl rfl) (by decide) ?_
          refine WL.x (X.pickT rfl rfl rfl) (by decide) ?_
          refine WL.x (X.assign rfl) (by decide) ?_
          refine WL.nil ?_
          refine WK.nThen ?_
          refine WC.ret ?_
          refine WK.rThen ?_
          refine WK.ret1 rfl rfl (fun w' hw' => Ret.exact hw' ?_)
          first | rfl | (exfalso; omega) | (exfalso; contradiction) | (exfalso; have q_ := hc2 (by omega); contradiction) | (exfalso; have q_ := hc3 (by omega); contradiction) | exact (bool_true (by omega)).symm | exact (bool_true (by have q_ := hs5_ (by omega); omega)).symm | exact (bool_true (by have q_ := hs6_ (by omega); omega)).symm | (exfalso; have q_ := hs5_ (by omega); omega) | (exfalso; have q_ := hs6_ (by omega); omega)
         ·refine WL.nil ?_
          refine WK.nThen ?_
          refine WC.condF rfl ?_
          refine WC.skip ?_
          refine WK.nThen ?_
          refine WC.seq ?_
          have hs_ := slope_real hea (by omega)
          have hs0_ := hs_.2.1
          have hs1_ := hs_.2.2.1
          have hs2_ := hs_.2.2.2.1
          have hs3_ := hs_.2.2.2.2.1
          have hs4_ := hs_.2.2.2.2.2.1
          have hs5_ := hs_.2.2.2.2.2.2.1
          have hs6_ := hs_.2.2.2.2.2.2.2
          have hs7_ := hs_.1.2
          unfold LBd at hs0_ hs1_ hs2_
          have heb2 := fun i (h : i < s.Values.length) => heb i (by omega)
          refine WC.region ?_
          refine WL.x (X.loadBA (k := 9) Try.isAgg25 Try.sizeOf25 rfl rfl rfl) (by decide) ?_
          refine WL.x (X.move rfl) (by decide) ?_
          refine WL.x (X.call Try.call64 rfl (exact64 _ _ s ⟨_, _, rfl, hs2, hs4⟩ _ _ hs24 (by assumption) (by omega) (by omega) (by assumption))) (by decide) ?_
          refine WL.tn (T.alloc Try.zeroValue45 rfl) (by decide) fun b127 => ?_
          refine WL.ts (T.storeBA (k := 0) Try.sizeOf45 rfl rfl rfl (one_cons rfl (one_cons rfl one_nil)) rfl rfl) ?_
          refine WL.nil ?_
          refine WK.nThen ?_
          refine WC.seq ?_
          refine WC.region ?_
          refine WL.x (X.move rfl) (by decide) ?_
          refine WL.x (X.move rfl) (by decide) ?_
          refine WL.yes rfl rfl ?_
          refine WL.x (X.loadBA (k := 0) Try.isAgg45 Try.sizeOf45 rfl rfl rfl) (by decide) ?_
          refine WL.yes rfl rfl ?_
          refine WL.x (X.loadBA (k := 6) Try.isAgg45 Try.sizeOf45 rfl rfl rfl) (by decide) ?_
          refine WL.yes rfl rfl ?_
          refine WL.x (OpX.f (X.call Try.call67 rfl (less67 _ _ (exactR s ((evenL s x.Levels x.Shifts))) rfl _ ((slopeR s).1) rfl (by omega) (by omega))) hs3_) (by decide) ?_
          refine WL.yes rfl rfl ?_
          refine WL.x (X.not rfl) (by decide) ?_
          refine WL.x (X.pickT rfl rfl rfl) (by decide) ?_
          refine WL.x (X.move rfl) (by decide) ?_
          refine WL.yes rfl rfl ?_
          refine WL.x (X.loadBA (k := 5) Try.isAgg45 Try.sizeOf45 rfl rfl rfl) (by decide) ?_
          refine WL.yes rfl rfl ?_
          refine WL.x (X.loadBA (k := 0) Try.isAgg45 Try.sizeOf45 rfl rfl rfl) (by decide) ?_
          refine WL.yes rfl rfl ?_
          refine WL.x (OpX.f (X.call Try.call67 rfl (less67 _ _ ((slopeR s).2.1) rfl _ (exactR s ((evenL s x.Levels x.Shifts))) rfl (by omega) (by omega))) hs4_) (by decide) ?_
          refine WL.yes rfl rfl ?_
          refine WL.x (X.not rfl) (by decide) ?_
          refine WL.x (X.pickT rfl rfl rfl) (by decide) ?_
          refine WL.x (X.move rfl) (by decide) ?_
          refine WL.yes rfl rfl ?_
          refine WL.x (X.move rfl) (by decide) ?_
          refine WL.yes rfl rfl ?_
          refine WL.condn (X.neq rfl rfl) (by decide) (fun h128 => ?_) (fun h128 => ?_)
          ·refine WL.yes rfl rfl ?_
           refine WL.x (X.move rfl) (by decide) ?_
           refine WL.no rfl rfl rfl (by decide) ?_
           refine WL.no rfl rfl rfl (by decide) ?_
           refine WL.no rfl rfl rfl (by decide) ?_
           refine WL.yes rfl rfl ?_
           refine WL.x (X.pickT rfl rfl rfl) (by decide) ?_
           refine WL.x (X.pickT rfl rfl rfl) (by decide) ?_
           refine WL.x (X.move rfl) (by decide) ?_
           refine WL.yes rfl rfl ?_
           refine WL.x (X.move rfl) (by decide) ?_
           refine WL.yes rfl rfl ?_
           refine WL.condn (X.neq rfl rfl) (by decide) (fun h129 => ?_) (fun h129 => ?_)
           ·refine WL.yes rfl rfl ?_
            refine WL.x (X.move rfl) (by decide) ?_
            refine WL.no rfl rfl rfl (by decide) ?_
            refine WL.no rfl rfl rfl (by decide) ?_
            refine WL.no rfl rfl rfl (by decide) ?_
            refine WL.yes rfl rfl ?_
            refine WL.x (X.pickT rfl rfl rfl) (by decide) ?_
            refine WL.x (X.pickT rfl rfl rfl) (by decide) ?_
            refine WL.x (X.assign rfl) (by decide) ?_
            refine WL.nil ?_
            refine WK.nThen ?_
            refine WC.ret ?_
            refine WK.ret1 rfl rfl (fun w' hw' => Ret.exact hw' ?_)
            first | rfl | (exfalso; omega) | (exfalso; contradiction) | (exfalso; have q_ := hc2 (by omega); contradiction) | (exfalso; have q_ := hc3 (by omega); contradiction) | exact (bool_true (by omega)).symm | exact (bool_true (by have q_ := hs5_ (by omega); omega)).symm | exact (bool_true (by have q_ := hs6_ (by omega); omega)).symm | (exfalso; have q_ := hs5_ (by omega); omega) | (exfalso; have q_ := hs6_ (by omega); omega)
           ·refine WL.yes rfl rfl ?_
            refine WL.x (X.move rfl) (by decide) ?_
            refine WL.yes rfl rfl ?_
            refine WL.x (X.field Try.runUnderlying45 rfl Try.sizeOf3 rfl) (by decide) ?_
            refine WL.yes rfl rfl ?_
            refine WL.x (X.loadB (k := 0) Try.isAgg3 rfl rfl rfl) (by decide) ?_
            refine WL.yes rfl rfl ?_
            refine WL.x (X.lss rfl rfl) (by decide) ?_
            refine WL.yes rfl rfl ?_
            refine WL.x (X.pickF rfl rfl rfl) (by decide) ?_
            refine WL.x (X.pickT rfl rfl rfl) (by decide) ?_
            refine WL.x (X.assign rfl) (by decide) ?_
            refine WL.nil ?_
            refine WK.nThen ?_
            refine WC.ret ?_
            refine WK.ret1 rfl rfl (fun w' hw' => Ret.exact hw' ?_)
            first | rfl | (exfalso; omega) | (exfalso; contradiction) | (exfalso; have q_ := hc2 (by omega); contradiction) | (exfalso; have q_ := hc3 (by omega); contradiction) | exact (bool_true (by omega)).symm | exact (bool_true (by have q_ := hs5_ (by omega); omega)).symm | exact (bool_true (by have q_ := hs6_ (by omega); omega)).symm | (exfalso; have q_ := hs5_ (by omega); omega) | (exfalso; have q_ := hs6_ (by omega); omega)
          ·refine WL.yes rfl rfl ?_
           refine WL.x (X.move rfl) (by decide) ?_
           refine WL.yes rfl rfl ?_
           refine WL.x (X.field Try.runUnderlying45 rfl Try.sizeOf3 rfl) (by decide) ?_
           refine WL.yes rfl rfl ?_
           refine WL.x (X.loadB (k := 0) Try.isAgg3 rfl rfl rfl) (by decide) ?_
           refine WL.yes rfl rfl ?_
           refine WL.cond (X.gtr rfl rfl) (by decide) (fun h130 => ?_) (fun h130 => ?_)
           ·refine WL.yes rfl rfl ?_
            refine WL.x (X.pickF rfl rfl rfl) (by decide) ?_
            refine WL.x (X.pickT rfl rfl rfl) (by decide) ?_
            refine WL.x (X.move rfl) (by decide) ?_
            refine WL.yes rfl rfl ?_
            refine WL.x (X.move rfl) (by decide) ?_
            refine WL.yes rfl rfl ?_
            refine WL.condn (X.neq rfl rfl) (by decide) (fun h131 => ?_) (fun h131 => ?_)
            ·refine WL.yes rfl rfl ?_
             refine WL.x (X.move rfl) (by decide) ?_
             refine WL.no rfl rfl rfl (by decide) ?_
             refine WL.no rfl rfl rfl (by decide) ?_
             refine WL.no rfl rfl rfl (by decide) ?_
             refine WL.yes rfl rfl ?_
             refine WL.x (X.pickT rfl rfl rfl) (by decide) ?_
             refine WL.x (X.pickT rfl rfl rfl) (by decide) ?_
             refine WL.x (X.assign rfl) (by decide) ?_
             refine WL.nil ?_
             refine WK.nThen ?_
             refine WC.ret ?_
             refine WK.ret1 rfl rfl (fun w' hw' => Ret.exact hw' ?_)
             first | rfl | (exfalso; omega) | (exfalso; contradiction) | (exfalso; have q_ := hc2 (by omega); contradiction) | (exfalso; have q_ := hc3 (by omega); contradiction) | exact (bool_true (by omega)).symm | exact (bool_true (by have q_ := hs5_ (by omega); omega)).symm | exact (bool_true (by have q_ := hs6_ (by omega); omega)).symm | (exfalso; have q_ := hs5_ (by omega); omega) | (exfalso; have q_ := hs6_ (by omega); omega)
            ·refine WL.yes rfl rfl ?_
             refine WL.x (X.move rfl) (by decide) ?_
             refine WL.yes rfl rfl ?_
             refine WL.x (X.field Try.runUnderlying45 rfl Try.sizeOf3 rfl) (by decide) ?_
             refine WL.yes rfl rfl ?_
             refine WL.x (X.loadB (k := 0) Try.isAgg3 rfl rfl rfl) (by decide) ?_
             refine WL.yes rfl rfl ?_
             refine WL.x (X.lss rfl rfl) (by decide) ?_
             refine WL.yes rfl rfl ?_
             refine WL.x (X.pickF rfl rfl rfl) (by decide) ?_
             refine WL.x (X.pickT rfl rfl rfl) (by decide) ?_
             refine WL.x (X.assign rfl) (by decide) ?_
             refine WL.nil ?_
             refine WK.nThen ?_
             refine WC.ret ?_
             refine WK.ret1 rfl rfl (fun w' hw' => Ret.exact hw' ?_)
             first | rfl | (exfalso; omega) | (exfalso; contradiction) | (exfalso; have q_ := hc2 (by omega); contradiction) | (exfalso; have q_ := hc3 (by omega); contradiction) | exact (bool_true (by omega)).symm | exact (bool_true (by have q_ := hs5_ (by omega); omega)).symm | exact (bool_true (by have q_ := hs6_ (by omega); omega)).symm | (exfalso; have q_ := hs5_ (by omega); omega) | (exfalso; have q_ := hs6_ (by omega); omega)
           ·refine WL.yes rfl rfl ?_
            refine WL.x (X.pickF rfl rfl rfl) (by decide) ?_
            refine WL.x (X.pickT rfl rfl rfl) (by decide) ?_
            refine WL.x (X.move rfl) (by decide) ?_
            refine WL.no rfl rfl rfl (by decide) ?_
            refine WL.no rfl rfl rfl (by decide) ?_
            refine WL.no rfl rfl rfl (by decide) ?_
            refine WL.noU rfl rfl (by decide) ?_
            refine WL.noU rfl rfl (by decide) ?_
            refine WL.noU rfl rfl (by decide) ?_
            refine WL.no rfl rfl rfl (by decide) ?_
            refine WL.x (X.pickF rfl rfl rfl) (by decide) ?_
            refine WL.x (X.assign rfl) (by decide) ?_
            refine WL.nil ?_
            refine WK.nThen ?_
            refine WC.ret ?_
            refine WK.ret1 rfl rfl (fun w' hw' => Ret.exact hw' ?_)
            first | rfl | (exfalso; omega) | (exfalso; contradiction) | (exfalso; have q_ := hc2 (by omega); contradiction) | (exfalso; have q_ := hc3 (by omega); contradiction) | exact (bool_true (by omega)).symm | exact (bool_true (by have q_ := hs5_ (by omega); omega)).symm | exact (bool_true (by have q_ := hs6_ (by omega); omega)).symm | (exfalso; have q_ := hs5_ (by omega); omega) | (exfalso; have q_ := hs6_ (by omega); omega)
  ·refine WL.yes rfl rfl ?_
   refine WL.x (X.not rfl) (by decide) ?_
   refine WL.x (X.pickF rfl rfl rfl) (by decide) ?_
   refine WL.nil ?_
   refine WK.nThen ?_
   refine WC.condT rfl ?_
   refine WC.seq ?_
   refine WC.region ?_
   refine WL.x (X.move rfl) (by decide) ?_
   refine WL.x (X.assign rfl) (by decide) ?_
   refine WL.nil ?_
   refine WK.nThen ?_
   refine WC.ret ?_
   refine WK.rThen ?_
   refine WK.ret1 rfl rfl (fun w' hw' => Ret.exact hw' ?_)
   first | rfl | (exfalso; omega) | (exfalso; contradiction) | (exfalso; have q_ := hc2 (by omega); contradiction) | (exfalso; have q_ := hc3 (by omega); contradiction) | exact (bool_true (by omega)).symm | exact (bool_true (by have q_ := hs5_ (by omega); omega)).symm | exact (bool_true (by have q_ := hs6_ (by omega); omega)).symm | (exfalso; have q_ := hs5_ (by omega); omega) | (exfalso; have q_ := hs6_ (by omega); omega)
 ·refine WL.x (X.not rfl) (by decide) ?_
  refine WL.x (X.move rfl) (by decide) ?_
  refine WL.no rfl rfl rfl (by decide) ?_
  refine WL.no rfl rfl rfl (by decide) ?_
  refine WL.no rfl rfl rfl (by decide) ?_
  refine WL.x (X.pickT rfl rfl rfl) (by decide) ?_
  refine WL.nil ?_
  refine WK.nThen ?_
  refine WC.condT rfl ?_
  refine WC.seq ?_
  refine WC.region ?_
  refine WL.x (X.move rfl) (by decide) ?_
  refine WL.x (X.assign rfl) (by decide) ?_
  refine WL.nil ?_
  refine WK.nThen ?_
  refine WC.ret ?_
  refine WK.rThen ?_
  refine WK.ret1 rfl rfl (fun w' hw' => Ret.exact hw' ?_)
  first | rfl | (exfalso; omega) | (exfalso; contradiction) | (exfalso; have q_ := hc2 (by omega); contradiction) | (exfalso; have q_ := hc3 (by omega); contradiction) | exact (bool_true (by omega)).symm | exact (bool_true (by have q_ := hs5_ (by omega); omega)).symm | exact (bool_true (by have q_ := hs6_ (by omega); omega)).symm | (exfalso; have q_ := hs5_ (by omega); omega) | (exfalso; have q_ := hs6_ (by omega); omega)
end Go.Proofs.C8
