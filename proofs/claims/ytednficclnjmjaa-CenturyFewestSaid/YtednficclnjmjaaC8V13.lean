import Derived.Test.YtednficclnjmjaaC8Br
import Derived.Test.YtednficclnjmjaaC8W9
import Derived.Test.YtednficclnjmjaaC8LFew
import Derived.Test.YtednficclnjmjaaC8W18
/- The walk of the statement CenturyFewest: its function answers true. -/
namespace Go.Proofs.C8
open Go Go.Kx
set_option linter.unusedSimpArgs false
set_option linter.unusedVariables false
set_option maxRecDepth 20000 in
set_option maxHeartbeats 8000000 in
theorem law13 (m : Mem) (cs : List Value) (s : Ser) (hs : Enc.rd m cs s) (cx : List Value) (x : Rl) (hx : Enc.rd m cx x) (most : Int)  (ok0 : Rng.ok s) (ok1 : Rng.ok x) (lo2 : -9223372036854775808 ≤ most) (hi2 : most ≤ 9223372036854775807) : Exact Try.prog 13 #[.agg cs.toArray, .agg cx.toArray, .int .i64 (most)] m (.bool true) := by
 obtain ⟨v1, v3, rfl, hs2, hs4⟩ := hs
 have hl5 := hs2.le
 have hl6 := hs4.le
 obtain ⟨v7, v9, rfl, hs8, hs10⟩ := hx
 have hl11 := hs8.le
 have hl12 := hs10.le
 refine Exact.start Try.func13 rfl Try.ntmps13 rfl fun wld => ?_
 refine WC.seq ?_
 refine WC.region ?_
 refine WL.tn (T.boxB rfl rfl) (by decide) fun b13 => ?_
 refine WL.tn (T.boxB rfl rfl) (by decide) fun b14 => ?_
 refine WL.x (X.assign rfl) (by decide) ?_
 refine WL.nil ?_
 refine WK.nThen ?_
 refine WC.seq ?_
 refine WC.region ?_
 refine WL.x (X.call Try.call21 rfl (awake21 _  )) (by decide) ?_
 refine WL.x (X.assign rfl) (by decide) ?_
 refine WL.nil ?_
 refine WK.nThen ?_
 refine WC.seq ?_
 refine WC.seq ?_
 refine WC.region ?_
 refine WL.x (X.loadBA (k := 1) Try.isAgg25 Try.sizeOf25 rfl rfl rfl) (by decide) ?_
 refine WL.cond (X.call Try.call22 rfl (few22 _ _ s ⟨_, _, rfl, hs2, hs4⟩ )) (by decide) (fun h15 => ?_) (fun h15 => ?_)
 ·refine WL.x (X.not rfl) (by decide) ?_
  refine WL.x (X.move rfl) (by decide) ?_
  refine WL.yes rfl rfl ?_
  refine WL.x (X.loadBA (k := 0) Try.isAgg52 Try.sizeOf52 rfl rfl rfl) (by decide) ?_
  refine WL.yes rfl rfl ?_
  refine WL.cond (X.call Try.call38 rfl (light38 _ _ x ⟨_, _, rfl, hs8, hs10⟩ )) (by decide) (fun h16 => ?_) (fun h16 => ?_)
  ·refine WL.yes rfl rfl ?_
   refine WL.x (X.not rfl) (by decide) ?_
   refine WL.x (X.pickF rfl rfl rfl) (by decide) ?_
   refine WL.nil ?_
   refine WK.nThen ?_
   refine WC.condF rfl ?_
   refine WC.skip ?_
   refine WK.nThen ?_
   refine WC.seq ?_
   refine WC.region ?_
   refine WL.x (X.loadBA (k := 1) Try.isAgg25 Try.sizeOf25 rfl rfl rfl) (by decide) ?_
   refine WL.x (X.move rfl) (by decide) ?_
   refine WL.tm (T.call Try.call28 rfl (steps28 _ _ s ⟨_, _, rfl, hs2, hs4⟩ _ )) (by decide) fun m17 r18 hle19 hR20 => ?_
   obtain ⟨v21, rfl, hs22⟩ := hR20
   replace hs2 := hs2.mono hle19
   replace hs4 := hs4.mono hle19
   replace hs8 := hs8.mono hle19
   replace hs10 := hs10.mono hle19
   have hl23 := hs22.le
   refine WL.x (X.move rfl) (by decide) ?_
   refine WL.x (X.extract rfl rfl) (by decide) ?_
   refine WL.x (X.extract rfl rfl) (by decide) ?_
   refine WL.x (X.extract rfl rfl) (by decide) ?_
   refine WL.x (X.assign rfl) (by decide) ?_
   refine WL.x (X.assign rfl) (by decide) ?_
   refine WL.x (X.assign rfl) (by decide) ?_
   refine WL.nil ?_
   refine WK.nThen ?_
   refine WC.seq ?_
   refine WC.seq ?_
   refine WC.region ?_
   refine WL.x (X.move rfl) (by decide) ?_
   refine WL.condn (X.neq rfl rfl) (by decide) (fun h24 => ?_) (fun h24 => ?_)
   ·refine WL.nil ?_
    refine WK.nThen ?_
    refine WC.condT rfl ?_
    refine WC.seq ?_
    have hnn_ := stpR_none (s := s) (most := most) (by omega)
    have hnn1_ : (stpR s most).1.length = 0 := (by rw [hnn_]; rfl)
    refine WC.region ?_
    refine WL.x (X.move rfl) (by decide) ?_
    refine WL.x (X.move rfl) (by decide) ?_
    refine WL.yes rfl rfl ?_
    refine WL.x (X.move rfl) (by decide) ?_
    refine WL.yes rfl rfl ?_
    refine WL.cond (X.eql rfl rfl) (by decide) (fun h25 => ?_) (fun h25 => ?_)
    ·refine WL.x (X.pickT rfl rfl rfl) (by decide) ?_
     refine WL.x (X.move rfl) (by decide) ?_
     refine WL.yes rfl rfl ?_
     refine WL.x (X.move rfl) (by decide) ?_
     refine WL.yes rfl rfl ?_
     refine WL.x (X.len Try.runUnderlying28 rfl hs22) (by decide) ?_
     refine WL.yes rfl rfl ?_
     refine WL.x (X.eql rfl rfl) (by decide) ?_
     refine WL.x (X.pickT rfl rfl rfl) (by decide) ?_
     refine WL.x (X.assign rfl) (by decide) ?_
     refine WL.nil ?_
     refine WK.nThen ?_
     refine WC.ret ?_
     refine WK.rThen ?_
     refine WK.ret1 rfl rfl (fun w' hw' => Ret.exact hw' ?_)
     first | rfl | (exfalso; omega) | (exfalso; contradiction) | exact (bool_true rfl).symm | exact (bool_true (by omega)).symm
    ·refine WL.x (X.pickT rfl rfl rfl) (by decide) ?_
     refine WL.x (X.move rfl) (by decide) ?_
     refine WL.no rfl rfl rfl (by decide) ?_
     refine WL.no rfl rfl rfl (by decide) ?_
     refine WL.no rfl rfl rfl (by decide) ?_
     refine WL.x (X.pickF rfl rfl rfl) (by decide) ?_
     refine WL.x (X.assign rfl) (by decide) ?_
     refine WL.nil ?_
     refine WK.nThen ?_
     refine WC.ret ?_
     refine WK.rThen ?_
     refine WK.ret1 rfl rfl (fun w' hw' => Ret.exact hw' ?_)
     first | rfl | (exfalso; omega) | (exfalso; contradiction) | exact (bool_true rfl).symm | exact (bool_true (by omega)).symm
   ·refine WL.nil ?_
    refine WK.nThen ?_
    refine WC.condF rfl ?_
    refine WC.skip ?_
    refine WK.nThen ?_
    refine WC.seq ?_
    have hst0 : (stpR s most).2 = 0 := (by omega)
    have hsz := stpR_zero hst0
    have hok := hsz.1
    have hmm := hsz.2.1
    have hes := even_small s x.Levels x.Shifts
    have hes1 := hes.1
    have hnV := hok.nV
    have hal : (stpR s most).1.length ≤ s.Values.length := (by rw [hsz.2.2]; exact stpF_len s most _ _)
    refine WC.region ?_
    refine WL.x (X.loadBA (k := 1) Try.isAgg25 Try.sizeOf25 rfl rfl rfl) (by decide) ?_
    refine WL.x (X.field Try.runUnderlying52 rfl Try.sizeOf28 rfl) (by decide) ?_
    refine WL.x (X.loadB (k := 0) Try.isAgg28 rfl rfl rfl) (by decide) ?_
    refine WL.x (X.field Try.runUnderlying52 rfl Try.sizeOf28 rfl) (by decide) ?_
    refine WL.x (X.loadB (k := 0) Try.isAgg28 rfl rfl rfl) (by decide) ?_
    refine WL.tm (T.call Try.call39 rfl (even39 _ _ s ⟨_, _, rfl, hs2, hs4⟩ _ _ hs8 _ _ hs10 )) (by decide) fun m26 r27 hle28 hR29 => ?_
    obtain ⟨v30, rfl, hs31⟩ := hR29
    replace hs2 := hs2.mono hle28
    replace hs4 := hs4.mono hle28
    replace hs8 := hs8.mono hle28
    replace hs10 := hs10.mono hle28
    replace hs22 := hs22.mono hle28
    have hl32 := hs31.le
    refine WL.x (X.move rfl) (by decide) ?_
    refine WL.x (X.extract rfl rfl) (by decide) ?_
    refine WL.x (X.extract rfl rfl) (by decide) ?_
    refine WL.x (X.assign rfl) (by decide) ?_
    refine WL.x (X.assign rfl) (by decide) ?_
    refine WL.nil ?_
    refine WK.nThen ?_
    refine WC.seq ?_
    refine WC.cut (G := Unit) (fun u_ => m26) (fun u_ => [blk b14 52 [v7, v9], blk b13 25 [v1, v3]]) (fun u_ => [(2, .int .i64 (most)), (3, .pointer (some ⟨b13, 0, none⟩)), (7, .bool true), (8, .int .i64 (↑(stpR s most).1.length)), (9, v21), (85, .bool false)]) (fun u_ => True) ?_ ?_
    ·have hep := fun h_ => even_parts (x := x) hst0 h_
     refine WC.region ?_
     refine WL.x (X.move rfl) (by decide) ?_
     refine WL.cond (X.eql rfl rfl) (by decide) (fun h33 => ?_) (fun h33 => ?_)
     ·refine WL.x (X.move rfl) (by decide) ?_
      refine WL.yes rfl rfl ?_
      refine WL.x (X.move rfl) (by decide) ?_
      refine WL.yes rfl rfl ?_
      refine WL.x (X.move rfl) (by decide) ?_
      refine WL.yes rfl rfl ?_
      refine WL.x (X.call Try.call58 rfl (parts58 _ _ _ hs31 _ (by omega) (by first | exact (even_small s x.Levels x.Shifts).2 | assumption))) (by decide) ?_
      refine WL.yes rfl rfl ?_
      refine WL.x (X.move rfl) (by decide) ?_
      refine WL.yes rfl rfl ?_
      refine WL.x (X.move rfl) (by decide) ?_
      refine WL.yes rfl rfl ?_
      refine WL.x (X.len Try.runUnderlying28 rfl hs31) (by decide) ?_
      refine WL.yes rfl rfl ?_
      refine WL.x (X.mn rfl rfl) (by decide) ?_
      refine WL.yes rfl rfl ?_
      refine WL.x (X.add rfl rfl (by omega) (by omega)) (by decide) ?_
      refine WL.yes rfl rfl ?_
      refine WL.cond (X.lss rfl rfl) (by decide) (fun h34 => ?_) (fun h34 => ?_)
      ·refine WL.x (X.pickT rfl rfl rfl) (by decide) ?_
       refine WL.x (X.move rfl) (by decide) ?_
       refine WL.no rfl rfl rfl (by decide) ?_
       refine WL.no rfl rfl rfl (by decide) ?_
       refine WL.no rfl rfl rfl (by decide) ?_
       refine WL.no rfl rfl rfl (by decide) ?_
       refine WL.x (X.pickT rfl rfl rfl) (by decide) ?_
       refine WL.nil ?_
       refine WK.nThen ?_
       exfalso; first | omega | contradiction | (have q_ := hep (by omega); omega)
      ·refine WL.x (X.pickT rfl rfl rfl) (by decide) ?_
       refine WL.x (X.move rfl) (by decide) ?_
       refine WL.yes rfl rfl ?_
       refine WL.x (X.move rfl) (by decide) ?_
       refine WL.yes rfl rfl ?_
       refine WL.x (X.move rfl) (by decide) ?_
       refine WL.yes rfl rfl ?_
       refine WL.x (X.len Try.runUnderlying28 rfl hs22) (by decide) ?_
       refine WL.yes rfl rfl ?_
       refine WL.condn (X.neq rfl rfl) (by decide) (fun h35 => ?_) (fun h35 => ?_)
       ·refine WL.x (X.pickF rfl rfl rfl) (by decide) ?_
        refine WL.nil ?_
        refine WK.nThen ?_
        exfalso; first | omega | contradiction | (have q_ := hep (by omega); omega)
       ·refine WL.x (X.pickF rfl rfl rfl) (by decide) ?_
        refine WL.nil ?_
        refine WK.nThen ?_
        refine WK.meet (()) rfl (.refl _) (.cons rfl (.cons rfl (.cons rfl (.cons rfl (.cons rfl (.cons rfl .nil)))))) ?_
        trivial
     ·refine WL.x (X.move rfl) (by decide) ?_
      refine WL.no rfl rfl rfl (by decide) ?_
      refine WL.no rfl rfl rfl (by decide) ?_
      refine WL.no rfl rfl rfl (by decide) ?_
      refine WL.no rfl rfl rfl (by decide) ?_
      refine WL.no rfl rfl rfl (by decide) ?_
      refine WL.no rfl rfl rfl (by decide) ?_
      refine WL.no rfl rfl rfl (by decide) ?_
      refine WL.no rfl rfl rfl (by decide) ?_
      refine WL.no rfl rfl rfl (by decide) ?_
      refine WL.x (X.pickF rfl rfl rfl) (by decide) ?_
      refine WL.x (X.move rfl) (by decide) ?_
      refine WL.yes rfl rfl ?_
      refine WL.x (X.move rfl) (by decide) ?_
      refine WL.yes rfl rfl ?_
      refine WL.x (X.move rfl) (by decide) ?_
      refine WL.yes rfl rfl ?_
      refine WL.x (X.len Try.runUnderlying28 rfl hs22) (by decide) ?_
      refine WL.yes rfl rfl ?_
      refine WL.condn (X.neq rfl rfl) (by decide) (fun h36 => ?_) (fun h36 => ?_)
      ·refine WL.x (X.pickF rfl rfl rfl) (by decide) ?_
       refine WL.nil ?_
       refine WK.nThen ?_
       exfalso; first | omega | contradiction | (have q_ := hep (by omega); omega)
      ·refine WL.x (X.pickF rfl rfl rfl) (by decide) ?_
       refine WL.nil ?_
       refine WK.nThen ?_
       refine WK.meet (()) rfl (.refl _) (.cons rfl (.cons rfl (.cons rfl (.cons rfl (.cons rfl (.cons rfl .nil)))))) ?_
       trivial
    ·rintro u_ hF37
     show WK _ _ m26 [blk b14 52 [v7, v9], blk b13 25 [v1, v3]] [(2, .int .i64 (most)), (3, .pointer (some ⟨b13, 0, none⟩)), (7, .bool true), (8, .int .i64 (↑(stpR s most).1.length)), (9, v21), (85, .bool false)] _
     replace hF37 : True := hF37
     refine WC.condF rfl ?_
     refine WC.skip ?_
     refine WK.nThen ?_
     refine WC.seq ?_
     refine WC.region ?_
     refine WL.x (X.loadBA (k := 1) Try.isAgg25 Try.sizeOf25 rfl rfl rfl) (by decide) ?_
     refine WL.x (X.move rfl) (by decide) ?_
     refine WL.x (X.add rfl rfl (by omega) (by omega)) (by decide) ?_
     refine WL.tm (T.call Try.call28 rfl (steps28 _ _ s ⟨_, _, rfl, hs2, hs4⟩ _ )) (by decide) fun m38 r39 hle40 hR41 => ?_
     obtain ⟨v42, rfl, hs43⟩ := hR41
     replace hs2 := hs2.mono hle40
     replace hs4 := hs4.mono hle40
     replace hs8 := hs8.mono hle40
     replace hs10 := hs10.mono hle40
     replace hs22 := hs22.mono hle40
     replace hs31 := hs31.mono hle40
     have hl44 := hs43.le
     refine WL.x (X.move rfl) (by decide) ?_
     refine WL.x (X.extract rfl rfl) (by decide) ?_
     refine WL.x (X.extract rfl rfl) (by decide) ?_
     refine WL.x (X.extract rfl rfl) (by decide) ?_
     refine WL.x (X.assign rfl) (by decide) ?_
     refine WL.x (X.assign rfl) (by decide) ?_
     refine WL.x (X.assign rfl) (by decide) ?_
     refine WL.nil ?_
     refine WK.nThen ?_
     refine WC.seq ?_
     refine WC.cut (G := Unit) (fun u_ => m38) (fun u_ => [blk b14 52 [v7, v9], blk b13 25 [v1, v3]]) (fun u_ => [(2, .int .i64 (most)), (3, .pointer (some ⟨b13, 0, none⟩)), (7, .bool true), (9, v21), (100, .bool false)]) (fun u_ => True) ?_ ?_
     ·have hms := fun h_ => more_stp hst0 h_
      refine WC.region ?_
      refine WL.x (X.move rfl) (by decide) ?_
      refine WL.cond (X.eql rfl rfl) (by decide) (fun h45 => ?_) (fun h45 => ?_)
      ·refine WL.x (X.move rfl) (by decide) ?_
       refine WL.yes rfl rfl ?_
       refine WL.x (X.move rfl) (by decide) ?_
       refine WL.yes rfl rfl ?_
       refine WL.x (X.move rfl) (by decide) ?_
       refine WL.yes rfl rfl ?_
       refine WL.cond (X.gtr rfl rfl) (by decide) (fun h46 => ?_) (fun h46 => ?_)
       ·refine WL.x (X.pickT rfl rfl rfl) (by decide) ?_
        refine WL.nil ?_
        refine WK.nThen ?_
        exfalso; first | omega | contradiction | (have q_ := hms (by omega); omega)
       ·refine WL.x (X.pickT rfl rfl rfl) (by decide) ?_
        refine WL.nil ?_
        refine WK.nThen ?_
        refine WK.meet (()) rfl (.refl _) (.cons rfl (.cons rfl (.cons rfl (.cons rfl (.cons rfl .nil))))) ?_
        trivial
      ·refine WL.x (X.move rfl) (by decide) ?_
       refine WL.no rfl rfl rfl (by decide) ?_
       refine WL.no rfl rfl rfl (by decide) ?_
       refine WL.no rfl rfl rfl (by decide) ?_
       refine WL.x (X.pickF rfl rfl rfl) (by decide) ?_
       refine WL.nil ?_
       refine WK.nThen ?_
       refine WK.meet (()) rfl (.refl _) (.cons rfl (.cons rfl (.cons rfl (.cons rfl (.cons rfl .nil))))) ?_
       trivial
     ·rintro u_ hF47
      show WK _ _ m38 [blk b14 52 [v7, v9], blk b13 25 [v1, v3]] [(2, .int .i64 (most)), (3, .pointer (some ⟨b13, 0, none⟩)), (7, .bool true), (9, v21), (100, .bool false)] _
      replace hF47 : True := hF47
      refine WC.condF rfl ?_
      refine WC.skip ?_
      refine WK.nThen ?_
      refine WC.seq ?_
      refine WC.region ?_
      refine WL.x (X.assign rfl) (by decide) ?_
      refine WL.nil ?_
      refine WK.nThen ?_
      refine WC.seq ?_
      refine WC.seq ?_
      refine WC.region ?_
      refine WL.x (X.assign rfl) (by decide) ?_
      refine WL.nil ?_
      refine WK.nThen ?_
      refine WC.block ?_
      refine WC.loop (G := Nat × Nat × Int) (fun (i, a, fr) => (stpR s most).1.length + 1 - i) (fun (i, a, fr) => m38) (fun (i, a, fr) => [blk b14 52 [v7, v9], blk b13 25 [v1, v3]]) (fun (i, a, fr) => [(2, .int .i64 (most)), (3, .pointer (some ⟨b13, 0, none⟩)), (7, .bool true), (9, v21), (16, .int .i64 (fr)), (17, .int .i64 (↑i))]) (fun (i, a, fr) => i ≤ (stpR s most).1.length + 1 ∧ (i ≤ (stpR s most).1.length → FewI s most i a fr)) ((0, 0, -1)) rfl (.refl _) (.cons rfl (.cons rfl (.cons rfl (.cons rfl (.cons rfl (.cons rfl .nil)))))) ?_ ?_
      ·exact ⟨Nat.zero_le _, fun _ => few_start hst0⟩
      ·rintro ⟨i, a, fr⟩ hF48
       show WK _ _ m38 [blk b14 52 [v7, v9], blk b13 25 [v1, v3]] [(2, .int .i64 (most)), (3, .pointer (some ⟨b13, 0, none⟩)), (7, .bool true), (9, v21), (16, .int .i64 (fr)), (17, .int .i64 (↑i))] _
       replace hF48 : i ≤ (stpR s most).1.length + 1 ∧ (i ≤ (stpR s most).1.length → FewI s most i a fr) := hF48
       obtain ⟨hi, hI⟩ := hF48
       refine WK.good (fun hgood0 => ?_)
       refine WC.seq ?_
       refine WC.seq ?_
       refine WC.region ?_
       refine WL.x (X.move rfl) (by decide) ?_
       refine WL.x (X.move rfl) (by decide) ?_
       refine WL.x (X.len Try.runUnderlying28 rfl hs22) (by decide) ?_
       refine WL.cond (X.leq rfl rfl) (by decide) (fun h49 => ?_) (fun h49 => ?_)
       ·refine WL.nil ?_
        refine WK.nThen ?_
        refine WC.condT rfl ?_
        refine WC.skip ?_
        refine WK.nThen ?_
        refine WC.seq ?_
        refine WC.block ?_
        refine WC.seq ?_
        have hI0 := fun h_ => hI h_
        have hfb := fr_bd hok (hI0 (by omega))
        refine WC.region ?_
        refine WL.x (X.assign rfl) (by decide) ?_
        refine WL.nil ?_
        refine WK.nThen ?_
        refine WC.seq ?_
        refine WC.seq ?_
        refine WC.region ?_
        refine WL.x (X.move rfl) (by decide) ?_
        refine WL.x (X.move rfl) (by decide) ?_
        refine WL.x (X.len Try.runUnderlying28 rfl hs22) (by decide) ?_
        refine WL.cond (X.lss rfl rfl) (by decide) (fun h50 => ?_) (fun h50 => ?_)
        ·refine WL.nil ?_
         refine WK.nThen ?_
         refine WC.condT rfl ?_
         obtain ⟨b_, hI1, hgb_, hp_, hq_⟩ := few_more hst0 (hI0 (by omega)) (by omega)
         have hp1_ := hp_.1
         have hp2_ := hp_.2.1
         have hp3_ := hp_.2.2.1
         have hp4_ := hp_.2.2.2
         have hq1_ := hq_.1
         have hq2_ := hq_.2.1
         have hq3_ := hq_.2.2
         refine WC.region ?_
         refine WL.x (X.move rfl) (by decide) ?_
         refine WL.x (X.move rfl) (by decide) ?_
         refine WL.xe (E.idxN i Try.runUnderlying28 Try.sizeOf3 rfl rfl hs22 (by omega)) (by decide) (fun p51 hp52 => ?_)
         refine WL.x (X.loadInt Try.isAgg3 rfl hp52) (by decide) ?_
         refine WL.x (X.sub rfl rfl (by omega) (by omega)) (by decide) ?_
         refine WL.x (X.assign rfl) (by decide) ?_
         refine WL.nil ?_
         refine WK.nThen ?_
         refine WC.seq ?_
         refine WC.region ?_
         refine WL.x (X.loadBA (k := 1) Try.isAgg25 Try.sizeOf25 rfl rfl rfl) (by decide) ?_
         refine WL.x (X.move rfl) (by decide) ?_
         refine WL.x (X.add rfl rfl (by omega) (by omega)) (by decide) ?_
         refine WL.x (X.move rfl) (by decide) ?_
         refine WL.x (V := Value.agg [.int .i64 (fr + 1), .int .i64 ((gt ((stpR s most).1) i) - 1)].toArray) (X.build Try.zeroValue33 Try.runUnderlying33 (places33 _ Try.underlying33) rfl rfl) (by decide) ?_
         refine WL.tm (T.call Try.call59 rfl (cut59 _ _ s ⟨_, _, rfl, hs2, hs4⟩ _ ((Span.mk (fr + 1) ((gt ((stpR s most).1) i) - 1))) rfl )) (by decide) fun m53 r54 hle55 hR56 => ?_
         obtain ⟨c57, rfl, hc58⟩ := hR56
         replace hs2 := hs2.mono hle55
         replace hs4 := hs4.mono hle55
         replace hs8 := hs8.mono hle55
         replace hs10 := hs10.mono hle55
         replace hs22 := hs22.mono hle55
         replace hs31 := hs31.mono hle55
         replace hs43 := hs43.mono hle55
         replace hp52 := hp52.mono hle55
         obtain ⟨v59, v61, rfl, hs60, hs62⟩ := hc58
         have hl63 := hs60.le
         have hl64 := hs62.le
         refine WL.x (X.move rfl) (by decide) ?_
         refine WL.x (X.extract rfl rfl) (by decide) ?_
         refine WL.x (X.extract rfl rfl) (by decide) ?_
         refine WL.tn (T.alloc Try.zeroValue25 rfl) (by decide) fun b65 => ?_
         refine WL.ts (T.storeBA (k := 0) Try.sizeOf25 rfl rfl rfl (one_cons hs60.one (one_cons hs62.one one_nil)) rfl rfl) ?_
         refine WL.x (X.assign rfl) (by decide) ?_
         refine WL.nil ?_
         refine WK.nThen ?_
         refine WC.seq ?_
         refine WC.region ?_
         refine WL.x (X.loadBA (k := 0) Try.isAgg25 Try.sizeOf25 rfl rfl rfl) (by decide) ?_
         refine WL.x (X.move rfl) (by decide) ?_
         refine WL.tm (T.call Try.call28 rfl (steps28 _ _ ((cutR s (((Span.mk (fr + 1) ((gt ((stpR s most).1) i) - 1))))).1) ⟨_, _, rfl, hs60, hs62⟩ _ )) (by decide) fun m66 r67 hle68 hR69 => ?_
         obtain ⟨v70, rfl, hs71⟩ := hR69
         replace hs2 := hs2.mono hle68
         replace hs4 := hs4.mono hle68
         replace hs8 := hs8.mono hle68
         replace hs10 := hs10.mono hle68
         replace hs22 := hs22.mono hle68
         replace hs31 := hs31.mono hle68
         replace hs43 := hs43.mono hle68
         replace hp52 := hp52.mono hle68
         replace hs60 := hs60.mono hle68
         replace hs62 := hs62.mono hle68
         have hl72 := hs71.le
         refine WL.x (X.move rfl) (by decide) ?_
         refine WL.x (X.extract rfl rfl) (by decide) ?_
         refine WL.x (X.extract rfl rfl) (by decide) ?_
         refine WL.x (X.extract rfl rfl) (by decide) ?_
         refine WL.x (X.assign rfl) (by decide) ?_
         refine WL.x (X.assign rfl) (by decide) ?_
         refine WL.x (X.assign rfl) (by decide) ?_
         refine WL.nil ?_
         refine WK.nThen ?_
         refine WC.seq ?_
         refine WC.cut (G := Unit) (fun u_ => m66) (fun u_ => [blk b65 25 [v59, v61], blk b14 52 [v7, v9], blk b13 25 [v1, v3]]) (fun u_ => [(2, .int .i64 (most)), (3, .pointer (some ⟨b13, 0, none⟩)), (7, .bool true), (9, v21), (16, .int .i64 (fr)), (17, .int .i64 (↑i)), (18, .int .i64 ((gt ((stpR s most).1) i) - 1)), (153, .bool false)]) (fun u_ => True) ?_ ?_
         ·refine WC.region ?_
          refine WL.x (X.move rfl) (by decide) ?_
          refine WL.condn (X.neq rfl rfl) (by decide) (fun h73 => ?_) (fun h73 => ?_)
          ·refine WL.x (X.move rfl) (by decide) ?_
           refine WL.no rfl rfl rfl (by decide) ?_
           refine WL.no rfl rfl rfl (by decide) ?_
           refine WL.x (X.pickT rfl rfl rfl) (by decide) ?_
           refine WL.x (X.move rfl) (by decide) ?_
           refine WL.no rfl rfl rfl (by decide) ?_
           refine WL.no rfl rfl rfl (by decide) ?_
           refine WL.x (X.pickT rfl rfl rfl) (by decide) ?_
           refine WL.x (X.move rfl) (by decide) ?_
           refine WL.no rfl rfl rfl (by decide) ?_
           refine WL.no rfl rfl rfl (by decide) ?_
           refine WL.no rfl rfl rfl (by decide) ?_
           refine WL.no rfl rfl rfl (by decide) ?_
           refine WL.no rfl rfl rfl (by decide) ?_
           refine WL.noU rfl rfl (by decide) ?_
           refine WL.noU rfl rfl (by decide) ?_
           refine WL.noU rfl rfl (by decide) ?_
           refine WL.noU rfl rfl (by decide) ?_
           refine WL.no rfl rfl rfl (by decide) ?_
           refine WL.x (X.pickT rfl rfl rfl) (by decide) ?_
           refine WL.nil ?_
           refine WK.nThen ?_
           exfalso; first | omega | contradiction | (have q_ := hp4_ (by omega); omega)
          ·refine WL.x (X.move rfl) (by decide) ?_
           refine WL.yes rfl rfl ?_
           refine WL.x (X.move rfl) (by decide) ?_
           refine WL.yes rfl rfl ?_
           refine WL.condn (X.neq rfl rfl) (by decide) (fun h74 => ?_) (fun h74 => ?_)
           ·refine WL.x (X.pickF rfl rfl rfl) (by decide) ?_
            refine WL.x (X.move rfl) (by decide) ?_
            refine WL.no rfl rfl rfl (by decide) ?_
            refine WL.no rfl rfl rfl (by decide) ?_
            refine WL.x (X.pickT rfl rfl rfl) (by decide) ?_
            refine WL.x (X.move rfl) (by decide) ?_
            refine WL.no rfl rfl rfl (by decide) ?_
            refine WL.no rfl rfl rfl (by decide) ?_
            refine WL.no rfl rfl rfl (by decide) ?_
            refine WL.no rfl rfl rfl (by decide) ?_
            refine WL.no rfl rfl rfl (by decide) ?_
            refine WL.noU rfl rfl (by decide) ?_
            refine WL.noU rfl rfl (by decide) ?_
            refine WL.noU rfl rfl (by decide) ?_
            refine WL.noU rfl rfl (by decide) ?_
            refine WL.no rfl rfl rfl (by decide) ?_
            refine WL.x (X.pickT rfl rfl rfl) (by decide) ?_
            refine WL.nil ?_
            refine WK.nThen ?_
            exfalso; first | omega | contradiction | (have q_ := hp4_ (by omega); omega)
           ·refine WL.x (X.pickF rfl rfl rfl) (by decide) ?_
            refine WL.x (X.move rfl) (by decide) ?_
            refine WL.yes rfl rfl ?_
            refine WL.x (X.move rfl) (by decide) ?_
            refine WL.yes rfl rfl ?_
            refine WL.condn (X.neq rfl rfl) (by decide) (fun h75 => ?_) (fun h75 => ?_)
            ·refine WL.x (X.pickF rfl rfl rfl) (by decide) ?_
             refine WL.x (X.move rfl) (by decide) ?_
             refine WL.no rfl rfl rfl (by decide) ?_
             refine WL.no rfl rfl rfl (by decide) ?_
             refine WL.no rfl rfl rfl (by decide) ?_
             refine WL.no rfl rfl rfl (by decide) ?_
             refine WL.no rfl rfl rfl (by decide) ?_
             refine WL.noU rfl rfl (by decide) ?_
             refine WL.noU rfl rfl (by decide) ?_
             refine WL.noU rfl rfl (by decide) ?_
             refine WL.noU rfl rfl (by decide) ?_
             refine WL.no rfl rfl rfl (by decide) ?_
             refine WL.x (X.pickT rfl rfl rfl) (by decide) ?_
             refine WL.nil ?_
             refine WK.nThen ?_
             exfalso; first | omega | contradiction | (have q_ := hp4_ (by omega); omega)
            ·refine WL.x (X.pickF rfl rfl rfl) (by decide) ?_
             refine WL.x (X.move rfl) (by decide) ?_
             refine WL.yes rfl rfl ?_
             refine WL.x (X.field Try.runUnderlying25 rfl Try.sizeOf22 rfl) (by decide) ?_
             refine WL.yes rfl rfl ?_
             refine WL.x (X.loadB (k := 0) Try.isAgg22 rfl rfl rfl) (by decide) ?_
             refine WL.yes rfl rfl ?_
             refine WL.x (X.len Try.runUnderlying22 rfl hs60) (by decide) ?_
             refine WL.yes rfl rfl ?_
             refine WL.cond (X.eql rfl rfl) (by decide) (fun h76 => ?_) (fun h76 => ?_)
             ·refine WL.yes rfl rfl ?_
              refine WL.x (X.move rfl) (by decide) ?_
              refine WL.yes rfl rfl ?_
              refine WL.x (X.field Try.runUnderlying25 rfl Try.sizeOf22 rfl) (by decide) ?_
              refine WL.yes rfl rfl ?_
              refine WL.x (X.loadB (k := 2) Try.isAgg22 rfl rfl rfl) (by decide) ?_
              refine WL.yes rfl rfl ?_
              refine WL.x (X.len Try.runUnderlying22 rfl hs2) (by decide) ?_
              refine WL.yes rfl rfl ?_
              refine WL.cond (X.gtr rfl rfl) (by decide) (fun h77 => ?_) (fun h77 => ?_)
              ·refine WL.yes rfl rfl ?_
               refine WL.x (X.pickT rfl rfl rfl) (by decide) ?_
               refine WL.x (X.pickF rfl rfl rfl) (by decide) ?_
               refine WL.nil ?_
               refine WK.nThen ?_
               exfalso; first | omega | contradiction | (have q_ := hp4_ (by omega); omega)
              ·refine WL.yes rfl rfl ?_
               refine WL.x (X.pickT rfl rfl rfl) (by decide) ?_
               refine WL.x (X.pickF rfl rfl rfl) (by decide) ?_
               refine WL.nil ?_
               refine WK.nThen ?_
               refine WK.meet (()) rfl (.refl _) (.cons rfl (.cons rfl (.cons rfl (.cons rfl (.cons rfl (.cons rfl (.cons rfl (.cons rfl .nil)))))))) ?_
               trivial
             ·refine WL.yes rfl rfl ?_
              refine WL.x (X.move rfl) (by decide) ?_
              refine WL.no rfl rfl rfl (by decide) ?_
              refine WL.no rfl rfl rfl (by decide) ?_
              refine WL.no rfl rfl rfl (by decide) ?_
              refine WL.no rfl rfl rfl (by decide) ?_
              refine WL.yes rfl rfl ?_
              refine WL.x (X.pickF rfl rfl rfl) (by decide) ?_
              refine WL.x (X.pickF rfl rfl rfl) (by decide) ?_
              refine WL.nil ?_
              refine WK.nThen ?_
              refine WK.meet (()) rfl (.refl _) (.cons rfl (.cons rfl (.cons rfl (.cons rfl (.cons rfl (.cons rfl (.cons rfl (.cons rfl .nil)))))))) ?_
              trivial
         ·rintro u_ hF78
          show WK _ _ m66 [blk b65 25 [v59, v61], blk b14 52 [v7, v9], blk b13 25 [v1, v3]] [(2, .int .i64 (most)), (3, .pointer (some ⟨b13, 0, none⟩)), (7, .bool true), (9, v21), (16, .int .i64 (fr)), (17, .int .i64 (↑i)), (18, .int .i64 ((gt ((stpR s most).1) i) - 1)), (153, .bool false)] _
          replace hF78 : True := hF78
          refine WC.condF rfl ?_
          refine WC.skip ?_
          refine WK.nThen ?_
          refine WC.seq ?_
          refine WC.seq ?_
          refine WC.region ?_
          refine WL.x (X.move rfl) (by decide) ?_
          refine WL.x (X.move rfl) (by decide) ?_
          refine WL.x (X.len Try.runUnderlying28 rfl hs22) (by decide) ?_
          refine WL.x (OpX.t (X.lss rfl rfl) h50) (by decide) ?_
          refine WL.nil ?_
          refine WK.nThen ?_
          refine WC.condT rfl ?_
          refine WC.cut (G := Mem × Nat × Value × Value) (fun (m79, b93, v87, v89) => m79) (fun (m79, b93, v87, v89) => [blk b93 25 [v87, v89], blk b65 25 [v59, v61], blk b14 52 [v7, v9], blk b13 25 [v1, v3]]) (fun (m79, b93, v87, v89) => [(2, .int .i64 (most)), (3, .pointer (some ⟨b13, 0, none⟩)), (7, .bool true), (9, v21), (17, .int .i64 (↑i)), (18, .int .i64 ((gt ((stpR s most).1) i) - 1)), (24, .pointer (some ⟨b93, 0, none⟩)), (25, .int .i64 ((cutR s (((Span.mk (fr + 1) (gt ((stpR s most).1) i))))).2))]) (fun (m79, b93, v87, v89) => m66.le m79 ∧ Sl (α := Val) m79 v87 (((cutR s (((Span.mk (fr + 1) (gt ((stpR s most).1) i))))).1).Values) ∧ Sl (α := Shf) m79 v89 (((cutR s (((Span.mk (fr + 1) (gt ((stpR s most).1) i))))).1).Shifts) ∧ Sl (α := Val) m79 v59 (((cutR s (((Span.mk (fr + 1) ((gt ((stpR s most).1) i) - 1))))).1).Values) ∧ Sl (α := Shf) m79 v61 (((cutR s (((Span.mk (fr + 1) ((gt ((stpR s most).1) i) - 1))))).1).Shifts) ∧ Sl (α := Int) m79 v7 x.Levels ∧ Sl (α := Int) m79 v9 x.Shifts ∧ Sl (α := Val) m79 v1 s.Values ∧ Sl (α := Shf) m79 v3 s.Shifts) ?_ ?_
          ·refine WC.draw (π := (.cons 0 (.cons 1 (.cons 2 (.cons 3 (.cons 4 (.cons 5 (.cons 6 (.cons 7 (.fork (.cons 8 (.cons 9 (.cons 10 (.cons 11 (.cons 12 (.cons 13 (.cons 14 .done))))))) (.cons 12 (.cons 8 (.cons 9 (.cons 10 (.cons 11 (.cons 13 (.cons 14 .done))))))))))))))))) [8, 12, 13] [13] rfl (by kernel_rfl) ?_
           refine DW.x rfl rfl (X.loadBA (k := 2) Try.isAgg25 Try.sizeOf25 rfl rfl rfl) (by decide) ?_
           refine DW.x rfl rfl (X.move rfl) (by decide) ?_
           refine DW.x rfl rfl (X.add rfl rfl (by omega) (by omega)) (by decide) ?_
           refine DW.x rfl rfl (X.move rfl) (by decide) ?_
           refine DW.x rfl rfl (X.move rfl) (by decide) ?_
           refine DW.xe rfl rfl (E.idxN i Try.runUnderlying28 Try.sizeOf3 rfl rfl hs22 (by omega)) (by decide) (fun p80 hp81 => ?_)
           refine DW.x rfl rfl (X.loadInt Try.isAgg3 rfl hp81) (by decide) ?_
           refine DW.x (V := Value.agg [.int .i64 (fr + 1), .int .i64 (gt ((stpR s most).1) i)].toArray) rfl rfl (X.build Try.zeroValue33 Try.runUnderlying33 (places33 _ Try.underlying33) rfl rfl) (by decide) ?_
           refine DW.fork (List.cons_ne_nil _ _) ?_ ?_
           ·refine DW.tm rfl rfl rfl (T.call Try.call59 rfl (cut59 _ _ s ⟨_, _, rfl, hs2, hs4⟩ _ ((Span.mk (fr + 1) (gt ((stpR s most).1) i))) rfl )) (by decide) fun m82 r83 hle84 hR85 => ?_
            obtain ⟨c86, rfl, hc87⟩ := hR85
            replace hs2 := hs2.mono hle84
            replace hs4 := hs4.mono hle84
            replace hs8 := hs8.mono hle84
            replace hs10 := hs10.mono hle84
            replace hs22 := hs22.mono hle84
            replace hs31 := hs31.mono hle84
            replace hs43 := hs43.mono hle84
            replace hp52 := hp52.mono hle84
            replace hs60 := hs60.mono hle84
            replace hs62 := hs62.mono hle84
            replace hs71 := hs71.mono hle84
            replace hp81 := hp81.mono hle84
            obtain ⟨v88, v90, rfl, hs89, hs91⟩ := hc87
            have hl92 := hs89.le
            have hl93 := hs91.le
            refine DW.x rfl rfl (X.move rfl) (by decide) ?_
            refine DW.x rfl rfl (X.extract rfl rfl) (by decide) ?_
            refine DW.x rfl rfl (X.extract rfl rfl) (by decide) ?_
            refine DW.tn rfl rfl rfl (T.alloc Try.zeroValue25 rfl) (by decide) fun b94 => ?_
            refine DW.ts rfl rfl rfl rfl (T.storeBA (k := 0) Try.sizeOf25 rfl rfl rfl (one_cons hs89.one (one_cons hs91.one one_nil)) rfl rfl) ?_
            refine DW.x rfl rfl (X.assign rfl) (by decide) ?_
            refine DW.nil ?_
            refine WK.nThen ?_
            exact WK.meet (m82, b94, v88, v90) rfl (.refl _) (.cons rfl (.cons rfl (.cons rfl (.cons rfl (.cons rfl (.cons rfl (.cons rfl (.cons rfl .nil)))))))) ⟨hle84, hs89, hs91, hs60, hs62, hs8, hs10, hs2, hs4⟩
           ·refine DW.tn rfl rfl rfl (T.alloc Try.zeroValue25 rfl) (by decide) fun b95 => ?_
            refine DW.tm rfl rfl rfl (T.call Try.call59 rfl (cut59 _ _ s ⟨_, _, rfl, hs2, hs4⟩ _ ((Span.mk (fr + 1) (gt ((stpR s most).1) i))) rfl )) (by decide) fun m96 r97 hle98 hR99 => ?_
            obtain ⟨c100, rfl, hc101⟩ := hR99
            replace hs2 := hs2.mono hle98
            replace hs4 := hs4.mono hle98
            replace hs8 := hs8.mono hle98
            replace hs10 := hs10.mono hle98
            replace hs22 := hs22.mono hle98
            replace hs31 := hs31.mono hle98
            replace hs43 := hs43.mono hle98
            replace hp52 := hp52.mono hle98
            replace hs60 := hs60.mono hle98
            replace hs62 := hs62.mono hle98
            replace hs71 := hs71.mono hle98
            replace hp81 := hp81.mono hle98
            obtain ⟨v102, v104, rfl, hs103, hs105⟩ := hc101
            have hl106 := hs103.le
            have hl107 := hs105.le
            refine DW.x rfl rfl (X.move rfl) (by decide) ?_
            refine DW.x rfl rfl (X.extract rfl rfl) (by decide) ?_
            refine DW.x rfl rfl (X.extract rfl rfl) (by decide) ?_
            refine DW.ts rfl rfl rfl rfl (T.storeBA (k := 0) Try.sizeOf25 rfl rfl rfl (one_cons hs103.one (one_cons hs105.one one_nil)) rfl rfl) ?_
            refine DW.x rfl rfl (X.assign rfl) (by decide) ?_
            refine DW.nil ?_
            refine WK.nThen ?_
            exact WK.meet (m96, b95, v102, v104) rfl (.refl _) (.cons rfl (.cons rfl (.cons rfl (.cons rfl (.cons rfl (.cons rfl (.cons rfl (.cons rfl .nil)))))))) ⟨hle98, hs103, hs105, hs60, hs62, hs8, hs10, hs2, hs4⟩
          ·rintro ⟨m79, b93, v87, v89⟩ ⟨hle108, hs109, hs110, hs111, hs112, hs113, hs114, hs115, hs116⟩
           show WK _ _ m79 [blk b93 25 [v87, v89], blk b65 25 [v59, v61], blk b14 52 [v7, v9], blk b13 25 [v1, v3]] [(2, .int .i64 (most)), (3, .pointer (some ⟨b13, 0, none⟩)), (7, .bool true), (9, v21), (17, .int .i64 (↑i)), (18, .int .i64 ((gt ((stpR s most).1) i) - 1)), (24, .pointer (some ⟨b93, 0, none⟩)), (25, .int .i64 ((cutR s (((Span.mk (fr + 1) (gt ((stpR s most).1) i))))).2))] _
           replace hs2 := hs2.mono hle108
           replace hs4 := hs4.mono hle108
           replace hs8 := hs8.mono hle108
           replace hs10 := hs10.mono hle108
           replace hs22 := hs22.mono hle108
           replace hs31 := hs31.mono hle108
           replace hs43 := hs43.mono hle108
           replace hp52 := hp52.mono hle108
           replace hs60 := hs60.mono hle108
           replace hs62 := hs62.mono hle108
           replace hs71 := hs71.mono hle108
           have hl117 := hs109.le
           have hl118 := hs110.le
           have hl119 := hs111.le
           have hl120 := hs112.le
           have hl121 := hs113.le
           have hl122 := hs114.le
           have hl123 := hs115.le
           have hl124 := hs116.le
           refine WC.seq ?_
           refine WC.region ?_
           refine WL.x (X.loadBA (k := 0) Try.isAgg25 Try.sizeOf25 rfl rfl rfl) (by decide) ?_
           refine WL.x (X.move rfl) (by decide) ?_
           refine WL.tm (T.call Try.call28 rfl (steps28 _ _ ((cutR s (((Span.mk (fr + 1) (gt ((stpR s most).1) i))))).1) ⟨_, _, rfl, hs109, hs110⟩ _ )) (by decide) fun m125 r126 hle127 hR128 => ?_
           obtain ⟨v129, rfl, hs130⟩ := hR128
           replace hs2 := hs2.mono hle127
           replace hs4 := hs4.mono hle127
           replace hs8 := hs8.mono hle127
           replace hs10 := hs10.mono hle127
           replace hs22 := hs22.mono hle127
           replace hs31 := hs31.mono hle127
           replace hs43 := hs43.mono hle127
           replace hp52 := hp52.mono hle127
           replace hs60 := hs60.mono hle127
           replace hs62 := hs62.mono hle127
           replace hs71 := hs71.mono hle127
           replace hs109 := hs109.mono hle127
           replace hs110 := hs110.mono hle127
           replace hs111 := hs111.mono hle127
           replace hs112 := hs112.mono hle127
           replace hs113 := hs113.mono hle127
           replace hs114 := hs114.mono hle127
           replace hs115 := hs115.mono hle127
           replace hs116 := hs116.mono hle127
           have hl131 := hs130.le
           refine WL.x (X.move rfl) (by decide) ?_
           refine WL.x (X.extract rfl rfl) (by decide) ?_
           refine WL.x (X.extract rfl rfl) (by decide) ?_
           refine WL.x (X.extract rfl rfl) (by decide) ?_
           refine WL.x (X.assign rfl) (by decide) ?_
           refine WL.x (X.assign rfl) (by decide) ?_
           refine WL.x (X.assign rfl) (by decide) ?_
           refine WL.nil ?_
           refine WK.nThen ?_
           refine WC.cut (G := Unit) (fun u_ => m125) (fun u_ => [blk b93 25 [v87, v89], blk b65 25 [v59, v61], blk b14 52 [v7, v9], blk b13 25 [v1, v3]]) (fun u_ => [(2, .int .i64 (most)), (3, .pointer (some ⟨b13, 0, none⟩)), (7, .bool true), (9, v21), (17, .int .i64 (↑i)), (18, .int .i64 ((gt ((stpR s most).1) i) - 1)), (186, .bool false)]) (fun u_ => True) ?_ ?_
           ·refine WC.region ?_
            refine WL.x (X.move rfl) (by decide) ?_
            refine WL.condn (X.neq rfl rfl) (by decide) (fun h132 => ?_) (fun h132 => ?_)
            ·refine WL.x (X.move rfl) (by decide) ?_
             refine WL.no rfl rfl rfl (by decide) ?_
             refine WL.no rfl rfl rfl (by decide) ?_
             refine WL.x (X.pickT rfl rfl rfl) (by decide) ?_
             refine WL.x (X.move rfl) (by decide) ?_
             refine WL.no rfl rfl rfl (by decide) ?_
             refine WL.no rfl rfl rfl (by decide) ?_
             refine WL.x (X.pickT rfl rfl rfl) (by decide) ?_
             refine WL.nil ?_
             refine WK.nThen ?_
             exfalso; first | omega | contradiction
            ·refine WL.x (X.move rfl) (by decide) ?_
             refine WL.yes rfl rfl ?_
             refine WL.x (X.move rfl) (by decide) ?_
             refine WL.yes rfl rfl ?_
             refine WL.condn (X.neq rfl rfl) (by decide) (fun h133 => ?_) (fun h133 => ?_)
             ·refine WL.x (X.pickF rfl rfl rfl) (by decide) ?_
              refine WL.x (X.move rfl) (by decide) ?_
              refine WL.no rfl rfl rfl (by decide) ?_
              refine WL.no rfl rfl rfl (by decide) ?_
              refine WL.x (X.pickT rfl rfl rfl) (by decide) ?_
              refine WL.nil ?_
              refine WK.nThen ?_
              exfalso; first | omega | contradiction
             ·refine WL.x (X.pickF rfl rfl rfl) (by decide) ?_
              refine WL.x (X.move rfl) (by decide) ?_
              refine WL.yes rfl rfl ?_
              refine WL.x (X.move rfl) (by decide) ?_
              refine WL.yes rfl rfl ?_
              refine WL.condn (X.neq rfl rfl) (by decide) (fun h134 => ?_) (fun h134 => ?_)
              ·refine WL.x (X.pickF rfl rfl rfl) (by decide) ?_
               refine WL.nil ?_
               refine WK.nThen ?_
               exfalso; first | omega | contradiction
              ·refine WL.x (X.pickF rfl rfl rfl) (by decide) ?_
               refine WL.nil ?_
               refine WK.nThen ?_
               refine WK.meet (()) rfl (.refl _) (.cons rfl (.cons rfl (.cons rfl (.cons rfl (.cons rfl (.cons rfl (.cons rfl .nil))))))) ?_
               trivial
           ·rintro u_ hF135
            show WK _ _ m125 [blk b93 25 [v87, v89], blk b65 25 [v59, v61], blk b14 52 [v7, v9], blk b13 25 [v1, v3]] [(2, .int .i64 (most)), (3, .pointer (some ⟨b13, 0, none⟩)), (7, .bool true), (9, v21), (17, .int .i64 (↑i)), (18, .int .i64 ((gt ((stpR s most).1) i) - 1)), (186, .bool false)] _
            replace hF135 : True := hF135
            refine WC.condF rfl ?_
            refine WC.skip ?_
            refine WK.nThen ?_
            refine WC.region ?_
            refine WL.x (X.move rfl) (by decide) ?_
            refine WL.x (X.assign rfl) (by decide) ?_
            refine WL.nil ?_
            refine WK.nBlock ?_
            refine WK.nThen ?_
            refine WC.region ?_
            refine WL.x (X.move rfl) (by decide) ?_
            refine WL.x (X.add rfl rfl (by omega) (by omega)) (by decide) ?_
            refine WL.x (X.assign rfl) (by decide) ?_
            refine WL.nil ?_
            refine WK.nThen ?_
            refine WK.back hgood0 (Mem.le_trans hle55 (Mem.le_trans hle68 (Mem.le_trans hle108 hle127))) ?_
            refine WK.next ((i + 1, b_, (gt ((stpR s most).1) i) - 1)) rfl (.cons _ (.cons _ (.cons_cons _ (.cons_cons _ .slnil)))) (.cons rfl (.cons rfl (.cons rfl (.cons rfl (.cons rfl (.cons rfl .nil)))))) ?_ ?_
            ·exact ⟨by omega, fun _ => hI1⟩
            ·(dsimp only; omega)
        ·refine WL.nil ?_
         refine WK.nThen ?_
         refine WC.condF rfl ?_
         refine WC.skip ?_
         refine WK.nThen ?_
         refine WC.seq ?_
         have hp_ := few_last hst0 (hI0 (by omega)) (by omega)
         have hp1_ := hp_.1
         have hp2_ := hp_.2.1
         have hp3_ := hp_.2.2.1
         have hp4_ := hp_.2.2.2
         refine WC.region ?_
         refine WL.x (X.loadBA (k := 1) Try.isAgg25 Try.sizeOf25 rfl rfl rfl) (by decide) ?_
         refine WL.x (X.move rfl) (by decide) ?_
         refine WL.x (X.add rfl rfl (by omega) (by omega)) (by decide) ?_
         refine WL.x (X.move rfl) (by decide) ?_
         refine WL.x (V := Value.agg [.int .i64 (fr + 1), .int .i64 (10000)].toArray) (X.build Try.zeroValue33 Try.runUnderlying33 (places33 _ Try.underlying33) rfl rfl) (by decide) ?_
         refine WL.tm (T.call Try.call59 rfl (cut59 _ _ s ⟨_, _, rfl, hs2, hs4⟩ _ ((Span.mk (fr + 1) (10000))) rfl )) (by decide) fun m136 r137 hle138 hR139 => ?_
         obtain ⟨c140, rfl, hc141⟩ := hR139
         replace hs2 := hs2.mono hle138
         replace hs4 := hs4.mono hle138
         replace hs8 := hs8.mono hle138
         replace hs10 := hs10.mono hle138
         replace hs22 := hs22.mono hle138
         replace hs31 := hs31.mono hle138
         replace hs43 := hs43.mono hle138
         obtain ⟨v142, v144, rfl, hs143, hs145⟩ := hc141
         have hl146 := hs143.le
         have hl147 := hs145.le
         refine WL.x (X.move rfl) (by decide) ?_
         refine WL.x (X.extract rfl rfl) (by decide) ?_
         refine WL.x (X.extract rfl rfl) (by decide) ?_
         refine WL.tn (T.alloc Try.zeroValue25 rfl) (by decide) fun b148 => ?_
         refine WL.ts (T.storeBA (k := 0) Try.sizeOf25 rfl rfl rfl (one_cons hs143.one (one_cons hs145.one one_nil)) rfl rfl) ?_
         refine WL.x (X.assign rfl) (by decide) ?_
         refine WL.nil ?_
         refine WK.nThen ?_
         refine WC.seq ?_
         refine WC.region ?_
         refine WL.x (X.loadBA (k := 0) Try.isAgg25 Try.sizeOf25 rfl rfl rfl) (by decide) ?_
         refine WL.x (X.move rfl) (by decide) ?_
         refine WL.tm (T.call Try.call28 rfl (steps28 _ _ ((cutR s (((Span.mk (fr + 1) (10000))))).1) ⟨_, _, rfl, hs143, hs145⟩ _ )) (by decide) fun m149 r150 hle151 hR152 => ?_
         obtain ⟨v153, rfl, hs154⟩ := hR152
         replace hs2 := hs2.mono hle151
         replace hs4 := hs4.mono hle151
         replace hs8 := hs8.mono hle151
         replace hs10 := hs10.mono hle151
         replace hs22 := hs22.mono hle151
         replace hs31 := hs31.mono hle151
         replace hs43 := hs43.mono hle151
         replace hs143 := hs143.mono hle151
         replace hs145 := hs145.mono hle151
         have hl155 := hs154.le
         refine WL.x (X.move rfl) (by decide) ?_
         refine WL.x (X.extract rfl rfl) (by decide) ?_
         refine WL.x (X.extract rfl rfl) (by decide) ?_
         refine WL.x (X.extract rfl rfl) (by decide) ?_
         refine WL.x (X.assign rfl) (by decide) ?_
         refine WL.x (X.assign rfl) (by decide) ?_
         refine WL.x (X.assign rfl) (by decide) ?_
         refine WL.nil ?_
         refine WK.nThen ?_
         refine WC.seq ?_
         refine WC.cut (G := Unit) (fun u_ => m149) (fun u_ => [blk b148 25 [v142, v144], blk b14 52 [v7, v9], blk b13 25 [v1, v3]]) (fun u_ => [(2, .int .i64 (most)), (3, .pointer (some ⟨b13, 0, none⟩)), (7, .bool true), (9, v21), (16, .int .i64 (fr)), (17, .int .i64 (↑i)), (18, .int .i64 (10000)), (153, .bool false)]) (fun u_ => True) ?_ ?_
         ·refine WC.region ?_
          refine WL.x (X.move rfl) (by decide) ?_
          refine WL.condn (X.neq rfl rfl) (by decide) (fun h156 => ?_) (fun h156 => ?_)
          ·refine WL.x (X.move rfl) (by decide) ?_
           refine WL.no rfl rfl rfl (by decide) ?_
           refine WL.no rfl rfl rfl (by decide) ?_
           refine WL.x (X.pickT rfl rfl rfl) (by decide) ?_
           refine WL.x (X.move rfl) (by decide) ?_
           refine WL.no rfl rfl rfl (by decide) ?_
           refine WL.no rfl rfl rfl (by decide) ?_
           refine WL.x (X.pickT rfl rfl rfl) (by decide) ?_
           refine WL.x (X.move rfl) (by decide) ?_
           refine WL.no rfl rfl rfl (by decide) ?_
           refine WL.no rfl rfl rfl (by decide) ?_
           refine WL.no rfl rfl rfl (by decide) ?_
           refine WL.no rfl rfl rfl (by decide) ?_
           refine WL.no rfl rfl rfl (by decide) ?_
           refine WL.noU rfl rfl (by decide) ?_
           refine WL.noU rfl rfl (by decide) ?_
           refine WL.noU rfl rfl (by decide) ?_
           refine WL.noU rfl rfl (by decide) ?_
           refine WL.no rfl rfl rfl (by decide) ?_
           refine WL.x (X.pickT rfl rfl rfl) (by decide) ?_
           refine WL.nil ?_
           refine WK.nThen ?_
           exfalso; first | omega | contradiction | (have q_ := hp4_ (by omega); omega)
          ·refine WL.x (X.move rfl) (by decide) ?_
           refine WL.yes rfl rfl ?_
           refine WL.x (X.move rfl) (by decide) ?_
           refine WL.yes rfl rfl ?_
           refine WL.condn (X.neq rfl rfl) (by decide) (fun h157 => ?_) (fun h157 => ?_)
           ·refine WL.x (X.pickF rfl rfl rfl) (by decide) ?_
            refine WL.x (X.move rfl) (by decide) ?_
            refine WL.no rfl rfl rfl (by decide) ?_
            refine WL.no rfl rfl rfl (by decide) ?_
            refine WL.x (X.pickT rfl rfl rfl) (by decide) ?_
            refine WL.x (X.move rfl) (by decide) ?_
            refine WL.no rfl rfl rfl (by decide) ?_
            refine WL.no rfl rfl rfl (by decide) ?_
            refine WL.no rfl rfl rfl (by decide) ?_
            refine WL.no rfl rfl rfl (by decide) ?_
            refine WL.no rfl rfl rfl (by decide) ?_
            refine WL.noU rfl rfl (by decide) ?_
            refine WL.noU rfl rfl (by decide) ?_
            refine WL.noU rfl rfl (by decide) ?_
            refine WL.noU rfl rfl (by decide) ?_
            refine WL.no rfl rfl rfl (by decide) ?_
            refine WL.x (X.pickT rfl rfl rfl) (by decide) ?_
            refine WL.nil ?_
            refine WK.nThen ?_
            exfalso; first | omega | contradiction | (have q_ := hp4_ (by omega); omega)
           ·refine WL.x (X.pickF rfl rfl rfl) (by decide) ?_
            refine WL.x (X.move rfl) (by decide) ?_
            refine WL.yes rfl rfl ?_
            refine WL.x (X.move rfl) (by decide) ?_
            refine WL.yes rfl rfl ?_
            refine WL.condn (X.neq rfl rfl) (by decide) (fun h158 => ?_) (fun h158 => ?_)
            ·refine WL.x (X.pickF rfl rfl rfl) (by decide) ?_
             refine WL.x (X.move rfl) (by decide) ?_
             refine WL.no rfl rfl rfl (by decide) ?_
             refine WL.no rfl rfl rfl (by decide) ?_
             refine WL.no rfl rfl rfl (by decide) ?_
             refine WL.no rfl rfl rfl (by decide) ?_
             refine WL.no rfl rfl rfl (by decide) ?_
             refine WL.noU rfl rfl (by decide) ?_
             refine WL.noU rfl rfl (by decide) ?_
             refine WL.noU rfl rfl (by decide) ?_
             refine WL.noU rfl rfl (by decide) ?_
             refine WL.no rfl rfl rfl (by decide) ?_
             refine WL.x (X.pickT rfl rfl rfl) (by decide) ?_
             refine WL.nil ?_
             refine WK.nThen ?_
             exfalso; first | omega | contradiction | (have q_ := hp4_ (by omega); omega)
            ·refine WL.x (X.pickF rfl rfl rfl) (by decide) ?_
             refine WL.x (X.move rfl) (by decide) ?_
             refine WL.yes rfl rfl ?_
             refine WL.x (X.field Try.runUnderlying25 rfl Try.sizeOf22 rfl) (by decide) ?_
             refine WL.yes rfl rfl ?_
             refine WL.x (X.loadB (k := 0) Try.isAgg22 rfl rfl rfl) (by decide) ?_
             refine WL.yes rfl rfl ?_
             refine WL.x (X.len Try.runUnderlying22 rfl hs143) (by decide) ?_
             refine WL.yes rfl rfl ?_
             refine WL.cond (X.eql rfl rfl) (by decide) (fun h159 => ?_) (fun h159 => ?_)
             ·refine WL.yes rfl rfl ?_
              refine WL.x (X.move rfl) (by decide) ?_
              refine WL.yes rfl rfl ?_
              refine WL.x (X.field Try.runUnderlying25 rfl Try.sizeOf22 rfl) (by decide) ?_
              refine WL.yes rfl rfl ?_
              refine WL.x (X.loadB (k := 2) Try.isAgg22 rfl rfl rfl) (by decide) ?_
              refine WL.yes rfl rfl ?_
              refine WL.x (X.len Try.runUnderlying22 rfl hs2) (by decide) ?_
              refine WL.yes rfl rfl ?_
              refine WL.cond (X.gtr rfl rfl) (by decide) (fun h160 => ?_) (fun h160 => ?_)
              ·refine WL.yes rfl rfl ?_
               refine WL.x (X.pickT rfl rfl rfl) (by decide) ?_
               refine WL.x (X.pickF rfl rfl rfl) (by decide) ?_
               refine WL.nil ?_
               refine WK.nThen ?_
               exfalso; first | omega | contradiction | (have q_ := hp4_ (by omega); omega)
              ·refine WL.yes rfl rfl ?_
               refine WL.x (X.pickT rfl rfl rfl) (by decide) ?_
               refine WL.x (X.pickF rfl rfl rfl) (by decide) ?_
               refine WL.nil ?_
               refine WK.nThen ?_
               refine WK.meet (()) rfl (.refl _) (.cons rfl (.cons rfl (.cons rfl (.cons rfl (.cons rfl (.cons rfl (.cons rfl (.cons rfl .nil)))))))) ?_
               trivial
             ·refine WL.yes rfl rfl ?_
              refine WL.x (X.move rfl) (by decide) ?_
              refine WL.no rfl rfl rfl (by decide) ?_
              refine WL.no rfl rfl rfl (by decide) ?_
              refine WL.no rfl rfl rfl (by decide) ?_
              refine WL.no rfl rfl rfl (by decide) ?_
              refine WL.yes rfl rfl ?_
              refine WL.x (X.pickF rfl rfl rfl) (by decide) ?_
              refine WL.x (X.pickF rfl rfl rfl) (by decide) ?_
              refine WL.nil ?_
              refine WK.nThen ?_
              refine WK.meet (()) rfl (.refl _) (.cons rfl (.cons rfl (.cons rfl (.cons rfl (.cons rfl (.cons rfl (.cons rfl (.cons rfl .nil)))))))) ?_
              trivial
         ·rintro u_ hF161
          show WK _ _ m149 [blk b148 25 [v142, v144], blk b14 52 [v7, v9], blk b13 25 [v1, v3]] [(2, .int .i64 (most)), (3, .pointer (some ⟨b13, 0, none⟩)), (7, .bool true), (9, v21), (16, .int .i64 (fr)), (17, .int .i64 (↑i)), (18, .int .i64 (10000)), (153, .bool false)] _
          replace hF161 : True := hF161
          refine WC.condF rfl ?_
          refine WC.skip ?_
          refine WK.nThen ?_
          refine WC.seq ?_
          refine WC.seq ?_
          refine WC.region ?_
          refine WL.x (X.move rfl) (by decide) ?_
          refine WL.x (X.move rfl) (by decide) ?_
          refine WL.x (X.len Try.runUnderlying28 rfl hs22) (by decide) ?_
          refine WL.x (OpX.f (X.lss rfl rfl) h50) (by decide) ?_
          refine WL.nil ?_
          refine WK.nThen ?_
          refine WC.condF rfl ?_
          refine WC.skip ?_
          refine WK.nThen ?_
          refine WC.region ?_
          refine WL.x (X.move rfl) (by decide) ?_
          refine WL.x (X.assign rfl) (by decide) ?_
          refine WL.nil ?_
          refine WK.nBlock ?_
          refine WK.nThen ?_
          refine WC.region ?_
          refine WL.x (X.move rfl) (by decide) ?_
          refine WL.x (X.add rfl rfl (by omega) (by omega)) (by decide) ?_
          refine WL.x (X.assign rfl) (by decide) ?_
          refine WL.nil ?_
          refine WK.nThen ?_
          refine WK.back hgood0 (Mem.le_trans hle138 hle151) ?_
          refine WK.next ((i + 1, a, 10000)) rfl (.cons _ (.cons_cons _ (.cons_cons _ .slnil))) (.cons rfl (.cons rfl (.cons rfl (.cons rfl (.cons rfl (.cons rfl .nil)))))) ?_ ?_
          ·exact ⟨by omega, fun h_ => absurd h_ (by omega)⟩
          ·(dsimp only; omega)
       ·refine WL.nil ?_
        refine WK.nThen ?_
        refine WC.condF rfl ?_
        refine WC.exit ?_
        refine WK.eThen ?_
        refine WK.eThen ?_
        refine WK.eHit ?_
        refine WK.nThen ?_
        refine WC.seq ?_
        refine WC.region ?_
        refine WL.x (X.move rfl) (by decide) ?_
        refine WL.x (X.assign rfl) (by decide) ?_
        refine WL.nil ?_
        refine WK.nThen ?_
        refine WC.ret ?_
        refine WK.ret1 rfl rfl (fun w' hw' => Ret.exact hw' ?_)
        first | rfl | (exfalso; omega) | (exfalso; contradiction) | exact (bool_true rfl).symm | exact (bool_true (by omega)).symm
  ·refine WL.yes rfl rfl ?_
   refine WL.x (X.not rfl) (by decide) ?_
   refine WL.x (X.pickF rfl rfl rfl) (by decide) ?_
   refine WL.nil ?_
   refine WK.nThen ?_
   refine WC.condT rfl ?_
   refine WC.seq ?_
   refine WC.region ?_
   refine WL.x (X.move rfl) (by decide) ?_
   refine WL.x (X.assign rfl) (by decide) ?_
   refine WL.nil ?_
   refine WK.nThen ?_
   refine WC.ret ?_
   refine WK.rThen ?_
   refine WK.ret1 rfl rfl (fun w' hw' => Ret.exact hw' ?_)
   first | rfl | (exfalso; omega) | (exfalso; contradiction) | exact (bool_true rfl).symm | exact (bool_true (by omega)).symm
 ·refine WL.x (X.not rfl) (by decide) ?_
  refine WL.x (X.move rfl) (by decide) ?_
  refine WL.no rfl rfl rfl (by decide) ?_
  refine WL.no rfl rfl rfl (by decide) ?_
  refine WL.no rfl rfl rfl (by decide) ?_
  refine WL.x (X.pickT rfl rfl rfl) (by decide) ?_
  refine WL.nil ?_
  refine WK.nThen ?_
  refine WC.condT rfl ?_
  refine WC.seq ?_
  refine WC.region ?_
  refine WL.x (X.move rfl) (by decide) ?_
  refine WL.x (X.assign rfl) (by decide) ?_
  refine WL.nil ?_
  refine WK.nThen ?_
  refine WC.ret ?_
  refine WK.rThen ?_
  refine WK.ret1 rfl rfl (fun w' hw' => Ret.exact hw' ?_)
  first | rfl | (exfalso; omega) | (exfalso; contradiction) | exact (bool_true rfl).symm | exact (bool_true (by omega)).symm
end Go.Proofs.C8
