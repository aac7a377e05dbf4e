import Derived.Test.YtednficclnjmjaaC8Spec4
import Derived.Test.YtednficclnjmjaaC8W6
/- Century: walks, seventh part, by program. -/
namespace Go.Proofs.C8
open Go Go.Kx
set_option linter.unusedSimpArgs false

theorem raise100 (m : Mem) {v : Value} {L : List Int} {b : Nat} {c : Bool} {i : Nat} {least : Int} (hi : i < L.length) : Mut Try.prog 100 #[.pointer (some (rp v i)), .int .i64 least, .pointer (some ⟨b, 0, none⟩)] m [rowF v 3 L, blk b 4 [.bool c]] (fun _ Es _ => Es = [rowF v 3 (rz L i least), blk b 4 [.bool (c || decide (gt L i < least))]]) := by
 refine Mut.start Try.func100 rfl Try.ntmps100 rfl fun wld => ?_
 refine WC.seq ?_
 refine WC.region ?_
 refine WL.x (X.move rfl) (by decide) ?_
 refine WL.x (X.nilCheck rfl) (by decide) ?_
 refine WL.x (X.loadI (k := 0) (i := i) Try.isAgg3 rfl rfl (by first | omega | (simp; omega) | simp)) (by decide) ?_
 refine WL.x (X.move rfl) (by decide) ?_
 refine WL.cond (X.lss rfl rfl) (by decide) (fun h1 => ?_) (fun h1 => ?_)
 ·refine WL.nil ?_
  refine WK.nThen ?_
  refine WC.condT rfl ?_
  refine WC.seq ?_
  refine WC.region ?_
  refine WL.x (X.move rfl) (by decide) ?_
  refine WL.x (X.move rfl) (by decide) ?_
  refine WL.x (X.nilCheck rfl) (by decide) ?_
  refine WL.ts (T.storeI (k := 0) (i := i) Try.sizeOf3 rfl rfl rfl (by first | omega | (simp; omega) | simp)) ?_
  refine WL.nil ?_
  refine WK.nThen ?_
  refine WC.region ?_
  refine WL.ts (T.storeB (k := 1) Try.sizeOf4 rfl rfl rfl rfl (Nat.le_of_ble_eq_true rfl)) ?_
  refine WL.nil ?_
  refine WK.end0 rfl (fun w' hw' => Ret.mut hw' ?_)
  first | (unfold rz; rw [if_pos (by omega), decide_eq_true (by omega), Bool.or_true]; rfl) | (unfold rz; rw [if_neg (by omega), decide_eq_false (by omega), Bool.or_false])
 ·refine WL.nil ?_
  refine WK.nThen ?_
  refine WC.condF rfl ?_
  refine WC.skip ?_
  refine WK.end0 rfl (fun w' hw' => Ret.mut hw' ?_)
  first | (unfold rz; rw [if_pos (by omega), decide_eq_true (by omega), Bool.or_true]; rfl) | (unfold rz; rw [if_neg (by omega), decide_eq_false (by omega), Bool.or_false])

set_option maxRecDepth 20000 in
set_option maxHeartbeats 8000000 in
theorem mono30 (m : Mem) (cs : List Value) (s : Ser) (hs : Enc.rd m cs s)   : Pure Try.prog 30 #[.agg cs.toArray] m (fun m' v => ∃ r0, v = .tuple #[r0, .int .i64 ((monoR s).2)] ∧ Sl m' r0 ((monoR s).1)) := by
 obtain ⟨v1, v3, rfl, hs2, hs4⟩ := hs
 have hl5 := hs2.le
 have hl6 := hs4.le
 refine Pure.start Try.func30 rfl Try.ntmps30 rfl fun wld => ?_
 refine WC.seq ?_
 refine WC.region ?_
 refine WL.tn (T.boxB rfl rfl) (by decide) fun b7 => ?_
 refine WL.x (X.assign rfl) (by decide) ?_
 refine WL.x (X.assign rfl) (by decide) ?_
 refine WL.nil ?_
 refine WK.nThen ?_
 refine WC.seq ?_
 refine WC.seq ?_
 refine WC.region ?_
 refine WL.x (X.loadBA (k := 0) Try.isAgg25 Try.sizeOf25 rfl rfl rfl) (by decide) ?_
 refine WL.tm (T.litM (α := Ser) (vals := [.agg [v1, v3].toArray]) (L := [s]) sl179 rfl (.cons rfl ⟨_, _, rfl, hs2, hs4⟩ .nil) rfl rfl) (by decide) (fun m8 v9 hle10 hs11 => ?_)
 replace hs2 := hs2.mono hle10
 replace hs4 := hs4.mono hle10
 refine WL.x (X.call Try.call81 rfl (checked81_1 _ _ hs11)) (by decide) ?_
 refine WL.x (X.assign rfl) (by decide) ?_
 refine WL.nil ?_
 refine WK.nThen ?_
 refine WC.seq ?_
 refine WC.region ?_
 refine WL.x (X.move rfl) (by decide) ?_
 refine WL.condn (X.neq rfl rfl) (by decide) (fun h12 => ?_) (fun h12 => ?_)
 ·refine WL.nil ?_
  refine WK.nThen ?_
  refine WC.condT rfl ?_
  refine WC.seq ?_
  refine WC.region ?_
  refine WL.x (X.move rfl) (by decide) ?_
  refine WL.x (X.assign rfl) (by decide) ?_
  refine WL.x (X.assign rfl) (by decide) ?_
  refine WL.nil ?_
  refine WK.nThen ?_
  refine WC.ret ?_
  refine WK.rThen ?_
  refine WK.ret2 rfl rfl rfl (fun w' hw' => Ret.mem hw' ?_)
  exact ⟨_, tup2 rfl (int_eq (by rw [monoR_err (by omega)])), by rw [monoR_err (by omega)]; exact .nil⟩
 ·refine WL.nil ?_
  refine WK.nThen ?_
  refine WC.condF rfl ?_
  refine WC.skip ?_
  refine WK.nThen ?_
  refine WC.seq ?_
  have hok := Ok.of (s := s) (by omega)
  have hnV := hok.nV
  refine WC.region ?_
  refine WL.x (X.loadBA (k := 0) Try.isAgg25 Try.sizeOf25 rfl rfl rfl) (by decide) ?_
  refine WL.x (V := Value.agg [v1, v3].toArray) (X.build Try.zeroValue111 Try.runUnderlying111 (places111 _ Try.underlying111) rfl rfl) (by decide) ?_
  refine WL.tn (T.alloc Try.zeroValue111 rfl) (by decide) fun b13 => ?_
  refine WL.ts (T.storeBA (k := 0) Try.sizeOf111 rfl rfl rfl (one_cons hs2.one (one_cons hs4.one one_nil)) rfl rfl) ?_
  refine WL.nil ?_
  refine WK.nThen ?_
  refine WC.seq ?_
  refine WC.region ?_
  refine WL.x (X.field Try.runUnderlying111 rfl Try.sizeOf25 rfl) (by decide) ?_
  refine WL.x (X.field Try.runUnderlying25 rfl Try.sizeOf22 rfl) (by decide) ?_
  refine WL.x (X.loadB (k := 0) Try.isAgg22 rfl rfl rfl) (by decide) ?_
  refine WL.x (X.len Try.runUnderlying22 rfl hs2) (by decide) ?_
  refine WL.x (X.assign rfl) (by decide) ?_
  refine WL.nil ?_
  refine WK.nThen ?_
  refine WC.seq ?_
  refine WK.ownF Int 3 ?_
  refine WK.ownF Int 3 ?_
  refine WK.ownF Int 3 ?_
  refine WC.region ?_
  refine WL.x (X.assign rfl) (by decide) ?_
  refine WL.x (X.assign rfl) (by decide) ?_
  refine WL.x (X.assign rfl) (by decide) ?_
  refine WL.nil ?_
  refine WK.nThen ?_
  refine WC.seq ?_
  refine WC.seq ?_
  refine WC.region ?_
  refine WL.x (X.field Try.runUnderlying111 rfl Try.sizeOf25 rfl) (by decide) ?_
  refine WL.x (X.field Try.runUnderlying25 rfl Try.sizeOf22 rfl) (by decide) ?_
  refine WL.x (X.loadB (k := 3) Try.isAgg22 rfl rfl rfl) (by decide) ?_
  refine WL.x (X.len Try.runUnderlying22 rfl hs2) (by decide) ?_
  refine WL.x (X.move rfl) (by decide) ?_
  refine WL.nil ?_
  refine WK.nThen ?_
  refine WC.block ?_
  refine WC.loop (G := Nat × Value × Value × Value) (fun (k, va, vb, vc) => s.Values.length - k) (fun (k, va, vb, vc) => m8) (fun (k, va, vb, vc) => [rowF (vc) 3 ((List.range k).map (mMost s)), rowF (vb) 3 ((List.range k).map (fun i => - (bt s.Shifts (-1) (gt s.Values i).Time).Hi)), rowF (va) 3 ((List.range k).map (fun i => (gt s.Values i).Levels.Lo - (bt s.Shifts (-1) (gt s.Values i).Time).Hi)), blk b13 111 [v1, v3], blk b7 25 [v1, v3]]) (fun (k, va, vb, vc) => [(5, .pointer (some ⟨b13, 0, none⟩)), (6, .int .i64 (↑s.Values.length)), (7, va), (8, vb), (9, vc), (33, v1), (34, .int .i64 (↑s.Values.length)), (35, .int .i64 (↑k))]) (fun (k, va, vb, vc) => k ≤ s.Values.length) ((0, Value.slice none 0 0, (Value.slice none 0 0), ((Value.slice none 0 0)))) rfl (.refl _) (.cons rfl (.cons rfl (.cons rfl (.cons rfl (.cons rfl (.cons rfl (.cons rfl (.cons rfl .nil)))))))) ?_ ?_
  ·exact Nat.zero_le _
  ·rintro ⟨k, va, vb, vc⟩ hF14
   show WK _ _ m8 [rowF (vc) 3 ((List.range k).map (mMost s)), rowF (vb) 3 ((List.range k).map (fun i => - (bt s.Shifts (-1) (gt s.Values i).Time).Hi)), rowF (va) 3 ((List.range k).map (fun i => (gt s.Values i).Levels.Lo - (bt s.Shifts (-1) (gt s.Values i).Time).Hi)), blk b13 111 [v1, v3], blk b7 25 [v1, v3]] [(5, .pointer (some ⟨b13, 0, none⟩)), (6, .int .i64 (↑s.Values.length)), (7, va), (8, vb), (9, vc), (33, v1), (34, .int .i64 (↑s.Values.length)), (35, .int .i64 (↑k))] _
   replace hF14 : k ≤ s.Values.length := hF14
   have hk := hF14
   refine WK.good (fun hgood0 => ?_)
   refine WC.seq ?_
   refine WC.region ?_
   refine WL.cond (X.lss rfl rfl) (by decide) (fun h15 => ?_) (fun h15 => ?_)
   ·refine WL.nil ?_
    refine WK.nThen ?_
    refine WC.seq ?_
    refine WC.condT rfl ?_
    refine WC.skip ?_
    refine WK.nThen ?_
    refine WC.seq ?_
    refine WC.block ?_
    refine WC.seq ?_
    refine WC.region ?_
    refine WL.xe (E.idxN k Try.runUnderlying22 Try.sizeOf62 rfl rfl hs2 (by omega)) (by decide) (fun p16 hp17 => ?_)
    refine WL.xe (E.loadAgg Try.isAgg62 Try.sizeOf62 rfl hp17) (by decide) (fun c18 hc19 => ?_)
    obtain rfl := hc19
    refine WL.tn (T.alloc Try.zeroValue62 rfl) (by decide) fun b20 => ?_
    refine WL.ts (T.storeBA (k := 0) Try.sizeOf62 rfl rfl rfl (one_cons rfl (one_cons rfl (one_cons rfl one_nil))) rfl rfl) ?_
    refine WL.nil ?_
    refine WK.nThen ?_
    refine WC.seq ?_
    refine WC.region ?_
    refine WL.x (X.loadBA (k := 4) Try.isAgg111 Try.sizeOf111 rfl rfl rfl) (by decide) ?_
    refine WL.x (X.field Try.runUnderlying62 rfl Try.sizeOf3 rfl) (by decide) ?_
    refine WL.x (X.loadB (k := 0) Try.isAgg3 rfl rfl rfl) (by decide) ?_
    refine WL.x (X.call Try.call99 rfl (between99 _ _ s ⟨_, _, rfl, hs2, hs4⟩ _ _ (by assumption))) (by decide) ?_
    refine WL.tn (T.alloc Try.zeroValue33 rfl) (by decide) fun b21 => ?_
    refine WL.ts (T.storeBA (k := 0) Try.sizeOf33 rfl rfl rfl (one_cons rfl (one_cons rfl one_nil)) rfl rfl) ?_
    refine WL.nil ?_
    refine WK.nThen ?_
    have hbt_ := btS_bd hok (-1) (gt s.Values k).Time
    have hvl_ := hok.vl (i := k) (by omega)
    refine WC.cut (G := Mem × Value × Value) (fun (m22, v23, v25) => m22) (fun (m22, v23, v25) => [blk b21 33 [.int .i64 ((bt s.Shifts ((-1)) (((gt s.Values k).Time))).Lo), .int .i64 ((bt s.Shifts ((-1)) (((gt s.Values k).Time))).Hi)], blk b20 62 [.int .i64 ((gt s.Values k).Time), .int .i64 (((gt s.Values k).Levels).Lo), .int .i64 (((gt s.Values k).Levels).Hi)], rowF (v25) 3 (((List.range k).map (mMost s)) ++ [-((bt s.Shifts ((-1)) (((gt s.Values k).Time))).Lo)]), rowF (v23) 3 (((List.range k).map (fun i => - (bt s.Shifts (-1) (gt s.Values i).Time).Hi)) ++ [-((bt s.Shifts ((-1)) (((gt s.Values k).Time))).Hi)]), rowF (va) 3 ((List.range k).map (fun i => (gt s.Values i).Levels.Lo - (bt s.Shifts (-1) (gt s.Values i).Time).Hi)), blk b13 111 [v1, v3], blk b7 25 [v1, v3]]) (fun (m22, v23, v25) => [(5, .pointer (some ⟨b13, 0, none⟩)), (6, .int .i64 (↑s.Values.length)), (7, va), (8, v23), (9, v25), (11, .pointer (some ⟨b20, 0, none⟩)), (12, .pointer (some ⟨b21, 0, none⟩)), (33, v1), (34, .int .i64 (↑s.Values.length)), (35, .int .i64 (↑k))]) (fun (m22, v23, v25) => m8.le m22 ∧ Sl (α := Val) m22 v1 s.Values ∧ Sl (α := Shf) m22 v3 s.Shifts ∧ Sl (α := Val) m22 v1 s.Values ∧ Sl (α := Shf) m22 v3 s.Shifts) ?_ ?_
    ·refine WC.draw (π := (.cons 0 (.cons 1 (.cons 2 (.cons 3 (.cons 6 (.cons 7 (.fork (.cons 4 (.fork (.cons 5 (.cons 8 (.cons 9 (.cons 10 (.cons 11 (.cons 12 (.cons 13 .done))))))) (.cons 8 (.cons 9 (.fork (.cons 5 (.cons 10 (.cons 11 (.cons 12 (.cons 13 .done))))) (.cons 10 (.cons 5 (.cons 11 (.cons 12 (.cons 13 .done)))))))))) (.cons 8 (.cons 9 (.fork (.cons 4 (.fork (.cons 5 (.cons 10 (.cons 11 (.cons 12 (.cons 13 .done))))) (.cons 10 (.cons 5 (.cons 11 (.cons 12 (.cons 13 .done))))))) (.cons 10 (.cons 4 (.cons 5 (.cons 11 (.cons 12 (.cons 13 .done))))))))))))))))) [4, 5, 8, 10, 11] [5, 11, 100007, 100009] rfl (by kernel_rfl) ?_
     refine DW.x rfl rfl (X.move rfl) (by decide) ?_
     refine DW.x rfl rfl (X.field Try.runUnderlying33 rfl Try.sizeOf3 rfl) (by decide) ?_
     refine DW.x rfl rfl (X.loadB (k := 0) Try.isAgg3 rfl rfl rfl) (by decide) ?_
     refine DW.x rfl rfl (X.neg rfl (by omega) (by omega)) (by decide) ?_
     refine DW.x rfl rfl (X.move rfl) (by decide) ?_
     refine DW.xf rfl rfl rfl (fun _ _ hle_ => (X.field Try.runUnderlying33 rfl Try.sizeOf3 rfl)) (by decide) ?_
     refine DW.fork (List.cons_ne_nil _ _) ?_ ?_
     ·refine DW.tl rfl rfl rfl (T.lit1 sl28 rfl rfl rfl (by decide)) (by decide) fun b23 => ?_
      refine DW.fork (List.cons_ne_nil _ _) ?_ ?_
      ·refine DW.ta rfl rfl rfl rfl (T.appendF (k := 3) (a := -((bt s.Shifts ((-1)) (((gt s.Values k).Time))).Hi)) sl28 rfl rfl rfl rfl (by first | omega | (simp; done) | (simp; omega)) (by decide)) (by decide) (fun v24 => ?_)
       refine DW.xp rfl rfl rfl (fun _ => (X.loadB (k := 0) Try.isAgg3 rfl rfl rfl)) (by decide) ?_
       refine DW.xf rfl rfl rfl (fun _ _ hle_ => (X.neg rfl (by omega) (by omega))) (by decide) ?_
       refine DW.tl rfl rfl rfl (T.lit1 sl28 rfl rfl rfl (by decide)) (by decide) fun b25 => ?_
       refine DW.ta rfl rfl rfl rfl (T.appendF (k := 2) (a := -((bt s.Shifts ((-1)) (((gt s.Values k).Time))).Lo)) sl28 rfl rfl rfl rfl (by first | omega | (simp; done) | (simp; omega)) (by decide)) (by decide) (fun v26 => ?_)
       refine DW.x rfl rfl (X.assign rfl) (by decide) ?_
       refine DW.x rfl rfl (X.assign rfl) (by decide) ?_
       refine DW.nil ?_
       refine WK.nThen ?_
       exact WK.meet (m8, v24, v26) rfl (.refl _) (.cons rfl (.cons rfl (.cons rfl (.cons rfl (.cons rfl (.cons rfl (.cons rfl (.cons rfl (.cons rfl (.cons rfl .nil)))))))))) ⟨(Mem.le_refl _), hs2, hs4, hs2, hs4⟩
      ·refine DW.xp rfl rfl rfl (fun _ => (X.loadB (k := 1) Try.isAgg3 rfl rfl rfl)) (by decide) ?_
       refine DW.xf rfl rfl rfl (fun _ _ hle_ => (X.neg rfl (by omega) (by omega))) (by decide) ?_
       refine DW.fork (List.cons_ne_nil _ _) ?_ ?_
       ·refine DW.ta rfl rfl rfl rfl (T.appendF (k := 3) (a := -((bt s.Shifts ((-1)) (((gt s.Values k).Time))).Hi)) sl28 rfl rfl rfl rfl (by first | omega | (simp; done) | (simp; omega)) (by decide)) (by decide) (fun v27 => ?_)
        refine DW.tl rfl rfl rfl (T.lit1 sl28 rfl rfl rfl (by decide)) (by decide) fun b28 => ?_
        refine DW.ta rfl rfl rfl rfl (T.appendF (k := 2) (a := -((bt s.Shifts ((-1)) (((gt s.Values k).Time))).Lo)) sl28 rfl rfl rfl rfl (by first | omega | (simp; done) | (simp; omega)) (by decide)) (by decide) (fun v29 => ?_)
        refine DW.x rfl rfl (X.assign rfl) (by decide) ?_
        refine DW.x rfl rfl (X.assign rfl) (by decide) ?_
        refine DW.nil ?_
        refine WK.nThen ?_
        exact WK.meet (m8, v27, v29) rfl (.refl _) (.cons rfl (.cons rfl (.cons rfl (.cons rfl (.cons rfl (.cons rfl (.cons rfl (.cons rfl (.cons rfl (.cons rfl .nil)))))))))) ⟨(Mem.le_refl _), hs2, hs4, hs2, hs4⟩
       ·refine DW.tl rfl rfl rfl (T.lit1 sl28 rfl rfl rfl (by decide)) (by decide) fun b30 => ?_
        refine DW.ta rfl rfl rfl rfl (OpTo.perm (H' := [blk b23 3 [.int .i64 (-((bt s.Shifts ((-1)) (((gt s.Values k).Time))).Hi))], blk b30 3 [.int .i64 (-((bt s.Shifts ((-1)) (((gt s.Values k).Time))).Lo))], blk b21 33 [.int .i64 ((bt s.Shifts ((-1)) (((gt s.Values k).Time))).Lo), .int .i64 ((bt s.Shifts ((-1)) (((gt s.Values k).Time))).Hi)], blk b20 62 [.int .i64 ((gt s.Values k).Time), .int .i64 (((gt s.Values k).Levels).Lo), .int .i64 (((gt s.Values k).Levels).Hi)], rowF (vc) 3 ((List.range k).map (mMost s)), rowF (vb) 3 ((List.range k).map (fun i => - (bt s.Shifts (-1) (gt s.Values i).Time).Hi)), rowF (va) 3 ((List.range k).map (fun i => (gt s.Values i).Levels.Lo - (bt s.Shifts (-1) (gt s.Values i).Time).Hi)), blk b13 111 [v1, v3], blk b7 25 [v1, v3]]) (List.perm_middle (l₁ := [blk b30 3 [.int .i64 (-((bt s.Shifts ((-1)) (((gt s.Values k).Time))).Lo))]]) (l₂ := [blk b21 33 [.int .i64 ((bt s.Shifts ((-1)) (((gt s.Values k).Time))).Lo), .int .i64 ((bt s.Shifts ((-1)) (((gt s.Values k).Time))).Hi)], blk b20 62 [.int .i64 ((gt s.Values k).Time), .int .i64 (((gt s.Values k).Levels).Lo), .int .i64 (((gt s.Values k).Levels).Hi)], rowF (vc) 3 ((List.range k).map (mMost s)), rowF (vb) 3 ((List.range k).map (fun i => - (bt s.Shifts (-1) (gt s.Values i).Time).Hi)), rowF (va) 3 ((List.range k).map (fun i => (gt s.Values i).Levels.Lo - (bt s.Shifts (-1) (gt s.Values i).Time).Hi)), blk b13 111 [v1, v3], blk b7 25 [v1, v3]]) (a := blk b23 3 [.int .i64 (-((bt s.Shifts ((-1)) (((gt s.Values k).Time))).Hi))])).symm (T.appendF (k := 4) (a := -((bt s.Shifts ((-1)) (((gt s.Values k).Time))).Hi)) sl28 rfl rfl rfl rfl (by first | omega | (simp; done) | (simp; omega)) (by decide))) (by decide) (fun v31 => ?_)
        refine DW.ta rfl rfl rfl rfl (T.appendF (k := 2) (a := -((bt s.Shifts ((-1)) (((gt s.Values k).Time))).Lo)) sl28 rfl rfl rfl rfl (by first | omega | (simp; done) | (simp; omega)) (by decide)) (by decide) (fun v32 => ?_)
        refine DW.x rfl rfl (X.assign rfl) (by decide) ?_
        refine DW.x rfl rfl (X.assign rfl) (by decide) ?_
        refine DW.nil ?_
        refine WK.nThen ?_
        exact WK.meet (m8, v31, v32) rfl (.refl _) (.cons rfl (.cons rfl (.cons rfl (.cons rfl (.cons rfl (.cons rfl (.cons rfl (.cons rfl (.cons rfl (.cons rfl .nil)))))))))) ⟨(Mem.le_refl _), hs2, hs4, hs2, hs4⟩
     ·refine DW.xp rfl rfl rfl (fun _ => (X.loadB (k := 0) Try.isAgg3 rfl rfl rfl)) (by decide) ?_
      refine DW.xf rfl rfl rfl (fun _ _ hle_ => (X.neg rfl (by omega) (by omega))) (by decide) ?_
      refine DW.fork (List.cons_ne_nil _ _) ?_ ?_
      ·refine DW.tl rfl rfl rfl (T.lit1 sl28 rfl rfl rfl (by decide)) (by decide) fun b33 => ?_
       refine DW.fork (List.cons_ne_nil _ _) ?_ ?_
       ·refine DW.ta rfl rfl rfl rfl (T.appendF (k := 3) (a := -((bt s.Shifts ((-1)) (((gt s.Values k).Time))).Hi)) sl28 rfl rfl rfl rfl (by first | omega | (simp; done) | (simp; omega)) (by decide)) (by decide) (fun v34 => ?_)
        refine DW.tl rfl rfl rfl (T.lit1 sl28 rfl rfl rfl (by decide)) (by decide) fun b35 => ?_
        refine DW.ta rfl rfl rfl rfl (T.appendF (k := 2) (a := -((bt s.Shifts ((-1)) (((gt s.Values k).Time))).Lo)) sl28 rfl rfl rfl rfl (by first | omega | (simp; done) | (simp; omega)) (by decide)) (by decide) (fun v36 => ?_)
        refine DW.x rfl rfl (X.assign rfl) (by decide) ?_
        refine DW.x rfl rfl (X.assign rfl) (by decide) ?_
        refine DW.nil ?_
        refine WK.nThen ?_
        exact WK.meet (m8, v34, v36) rfl (.refl _) (.cons rfl (.cons rfl (.cons rfl (.cons rfl (.cons rfl (.cons rfl (.cons rfl (.cons rfl (.cons rfl (.cons rfl .nil)))))))))) ⟨(Mem.le_refl _), hs2, hs4, hs2, hs4⟩
       ·refine DW.tl rfl rfl rfl (T.lit1 sl28 rfl rfl rfl (by decide)) (by decide) fun b37 => ?_
        refine DW.ta rfl rfl rfl rfl (OpTo.perm (H' := [blk b33 3 [.int .i64 (-((bt s.Shifts ((-1)) (((gt s.Values k).Time))).Hi))], blk b37 3 [.int .i64 (-((bt s.Shifts ((-1)) (((gt s.Values k).Time))).Lo))], blk b21 33 [.int .i64 ((bt s.Shifts ((-1)) (((gt s.Values k).Time))).Lo), .int .i64 ((bt s.Shifts ((-1)) (((gt s.Values k).Time))).Hi)], blk b20 62 [.int .i64 ((gt s.Values k).Time), .int .i64 (((gt s.Values k).Levels).Lo), .int .i64 (((gt s.Values k).Levels).Hi)], rowF (vc) 3 ((List.range k).map (mMost s)), rowF (vb) 3 ((List.range k).map (fun i => - (bt s.Shifts (-1) (gt s.Values i).Time).Hi)), rowF (va) 3 ((List.range k).map (fun i => (gt s.Values i).Levels.Lo - (bt s.Shifts (-1) (gt s.Values i).Time).Hi)), blk b13 111 [v1, v3], blk b7 25 [v1, v3]]) (List.perm_middle (l₁ := [blk b37 3 [.int .i64 (-((bt s.Shifts ((-1)) (((gt s.Values k).Time))).Lo))]]) (l₂ := [blk b21 33 [.int .i64 ((bt s.Shifts ((-1)) (((gt s.Values k).Time))).Lo), .int .i64 ((bt s.Shifts ((-1)) (((gt s.Values k).Time))).Hi)], blk b20 62 [.int .i64 ((gt s.Values k).Time), .int .i64 (((gt s.Values k).Levels).Lo), .int .i64 (((gt s.Values k).Levels).Hi)], rowF (vc) 3 ((List.range k).map (mMost s)), rowF (vb) 3 ((List.range k).map (fun i => - (bt s.Shifts (-1) (gt s.Values i).Time).Hi)), rowF (va) 3 ((List.range k).map (fun i => (gt s.Values i).Levels.Lo - (bt s.Shifts (-1) (gt s.Values i).Time).Hi)), blk b13 111 [v1, v3], blk b7 25 [v1, v3]]) (a := blk b33 3 [.int .i64 (-((bt s.Shifts ((-1)) (((gt s.Values k).Time))).Hi))])).symm (T.appendF (k := 4) (a := -((bt s.Shifts ((-1)) (((gt s.Values k).Time))).Hi)) sl28 rfl rfl rfl rfl (by first | omega | (simp; done) | (simp; omega)) (by decide))) (by decide) (fun v38 => ?_)
        refine DW.ta rfl rfl rfl rfl (T.appendF (k := 2) (a := -((bt s.Shifts ((-1)) (((gt s.Values k).Time))).Lo)) sl28 rfl rfl rfl rfl (by first | omega | (simp; done) | (simp; omega)) (by decide)) (by decide) (fun v39 => ?_)
        refine DW.x rfl rfl (X.assign rfl) (by decide) ?_
        refine DW.x rfl rfl (X.assign rfl) (by decide) ?_
        refine DW.nil ?_
        refine WK.nThen ?_
        exact WK.meet (m8, v38, v39) rfl (.refl _) (.cons rfl (.cons rfl (.cons rfl (.cons rfl (.cons rfl (.cons rfl (.cons rfl (.cons rfl (.cons rfl (.cons rfl .nil)))))))))) ⟨(Mem.le_refl _), hs2, hs4, hs2, hs4⟩
      ·refine DW.tl rfl rfl rfl (T.lit1 sl28 rfl rfl rfl (by decide)) (by decide) fun b40 => ?_
       refine DW.tl rfl rfl rfl (T.lit1 sl28 rfl rfl rfl (by decide)) (by decide) fun b41 => ?_
       refine DW.ta rfl rfl rfl rfl (T.appendF (k := 4) (a := -((bt s.Shifts ((-1)) (((gt s.Values k).Time))).Hi)) sl28 rfl rfl rfl rfl (by first | omega | (simp; done) | (simp; omega)) (by decide)) (by decide) (fun v42 => ?_)
       refine DW.ta rfl rfl rfl rfl (T.appendF (k := 2) (a := -((bt s.Shifts ((-1)) (((gt s.Values k).Time))).Lo)) sl28 rfl rfl rfl rfl (by first | omega | (simp; done) | (simp; omega)) (by decide)) (by decide) (fun v43 => ?_)
       refine DW.x rfl rfl (X.assign rfl) (by decide) ?_
       refine DW.x rfl rfl (X.assign rfl) (by decide) ?_
       refine DW.nil ?_
       refine WK.nThen ?_
       exact WK.meet (m8, v42, v43) rfl (.refl _) (.cons rfl (.cons rfl (.cons rfl (.cons rfl (.cons rfl (.cons rfl (.cons rfl (.cons rfl (.cons rfl (.cons rfl .nil)))))))))) ⟨(Mem.le_refl _), hs2, hs4, hs2, hs4⟩
    ·rintro ⟨m22, v23, v25⟩ ⟨hle44, hs45, hs46, hs47, hs48⟩
     show WK _ _ m22 [blk b21 33 [.int .i64 ((bt s.Shifts ((-1)) (((gt s.Values k).Time))).Lo), .int .i64 ((bt s.Shifts ((-1)) (((gt s.Values k).Time))).Hi)], blk b20 62 [.int .i64 ((gt s.Values k).Time), .int .i64 (((gt s.Values k).Levels).Lo), .int .i64 (((gt s.Values k).Levels).Hi)], rowF (v25) 3 (((List.range k).map (mMost s)) ++ [-((bt s.Shifts ((-1)) (((gt s.Values k).Time))).Lo)]), rowF (v23) 3 (((List.range k).map (fun i => - (bt s.Shifts (-1) (gt s.Values i).Time).Hi)) ++ [-((bt s.Shifts ((-1)) (((gt s.Values k).Time))).Hi)]), rowF (va) 3 ((List.range k).map (fun i => (gt s.Values i).Levels.Lo - (bt s.Shifts (-1) (gt s.Values i).Time).Hi)), blk b13 111 [v1, v3], blk b7 25 [v1, v3]] [(5, .pointer (some ⟨b13, 0, none⟩)), (6, .int .i64 (↑s.Values.length)), (7, va), (8, v23), (9, v25), (11, .pointer (some ⟨b20, 0, none⟩)), (12, .pointer (some ⟨b21, 0, none⟩)), (33, v1), (34, .int .i64 (↑s.Values.length)), (35, .int .i64 (↑k))] _
     replace hs2 := hs2.mono hle44
     replace hs4 := hs4.mono hle44
     replace hs11 := hs11.mono hle44
     replace hp17 := hp17.mono hle44
     have hl49 := hs45.le
     have hl50 := hs46.le
     have hl51 := hs47.le
     have hl52 := hs48.le
     refine WC.region ?_
     refine WL.x (X.move rfl) (by decide) ?_
     refine WL.x (X.field Try.runUnderlying62 rfl Try.sizeOf33 rfl) (by decide) ?_
     refine WL.x (X.field Try.runUnderlying33 rfl Try.sizeOf3 rfl) (by decide) ?_
     refine WL.x (X.loadB (k := 1) Try.isAgg3 rfl rfl rfl) (by decide) ?_
     refine WL.x (X.field Try.runUnderlying33 rfl Try.sizeOf3 rfl) (by decide) ?_
     refine WL.x (X.loadB (k := 0) Try.isAgg3 rfl rfl rfl) (by decide) ?_
     refine WL.x (X.sub rfl rfl (by omega) (by omega)) (by decide) ?_
     refine WL.tl (T.lit1 sl28 rfl rfl rfl (by decide)) (by decide) fun b53 => ?_
     refine WL.ta (T.appendF (k := 4) (a := (((gt s.Values k).Levels).Lo) - ((bt s.Shifts ((-1)) (((gt s.Values k).Time))).Hi)) sl28 rfl rfl rfl rfl (by first | omega | (simp; done) | (simp; omega)) (by decide)) (by decide) (fun v54 => ?_)
     refine WL.x (X.assign rfl) (by decide) ?_
     refine WL.nil ?_
     refine WK.nBlock ?_
     refine WK.nThen ?_
     refine WC.region ?_
     refine WL.x (X.add rfl rfl (by omega) (by omega)) (by decide) ?_
     refine WL.x (X.move rfl) (by decide) ?_
     refine WL.nil ?_
     refine WK.nThen ?_
     refine WK.back hgood0 hle44 ?_
     have he55 : (((List.range k).map (fun i => (gt s.Values i).Levels.Lo - (bt s.Shifts (-1) (gt s.Values i).Time).Hi)) ++ [(((gt s.Values k).Levels).Lo) - ((bt s.Shifts ((-1)) (((gt s.Values k).Time))).Hi)]) = ((List.range (k + 1)).map (fun i => (gt s.Values i).Levels.Lo - (bt s.Shifts (-1) (gt s.Values i).Time).Hi)) := map_succ _ _
     rw [he55]
     have he56 : (((List.range k).map (fun i => - (bt s.Shifts (-1) (gt s.Values i).Time).Hi)) ++ [-((bt s.Shifts ((-1)) (((gt s.Values k).Time))).Hi)]) = ((List.range (k + 1)).map (fun i => - (bt s.Shifts (-1) (gt s.Values i).Time).Hi)) := map_succ _ _
     rw [he56]
     have he57 : (((List.range k).map (mMost s)) ++ [-((bt s.Shifts ((-1)) (((gt s.Values k).Time))).Lo)]) = ((List.range (k + 1)).map (mMost s)) := map_succ _ _
     rw [he57]
     refine WK.next ((k + 1, v54, v23, v25)) rfl (.cons _ (.cons _ (.cons_cons _ (.cons_cons _ (.cons_cons _ (.cons_cons _ (.cons_cons _ .slnil))))))) (.cons rfl (.cons rfl (.cons rfl (.cons rfl (.cons rfl (.cons rfl (.cons rfl (.cons rfl .nil)))))))) ?_ ?_
     ·omega
     ·(dsimp only; omega)
   ·refine WL.nil ?_
    refine WK.nThen ?_
    refine WC.seq ?_
    refine WC.condF rfl ?_
    refine WC.exit ?_
    refine WK.eThen ?_
    refine WK.eThen ?_
    refine WK.eHit ?_
    refine WK.nThen ?_
    refine WC.seq ?_
    obtain rfl : k = s.Values.length := (by omega)
    refine WK.drop (H' := [rowF (vc) 3 ((List.range s.Values.length).map (mMost s)), rowF (vb) 3 ((mStart s).2), rowF (va) 3 ((mStart s).1), blk b13 111 [v1, v3], blk b7 25 [v1, v3]]) (.refl _) ?_
    have hml : ((List.range s.Values.length).map (mMost s)).length = s.Values.length := map_len _ _
    refine WC.region ?_
    refine WL.tn (T.alloc Try.zeroValue4 rfl) (by decide) fun b58 => ?_
    refine WL.ts (T.storeB (k := 0) Try.sizeOf4 rfl rfl rfl rfl (Nat.le_of_ble_eq_true rfl)) ?_
    refine WL.nil ?_
    refine WK.nThen ?_
    refine WC.seq ?_
    refine WC.region ?_
    refine WL.x (X.makeFunc (by intro x hx; simp at hx; subst hx; all_goals exact ⟨_, rfl⟩) rfl) (by decide) ?_
    refine WL.x (X.assign rfl) (by decide) ?_
    refine WL.nil ?_
    refine WK.nThen ?_
    refine WC.seq ?_
    refine WC.block ?_
    refine WC.loop (G := Bool × List Int × List Int × Nat) (fun (c, e, u, F) => cond c ((320000000 - mu (e, u)).toNat + 1) 0) (fun (c, e, u, F) => m8) (fun (c, e, u, F) => [blk b58 4 [.bool (c)], rowF (vc) 3 ((List.range s.Values.length).map (mMost s)), rowF (vb) 3 (u), rowF (va) 3 (e), blk b13 111 [v1, v3], blk b7 25 [v1, v3]]) (fun (c, e, u, F) => [(5, .pointer (some ⟨b13, 0, none⟩)), (6, .int .i64 (↑s.Values.length)), (7, va), (8, vb), (9, vc), (13, .pointer (some ⟨b58, 0, none⟩)), (14, .func (.func 100) #[] [.pointer (some ⟨b58, 0, none⟩)].toArray)]) (fun (c, e, u, F) => MInv s c (e, u) F) ((true, (mStart s).1, (mStart s).2, fuelM)) rfl (.refl _) (.cons rfl (.cons rfl (.cons rfl (.cons rfl (.cons rfl (.cons rfl (.cons rfl .nil))))))) ?_ ?_
    ·exact minv_start hok
    ·rintro ⟨c, e, u, F⟩ hF59
     show WK _ _ m8 [blk b58 4 [.bool (c)], rowF (vc) 3 ((List.range s.Values.length).map (mMost s)), rowF (vb) 3 (u), rowF (va) 3 (e), blk b13 111 [v1, v3], blk b7 25 [v1, v3]] [(5, .pointer (some ⟨b13, 0, none⟩)), (6, .int .i64 (↑s.Values.length)), (7, va), (8, vb), (9, vc), (13, .pointer (some ⟨b58, 0, none⟩)), (14, .func (.func 100) #[] [.pointer (some ⟨b58, 0, none⟩)].toArray)] _
     replace hF59 : MInv s c (e, u) F := hF59
     have hst := hF59
     refine WC.seq ?_
     refine WC.seq ?_
     refine WC.region ?_
     refine WL.condb (X.loadB (k := 0) Try.isAgg4 rfl rfl rfl) (by decide) (fun h60 => ?_) (fun h60 => ?_)
     ·refine WL.nil ?_
      refine WK.nThen ?_
      refine WC.condT rfl ?_
      refine WC.skip ?_
      refine WK.nThen ?_
      refine WC.block ?_
      refine WC.seq ?_
      have hbs := hst.1
      refine WC.region ?_
      refine WL.ts (T.storeB (k := 0) Try.sizeOf4 rfl rfl rfl rfl (Nat.le_of_ble_eq_true rfl)) ?_
      refine WL.nil ?_
      refine WK.nThen ?_
      refine WC.seq ?_
      refine WC.seq ?_
      refine WC.region ?_
      refine WL.x (X.field Try.runUnderlying111 rfl Try.sizeOf25 rfl) (by decide) ?_
      refine WL.x (X.field Try.runUnderlying25 rfl Try.sizeOf22 rfl) (by decide) ?_
      refine WL.x (X.loadB (k := 4) Try.isAgg22 rfl rfl rfl) (by decide) ?_
      refine WL.x (X.len Try.runUnderlying22 rfl hs2) (by decide) ?_
      refine WL.x (X.move rfl) (by decide) ?_
      refine WL.nil ?_
      refine WK.nThen ?_
      refine WC.block ?_
      refine WC.loop (G := Nat × Bool × List Int × List Int) (fun (k, c1, e1, u1) => s.Values.length - k) (fun (k, c1, e1, u1) => m8) (fun (k, c1, e1, u1) => [blk b58 4 [.bool (c1)], rowF (vc) 3 ((List.range s.Values.length).map (mMost s)), rowF (vb) 3 (u1), rowF (va) 3 (e1), blk b13 111 [v1, v3], blk b7 25 [v1, v3]]) (fun (k, c1, e1, u1) => [(5, .pointer (some ⟨b13, 0, none⟩)), (6, .int .i64 (↑s.Values.length)), (7, va), (8, vb), (9, vc), (13, .pointer (some ⟨b58, 0, none⟩)), (14, .func (.func 100) #[] [.pointer (some ⟨b58, 0, none⟩)].toArray), (69, v1), (70, .int .i64 (↑s.Values.length)), (71, .int .i64 (↑k))]) (fun (k, c1, e1, u1) => k ≤ s.Values.length ∧ (e1, u1) = mPass s k (e, u) ∧ RInv (e, u) (e1, u1) c1) ((0, false, e, u)) rfl (.refl _) (.cons rfl (.cons rfl (.cons rfl (.cons rfl (.cons rfl (.cons rfl (.cons rfl (.cons rfl (.cons rfl (.cons rfl .nil)))))))))) ?_ ?_
      ·exact ⟨Nat.zero_le _, rfl, rinv_start _⟩
      ·rintro ⟨k, c1, e1, u1⟩ hF61
       show WK _ _ m8 [blk b58 4 [.bool (c1)], rowF (vc) 3 ((List.range s.Values.length).map (mMost s)), rowF (vb) 3 (u1), rowF (va) 3 (e1), blk b13 111 [v1, v3], blk b7 25 [v1, v3]] [(5, .pointer (some ⟨b13, 0, none⟩)), (6, .int .i64 (↑s.Values.length)), (7, va), (8, vb), (9, vc), (13, .pointer (some ⟨b58, 0, none⟩)), (14, .func (.func 100) #[] [.pointer (some ⟨b58, 0, none⟩)].toArray), (69, v1), (70, .int .i64 (↑s.Values.length)), (71, .int .i64 (↑k))] _
       replace hF61 : k ≤ s.Values.length ∧ (e1, u1) = mPass s k (e, u) ∧ RInv (e, u) (e1, u1) c1 := hF61
       obtain ⟨hk, hp, hri⟩ := hF61
       refine WK.good (fun hgood2 => ?_)
       refine WC.seq ?_
       refine WC.region ?_
       refine WL.cond (X.lss rfl rfl) (by decide) (fun h62 => ?_) (fun h62 => ?_)
       ·refine WL.nil ?_
        refine WK.nThen ?_
        refine WC.seq ?_
        refine WC.condT rfl ?_
        refine WC.skip ?_
        refine WK.nThen ?_
        refine WC.seq ?_
        refine WC.block ?_
        refine WC.seq ?_
        refine WC.region ?_
        refine WL.x (X.move rfl) (by decide) ?_
        refine WL.xe (E.idxN k Try.runUnderlying22 Try.sizeOf62 rfl rfl hs2 (by omega)) (by decide) (fun p63 hp64 => ?_)
        refine WL.xe (E.loadAgg Try.isAgg62 Try.sizeOf62 rfl hp64) (by decide) (fun c65 hc66 => ?_)
        obtain rfl := hc66
        refine WL.tn (T.alloc Try.zeroValue62 rfl) (by decide) fun b67 => ?_
        refine WL.x (X.assign rfl) (by decide) ?_
        refine WL.ts (T.storeBA (k := 0) Try.sizeOf62 rfl rfl rfl (one_cons rfl (one_cons rfl (one_cons rfl one_nil))) rfl rfl) ?_
        refine WL.nil ?_
        refine WK.nThen ?_
        refine WC.seq ?_
        refine WC.seq ?_
        refine WC.region ?_
        refine WL.x (X.move rfl) (by decide) ?_
        refine WL.cond (X.gtr rfl rfl) (by decide) (fun h68 => ?_) (fun h68 => ?_)
        ·refine WL.nil ?_
         refine WK.nThen ?_
         refine WC.condT rfl ?_
         refine WC.seq ?_
         have hb0 : MB s (e1, u1) (800000 + ↑k * 4000000) := (by rw [hp]; exact mb_pass hok hst.1 k (by omega))
         have qa_ := hb0.be (k) (by omega)
         have qb_ := hb0.bu (k) (by omega)
         have qc_ := hb0.be (k - 1) (by omega)
         have qd_ := hb0.bu (k - 1) (by omega)
         dsimp only at qa_ qb_ qc_ qd_
         have hl1_ := hb0.le
         have hl2_ := hb0.lu
         dsimp only at hl1_ hl2_
         refine WC.draw (π := (.cons 0 (.cons 1 (.cons 2 (.cons 3 (.cons 4 (.cons 5 (.cons 6 (.cons 7 (.cons 8 (.cons 9 .done))))))))))) [9] [9] rfl (by kernel_rfl) ?_
         refine DW.x rfl rfl (X.move rfl) (by decide) ?_
         refine DW.x rfl rfl (X.move rfl) (by decide) ?_
         refine DW.x rfl rfl (X.move rfl) (by decide) ?_
         refine DW.x rfl rfl (X.idxIE (k := 4) k Try.runUnderlying28 Try.sizeOf3 rfl rfl rfl (by omega) (by first | omega | (simp; omega) | simp)) (by decide) ?_
         refine DW.x rfl rfl (X.move rfl) (by decide) ?_
         refine DW.x rfl rfl (X.move rfl) (by decide) ?_
         refine DW.x rfl rfl (X.sub rfl rfl (by omega) (by omega)) (by decide) ?_
         refine DW.x rfl rfl (X.idxIE (k := 4) (k - 1) Try.runUnderlying28 Try.sizeOf3 rfl rfl rfl (by omega) (by first | omega | (simp; omega) | simp)) (by decide) ?_
         refine DW.x rfl rfl (X.loadI (k := 4) (i := (k - 1)) Try.isAgg3 rfl rfl (by first | omega | (simp; omega) | simp)) (by decide) ?_
         refine DW.tM rfl rfl rfl rfl (T.callcP (Hs := [rowF (va) 3 (e1), blk b58 4 [.bool (c1)]]) (A := [blk b67 62 [.int .i64 ((gt s.Values k).Time), .int .i64 (((gt s.Values k).Levels).Lo), .int .i64 (((gt s.Values k).Levels).Hi)], rowF (vc) 3 ((List.range s.Values.length).map (mMost s)), rowF (vb) 3 (u1), blk b13 111 [v1, v3], blk b7 25 [v1, v3]]) Try.call100 rfl rfl ((List.Perm.cons _ ((List.Perm.cons _ (.refl _)).trans (List.perm_middle (l₁ := [blk b67 62 [.int .i64 ((gt s.Values k).Time), .int .i64 (((gt s.Values k).Levels).Lo), .int .i64 (((gt s.Values k).Levels).Hi)]]) (l₂ := [rowF (vc) 3 ((List.range s.Values.length).map (mMost s)), rowF (vb) 3 (u1), blk b13 111 [v1, v3], blk b7 25 [v1, v3]]) (a := blk b58 4 [.bool (c1)])).symm)).trans (List.perm_middle (l₁ := [blk b67 62 [.int .i64 ((gt s.Values k).Time), .int .i64 (((gt s.Values k).Levels).Lo), .int .i64 (((gt s.Values k).Levels).Hi)], blk b58 4 [.bool (c1)], rowF (vc) 3 ((List.range s.Values.length).map (mMost s)), rowF (vb) 3 (u1)]) (l₂ := [blk b13 111 [v1, v3], blk b7 25 [v1, v3]]) (a := rowF (va) 3 (e1))).symm) (raise100 _ (i := k) (by omega))) (by decide) (fun m69 _ r70 hle71 hR_ => ?_)
         subst hR_
         replace hs2 := hs2.mono hle71
         replace hs4 := hs4.mono hle71
         replace hs11 := hs11.mono hle71
         replace hp64 := hp64.mono hle71
         have hb72 := mb_e (i := k) (v := (gt e1 ((k - 1)))) (hb0.up (d := 800000 + ↑k * 4000000 + 1000000) (by omega)) (by omega)
         have hLhb72_ := rz_len e1 k (gt e1 ((k - 1)))
         replace hri := rinv_e (i := k) (v := (gt e1 ((k - 1)))) hri (by omega)
         obtain ⟨Lx74, hX75⟩ : ∃ x, x = rz e1 k (gt e1 ((k - 1))) := ⟨_, rfl⟩
         rw [← hX75]
         rw [← hX75] at hb72 hLhb72_ hri
         refine DW.nil ?_
         refine WK.nThen ?_
         refine WC.seq ?_
         refine WC.draw (π := (.cons 0 (.cons 1 (.cons 2 (.cons 3 (.cons 4 (.cons 5 (.cons 6 (.cons 7 (.cons 8 (.cons 9 (.cons 10 (.cons 11 (.cons 12 (.cons 13 .done))))))))))))))) [12, 13] [13] rfl (by kernel_rfl) ?_
         refine DW.x rfl rfl (X.loadBA (k := 5) Try.isAgg111 Try.sizeOf111 rfl rfl rfl) (by decide) ?_
         refine DW.x rfl rfl (X.field Try.runUnderlying111 rfl Try.sizeOf25 rfl) (by decide) ?_
         refine DW.x rfl rfl (X.field Try.runUnderlying25 rfl Try.sizeOf22 rfl) (by decide) ?_
         refine DW.x rfl rfl (X.loadB (k := 5) Try.isAgg22 rfl rfl rfl) (by decide) ?_
         refine DW.x rfl rfl (X.move rfl) (by decide) ?_
         refine DW.x rfl rfl (X.sub rfl rfl (by omega) (by omega)) (by decide) ?_
         refine DW.xe rfl rfl (E.idxE (k - 1) Try.runUnderlying22 Try.sizeOf62 rfl rfl hs2 (by omega) (by omega)) (by decide) (fun p76 hp77 => ?_)
         have hp78 := At.Val_0 hp77
         refine DW.x rfl rfl (X.field Try.runUnderlying62 rfl Try.sizeOf3 rfl) (by decide) ?_
         refine DW.x rfl rfl (X.loadInt Try.isAgg3 rfl hp78) (by decide) ?_
         refine DW.x rfl rfl (X.field Try.runUnderlying62 rfl Try.sizeOf3 rfl) (by decide) ?_
         refine DW.x rfl rfl (X.loadB (k := 2) Try.isAgg3 rfl rfl rfl) (by decide) ?_
         refine DW.x rfl rfl (X.call Try.call99 rfl (between99 _ _ s ⟨_, _, rfl, hs2, hs4⟩ _ _ (by assumption))) (by decide) ?_
         refine DW.tn rfl rfl rfl (T.alloc Try.zeroValue33 rfl) (by decide) fun b79 => ?_
         refine DW.ts rfl rfl rfl rfl (T.storeBA (k := 0) Try.sizeOf33 rfl rfl rfl (one_cons rfl (one_cons rfl one_nil)) rfl rfl) ?_
         refine DW.nil ?_
         refine WK.nThen ?_
         refine WC.seq ?_
         have hby := btS_bd hok (gt s.Values (k - 1)).Time (gt s.Values k).Time
         have qa_ := hb72.be (k) (by omega)
         have qb_ := hb72.bu (k) (by omega)
         have qc_ := hb72.be (k - 1) (by omega)
         have qd_ := hb72.bu (k - 1) (by omega)
         dsimp only at qa_ qb_ qc_ qd_
         have hl1_ := hb72.le
         have hl2_ := hb72.lu
         dsimp only at hl1_ hl2_
         refine WC.draw (π := (.cons 0 (.cons 1 (.cons 2 (.cons 3 (.cons 4 (.cons 5 (.cons 6 (.cons 7 (.cons 8 (.cons 9 (.cons 10 (.cons 11 (.cons 12 .done)))))))))))))) [12] [12] rfl (by kernel_rfl) ?_
         refine DW.x rfl rfl (X.move rfl) (by decide) ?_
         refine DW.x rfl rfl (X.move rfl) (by decide) ?_
         refine DW.x rfl rfl (X.move rfl) (by decide) ?_
         refine DW.x rfl rfl (X.idxIE (k := 5) k Try.runUnderlying28 Try.sizeOf3 rfl rfl rfl (by omega) (by first | omega | (simp; omega) | simp)) (by decide) ?_
         refine DW.x rfl rfl (X.move rfl) (by decide) ?_
         refine DW.x rfl rfl (X.move rfl) (by decide) ?_
         refine DW.x rfl rfl (X.sub rfl rfl (by omega) (by omega)) (by decide) ?_
         refine DW.x rfl rfl (X.idxIE (k := 5) (k - 1) Try.runUnderlying28 Try.sizeOf3 rfl rfl rfl (by omega) (by first | omega | (simp; omega) | simp)) (by decide) ?_
         refine DW.x rfl rfl (X.loadI (k := 5) (i := (k - 1)) Try.isAgg3 rfl rfl (by first | omega | (simp; omega) | simp)) (by decide) ?_
         refine DW.x rfl rfl (X.field Try.runUnderlying33 rfl Try.sizeOf3 rfl) (by decide) ?_
         refine DW.x rfl rfl (X.loadB (k := 0) Try.isAgg3 rfl rfl rfl) (by decide) ?_
         refine DW.x rfl rfl (X.sub rfl rfl (by omega) (by omega)) (by decide) ?_
         refine DW.tM rfl rfl rfl rfl (T.callcP (Hs := [rowF (vb) 3 (u1), blk b58 4 [.bool (c1 || decide (gt e1 k < (gt e1 ((k - 1)))))]]) (A := [blk b79 33 [.int .i64 ((bt s.Shifts (((gt s.Values (k - 1)).Time)) (((gt s.Values k).Time))).Lo), .int .i64 ((bt s.Shifts (((gt s.Values (k - 1)).Time)) (((gt s.Values k).Time))).Hi)], rowF (va) 3 (Lx74), blk b67 62 [.int .i64 ((gt s.Values k).Time), .int .i64 (((gt s.Values k).Levels).Lo), .int .i64 (((gt s.Values k).Levels).Hi)], rowF (vc) 3 ((List.range s.Values.length).map (mMost s)), blk b13 111 [v1, v3], blk b7 25 [v1, v3]]) Try.call100 rfl rfl ((List.Perm.cons _ ((List.Perm.cons _ (.refl _)).trans (List.perm_middle (l₁ := [blk b79 33 [.int .i64 ((bt s.Shifts (((gt s.Values (k - 1)).Time)) (((gt s.Values k).Time))).Lo), .int .i64 ((bt s.Shifts (((gt s.Values (k - 1)).Time)) (((gt s.Values k).Time))).Hi)], rowF (va) 3 (Lx74)]) (l₂ := [blk b67 62 [.int .i64 ((gt s.Values k).Time), .int .i64 (((gt s.Values k).Levels).Lo), .int .i64 (((gt s.Values k).Levels).Hi)], rowF (vc) 3 ((List.range s.Values.length).map (mMost s)), blk b13 111 [v1, v3], blk b7 25 [v1, v3]]) (a := blk b58 4 [.bool (c1 || decide (gt e1 k < (gt e1 ((k - 1)))))])).symm)).trans (List.perm_middle (l₁ := [blk b79 33 [.int .i64 ((bt s.Shifts (((gt s.Values (k - 1)).Time)) (((gt s.Values k).Time))).Lo), .int .i64 ((bt s.Shifts (((gt s.Values (k - 1)).Time)) (((gt s.Values k).Time))).Hi)], rowF (va) 3 (Lx74), blk b58 4 [.bool (c1 || decide (gt e1 k < (gt e1 ((k - 1)))))], blk b67 62 [.int .i64 ((gt s.Values k).Time), .int .i64 (((gt s.Values k).Levels).Lo), .int .i64 (((gt s.Values k).Levels).Hi)], rowF (vc) 3 ((List.range s.Values.length).map (mMost s))]) (l₂ := [blk b13 111 [v1, v3], blk b7 25 [v1, v3]]) (a := rowF (vb) 3 (u1))).symm) (raise100 _ (i := k) (by omega))) (by decide) (fun m80 _ r81 hle82 hR_ => ?_)
         subst hR_
         replace hs2 := hs2.mono hle82
         replace hs4 := hs4.mono hle82
         replace hs11 := hs11.mono hle82
         replace hp64 := hp64.mono hle82
         replace hp77 := hp77.mono hle82
         replace hp78 := hp78.mono hle82
         have hb83 := mb_u (i := k) (v := ((gt u1 ((k - 1))) - ((bt s.Shifts (((gt s.Values (k - 1)).Time)) (((gt s.Values k).Time))).Hi))) (hb72.up (d := 800000 + ↑k * 4000000 + 2000000) (by omega)) (by omega)
         have hLhb83_ := rz_len u1 k ((gt u1 ((k - 1))) - ((bt s.Shifts (((gt s.Values (k - 1)).Time)) (((gt s.Values k).Time))).Hi))
         replace hri := rinv_u (i := k) (v := ((gt u1 ((k - 1))) - ((bt s.Shifts (((gt s.Values (k - 1)).Time)) (((gt s.Values k).Time))).Hi))) hri (by omega)
         obtain ⟨Lx85, hX86⟩ : ∃ x, x = rz u1 k ((gt u1 ((k - 1))) - ((bt s.Shifts (((gt s.Values (k - 1)).Time)) (((gt s.Values k).Time))).Hi)) := ⟨_, rfl⟩
         rw [← hX86]
         rw [← hX86] at hb83 hLhb83_ hri
         refine DW.nil ?_
         refine WK.nThen ?_
         have qa_ := hb83.be (k) (by omega)
         have qb_ := hb83.bu (k) (by omega)
         have qc_ := hb83.be (k - 1) (by omega)
         have qd_ := hb83.bu (k - 1) (by omega)
         dsimp only at qa_ qb_ qc_ qd_
         have hl1_ := hb83.le
         have hl2_ := hb83.lu
         dsimp only at hl1_ hl2_
         refine WC.draw (π := (.cons 0 (.cons 1 (.cons 2 (.cons 3 (.cons 4 (.cons 5 (.cons 6 (.cons 7 (.cons 8 (.cons 9 (.cons 10 (.cons 11 (.cons 12 .done)))))))))))))) [12] [12] rfl (by kernel_rfl) ?_
         refine DW.x rfl rfl (X.move rfl) (by decide) ?_
         refine DW.x rfl rfl (X.move rfl) (by decide) ?_
         refine DW.x rfl rfl (X.move rfl) (by decide) ?_
         refine DW.x rfl rfl (X.sub rfl rfl (by omega) (by omega)) (by decide) ?_
         refine DW.x rfl rfl (X.idxIE (k := 0) (k - 1) Try.runUnderlying28 Try.sizeOf3 rfl rfl rfl (by omega) (by first | omega | (simp; omega) | simp)) (by decide) ?_
         refine DW.x rfl rfl (X.move rfl) (by decide) ?_
         refine DW.x rfl rfl (X.move rfl) (by decide) ?_
         refine DW.x rfl rfl (X.idxIE (k := 0) k Try.runUnderlying28 Try.sizeOf3 rfl rfl rfl (by omega) (by first | omega | (simp; omega) | simp)) (by decide) ?_
         refine DW.x rfl rfl (X.loadI (k := 0) (i := k) Try.isAgg3 rfl rfl (by first | omega | (simp; omega) | simp)) (by decide) ?_
         refine DW.x rfl rfl (X.field Try.runUnderlying33 rfl Try.sizeOf3 rfl) (by decide) ?_
         refine DW.x rfl rfl (X.loadB (k := 2) Try.isAgg3 rfl rfl rfl) (by decide) ?_
         refine DW.x rfl rfl (X.add rfl rfl (by omega) (by omega)) (by decide) ?_
         refine DW.tM rfl rfl rfl rfl (T.callcP (Hs := [rowF (vb) 3 (Lx85), blk b58 4 [.bool ((c1 || decide (gt e1 k < (gt e1 ((k - 1))))) || decide (gt u1 k < ((gt u1 ((k - 1))) - ((bt s.Shifts (((gt s.Values (k - 1)).Time)) (((gt s.Values k).Time))).Hi))))]]) (A := [blk b79 33 [.int .i64 ((bt s.Shifts (((gt s.Values (k - 1)).Time)) (((gt s.Values k).Time))).Lo), .int .i64 ((bt s.Shifts (((gt s.Values (k - 1)).Time)) (((gt s.Values k).Time))).Hi)], rowF (va) 3 (Lx74), blk b67 62 [.int .i64 ((gt s.Values k).Time), .int .i64 (((gt s.Values k).Levels).Lo), .int .i64 (((gt s.Values k).Levels).Hi)], rowF (vc) 3 ((List.range s.Values.length).map (mMost s)), blk b13 111 [v1, v3], blk b7 25 [v1, v3]]) Try.call100 rfl rfl (.refl _) (raise100 _ (i := ((k - 1))) (by omega))) (by decide) (fun m87 _ r88 hle89 hR_ => ?_)
         subst hR_
         replace hs2 := hs2.mono hle89
         replace hs4 := hs4.mono hle89
         replace hs11 := hs11.mono hle89
         replace hp64 := hp64.mono hle89
         replace hp77 := hp77.mono hle89
         replace hp78 := hp78.mono hle89
         have hb90 := mb_u (i := ((k - 1))) (v := ((gt Lx85 k) + ((bt s.Shifts (((gt s.Values (k - 1)).Time)) (((gt s.Values k).Time))).Lo))) (hb83.up (d := 800000 + ↑k * 4000000 + 3000000) (by omega)) (by omega)
         have hLhb90_ := rz_len Lx85 ((k - 1)) ((gt Lx85 k) + ((bt s.Shifts (((gt s.Values (k - 1)).Time)) (((gt s.Values k).Time))).Lo))
         replace hri := rinv_u (i := ((k - 1))) (v := ((gt Lx85 k) + ((bt s.Shifts (((gt s.Values (k - 1)).Time)) (((gt s.Values k).Time))).Lo))) hri (by omega)
         obtain ⟨Lx92, hX93⟩ : ∃ x, x = rz Lx85 ((k - 1)) ((gt Lx85 k) + ((bt s.Shifts (((gt s.Values (k - 1)).Time)) (((gt s.Values k).Time))).Lo)) := ⟨_, rfl⟩
         rw [← hX93]
         rw [← hX93] at hb90 hLhb90_ hri
         refine DW.nil ?_
         refine WK.nThen ?_
         refine WC.seq ?_
         have hvl_ := hok.vl (i := k) (by omega)
         have qa_ := hb90.be (k) (by omega)
         have qb_ := hb90.bu (k) (by omega)
         have qc_ := hb90.be (k - 1) (by omega)
         have qd_ := hb90.bu (k - 1) (by omega)
         dsimp only at qa_ qb_ qc_ qd_
         have hl1_ := hb90.le
         have hl2_ := hb90.lu
         dsimp only at hl1_ hl2_
         refine WC.draw (π := (.cons 0 (.cons 1 (.cons 2 (.cons 3 (.cons 4 (.cons 5 (.cons 6 (.cons 7 (.cons 8 (.cons 9 (.cons 10 (.cons 11 (.cons 12 .done)))))))))))))) [12] [12] rfl (by kernel_rfl) ?_
         refine DW.x rfl rfl (X.move rfl) (by decide) ?_
         refine DW.x rfl rfl (X.move rfl) (by decide) ?_
         refine DW.x rfl rfl (X.move rfl) (by decide) ?_
         refine DW.x rfl rfl (X.idxIE (k := 3) k Try.runUnderlying28 Try.sizeOf3 rfl rfl rfl (by omega) (by first | omega | (simp; omega) | simp)) (by decide) ?_
         refine DW.x rfl rfl (X.move rfl) (by decide) ?_
         refine DW.x rfl rfl (X.move rfl) (by decide) ?_
         refine DW.x rfl rfl (X.idxIE (k := 0) k Try.runUnderlying28 Try.sizeOf3 rfl rfl rfl (by omega) (by first | omega | (simp; omega) | simp)) (by decide) ?_
         refine DW.x rfl rfl (X.loadI (k := 0) (i := k) Try.isAgg3 rfl rfl (by first | omega | (simp; omega) | simp)) (by decide) ?_
         refine DW.x rfl rfl (X.field Try.runUnderlying62 rfl Try.sizeOf33 rfl) (by decide) ?_
         refine DW.x rfl rfl (X.field Try.runUnderlying33 rfl Try.sizeOf3 rfl) (by decide) ?_
         refine DW.x rfl rfl (X.loadB (k := 4) Try.isAgg3 rfl rfl rfl) (by decide) ?_
         refine DW.x rfl rfl (X.add rfl rfl (by omega) (by omega)) (by decide) ?_
         refine DW.tM rfl rfl rfl rfl (T.callcP (Hs := [rowF (va) 3 (Lx74), blk b58 4 [.bool (((c1 || decide (gt e1 k < (gt e1 ((k - 1))))) || decide (gt u1 k < ((gt u1 ((k - 1))) - ((bt s.Shifts (((gt s.Values (k - 1)).Time)) (((gt s.Values k).Time))).Hi)))) || decide (gt Lx85 ((k - 1)) < ((gt Lx85 k) + ((bt s.Shifts (((gt s.Values (k - 1)).Time)) (((gt s.Values k).Time))).Lo))))]]) (A := [rowF (vb) 3 (Lx92), blk b79 33 [.int .i64 ((bt s.Shifts (((gt s.Values (k - 1)).Time)) (((gt s.Values k).Time))).Lo), .int .i64 ((bt s.Shifts (((gt s.Values (k - 1)).Time)) (((gt s.Values k).Time))).Hi)], blk b67 62 [.int .i64 ((gt s.Values k).Time), .int .i64 (((gt s.Values k).Levels).Lo), .int .i64 (((gt s.Values k).Levels).Hi)], rowF (vc) 3 ((List.range s.Values.length).map (mMost s)), blk b13 111 [v1, v3], blk b7 25 [v1, v3]]) Try.call100 rfl rfl ((List.Perm.cons _ ((List.Perm.cons _ (.refl _)).trans (List.perm_middle (l₁ := [rowF (vb) 3 (Lx92)]) (l₂ := [blk b79 33 [.int .i64 ((bt s.Shifts (((gt s.Values (k - 1)).Time)) (((gt s.Values k).Time))).Lo), .int .i64 ((bt s.Shifts (((gt s.Values (k - 1)).Time)) (((gt s.Values k).Time))).Hi)], blk b67 62 [.int .i64 ((gt s.Values k).Time), .int .i64 (((gt s.Values k).Levels).Lo), .int .i64 (((gt s.Values k).Levels).Hi)], rowF (vc) 3 ((List.range s.Values.length).map (mMost s)), blk b13 111 [v1, v3], blk b7 25 [v1, v3]]) (a := blk b58 4 [.bool (((c1 || decide (gt e1 k < (gt e1 ((k - 1))))) || decide (gt u1 k < ((gt u1 ((k - 1))) - ((bt s.Shifts (((gt s.Values (k - 1)).Time)) (((gt s.Values k).Time))).Hi)))) || decide (gt Lx85 ((k - 1)) < ((gt Lx85 k) + ((bt s.Shifts (((gt s.Values (k - 1)).Time)) (((gt s.Values k).Time))).Lo))))])).symm)).trans (List.perm_middle (l₁ := [rowF (vb) 3 (Lx92), blk b58 4 [.bool (((c1 || decide (gt e1 k < (gt e1 ((k - 1))))) || decide (gt u1 k < ((gt u1 ((k - 1))) - ((bt s.Shifts (((gt s.Values (k - 1)).Time)) (((gt s.Values k).Time))).Hi)))) || decide (gt Lx85 ((k - 1)) < ((gt Lx85 k) + ((bt s.Shifts (((gt s.Values (k - 1)).Time)) (((gt s.Values k).Time))).Lo))))], blk b79 33 [.int .i64 ((bt s.Shifts (((gt s.Values (k - 1)).Time)) (((gt s.Values k).Time))).Lo), .int .i64 ((bt s.Shifts (((gt s.Values (k - 1)).Time)) (((gt s.Values k).Time))).Hi)]]) (l₂ := [blk b67 62 [.int .i64 ((gt s.Values k).Time), .int .i64 (((gt s.Values k).Levels).Lo), .int .i64 (((gt s.Values k).Levels).Hi)], rowF (vc) 3 ((List.range s.Values.length).map (mMost s)), blk b13 111 [v1, v3], blk b7 25 [v1, v3]]) (a := rowF (va) 3 (Lx74))).symm) (raise100 _ (i := k) (by omega))) (by decide) (fun m94 _ r95 hle96 hR_ => ?_)
         subst hR_
         replace hs2 := hs2.mono hle96
         replace hs4 := hs4.mono hle96
         replace hs11 := hs11.mono hle96
         replace hp64 := hp64.mono hle96
         replace hp77 := hp77.mono hle96
         replace hp78 := hp78.mono hle96
         have hb97 := mb_e (i := k) (v := ((gt Lx92 k) + (((gt s.Values k).Levels).Lo))) (hb90.up (d := 800000 + ↑k * 4000000 + 4000000) (by omega)) (by omega)
         have hLhb97_ := rz_len Lx74 k ((gt Lx92 k) + (((gt s.Values k).Levels).Lo))
         replace hri := rinv_e (i := k) (v := ((gt Lx92 k) + (((gt s.Values k).Levels).Lo))) hri (by omega)
         obtain ⟨Lx99, hX100⟩ : ∃ x, x = rz Lx74 k ((gt Lx92 k) + (((gt s.Values k).Levels).Lo)) := ⟨_, rfl⟩
         rw [← hX100]
         rw [← hX100] at hb97 hLhb97_ hri
         refine DW.nil ?_
         refine WK.nThen ?_
         have qa_ := hb97.be (k) (by omega)
         have qb_ := hb97.bu (k) (by omega)
         have qc_ := hb97.be (k - 1) (by omega)
         have qd_ := hb97.bu (k - 1) (by omega)
         dsimp only at qa_ qb_ qc_ qd_
         have hl1_ := hb97.le
         have hl2_ := hb97.lu
         dsimp only at hl1_ hl2_
         refine WC.draw (π := (.cons 0 (.cons 1 (.cons 2 (.cons 3 (.cons 4 (.cons 5 (.cons 6 (.cons 7 (.cons 8 (.cons 9 (.cons 10 (.cons 11 (.cons 12 .done)))))))))))))) [12] [12] rfl (by kernel_rfl) ?_
         refine DW.x rfl rfl (X.move rfl) (by decide) ?_
         refine DW.x rfl rfl (X.move rfl) (by decide) ?_
         refine DW.x rfl rfl (X.move rfl) (by decide) ?_
         refine DW.x rfl rfl (X.idxIE (k := 2) k Try.runUnderlying28 Try.sizeOf3 rfl rfl rfl (by omega) (by first | omega | (simp; omega) | simp)) (by decide) ?_
         refine DW.x rfl rfl (X.move rfl) (by decide) ?_
         refine DW.x rfl rfl (X.move rfl) (by decide) ?_
         refine DW.x rfl rfl (X.idxIE (k := 0) k Try.runUnderlying28 Try.sizeOf3 rfl rfl rfl (by omega) (by first | omega | (simp; omega) | simp)) (by decide) ?_
         refine DW.x rfl rfl (X.loadI (k := 0) (i := k) Try.isAgg3 rfl rfl (by first | omega | (simp; omega) | simp)) (by decide) ?_
         refine DW.x rfl rfl (X.field Try.runUnderlying62 rfl Try.sizeOf33 rfl) (by decide) ?_
         refine DW.x rfl rfl (X.field Try.runUnderlying33 rfl Try.sizeOf3 rfl) (by decide) ?_
         refine DW.x rfl rfl (X.loadB (k := 4) Try.isAgg3 rfl rfl rfl) (by decide) ?_
         refine DW.x rfl rfl (X.sub rfl rfl (by omega) (by omega)) (by decide) ?_
         refine DW.tM rfl rfl rfl rfl (T.callcP (Hs := [rowF (vb) 3 (Lx92), blk b58 4 [.bool ((((c1 || decide (gt e1 k < (gt e1 ((k - 1))))) || decide (gt u1 k < ((gt u1 ((k - 1))) - ((bt s.Shifts (((gt s.Values (k - 1)).Time)) (((gt s.Values k).Time))).Hi)))) || decide (gt Lx85 ((k - 1)) < ((gt Lx85 k) + ((bt s.Shifts (((gt s.Values (k - 1)).Time)) (((gt s.Values k).Time))).Lo)))) || decide (gt Lx74 k < ((gt Lx92 k) + (((gt s.Values k).Levels).Lo))))]]) (A := [rowF (va) 3 (Lx99), blk b79 33 [.int .i64 ((bt s.Shifts (((gt s.Values (k - 1)).Time)) (((gt s.Values k).Time))).Lo), .int .i64 ((bt s.Shifts (((gt s.Values (k - 1)).Time)) (((gt s.Values k).Time))).Hi)], blk b67 62 [.int .i64 ((gt s.Values k).Time), .int .i64 (((gt s.Values k).Levels).Lo), .int .i64 (((gt s.Values k).Levels).Hi)], rowF (vc) 3 ((List.range s.Values.length).map (mMost s)), blk b13 111 [v1, v3], blk b7 25 [v1, v3]]) Try.call100 rfl rfl ((List.Perm.cons _ ((List.Perm.cons _ (.refl _)).trans (List.perm_middle (l₁ := [rowF (va) 3 (Lx99)]) (l₂ := [blk b79 33 [.int .i64 ((bt s.Shifts (((gt s.Values (k - 1)).Time)) (((gt s.Values k).Time))).Lo), .int .i64 ((bt s.Shifts (((gt s.Values (k - 1)).Time)) (((gt s.Values k).Time))).Hi)], blk b67 62 [.int .i64 ((gt s.Values k).Time), .int .i64 (((gt s.Values k).Levels).Lo), .int .i64 (((gt s.Values k).Levels).Hi)], rowF (vc) 3 ((List.range s.Values.length).map (mMost s)), blk b13 111 [v1, v3], blk b7 25 [v1, v3]]) (a := blk b58 4 [.bool ((((c1 || decide (gt e1 k < (gt e1 ((k - 1))))) || decide (gt u1 k < ((gt u1 ((k - 1))) - ((bt s.Shifts (((gt s.Values (k - 1)).Time)) (((gt s.Values k).Time))).Hi)))) || decide (gt Lx85 ((k - 1)) < ((gt Lx85 k) + ((bt s.Shifts (((gt s.Values (k - 1)).Time)) (((gt s.Values k).Time))).Lo)))) || decide (gt Lx74 k < ((gt Lx92 k) + (((gt s.Values k).Levels).Lo))))])).symm)).trans (List.perm_middle (l₁ := [rowF (va) 3 (Lx99), blk b58 4 [.bool ((((c1 || decide (gt e1 k < (gt e1 ((k - 1))))) || decide (gt u1 k < ((gt u1 ((k - 1))) - ((bt s.Shifts (((gt s.Values (k - 1)).Time)) (((gt s.Values k).Time))).Hi)))) || decide (gt Lx85 ((k - 1)) < ((gt Lx85 k) + ((bt s.Shifts (((gt s.Values (k - 1)).Time)) (((gt s.Values k).Time))).Lo)))) || decide (gt Lx74 k < ((gt Lx92 k) + (((gt s.Values k).Levels).Lo))))]]) (l₂ := [blk b79 33 [.int .i64 ((bt s.Shifts (((gt s.Values (k - 1)).Time)) (((gt s.Values k).Time))).Lo), .int .i64 ((bt s.Shifts (((gt s.Values (k - 1)).Time)) (((gt s.Values k).Time))).Hi)], blk b67 62 [.int .i64 ((gt s.Values k).Time), .int .i64 (((gt s.Values k).Levels).Lo), .int .i64 (((gt s.Values k).Levels).Hi)], rowF (vc) 3 ((List.range s.Values.length).map (mMost s)), blk b13 111 [v1, v3], blk b7 25 [v1, v3]]) (a := rowF (vb) 3 (Lx92))).symm) (raise100 _ (i := k) (by omega))) (by decide) (fun m101 _ r102 hle103 hR_ => ?_)
         subst hR_
         replace hs2 := hs2.mono hle103
         replace hs4 := hs4.mono hle103
         replace hs11 := hs11.mono hle103
         replace hp64 := hp64.mono hle103
         replace hp77 := hp77.mono hle103
         replace hp78 := hp78.mono hle103
         have hb104 := mb_u (i := k) (v := ((gt Lx99 k) - (((gt s.Values k).Levels).Hi))) (hb97.up (d := 800000 + ↑k * 4000000 + 5000000) (by omega)) (by omega)
         have hLhb104_ := rz_len Lx92 k ((gt Lx99 k) - (((gt s.Values k).Levels).Hi))
         replace hri := rinv_u (i := k) (v := ((gt Lx99 k) - (((gt s.Values k).Levels).Hi))) hri (by omega)
         obtain ⟨Lx106, hX107⟩ : ∃ x, x = rz Lx92 k ((gt Lx99 k) - (((gt s.Values k).Levels).Hi)) := ⟨_, rfl⟩
         rw [← hX107]
         rw [← hX107] at hb104 hLhb104_ hri
         refine DW.nil ?_
         refine WK.nBlock ?_
         refine WK.nThen ?_
         refine WC.region ?_
         refine WL.x (X.add rfl rfl (by omega) (by omega)) (by decide) ?_
         refine WL.x (X.move rfl) (by decide) ?_
         refine WL.nil ?_
         refine WK.nThen ?_
         refine WK.back hgood2 (Mem.le_trans hle71 (Mem.le_trans hle82 (Mem.le_trans hle89 (Mem.le_trans hle96 hle103)))) ?_
         refine WK.perm [blk b79 33 [.int .i64 ((bt s.Shifts (((gt s.Values (k - 1)).Time)) (((gt s.Values k).Time))).Lo), .int .i64 ((bt s.Shifts (((gt s.Values (k - 1)).Time)) (((gt s.Values k).Time))).Hi)], blk b67 62 [.int .i64 ((gt s.Values k).Time), .int .i64 (((gt s.Values k).Levels).Lo), .int .i64 (((gt s.Values k).Levels).Hi)], blk b58 4 [.bool (((((c1 || decide (gt e1 k < (gt e1 ((k - 1))))) || decide (gt u1 k < ((gt u1 ((k - 1))) - ((bt s.Shifts (((gt s.Values (k - 1)).Time)) (((gt s.Values k).Time))).Hi)))) || decide (gt Lx85 ((k - 1)) < ((gt Lx85 k) + ((bt s.Shifts (((gt s.Values (k - 1)).Time)) (((gt s.Values k).Time))).Lo)))) || decide (gt Lx74 k < ((gt Lx92 k) + (((gt s.Values k).Levels).Lo)))) || decide (gt Lx92 k < ((gt Lx99 k) - (((gt s.Values k).Levels).Hi))))], rowF (vc) 3 ((List.range s.Values.length).map (mMost s)), rowF (vb) 3 (Lx106), rowF (va) 3 (Lx99), blk b13 111 [v1, v3], blk b7 25 [v1, v3]] ((List.Perm.cons _ ((List.Perm.cons _ ((List.Perm.cons _ ((List.Perm.cons _ (.refl _)).trans (List.perm_middle (l₁ := [rowF (vb) 3 (Lx106), rowF (va) 3 (Lx99)]) (l₂ := [blk b13 111 [v1, v3], blk b7 25 [v1, v3]]) (a := rowF (vc) 3 ((List.range s.Values.length).map (mMost s)))).symm)).trans (List.perm_middle (l₁ := [rowF (vb) 3 (Lx106)]) (l₂ := [rowF (va) 3 (Lx99), rowF (vc) 3 ((List.range s.Values.length).map (mMost s)), blk b13 111 [v1, v3], blk b7 25 [v1, v3]]) (a := blk b58 4 [.bool (((((c1 || decide (gt e1 k < (gt e1 ((k - 1))))) || decide (gt u1 k < ((gt u1 ((k - 1))) - ((bt s.Shifts (((gt s.Values (k - 1)).Time)) (((gt s.Values k).Time))).Hi)))) || decide (gt Lx85 ((k - 1)) < ((gt Lx85 k) + ((bt s.Shifts (((gt s.Values (k - 1)).Time)) (((gt s.Values k).Time))).Lo)))) || decide (gt Lx74 k < ((gt Lx92 k) + (((gt s.Values k).Levels).Lo)))) || decide (gt Lx92 k < ((gt Lx99 k) - (((gt s.Values k).Levels).Hi))))])).symm)).trans (List.perm_middle (l₁ := [rowF (vb) 3 (Lx106), blk b58 4 [.bool (((((c1 || decide (gt e1 k < (gt e1 ((k - 1))))) || decide (gt u1 k < ((gt u1 ((k - 1))) - ((bt s.Shifts (((gt s.Values (k - 1)).Time)) (((gt s.Values k).Time))).Hi)))) || decide (gt Lx85 ((k - 1)) < ((gt Lx85 k) + ((bt s.Shifts (((gt s.Values (k - 1)).Time)) (((gt s.Values k).Time))).Lo)))) || decide (gt Lx74 k < ((gt Lx92 k) + (((gt s.Values k).Levels).Lo)))) || decide (gt Lx92 k < ((gt Lx99 k) - (((gt s.Values k).Levels).Hi))))], rowF (va) 3 (Lx99)]) (l₂ := [rowF (vc) 3 ((List.range s.Values.length).map (mMost s)), blk b13 111 [v1, v3], blk b7 25 [v1, v3]]) (a := blk b67 62 [.int .i64 ((gt s.Values k).Time), .int .i64 (((gt s.Values k).Levels).Lo), .int .i64 (((gt s.Values k).Levels).Hi)])).symm)).trans (List.perm_middle (l₁ := [rowF (vb) 3 (Lx106), blk b58 4 [.bool (((((c1 || decide (gt e1 k < (gt e1 ((k - 1))))) || decide (gt u1 k < ((gt u1 ((k - 1))) - ((bt s.Shifts (((gt s.Values (k - 1)).Time)) (((gt s.Values k).Time))).Hi)))) || decide (gt Lx85 ((k - 1)) < ((gt Lx85 k) + ((bt s.Shifts (((gt s.Values (k - 1)).Time)) (((gt s.Values k).Time))).Lo)))) || decide (gt Lx74 k < ((gt Lx92 k) + (((gt s.Values k).Levels).Lo)))) || decide (gt Lx92 k < ((gt Lx99 k) - (((gt s.Values k).Levels).Hi))))], rowF (va) 3 (Lx99)]) (l₂ := [blk b67 62 [.int .i64 ((gt s.Values k).Time), .int .i64 (((gt s.Values k).Levels).Lo), .int .i64 (((gt s.Values k).Levels).Hi)], rowF (vc) 3 ((List.range s.Values.length).map (mMost s)), blk b13 111 [v1, v3], blk b7 25 [v1, v3]]) (a := blk b79 33 [.int .i64 ((bt s.Shifts (((gt s.Values (k - 1)).Time)) (((gt s.Values k).Time))).Lo), .int .i64 ((bt s.Shifts (((gt s.Values (k - 1)).Time)) (((gt s.Values k).Time))).Hi)])).symm) ?_
         refine WK.next ((k + 1, ((((c1 || decide (gt e1 k < (gt e1 ((k - 1))))) || decide (gt u1 k < ((gt u1 ((k - 1))) - ((bt s.Shifts (((gt s.Values (k - 1)).Time)) (((gt s.Values k).Time))).Hi)))) || decide (gt Lx85 ((k - 1)) < ((gt Lx85 k) + ((bt s.Shifts (((gt s.Values (k - 1)).Time)) (((gt s.Values k).Time))).Lo)))) || decide (gt Lx74 k < ((gt Lx92 k) + (((gt s.Values k).Levels).Lo)))) || decide (gt Lx92 k < ((gt Lx99 k) - (((gt s.Values k).Levels).Hi))), Lx99, Lx106)) rfl (.cons _ (.cons _ (.refl _))) (.cons rfl (.cons rfl (.cons rfl (.cons rfl (.cons rfl (.cons rfl (.cons rfl (.cons rfl (.cons rfl (.cons rfl .nil)))))))))) ?_ ?_
         ·subst hX107
          subst hX100
          subst hX93
          subst hX86
          subst hX75
          refine ⟨by omega, ?_, hri⟩
          rw [mPass, ← hp]
          unfold mStep
          (first | simp only [if_pos (show 0 < k by omega)] | simp only [if_neg (show ¬ 0 < k by omega)])
         ·(dsimp only; omega)
        ·refine WL.nil ?_
         refine WK.nThen ?_
         refine WC.condF rfl ?_
         refine WC.skip ?_
         refine WK.nThen ?_
         refine WC.seq ?_
         have hvl_ := hok.vl (i := k) (by omega)
         have hb0 : MB s (e1, u1) (800000 + ↑k * 4000000) := (by rw [hp]; exact mb_pass hok hst.1 k (by omega))
         have qa_ := hb0.be (k) (by omega)
         have qb_ := hb0.bu (k) (by omega)
         have qc_ := hb0.be (k - 1) (by omega)
         have qd_ := hb0.bu (k - 1) (by omega)
         dsimp only at qa_ qb_ qc_ qd_
         have hl1_ := hb0.le
         have hl2_ := hb0.lu
         dsimp only at hl1_ hl2_
         refine WC.draw (π := (.cons 0 (.cons 1 (.cons 2 (.cons 3 (.cons 4 (.cons 5 (.cons 6 (.cons 7 (.cons 8 (.cons 9 (.cons 10 (.cons 11 (.cons 12 .done)))))))))))))) [12] [12] rfl (by kernel_rfl) ?_
         refine DW.x rfl rfl (X.move rfl) (by decide) ?_
         refine DW.x rfl rfl (X.move rfl) (by decide) ?_
         refine DW.x rfl rfl (X.move rfl) (by decide) ?_
         refine DW.x rfl rfl (X.idxIE (k := 4) k Try.runUnderlying28 Try.sizeOf3 rfl rfl rfl (by omega) (by first | omega | (simp; omega) | simp)) (by decide) ?_
         refine DW.x rfl rfl (X.move rfl) (by decide) ?_
         refine DW.x rfl rfl (X.move rfl) (by decide) ?_
         refine DW.x rfl rfl (X.idxIE (k := 3) k Try.runUnderlying28 Try.sizeOf3 rfl rfl rfl (by omega) (by first | omega | (simp; omega) | simp)) (by decide) ?_
         refine DW.x rfl rfl (X.loadI (k := 3) (i := k) Try.isAgg3 rfl rfl (by first | omega | (simp; omega) | simp)) (by decide) ?_
         refine DW.x rfl rfl (X.field Try.runUnderlying62 rfl Try.sizeOf33 rfl) (by decide) ?_
         refine DW.x rfl rfl (X.field Try.runUnderlying33 rfl Try.sizeOf3 rfl) (by decide) ?_
         refine DW.x rfl rfl (X.loadB (k := 0) Try.isAgg3 rfl rfl rfl) (by decide) ?_
         refine DW.x rfl rfl (X.add rfl rfl (by omega) (by omega)) (by decide) ?_
         refine DW.tM rfl rfl rfl rfl (T.callcP (Hs := [rowF (va) 3 (e1), blk b58 4 [.bool (c1)]]) (A := [blk b67 62 [.int .i64 ((gt s.Values k).Time), .int .i64 (((gt s.Values k).Levels).Lo), .int .i64 (((gt s.Values k).Levels).Hi)], rowF (vc) 3 ((List.range s.Values.length).map (mMost s)), rowF (vb) 3 (u1), blk b13 111 [v1, v3], blk b7 25 [v1, v3]]) Try.call100 rfl rfl ((List.Perm.cons _ ((List.Perm.cons _ (.refl _)).trans (List.perm_middle (l₁ := [blk b67 62 [.int .i64 ((gt s.Values k).Time), .int .i64 (((gt s.Values k).Levels).Lo), .int .i64 (((gt s.Values k).Levels).Hi)]]) (l₂ := [rowF (vc) 3 ((List.range s.Values.length).map (mMost s)), rowF (vb) 3 (u1), blk b13 111 [v1, v3], blk b7 25 [v1, v3]]) (a := blk b58 4 [.bool (c1)])).symm)).trans (List.perm_middle (l₁ := [blk b67 62 [.int .i64 ((gt s.Values k).Time), .int .i64 (((gt s.Values k).Levels).Lo), .int .i64 (((gt s.Values k).Levels).Hi)], blk b58 4 [.bool (c1)], rowF (vc) 3 ((List.range s.Values.length).map (mMost s)), rowF (vb) 3 (u1)]) (l₂ := [blk b13 111 [v1, v3], blk b7 25 [v1, v3]]) (a := rowF (va) 3 (e1))).symm) (raise100 _ (i := k) (by omega))) (by decide) (fun m108 _ r109 hle110 hR_ => ?_)
         subst hR_
         replace hs2 := hs2.mono hle110
         replace hs4 := hs4.mono hle110
         replace hs11 := hs11.mono hle110
         replace hp64 := hp64.mono hle110
         have hb111 := mb_e (i := k) (v := ((gt u1 k) + (((gt s.Values k).Levels).Lo))) (hb0.up (d := 800000 + ↑k * 4000000 + 1000000) (by omega)) (by omega)
         have hLhb111_ := rz_len e1 k ((gt u1 k) + (((gt s.Values k).Levels).Lo))
         replace hri := rinv_e (i := k) (v := ((gt u1 k) + (((gt s.Values k).Levels).Lo))) hri (by omega)
         obtain ⟨Lx113, hX114⟩ : ∃ x, x = rz e1 k ((gt u1 k) + (((gt s.Values k).Levels).Lo)) := ⟨_, rfl⟩
         rw [← hX114]
         rw [← hX114] at hb111 hLhb111_ hri
         refine DW.nil ?_
         refine WK.nThen ?_
         have qa_ := hb111.be (k) (by omega)
         have qb_ := hb111.bu (k) (by omega)
         have qc_ := hb111.be (k - 1) (by omega)
         have qd_ := hb111.bu (k - 1) (by omega)
         dsimp only at qa_ qb_ qc_ qd_
         have hl1_ := hb111.le
         have hl2_ := hb111.lu
         dsimp only at hl1_ hl2_
         refine WC.draw (π := (.cons 0 (.cons 1 (.cons 2 (.cons 3 (.cons 4 (.cons 5 (.cons 6 (.cons 7 (.cons 8 (.cons 9 (.cons 10 (.cons 11 (.cons 12 .done)))))))))))))) [12] [12] rfl (by kernel_rfl) ?_
         refine DW.x rfl rfl (X.move rfl) (by decide) ?_
         refine DW.x rfl rfl (X.move rfl) (by decide) ?_
         refine DW.x rfl rfl (X.move rfl) (by decide) ?_
         refine DW.x rfl rfl (X.idxIE (k := 4) k Try.runUnderlying28 Try.sizeOf3 rfl rfl rfl (by omega) (by first | omega | (simp; omega) | simp)) (by decide) ?_
         refine DW.x rfl rfl (X.move rfl) (by decide) ?_
         refine DW.x rfl rfl (X.move rfl) (by decide) ?_
         refine DW.x rfl rfl (X.idxIE (k := 0) k Try.runUnderlying28 Try.sizeOf3 rfl rfl rfl (by omega) (by first | omega | (simp; omega) | simp)) (by decide) ?_
         refine DW.x rfl rfl (X.loadI (k := 0) (i := k) Try.isAgg3 rfl rfl (by first | omega | (simp; omega) | simp)) (by decide) ?_
         refine DW.x rfl rfl (X.field Try.runUnderlying62 rfl Try.sizeOf33 rfl) (by decide) ?_
         refine DW.x rfl rfl (X.field Try.runUnderlying33 rfl Try.sizeOf3 rfl) (by decide) ?_
         refine DW.x rfl rfl (X.loadB (k := 2) Try.isAgg3 rfl rfl rfl) (by decide) ?_
         refine DW.x rfl rfl (X.sub rfl rfl (by omega) (by omega)) (by decide) ?_
         refine DW.tM rfl rfl rfl rfl (T.callcP (Hs := [rowF (vb) 3 (u1), blk b58 4 [.bool (c1 || decide (gt e1 k < ((gt u1 k) + (((gt s.Values k).Levels).Lo))))]]) (A := [rowF (va) 3 (Lx113), blk b67 62 [.int .i64 ((gt s.Values k).Time), .int .i64 (((gt s.Values k).Levels).Lo), .int .i64 (((gt s.Values k).Levels).Hi)], rowF (vc) 3 ((List.range s.Values.length).map (mMost s)), blk b13 111 [v1, v3], blk b7 25 [v1, v3]]) Try.call100 rfl rfl ((List.Perm.cons _ ((List.Perm.cons _ (.refl _)).trans (List.perm_middle (l₁ := [rowF (va) 3 (Lx113)]) (l₂ := [blk b67 62 [.int .i64 ((gt s.Values k).Time), .int .i64 (((gt s.Values k).Levels).Lo), .int .i64 (((gt s.Values k).Levels).Hi)], rowF (vc) 3 ((List.range s.Values.length).map (mMost s)), blk b13 111 [v1, v3], blk b7 25 [v1, v3]]) (a := blk b58 4 [.bool (c1 || decide (gt e1 k < ((gt u1 k) + (((gt s.Values k).Levels).Lo))))])).symm)).trans (List.perm_middle (l₁ := [rowF (va) 3 (Lx113), blk b58 4 [.bool (c1 || decide (gt e1 k < ((gt u1 k) + (((gt s.Values k).Levels).Lo))))], blk b67 62 [.int .i64 ((gt s.Values k).Time), .int .i64 (((gt s.Values k).Levels).Lo), .int .i64 (((gt s.Values k).Levels).Hi)], rowF (vc) 3 ((List.range s.Values.length).map (mMost s))]) (l₂ := [blk b13 111 [v1, v3], blk b7 25 [v1, v3]]) (a := rowF (vb) 3 (u1))).symm) (raise100 _ (i := k) (by omega))) (by decide) (fun m115 _ r116 hle117 hR_ => ?_)
         subst hR_
         replace hs2 := hs2.mono hle117
         replace hs4 := hs4.mono hle117
         replace hs11 := hs11.mono hle117
         replace hp64 := hp64.mono hle117
         have hb118 := mb_u (i := k) (v := ((gt Lx113 k) - (((gt s.Values k).Levels).Hi))) (hb111.up (d := 800000 + ↑k * 4000000 + 2000000) (by omega)) (by omega)
         have hLhb118_ := rz_len u1 k ((gt Lx113 k) - (((gt s.Values k).Levels).Hi))
         replace hri := rinv_u (i := k) (v := ((gt Lx113 k) - (((gt s.Values k).Levels).Hi))) hri (by omega)
         obtain ⟨Lx120, hX121⟩ : ∃ x, x = rz u1 k ((gt Lx113 k) - (((gt s.Values k).Levels).Hi)) := ⟨_, rfl⟩
         rw [← hX121]
         rw [← hX121] at hb118 hLhb118_ hri
         refine DW.nil ?_
         refine WK.nBlock ?_
         refine WK.nThen ?_
         refine WC.region ?_
         refine WL.x (X.add rfl rfl (by omega) (by omega)) (by decide) ?_
         refine WL.x (X.move rfl) (by decide) ?_
         refine WL.nil ?_
         refine WK.nThen ?_
         refine WK.back hgood2 (Mem.le_trans hle110 hle117) ?_
         refine WK.perm [blk b67 62 [.int .i64 ((gt s.Values k).Time), .int .i64 (((gt s.Values k).Levels).Lo), .int .i64 (((gt s.Values k).Levels).Hi)], blk b58 4 [.bool ((c1 || decide (gt e1 k < ((gt u1 k) + (((gt s.Values k).Levels).Lo)))) || decide (gt u1 k < ((gt Lx113 k) - (((gt s.Values k).Levels).Hi))))], rowF (vc) 3 ((List.range s.Values.length).map (mMost s)), rowF (vb) 3 (Lx120), rowF (va) 3 (Lx113), blk b13 111 [v1, v3], blk b7 25 [v1, v3]] ((List.Perm.cons _ ((List.Perm.cons _ ((List.Perm.cons _ (.refl _)).trans (List.perm_middle (l₁ := [rowF (vb) 3 (Lx120), rowF (va) 3 (Lx113)]) (l₂ := [blk b13 111 [v1, v3], blk b7 25 [v1, v3]]) (a := rowF (vc) 3 ((List.range s.Values.length).map (mMost s)))).symm)).trans (List.perm_middle (l₁ := [rowF (vb) 3 (Lx120)]) (l₂ := [rowF (va) 3 (Lx113), rowF (vc) 3 ((List.range s.Values.length).map (mMost s)), blk b13 111 [v1, v3], blk b7 25 [v1, v3]]) (a := blk b58 4 [.bool ((c1 || decide (gt e1 k < ((gt u1 k) + (((gt s.Values k).Levels).Lo)))) || decide (gt u1 k < ((gt Lx113 k) - (((gt s.Values k).Levels).Hi))))])).symm)).trans (List.perm_middle (l₁ := [rowF (vb) 3 (Lx120), blk b58 4 [.bool ((c1 || decide (gt e1 k < ((gt u1 k) + (((gt s.Values k).Levels).Lo)))) || decide (gt u1 k < ((gt Lx113 k) - (((gt s.Values k).Levels).Hi))))], rowF (va) 3 (Lx113)]) (l₂ := [rowF (vc) 3 ((List.range s.Values.length).map (mMost s)), blk b13 111 [v1, v3], blk b7 25 [v1, v3]]) (a := blk b67 62 [.int .i64 ((gt s.Values k).Time), .int .i64 (((gt s.Values k).Levels).Lo), .int .i64 (((gt s.Values k).Levels).Hi)])).symm) ?_
         refine WK.next ((k + 1, (c1 || decide (gt e1 k < ((gt u1 k) + (((gt s.Values k).Levels).Lo)))) || decide (gt u1 k < ((gt Lx113 k) - (((gt s.Values k).Levels).Hi))), Lx113, Lx120)) rfl (.cons _ (.refl _)) (.cons rfl (.cons rfl (.cons rfl (.cons rfl (.cons rfl (.cons rfl (.cons rfl (.cons rfl (.cons rfl (.cons rfl .nil)))))))))) ?_ ?_
         ·subst hX121
          subst hX114
          refine ⟨by omega, ?_, hri⟩
          rw [mPass, ← hp]
          unfold mStep
          (first | simp only [if_pos (show 0 < k by omega)] | simp only [if_neg (show ¬ 0 < k by omega)])
         ·(dsimp only; omega)
       ·refine WL.nil ?_
        refine WK.nThen ?_
        refine WC.seq ?_
        refine WC.condF rfl ?_
        refine WC.exit ?_
        refine WK.eThen ?_
        refine WK.eThen ?_
        refine WK.eHit ?_
        refine WK.nThen ?_
        refine WC.seq ?_
        refine WC.region ?_
        refine WL.x (X.move rfl) (by decide) ?_
        refine WL.x (X.move rfl) (by decide) ?_
        refine WL.nil ?_
        refine WK.nThen ?_
        refine WC.block ?_
        refine WC.loop (G := Nat) (fun i => s.Values.length - i) (fun i => m8) (fun i => [blk b58 4 [.bool (c1)], rowF (vc) 3 ((List.range s.Values.length).map (mMost s)), rowF (vb) 3 (u1), rowF (va) 3 (e1), blk b13 111 [v1, v3], blk b7 25 [v1, v3]]) (fun i => [(5, .pointer (some ⟨b13, 0, none⟩)), (6, .int .i64 (↑s.Values.length)), (7, va), (8, vb), (9, vc), (13, .pointer (some ⟨b58, 0, none⟩)), (14, .func (.func 100) #[] [.pointer (some ⟨b58, 0, none⟩)].toArray), (153, .int .i64 (↑s.Values.length)), (154, .int .i64 (↑i))]) (fun i => i ≤ s.Values.length ∧ (∀ j, j < i → gt u1 j ≤ mMost s j)) 0 rfl (.refl _) (.cons rfl (.cons rfl (.cons rfl (.cons rfl (.cons rfl (.cons rfl (.cons rfl (.cons rfl (.cons rfl .nil))))))))) ?_ ?_
        ·exact ⟨Nat.zero_le _, fun j hj => absurd hj (Nat.not_lt_zero _)⟩
        ·rintro i hF122
         show WK _ _ m8 [blk b58 4 [.bool (c1)], rowF (vc) 3 ((List.range s.Values.length).map (mMost s)), rowF (vb) 3 (u1), rowF (va) 3 (e1), blk b13 111 [v1, v3], blk b7 25 [v1, v3]] [(5, .pointer (some ⟨b13, 0, none⟩)), (6, .int .i64 (↑s.Values.length)), (7, va), (8, vb), (9, vc), (13, .pointer (some ⟨b58, 0, none⟩)), (14, .func (.func 100) #[] [.pointer (some ⟨b58, 0, none⟩)].toArray), (153, .int .i64 (↑s.Values.length)), (154, .int .i64 (↑i))] _
         replace hF122 : i ≤ s.Values.length ∧ (∀ j, j < i → gt u1 j ≤ mMost s j) := hF122
         obtain ⟨hi, hall⟩ := hF122
         refine WC.seq ?_
         have hb9 := mb_pass hok hst.1 k (by omega)
         rw [← hp] at hb9
         have hl9 := hb9.lu
         dsimp only at hl9
         refine WC.region ?_
         refine WL.cond (X.lss rfl rfl) (by decide) (fun h123 => ?_) (fun h123 => ?_)
         ·refine WL.nil ?_
          refine WK.nThen ?_
          refine WC.seq ?_
          refine WC.condT rfl ?_
          refine WC.skip ?_
          refine WK.nThen ?_
          refine WC.seq ?_
          refine WC.block ?_
          refine WC.seq ?_
          refine WC.region ?_
          refine WL.x (X.move rfl) (by decide) ?_
          refine WL.x (X.assign rfl) (by decide) ?_
          refine WL.nil ?_
          refine WK.nThen ?_
          refine WC.seq ?_
          have hgm := gt_map (f := mMost s) (n := s.Values.length) (i := i) (by omega)
          refine WC.draw (π := (.cons 0 (.cons 1 (.cons 2 (.cons 3 (.cons 4 (.cons 5 (.cons 6 (.cons 7 (.cons 8 .done)))))))))) [] [] rfl (by kernel_rfl) ?_
          refine DW.x rfl rfl (X.move rfl) (by decide) ?_
          refine DW.x rfl rfl (X.move rfl) (by decide) ?_
          refine DW.x rfl rfl (X.idxIE (k := 2) i Try.runUnderlying28 Try.sizeOf3 rfl rfl rfl (by omega) (by first | omega | (simp; omega) | simp)) (by decide) ?_
          refine DW.x rfl rfl (X.loadI (k := 2) (i := i) Try.isAgg3 rfl rfl (by first | omega | (simp; omega) | simp)) (by decide) ?_
          refine DW.x rfl rfl (X.move rfl) (by decide) ?_
          refine DW.x rfl rfl (X.move rfl) (by decide) ?_
          refine DW.x rfl rfl (X.idxIE (k := 1) i Try.runUnderlying28 Try.sizeOf3 rfl rfl rfl (by omega) (by first | omega | (simp; omega) | simp)) (by decide) ?_
          refine DW.x rfl rfl (X.loadI (k := 1) (i := i) Try.isAgg3 rfl rfl (by first | omega | (simp; omega) | simp)) (by decide) ?_
          refine DW.cond rfl rfl (X.gtr rfl rfl) (by decide) (fun h124 => ?_) (fun h124 => ?_)
          ·refine DW.nil ?_
           refine WK.nThen ?_
           refine WC.condT rfl ?_
           refine WC.seq ?_
           refine WC.region ?_
           refine WL.x (X.assign rfl) (by decide) ?_
           refine WL.x (X.assign rfl) (by decide) ?_
           refine WL.nil ?_
           refine WK.nThen ?_
           refine WC.ret ?_
           refine WK.rBlock ?_
           refine WK.rThen ?_
           refine WK.rThen ?_
           refine WK.rBlock ?_
           refine WK.rBlock ?_
           refine WK.rThen ?_
           refine WK.rBlock ?_
           refine WK.rThen ?_
           refine WK.ret2 rfl rfl rfl (fun w' hw' => Ret.mem hw' ?_)
           have hkn : k = s.Values.length := (by omega)
           have hpp : mPass s s.Values.length (e, u) = (e1, u1) := (by rw [← hkn]; exact hp.symm)
           have hst_ : MInv s true (e, u) F := (by have hc_ := ‹c = true›; rw [hc_] at hst; exact hst)
           have hme := minv_over hok hst_ (by rw [hpp]; exact ⟨i, by omega, by dsimp only; omega⟩)
           exact ⟨_, tup2 rfl (int_eq (by rw [hme])), by rw [hme]; exact .nil⟩
          ·refine DW.nil ?_
           refine WK.nThen ?_
           refine WC.condF rfl ?_
           refine WC.skip ?_
           refine WK.nBlock ?_
           refine WK.nThen ?_
           refine WC.region ?_
           refine WL.x (X.add rfl rfl (by omega) (by omega)) (by decide) ?_
           refine WL.x (X.move rfl) (by decide) ?_
           refine WL.nil ?_
           refine WK.nThen ?_
           refine WK.next (i + 1) rfl (.refl _) (.cons rfl (.cons rfl (.cons rfl (.cons rfl (.cons rfl (.cons rfl (.cons rfl (.cons rfl (.cons rfl .nil))))))))) ?_ ?_
           ·exact ⟨by omega, fun j hj => by rcases Nat.lt_succ_iff_lt_or_eq.1 hj with h | h; exact hall j h; subst h; omega⟩
           ·omega
         ·refine WL.nil ?_
          refine WK.nThen ?_
          refine WC.seq ?_
          refine WC.condF rfl ?_
          refine WC.exit ?_
          refine WK.eThen ?_
          refine WK.eThen ?_
          refine WK.eHit ?_
          refine WK.nBlock ?_
          refine WK.nThen ?_
          have hkn : k = s.Values.length := (by omega)
          have hpp : mPass s s.Values.length (e, u) = (e1, u1) := (by rw [← hkn]; exact hp.symm)
          have hst_ : MInv s true (e, u) F := (by have hc_ := ‹c = true›; rw [hc_] at hst; exact hst)
          have hno : ¬ mOver s (mPass s s.Values.length (e, u)).2 := (by rw [hpp]; rintro ⟨j, hj, hov⟩; have hq := hall j (by omega); dsimp only at hov; omega)
          have hfin := minv_next hok hst_ hno (by rw [hpp]; exact hri)
          rw [hpp] at hfin
          refine WK.next ((c1, e1, u1, F - 1)) rfl (.refl _) (.cons rfl (.cons rfl (.cons rfl (.cons rfl (.cons rfl (.cons rfl (.cons rfl .nil))))))) ?_ ?_
          ·exact hfin
          ·(dsimp only; have hc_ := ‹c = true›; rw [hc_]; have h8 := mu_le hok hst.1; cases c1 with | false => simp | true => have h9 := hri.1 rfl; have h10 := mu_le hok hfin.1; simp only [cond]; omega)
     ·refine WL.nil ?_
      refine WK.nThen ?_
      refine WC.condF rfl ?_
      refine WC.exit ?_
      refine WK.eThen ?_
      refine WK.eThen ?_
      refine WK.eHit ?_
      refine WK.nThen ?_
      refine WC.seq ?_
      have hbl := hst.1.le
      dsimp only at hbl
      refine WC.region ?_
      refine WL.x (X.move rfl) (by decide) ?_
      refine WL.x (X.assign rfl) (by decide) ?_
      refine WL.x (X.assign rfl) (by decide) ?_
      refine WL.nil ?_
      refine WK.nThen ?_
      refine WC.ret ?_
      refine WK.freezeF 3 rfl rfl (by simp [lenB]; omega) (fun m125 hle126 hs127 => ?_)
      replace hs2 := hs2.mono hle126
      replace hs4 := hs4.mono hle126
      replace hs11 := hs11.mono hle126
      refine WK.ret2 rfl rfl rfl (fun w' hw' => Ret.mem hw' ?_)
      have hst_ : MInv s false (e, u) F := (by have hc_ := ‹c = false›; rw [hc_] at hst; exact hst)
      have hme := minv_end hok hst_
      exact ⟨_, tup2 rfl (int_eq (by rw [hme])), by rw [hme]; exact hs127⟩

end Go.Proofs.C8
