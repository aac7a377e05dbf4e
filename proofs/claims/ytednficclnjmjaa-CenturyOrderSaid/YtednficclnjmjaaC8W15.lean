import Derived.Test.YtednficclnjmjaaC8Ref7
import Derived.Test.YtednficclnjmjaaC8W14
/- Century: walks, fifteenth part, by program. -/
namespace Go.Proofs.C8
open Go Go.Kx
set_option linter.unusedSimpArgs false

theorem clone114 (m : Mem) {v : Value} {L : List Val} (hL : Sl m v L) (hn : L.length ≤ 1000) : Mut Try.prog 114 #[v] m [] (fun _ Es u => Es = [rowF u 62 L] ∧ u.oneCell' = true) := by
 refine Mut.start Try.func114 rfl Try.ntmps114 rfl fun wld => ?_
 refine WC.seq ?_
 refine WC.region ?_
 refine WL.x (X.assign rfl) (by decide) ?_
 refine WL.nil ?_
 refine WK.nThen ?_
 refine WC.seq ?_
 refine WC.seq ?_
 refine WC.region ?_
 refine WL.x (X.move rfl) (by decide) ?_
 refine WL.condb (X.eqlNil Try.underlying22 rfl rfl hL) (by decide) (fun h1 => ?_) (fun h1 => ?_)
 ·refine WL.nil ?_
  refine WK.nThen ?_
  refine WC.condT rfl ?_
  refine WC.seq ?_
  obtain rfl := hL.nil_of (by assumption)
  refine WK.ownF Val 62 ?_
  refine WC.region ?_
  refine WL.x (X.assign rfl) (by decide) ?_
  refine WL.nil ?_
  refine WK.nThen ?_
  refine WC.ret ?_
  refine WK.rThen ?_
  refine WK.ret1 rfl rfl (fun w' hw' => Ret.mut hw' ?_)
  first | exact ⟨rfl, rfl⟩ | exact ⟨rfl, ho_⟩
 ·refine WL.nil ?_
  refine WK.nThen ?_
  refine WC.condF rfl ?_
  refine WC.skip ?_
  refine WK.nThen ?_
  refine WC.seq ?_
  refine WC.region ?_
  refine WL.ta (T.lit0 (α := Val) sl22 rfl) (by decide) (fun v2 => ?_)
  refine WL.x (X.move rfl) (by decide) ?_
  refine WL.ta (T.appendFl (α := Val) (fun _ _ _ h => h) (k := 0) sl22 rfl rfl hL rfl (by first | omega | (simp; omega)) (by first | omega | (simp; omega))) (by decide) (fun v3 => ?_)
  refine WL.own1 (k := 0) rfl (fun ho_ => ?_)
  refine WL.x (X.assign rfl) (by decide) ?_
  refine WL.nil ?_
  refine WK.nThen ?_
  refine WC.ret ?_
  refine WK.ret1 rfl rfl (fun w' hw' => Ret.mut hw' ?_)
  first | exact ⟨rfl, rfl⟩ | exact ⟨rfl, ho_⟩

theorem clone115 (m : Mem) {v : Value} {L : List Shf} (hL : Sl m v L) (hn : L.length ≤ 1000) : Mut Try.prog 115 #[v] m [] (fun _ Es u => Es = [rowF u 72 L] ∧ u.oneCell' = true) := by
 refine Mut.start Try.func115 rfl Try.ntmps115 rfl fun wld => ?_
 refine WC.seq ?_
 refine WC.region ?_
 refine WL.x (X.assign rfl) (by decide) ?_
 refine WL.nil ?_
 refine WK.nThen ?_
 refine WC.seq ?_
 refine WC.seq ?_
 refine WC.region ?_
 refine WL.x (X.move rfl) (by decide) ?_
 refine WL.condb (X.eqlNil Try.underlying23 rfl rfl hL) (by decide) (fun h1 => ?_) (fun h1 => ?_)
 ·refine WL.nil ?_
  refine WK.nThen ?_
  refine WC.condT rfl ?_
  refine WC.seq ?_
  obtain rfl := hL.nil_of (by assumption)
  refine WK.ownF Shf 72 ?_
  refine WC.region ?_
  refine WL.x (X.assign rfl) (by decide) ?_
  refine WL.nil ?_
  refine WK.nThen ?_
  refine WC.ret ?_
  refine WK.rThen ?_
  refine WK.ret1 rfl rfl (fun w' hw' => Ret.mut hw' ?_)
  first | exact ⟨rfl, rfl⟩ | exact ⟨rfl, ho_⟩
 ·refine WL.nil ?_
  refine WK.nThen ?_
  refine WC.condF rfl ?_
  refine WC.skip ?_
  refine WK.nThen ?_
  refine WC.seq ?_
  refine WC.region ?_
  refine WL.ta (T.lit0 (α := Shf) sl23 rfl) (by decide) (fun v2 => ?_)
  refine WL.x (X.move rfl) (by decide) ?_
  refine WL.ta (T.appendFl (α := Shf) (fun _ _ _ h => h) (k := 0) sl23 rfl rfl hL rfl (by first | omega | (simp; omega)) (by first | omega | (simp; omega))) (by decide) (fun v3 => ?_)
  refine WL.own1 (k := 0) rfl (fun ho_ => ?_)
  refine WL.x (X.assign rfl) (by decide) ?_
  refine WL.nil ?_
  refine WK.nThen ?_
  refine WC.ret ?_
  refine WK.ret1 rfl rfl (fun w' hw' => Ret.mut hw' ?_)
  first | exact ⟨rfl, rfl⟩ | exact ⟨rfl, ho_⟩

set_option maxRecDepth 20000 in
set_option maxHeartbeats 400000 in
theorem narrow55 (m : Mem) (cs : List Value) (s : Ser) (hs : Enc.rd m cs s) (time : Int) (cx : List Value) (x : Span) (hx : Enc.rd m cx x)   : Pure Try.prog 55 #[.agg cs.toArray, .int .i64 (time), .agg cx.toArray] m (fun m' v => ∃ r0, v = .tuple #[.agg r0.toArray, .int .i64 ((narR s time x).2)] ∧ Enc.rd m' r0 ((narR s time x).1)) := by
 obtain ⟨v1, v3, rfl, hs2, hs4⟩ := hs
 have hl5 := hs2.le
 have hl6 := hs4.le
 obtain rfl := hx
 refine Pure.start Try.func55 rfl Try.ntmps55 rfl fun wld => ?_
 refine WC.seq ?_
 refine WC.region ?_
 refine WL.tn (T.boxB rfl rfl) (by decide) fun b7 => ?_
 refine WL.tn (T.boxB rfl rfl) (by decide) fun b8 => ?_
 refine WL.tn (T.alloc Try.zeroValue25 rfl) (by decide) fun b9 => ?_
 refine WL.x (X.assign rfl) (by decide) ?_
 refine WL.nil ?_
 refine WK.nThen ?_
 refine WC.seq ?_
 refine WC.seq ?_
 refine WC.region ?_
 refine WL.x (X.loadBA (k := 2) Try.isAgg25 Try.sizeOf25 rfl rfl rfl) (by decide) ?_
 refine WL.tm (T.litM (α := Ser) (vals := [.agg [v1, v3].toArray]) (L := [s]) sl179 rfl (.cons rfl ⟨_, _, rfl, hs2, hs4⟩ .nil) rfl rfl) (by decide) (fun m10 v11 hle12 hs13 => ?_)
 replace hs2 := hs2.mono hle12
 replace hs4 := hs4.mono hle12
 refine WL.x (X.call Try.call81 rfl (checked81_1 _ _ hs13)) (by decide) ?_
 refine WL.x (X.assign rfl) (by decide) ?_
 refine WL.nil ?_
 refine WK.nThen ?_
 refine WC.seq ?_
 refine WC.region ?_
 refine WL.x (X.move rfl) (by decide) ?_
 refine WL.condn (X.neq rfl rfl) (by decide) (fun h14 => ?_) (fun h14 => ?_)
 ·refine WL.nil ?_
  refine WK.nThen ?_
  refine WC.condT rfl ?_
  refine WC.seq ?_
  refine WC.region ?_
  refine WL.x (V := Value.agg [.slice none 0 0, .slice none 0 0].toArray) (X.build Try.zeroValue25 Try.runUnderlying25 (places25 _ Try.underlying25) rfl rfl) (by decide) ?_
  refine WL.x (X.move rfl) (by decide) ?_
  refine WL.ts (T.storeBA (k := 0) Try.sizeOf25 rfl rfl rfl (one_cons rfl (one_cons rfl one_nil)) rfl rfl) ?_
  refine WL.x (X.assign rfl) (by decide) ?_
  refine WL.nil ?_
  refine WK.nThen ?_
  refine WC.ret ?_
  refine WK.rThen ?_
  refine WK.retC2 0 rfl rfl rfl rfl Try.isAgg25 Try.sizeOf25 (fun w' hw' => Ret.mem hw' ?_)
  first | exact ⟨_, tup2 rfl (int_eq (by rw [narR_err (by omega)])), by rw [narR_err (by omega)]; exact ⟨_, _, rfl, .nil, .nil⟩⟩ | exact ⟨_, tup2 rfl (int_eq (by rw [narR_a (by omega) (by omega)])), by rw [narR_a (by omega) (by omega)]; exact ⟨_, _, rfl, .nil, .nil⟩⟩ | exact ⟨_, tup2 rfl (int_eq (by rw [narR_b (by omega) (by omega) (by unfold meetS; dsimp only; omega)])), by rw [narR_b (by omega) (by omega) (by unfold meetS; dsimp only; omega)]; exact ⟨_, _, rfl, .nil, .nil⟩⟩ | exact ⟨_, tup2 rfl (int_eq (by rw [narR_c (by omega) (by omega) (by unfold meetS; dsimp only; omega)])), by rw [narR_c (by omega) (by omega) (by unfold meetS; dsimp only; omega)]; exact ⟨_, _, rfl, .nil, .nil⟩⟩
 ·refine WL.nil ?_
  refine WK.nThen ?_
  refine WC.condF rfl ?_
  refine WC.skip ?_
  refine WK.nThen ?_
  refine WC.seq ?_
  have hok := Ok.of (s := s) (by omega)
  have hnV := hok.nV
  have hnX := hok.nX
  refine WC.region ?_
  refine WL.x (X.loadBA (k := 2) Try.isAgg25 Try.sizeOf25 rfl rfl rfl) (by decide) ?_
  refine WL.x (V := Value.agg [v1, v3].toArray) (X.build Try.zeroValue111 Try.runUnderlying111 (places111 _ Try.underlying111) rfl rfl) (by decide) ?_
  refine WL.x (X.move rfl) (by decide) ?_
  refine WL.x (X.call Try.call110 rfl (index110 _ _ s ⟨_, _, rfl, hs2, hs4⟩ _ )) (by decide) ?_
  refine WL.x (X.assign rfl) (by decide) ?_
  refine WL.nil ?_
  refine WK.nThen ?_
  refine WC.seq ?_
  refine WC.seq ?_
  have hib := idxR_bd s time
  refine WC.region ?_
  refine WL.x (X.move rfl) (by decide) ?_
  refine WL.cond (X.lss rfl rfl) (by decide) (fun h15 => ?_) (fun h15 => ?_)
  ·refine WL.nil ?_
   refine WK.nThen ?_
   refine WC.condT rfl ?_
   refine WC.seq ?_
   refine WC.region ?_
   refine WL.x (V := Value.agg [.slice none 0 0, .slice none 0 0].toArray) (X.build Try.zeroValue25 Try.runUnderlying25 (places25 _ Try.underlying25) rfl rfl) (by decide) ?_
   refine WL.ts (T.storeBA (k := 0) Try.sizeOf25 rfl rfl rfl (one_cons rfl (one_cons rfl one_nil)) rfl rfl) ?_
   refine WL.x (X.assign rfl) (by decide) ?_
   refine WL.nil ?_
   refine WK.nThen ?_
   refine WC.ret ?_
   refine WK.rThen ?_
   refine WK.retC2 0 rfl rfl rfl rfl Try.isAgg25 Try.sizeOf25 (fun w' hw' => Ret.mem hw' ?_)
   first | exact ⟨_, tup2 rfl (int_eq (by rw [narR_err (by omega)])), by rw [narR_err (by omega)]; exact ⟨_, _, rfl, .nil, .nil⟩⟩ | exact ⟨_, tup2 rfl (int_eq (by rw [narR_a (by omega) (by omega)])), by rw [narR_a (by omega) (by omega)]; exact ⟨_, _, rfl, .nil, .nil⟩⟩ | exact ⟨_, tup2 rfl (int_eq (by rw [narR_b (by omega) (by omega) (by unfold meetS; dsimp only; omega)])), by rw [narR_b (by omega) (by omega) (by unfold meetS; dsimp only; omega)]; exact ⟨_, _, rfl, .nil, .nil⟩⟩ | exact ⟨_, tup2 rfl (int_eq (by rw [narR_c (by omega) (by omega) (by unfold meetS; dsimp only; omega)])), by rw [narR_c (by omega) (by omega) (by unfold meetS; dsimp only; omega)]; exact ⟨_, _, rfl, .nil, .nil⟩⟩
  ·refine WL.nil ?_
   refine WK.nThen ?_
   refine WC.condF rfl ?_
   refine WC.skip ?_
   refine WK.nThen ?_
   refine WC.seq ?_
   refine WC.region ?_
   refine WL.x (X.field Try.runUnderlying25 rfl Try.sizeOf22 rfl) (by decide) ?_
   refine WL.x (X.loadB (k := 2) Try.isAgg22 rfl rfl rfl) (by decide) ?_
   refine WL.x (X.move rfl) (by decide) ?_
   refine WL.xe (E.idx Try.runUnderlying22 Try.sizeOf62 rfl rfl hs2 (by omega) (by omega)) (by decide) (fun p16 hp17 => ?_)
   have hp18 := At.Val_1 hp17
   refine WL.x (X.field Try.runUnderlying62 rfl Try.sizeOf33 rfl) (by decide) ?_
   refine WL.xe (E.loadAgg Try.isAgg33 Try.sizeOf33 rfl hp18) (by decide) (fun c19 hc20 => ?_)
   obtain rfl := hc20
   refine WL.tn (T.alloc Try.zeroValue33 rfl) (by decide) fun b21 => ?_
   refine WL.ts (T.storeBA (k := 0) Try.sizeOf33 rfl rfl rfl (one_cons rfl (one_cons rfl one_nil)) rfl rfl) ?_
   refine WL.nil ?_
   refine WK.nThen ?_
   refine WC.seq ?_
   refine WC.region ?_
   refine WL.x (X.field Try.runUnderlying33 rfl Try.sizeOf3 rfl) (by decide) ?_
   refine WL.x (X.loadB (k := 0) Try.isAgg3 rfl rfl rfl) (by decide) ?_
   refine WL.x (X.field Try.runUnderlying33 rfl Try.sizeOf3 rfl) (by decide) ?_
   refine WL.x (X.loadB (k := 2) Try.isAgg3 rfl rfl rfl) (by decide) ?_
   refine WL.x (X.mx rfl rfl) (by decide) ?_
   refine WL.x (X.field Try.runUnderlying33 rfl Try.sizeOf3 rfl) (by decide) ?_
   refine WL.x (X.loadB (k := 0) Try.isAgg3 rfl rfl rfl) (by decide) ?_
   refine WL.x (X.field Try.runUnderlying33 rfl Try.sizeOf3 rfl) (by decide) ?_
   refine WL.x (X.loadB (k := 2) Try.isAgg3 rfl rfl rfl) (by decide) ?_
   refine WL.x (X.mn rfl rfl) (by decide) ?_
   refine WL.x (V := Value.agg [.int .i64 (max (((gt s.Values ((idxR s time : Int).toNat)).Levels).Lo) x.Lo), .int .i64 (min (((gt s.Values ((idxR s time : Int).toNat)).Levels).Hi) x.Hi)].toArray) (X.build Try.zeroValue33 Try.runUnderlying33 (places33 _ Try.underlying33) rfl rfl) (by decide) ?_
   refine WL.tn (T.alloc Try.zeroValue33 rfl) (by decide) fun b22 => ?_
   refine WL.ts (T.storeBA (k := 0) Try.sizeOf33 rfl rfl rfl (one_cons rfl (one_cons rfl one_nil)) rfl rfl) ?_
   refine WL.nil ?_
   refine WK.nThen ?_
   refine WC.seq ?_
   refine WC.seq ?_
   refine WC.region ?_
   refine WL.x (X.field Try.runUnderlying33 rfl Try.sizeOf3 rfl) (by decide) ?_
   refine WL.x (X.loadB (k := 0) Try.isAgg3 rfl rfl rfl) (by decide) ?_
   refine WL.x (X.field Try.runUnderlying33 rfl Try.sizeOf3 rfl) (by decide) ?_
   refine WL.x (X.loadB (k := 0) Try.isAgg3 rfl rfl rfl) (by decide) ?_
   refine WL.cond (X.gtr rfl rfl) (by decide) (fun h23 => ?_) (fun h23 => ?_)
   ·refine WL.nil ?_
    refine WK.nThen ?_
    refine WC.condT rfl ?_
    refine WC.seq ?_
    refine WC.region ?_
    refine WL.x (V := Value.agg [.slice none 0 0, .slice none 0 0].toArray) (X.build Try.zeroValue25 Try.runUnderlying25 (places25 _ Try.underlying25) rfl rfl) (by decide) ?_
    refine WL.ts (T.storeBA (k := 2) Try.sizeOf25 rfl rfl rfl (one_cons rfl (one_cons rfl one_nil)) rfl rfl) ?_
    refine WL.x (X.assign rfl) (by decide) ?_
    refine WL.nil ?_
    refine WK.nThen ?_
    refine WC.ret ?_
    refine WK.rThen ?_
    refine WK.retC2 2 rfl rfl rfl rfl Try.isAgg25 Try.sizeOf25 (fun w' hw' => Ret.mem hw' ?_)
    first | exact ⟨_, tup2 rfl (int_eq (by rw [narR_err (by omega)])), by rw [narR_err (by omega)]; exact ⟨_, _, rfl, .nil, .nil⟩⟩ | exact ⟨_, tup2 rfl (int_eq (by rw [narR_a (by omega) (by omega)])), by rw [narR_a (by omega) (by omega)]; exact ⟨_, _, rfl, .nil, .nil⟩⟩ | exact ⟨_, tup2 rfl (int_eq (by rw [narR_b (by omega) (by omega) (by unfold meetS; dsimp only; omega)])), by rw [narR_b (by omega) (by omega) (by unfold meetS; dsimp only; omega)]; exact ⟨_, _, rfl, .nil, .nil⟩⟩ | exact ⟨_, tup2 rfl (int_eq (by rw [narR_c (by omega) (by omega) (by unfold meetS; dsimp only; omega)])), by rw [narR_c (by omega) (by omega) (by unfold meetS; dsimp only; omega)]; exact ⟨_, _, rfl, .nil, .nil⟩⟩
   ·refine WL.nil ?_
    refine WK.nThen ?_
    refine WC.condF rfl ?_
    refine WC.skip ?_
    refine WK.nThen ?_
    refine WC.cut (G := Mem × Nat × Value × Value) (fun (m24, b34, v26, v31) => m24) (fun (m24, b34, v26, v31) => [blk b34 25 [v26, v31], rowF (v31) 72 (s.Shifts), rowF (v26) 62 (s.Values), blk b22 33 [.int .i64 (max (((gt s.Values ((idxR s time : Int).toNat)).Levels).Lo) x.Lo), .int .i64 (min (((gt s.Values ((idxR s time : Int).toNat)).Levels).Hi) x.Hi)], blk b21 33 [.int .i64 (((gt s.Values ((idxR s time : Int).toNat)).Levels).Lo), .int .i64 (((gt s.Values ((idxR s time : Int).toNat)).Levels).Hi)], blk b9 25 [.slice none 0 0, .slice none 0 0], blk b8 33 [.int .i64 (x.Lo), .int .i64 (x.Hi)], blk b7 25 [v1, v3]]) (fun (m24, b34, v26, v31) => [(6, .pointer (some ⟨b9, 0, none⟩)), (9, .int .i64 (idxR s time)), (11, .pointer (some ⟨b22, 0, none⟩)), (12, .pointer (some ⟨b34, 0, none⟩))]) (fun (m24, b34, v26, v31) => m10.le m24 ∧ Sl (α := Val) m24 v1 s.Values ∧ Sl (α := Shf) m24 v3 s.Shifts) ?_ ?_
    ·refine WC.draw (π := (.cons 0 (.cons 1 (.cons 3 (.cons 4 (.fork (.cons 2 (.fork (.cons 5 (.cons 6 (.cons 7 (.cons 8 .done)))) (.cons 7 (.cons 5 (.cons 6 (.cons 8 .done)))))) (.cons 7 (.cons 2 (.cons 5 (.cons 6 (.cons 8 .done))))))))))) [2, 5, 7, 8] [8] rfl (by kernel_rfl) ?_
     refine DW.x rfl rfl (X.field Try.runUnderlying25 rfl Try.sizeOf22 rfl) (by decide) ?_
     refine DW.x rfl rfl (X.loadB (k := 4) Try.isAgg22 rfl rfl rfl) (by decide) ?_
     refine DW.x rfl rfl (X.field Try.runUnderlying25 rfl Try.sizeOf23 rfl) (by decide) ?_
     refine DW.x rfl rfl (X.loadB (k := 4) Try.isAgg23 rfl rfl rfl) (by decide) ?_
     refine DW.fork (List.cons_ne_nil _ _) ?_ ?_
     ·refine DW.tO rfl rfl rfl (T.callO Try.call114 rfl (clone114 _ hs2 (by omega))) (by decide) (fun m25 Es26 v27 hle28 hR_ => ?_)
      obtain ⟨rfl, ho29⟩ := hR_
      replace hs2 := hs2.mono hle28
      replace hs4 := hs4.mono hle28
      replace hs13 := hs13.mono hle28
      replace hp17 := hp17.mono hle28
      replace hp18 := hp18.mono hle28
      refine DW.fork (List.cons_ne_nil _ _) ?_ ?_
      ·refine DW.tO rfl rfl rfl (T.callO Try.call115 rfl (clone115 _ hs4 (by omega))) (by decide) (fun m30 Es31 v32 hle33 hR_ => ?_)
       obtain ⟨rfl, ho34⟩ := hR_
       replace hs2 := hs2.mono hle33
       replace hs4 := hs4.mono hle33
       replace hs13 := hs13.mono hle33
       replace hp17 := hp17.mono hle33
       replace hp18 := hp18.mono hle33
       refine DW.x (V := Value.agg [v27, v32].toArray) rfl rfl (X.build Try.zeroValue25 Try.runUnderlying25 (places25 _ Try.underlying25) rfl (by simp only [Instr.fill, one_cells ho29, one_cells ho34]; rfl)) (by decide) ?_
       refine DW.tn rfl rfl rfl (T.alloc Try.zeroValue25 rfl) (by decide) fun b35 => ?_
       refine DW.ts rfl rfl rfl rfl (T.storeBA (k := 0) Try.sizeOf25 rfl rfl rfl (one_cons ho29 (one_cons ho34 one_nil)) rfl rfl) ?_
       refine DW.nil ?_
       refine WK.nThen ?_
       exact WK.meet (m30, b35, v27, v32) rfl (.refl _) (.cons rfl (.cons rfl (.cons rfl (.cons rfl .nil)))) ⟨(Mem.le_trans hle28 hle33), hs2, hs4⟩
      ·refine DW.tn rfl rfl rfl (T.alloc Try.zeroValue25 rfl) (by decide) fun b36 => ?_
       refine DW.tO rfl rfl rfl (T.callO Try.call115 rfl (clone115 _ hs4 (by omega))) (by decide) (fun m37 Es38 v39 hle40 hR_ => ?_)
       obtain ⟨rfl, ho41⟩ := hR_
       replace hs2 := hs2.mono hle40
       replace hs4 := hs4.mono hle40
       replace hs13 := hs13.mono hle40
       replace hp17 := hp17.mono hle40
       replace hp18 := hp18.mono hle40
       refine DW.x (V := Value.agg [v27, v39].toArray) rfl rfl (X.build Try.zeroValue25 Try.runUnderlying25 (places25 _ Try.underlying25) rfl (by simp only [Instr.fill, one_cells ho29, one_cells ho41]; rfl)) (by decide) ?_
       refine DW.ts rfl rfl rfl rfl (T.storeBA (k := 1) Try.sizeOf25 rfl rfl rfl (one_cons ho29 (one_cons ho41 one_nil)) rfl rfl) ?_
       refine DW.nil ?_
       refine WK.nThen ?_
       refine WK.perm [blk b36 25 [v27, v39], rowF (v39) 72 (s.Shifts), rowF (v27) 62 (s.Values), blk b22 33 [.int .i64 (max (((gt s.Values ((idxR s time : Int).toNat)).Levels).Lo) x.Lo), .int .i64 (min (((gt s.Values ((idxR s time : Int).toNat)).Levels).Hi) x.Hi)], blk b21 33 [.int .i64 (((gt s.Values ((idxR s time : Int).toNat)).Levels).Lo), .int .i64 (((gt s.Values ((idxR s time : Int).toNat)).Levels).Hi)], blk b9 25 [.slice none 0 0, .slice none 0 0], blk b8 33 [.int .i64 (x.Lo), .int .i64 (x.Hi)], blk b7 25 [v1, v3]] ((List.Perm.cons _ (.refl _)).trans (List.perm_middle (l₁ := [rowF (v39) 72 (s.Shifts)]) (l₂ := [rowF (v27) 62 (s.Values), blk b22 33 [.int .i64 (max (((gt s.Values ((idxR s time : Int).toNat)).Levels).Lo) x.Lo), .int .i64 (min (((gt s.Values ((idxR s time : Int).toNat)).Levels).Hi) x.Hi)], blk b21 33 [.int .i64 (((gt s.Values ((idxR s time : Int).toNat)).Levels).Lo), .int .i64 (((gt s.Values ((idxR s time : Int).toNat)).Levels).Hi)], blk b9 25 [.slice none 0 0, .slice none 0 0], blk b8 33 [.int .i64 (x.Lo), .int .i64 (x.Hi)], blk b7 25 [v1, v3]]) (a := blk b36 25 [v27, v39])).symm) ?_
       exact WK.meet (m37, b36, v27, v39) rfl (.refl _) (.cons rfl (.cons rfl (.cons rfl (.cons rfl .nil)))) ⟨(Mem.le_trans hle28 hle40), hs2, hs4⟩
     ·refine DW.tn rfl rfl rfl (T.alloc Try.zeroValue25 rfl) (by decide) fun b42 => ?_
      refine DW.tO rfl rfl rfl (T.callO Try.call114 rfl (clone114 _ hs2 (by omega))) (by decide) (fun m43 Es44 v45 hle46 hR_ => ?_)
      obtain ⟨rfl, ho47⟩ := hR_
      replace hs2 := hs2.mono hle46
      replace hs4 := hs4.mono hle46
      replace hs13 := hs13.mono hle46
      replace hp17 := hp17.mono hle46
      replace hp18 := hp18.mono hle46
      refine DW.tO rfl rfl rfl (T.callO Try.call115 rfl (clone115 _ hs4 (by omega))) (by decide) (fun m48 Es49 v50 hle51 hR_ => ?_)
      obtain ⟨rfl, ho52⟩ := hR_
      replace hs2 := hs2.mono hle51
      replace hs4 := hs4.mono hle51
      replace hs13 := hs13.mono hle51
      replace hp17 := hp17.mono hle51
      replace hp18 := hp18.mono hle51
      refine DW.x (V := Value.agg [v45, v50].toArray) rfl rfl (X.build Try.zeroValue25 Try.runUnderlying25 (places25 _ Try.underlying25) rfl (by simp only [Instr.fill, one_cells ho47, one_cells ho52]; rfl)) (by decide) ?_
      refine DW.ts rfl rfl rfl rfl (T.storeBA (k := 2) Try.sizeOf25 rfl rfl rfl (one_cons ho47 (one_cons ho52 one_nil)) rfl rfl) ?_
      refine DW.nil ?_
      refine WK.nThen ?_
      refine WK.perm [blk b42 25 [v45, v50], rowF (v50) 72 (s.Shifts), rowF (v45) 62 (s.Values), blk b22 33 [.int .i64 (max (((gt s.Values ((idxR s time : Int).toNat)).Levels).Lo) x.Lo), .int .i64 (min (((gt s.Values ((idxR s time : Int).toNat)).Levels).Hi) x.Hi)], blk b21 33 [.int .i64 (((gt s.Values ((idxR s time : Int).toNat)).Levels).Lo), .int .i64 (((gt s.Values ((idxR s time : Int).toNat)).Levels).Hi)], blk b9 25 [.slice none 0 0, .slice none 0 0], blk b8 33 [.int .i64 (x.Lo), .int .i64 (x.Hi)], blk b7 25 [v1, v3]] ((List.Perm.cons _ (.refl _)).trans (List.perm_middle (l₁ := [rowF (v50) 72 (s.Shifts), rowF (v45) 62 (s.Values)]) (l₂ := [blk b22 33 [.int .i64 (max (((gt s.Values ((idxR s time : Int).toNat)).Levels).Lo) x.Lo), .int .i64 (min (((gt s.Values ((idxR s time : Int).toNat)).Levels).Hi) x.Hi)], blk b21 33 [.int .i64 (((gt s.Values ((idxR s time : Int).toNat)).Levels).Lo), .int .i64 (((gt s.Values ((idxR s time : Int).toNat)).Levels).Hi)], blk b9 25 [.slice none 0 0, .slice none 0 0], blk b8 33 [.int .i64 (x.Lo), .int .i64 (x.Hi)], blk b7 25 [v1, v3]]) (a := blk b42 25 [v45, v50])).symm) ?_
      exact WK.meet (m48, b42, v45, v50) rfl (.refl _) (.cons rfl (.cons rfl (.cons rfl (.cons rfl .nil)))) ⟨(Mem.le_trans hle46 hle51), hs2, hs4⟩
    ·rintro ⟨m24, b34, v26, v31⟩ ⟨hle53, hs54, hs55⟩
     show WK _ _ m24 [blk b34 25 [v26, v31], rowF (v31) 72 (s.Shifts), rowF (v26) 62 (s.Values), blk b22 33 [.int .i64 (max (((gt s.Values ((idxR s time : Int).toNat)).Levels).Lo) x.Lo), .int .i64 (min (((gt s.Values ((idxR s time : Int).toNat)).Levels).Hi) x.Hi)], blk b21 33 [.int .i64 (((gt s.Values ((idxR s time : Int).toNat)).Levels).Lo), .int .i64 (((gt s.Values ((idxR s time : Int).toNat)).Levels).Hi)], blk b9 25 [.slice none 0 0, .slice none 0 0], blk b8 33 [.int .i64 (x.Lo), .int .i64 (x.Hi)], blk b7 25 [v1, v3]] [(6, .pointer (some ⟨b9, 0, none⟩)), (9, .int .i64 (idxR s time)), (11, .pointer (some ⟨b22, 0, none⟩)), (12, .pointer (some ⟨b34, 0, none⟩))] _
     replace hs2 := hs2.mono hle53
     replace hs4 := hs4.mono hle53
     replace hs13 := hs13.mono hle53
     replace hp17 := hp17.mono hle53
     replace hp18 := hp18.mono hle53
     have hl56 := hs54.le
     have hl57 := hs55.le
     refine WC.seq ?_
     refine WC.region ?_
     refine WL.x (X.field Try.runUnderlying25 rfl Try.sizeOf22 rfl) (by decide) ?_
     refine WL.x (X.loadB (k := 0) Try.isAgg22 rfl rfl rfl) (by decide) ?_
     refine WL.x (X.move rfl) (by decide) ?_
     refine WL.x (X.loadBA (k := 3) Try.isAgg33 Try.sizeOf33 rfl rfl rfl) (by decide) ?_
     refine WL.x (X.idxRow (k := 2) Try.runUnderlying22 Try.sizeOf62 rfl rfl rfl (by first | omega | (simp; omega) | simp) (by first | omega | (simp; omega) | simp)) (by decide) ?_
     refine WL.x (X.field Try.runUnderlying62 rfl Try.sizeOf33 rfl) (by decide) ?_
     refine WL.ts (T.storeFp (k := 2) (i := (idxR s time : Int).toNat) (off := 1) (us := [.int .i64 (max (((gt s.Values ((idxR s time : Int).toNat)).Levels).Lo) x.Lo), .int .i64 (min (((gt s.Values ((idxR s time : Int).toNat)).Levels).Hi) x.Hi)]) ((Val.mk (((gt s.Values ((idxR s time : Int).toNat))).Time) ((Span.mk (max (((gt s.Values ((idxR s time : Int).toNat)).Levels).Lo) x.Lo) (min (((gt s.Values ((idxR s time : Int).toNat)).Levels).Hi) x.Hi))))) Try.sizeOf33 rfl rfl rfl rfl (Nat.zero_lt_succ _) rfl (by first | omega | (simp; omega) | simp) rfl rfl (one_cons rfl (one_cons rfl one_nil))) ?_
     refine WL.nil ?_
     refine WK.nThen ?_
     refine WC.seq ?_
     have hnl : (narV s (idxR s time).toNat x).length = s.Values.length := (by simp [narV])
     have he58 : (s.Values.set ((idxR s time : Int).toNat) ((Val.mk (((gt s.Values ((idxR s time : Int).toNat))).Time) ((Span.mk (max (((gt s.Values ((idxR s time : Int).toNat)).Levels).Lo) x.Lo) (min (((gt s.Values ((idxR s time : Int).toNat)).Levels).Hi) x.Hi)))))) = (narV s (idxR s time).toNat x) := rfl
     rw [he58]
     refine WC.region ?_
     refine WL.x (X.loadBA (k := 0) Try.isAgg25 Try.sizeOf25 rfl rfl rfl) (by decide) ?_
     refine WL.own1 (k := 2) rfl (fun ho59 => ?_)
     refine WL.own1 (k := 1) rfl (fun ho60 => ?_)
     refine WL.ts (T.storeBA (k := 5) Try.sizeOf25 rfl rfl rfl (one_cons ho59 (one_cons ho60 one_nil)) rfl rfl) ?_
     refine WL.x (X.assign rfl) (by decide) ?_
     refine WL.nil ?_
     refine WK.nThen ?_
     refine WC.ret ?_
     refine WK.freezeF 2 rfl rfl (by first | (simp [lenB]; omega) | (simp [lenB]; done)) (fun m61 hle62 hs63 => ?_)
     replace hs2 := hs2.mono hle62
     replace hs4 := hs4.mono hle62
     replace hs13 := hs13.mono hle62
     replace hp17 := hp17.mono hle62
     replace hp18 := hp18.mono hle62
     replace hs54 := hs54.mono hle62
     replace hs55 := hs55.mono hle62
     refine WK.freezeF 1 rfl rfl (by first | (simp [lenB]; omega) | (simp [lenB]; done)) (fun m64 hle65 hs66 => ?_)
     replace hs2 := hs2.mono hle65
     replace hs4 := hs4.mono hle65
     replace hs13 := hs13.mono hle65
     replace hp17 := hp17.mono hle65
     replace hp18 := hp18.mono hle65
     replace hs54 := hs54.mono hle65
     replace hs55 := hs55.mono hle65
     replace hs63 := hs63.mono hle65
     refine WK.retC2 3 rfl rfl rfl rfl Try.isAgg25 Try.sizeOf25 (fun w' hw' => Ret.mem hw' ?_)
     first | exact ⟨_, tup2 rfl (int_eq (by rw [narR_err (by omega)])), by rw [narR_err (by omega)]; exact ⟨_, _, rfl, hs63, hs66⟩⟩ | exact ⟨_, tup2 rfl (int_eq (by rw [narR_a (by omega) (by omega)])), by rw [narR_a (by omega) (by omega)]; exact ⟨_, _, rfl, hs63, hs66⟩⟩ | exact ⟨_, tup2 rfl (int_eq (by rw [narR_b (by omega) (by omega) (by unfold meetS; dsimp only; omega)])), by rw [narR_b (by omega) (by omega) (by unfold meetS; dsimp only; omega)]; exact ⟨_, _, rfl, hs63, hs66⟩⟩ | exact ⟨_, tup2 rfl (int_eq (by rw [narR_c (by omega) (by omega) (by unfold meetS; dsimp only; omega)])), by rw [narR_c (by omega) (by omega) (by unfold meetS; dsimp only; omega)]; exact ⟨_, _, rfl, hs63, hs66⟩⟩

end Go.Proofs.C8
