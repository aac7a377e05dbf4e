import Derived.Test.YtednficclnjmjaaC8Spec4
import Derived.Test.YtednficclnjmjaaC8W4
/- Century: walks, fifth part, by program. -/
namespace Go.Proofs.C8
open Go Go.Kx
set_option linter.unusedSimpArgs false

theorem diff89 (m : Mem) (cs : List Value) (s : Ser) (hs : Enc.rd m cs s) (ct : List Value) (t : Ser) (ht : Enc.rd m ct t) (time : Int)  (hos : Ok s) (hot : Ok t) : Pure Try.prog 89 #[.agg cs.toArray, .agg ct.toArray, .int .i64 (time)] m (fun m' v => ∃ r0, v = .tuple #[.agg r0.toArray, .int .i64 (↑(difF s t time))] ∧ Enc.rd m' r0 (difW s t)) := by
 obtain ⟨v1, v3, rfl, hs2, hs4⟩ := hs
 have hl5 := hs2.le
 have hl6 := hs4.le
 obtain ⟨v7, v9, rfl, hs8, hs10⟩ := ht
 have hl11 := hs8.le
 have hl12 := hs10.le
 have hnV := hos.nV
 have hcl := comL_len s t
 refine Pure.start Try.func89 rfl Try.ntmps89 rfl fun wld => ?_
 refine WC.seq ?_
 refine WC.region ?_
 refine WL.tn (T.boxB rfl rfl) (by decide) fun b13 => ?_
 refine WL.tn (T.boxB rfl rfl) (by decide) fun b14 => ?_
 refine WL.tn (T.alloc Try.zeroValue121 rfl) (by decide) fun b15 => ?_
 refine WL.x (X.assign rfl) (by decide) ?_
 refine WL.nil ?_
 refine WK.nThen ?_
 refine WC.seq ?_
 refine WK.freezeS (α := Ser) (x := s) 2 rfl rfl (show Enc.rd (α := Ser) m [v1, v3] s from ⟨_, _, rfl, hs2, hs4⟩) (fun m16 hle17 hp18 => ?_)
 replace hs2 := hs2.mono hle17
 replace hs4 := hs4.mono hle17
 replace hs8 := hs8.mono hle17
 replace hs10 := hs10.mono hle17
 refine WK.freezeS (α := Ser) (x := t) 1 rfl rfl (show Enc.rd (α := Ser) m16 [v7, v9] t from ⟨_, _, rfl, hs8, hs10⟩) (fun m19 hle20 hp21 => ?_)
 replace hs2 := hs2.mono hle20
 replace hs4 := hs4.mono hle20
 replace hs8 := hs8.mono hle20
 replace hs10 := hs10.mono hle20
 replace hp18 := hp18.mono hle20
 refine WC.region ?_
 refine WL.tn (T.alloc Try.zeroValue121 rfl) (by decide) fun b22 => ?_
 refine WL.nil ?_
 refine WK.nThen ?_
 refine WC.seq ?_
 refine WK.ownF Span 33 ?_
 refine WK.ownF Span 33 ?_
 refine WC.region ?_
 refine WL.xe (E.loadAgg Try.isAgg25 Try.sizeOf25 rfl hp18) (by decide) (fun c23 hc24 => ?_)
 obtain ⟨v25, v27, rfl, hs26, hs28⟩ := hc24
 have hl29 := hs26.le
 have hl30 := hs28.le
 refine WL.xe (E.loadAgg Try.isAgg25 Try.sizeOf25 rfl hp21) (by decide) (fun c31 hc32 => ?_)
 obtain ⟨v33, v35, rfl, hs34, hs36⟩ := hc32
 have hl37 := hs34.le
 have hl38 := hs36.le
 refine WL.tm (T.call Try.call83 rfl (common83 _ _ s ⟨_, _, rfl, hs26, hs28⟩ _ t ⟨_, _, rfl, hs34, hs36⟩ (by omega))) (by decide) fun m39 r40 hle41 hR42 => ?_
 obtain ⟨v43, hv_, hs44⟩ := hR42
 rw [← hv_] at hs44
 clear hv_ v43
 replace hs2 := hs2.mono hle41
 replace hs4 := hs4.mono hle41
 replace hs8 := hs8.mono hle41
 replace hs10 := hs10.mono hle41
 replace hp18 := hp18.mono hle41
 replace hp21 := hp21.mono hle41
 replace hs26 := hs26.mono hle41
 replace hs28 := hs28.mono hle41
 replace hs34 := hs34.mono hle41
 replace hs36 := hs36.mono hle41
 have hl45 := hs44.le
 refine WL.x (X.assign rfl) (by decide) ?_
 refine WL.nil ?_
 refine WK.nThen ?_
 refine WC.seq ?_
 refine WC.region ?_
 refine WL.x (X.move rfl) (by decide) ?_
 refine WL.x (X.len Try.runUnderlying108 rfl hs44) (by decide) ?_
 refine WL.x (X.assign rfl) (by decide) ?_
 refine WL.nil ?_
 refine WK.nThen ?_
 refine WC.seq ?_
 refine WC.seq ?_
 refine WC.region ?_
 refine WL.x (X.move rfl) (by decide) ?_
 refine WL.x (X.len Try.runUnderlying108 rfl hs44) (by decide) ?_
 refine WL.x (X.move rfl) (by decide) ?_
 refine WL.nil ?_
 refine WK.nThen ?_
 refine WC.block ?_
 refine WC.loop (G := Nat × Value × Value × Int) (fun (k, va, vb, f) => (comL s t).length - k) (fun (k, va, vb, f) => m39) (fun (k, va, vb, f) => [rowF (vb) 33 ((List.range (k - 1)).map (difX s t)), rowF (va) 33 ((List.range k).map (difV s t)), blk b22 121 [va, vb], blk b15 121 [.slice none 0 0, .slice none 0 0]]) (fun (k, va, vb, f) => [(2, .int .i64 (time)), (3, .pointer (some (⟨b13, 0, none⟩))), (4, .pointer (some (⟨b14, 0, none⟩))), (6, .pointer (some ⟨b15, 0, none⟩)), (8, .pointer (some ⟨b22, 0, none⟩)), (9, r40), (10, .int .i64 (f)), (23, r40), (24, .int .i64 (↑(comL s t).length)), (25, .int .i64 (↑k))]) (fun (k, va, vb, f) => k ≤ (comL s t).length ∧ DifI s t time k f) ((0, Value.slice none 0 0, (Value.slice none 0 0), ↑(comL s t).length)) rfl (.refl _) (.cons rfl (.cons rfl (.cons rfl (.cons rfl (.cons rfl (.cons rfl (.cons rfl (.cons rfl (.cons rfl (.cons rfl .nil)))))))))) ?_ ?_
 ·exact ⟨Nat.zero_le _, dif_start s t time⟩
 ·rintro ⟨k, va, vb, f⟩ hF46
  show WK _ _ m39 [rowF (vb) 33 ((List.range (k - 1)).map (difX s t)), rowF (va) 33 ((List.range k).map (difV s t)), blk b22 121 [va, vb], blk b15 121 [.slice none 0 0, .slice none 0 0]] [(2, .int .i64 (time)), (3, .pointer (some (⟨b13, 0, none⟩))), (4, .pointer (some (⟨b14, 0, none⟩))), (6, .pointer (some ⟨b15, 0, none⟩)), (8, .pointer (some ⟨b22, 0, none⟩)), (9, r40), (10, .int .i64 (f)), (23, r40), (24, .int .i64 (↑(comL s t).length)), (25, .int .i64 (↑k))] _
  replace hF46 : k ≤ (comL s t).length ∧ DifI s t time k f := hF46
  obtain ⟨hk, hf⟩ := hF46
  refine WK.good (fun hgood0 => ?_)
  have hcb := fun h => com_bd (s := s) (t := t) (n := k) h
  have hcp := fun h => com_bd (s := s) (t := t) (n := k - 1) h
  have hfn : 0 ≤ f ∧ f ≤ 200 := (by have := hf.2; omega)
  refine WC.seq ?_
  refine WC.region ?_
  refine WL.cond (X.lss rfl rfl) (by decide) (fun h47 => ?_) (fun h47 => ?_)
  ·refine WL.nil ?_
   refine WK.nThen ?_
   refine WC.seq ?_
   refine WC.condT rfl ?_
   refine WC.skip ?_
   refine WK.nThen ?_
   refine WC.seq ?_
   refine WC.block ?_
   refine WC.seq ?_
   refine WC.region ?_
   refine WL.x (X.move rfl) (by decide) ?_
   refine WL.xe (E.idxN k Try.runUnderlying108 Try.sizeOf113 rfl rfl hs44 (by omega)) (by decide) (fun p48 hp49 => ?_)
   refine WL.xe (E.loadAgg Try.isAgg113 Try.sizeOf113 rfl hp49) (by decide) (fun c50 hc51 => ?_)
   obtain rfl := hc51
   refine WL.tn (T.alloc Try.zeroValue113 rfl) (by decide) fun b52 => ?_
   refine WL.x (X.assign rfl) (by decide) ?_
   refine WL.ts (T.storeBA (k := 0) Try.sizeOf113 rfl rfl rfl (one_cons rfl (one_cons rfl one_nil)) rfl rfl) ?_
   refine WL.nil ?_
   refine WK.nThen ?_
   refine WC.seq ?_
   have hcb1 := hcb (by omega)
   refine WK.freezeS (α := A2) (x := gt (comL s t) k) 0 rfl rfl (show Enc.rd (α := A2) m39 [.int .i64 ((gt (comL s t) k).a), .int .i64 ((gt (comL s t) k).b)] (gt (comL s t) k) from rfl) (fun m53 hle54 hp55 => ?_)
   replace hs2 := hs2.mono hle54
   replace hs4 := hs4.mono hle54
   replace hs8 := hs8.mono hle54
   replace hs10 := hs10.mono hle54
   replace hp18 := hp18.mono hle54
   replace hp21 := hp21.mono hle54
   replace hs26 := hs26.mono hle54
   replace hs28 := hs28.mono hle54
   replace hs34 := hs34.mono hle54
   replace hs36 := hs36.mono hle54
   replace hs44 := hs44.mono hle54
   replace hp49 := hp49.mono hle54
   refine WC.draw (π := (.cons 0 (.cons 1 (.cons 2 (.cons 3 (.cons 4 (.cons 5 (.cons 6 (.cons 7 (.cons 8 (.cons 9 (.cons 10 (.cons 11 (.fork (.cons 12 (.cons 13 (.cons 14 (.cons 15 .done)))) (.cons 13 (.cons 12 (.cons 14 (.cons 15 .done)))))))))))))))))) [12, 13, 14, 15] [14, 15, 100006, 100007, 100008, 100009, 100010, 100011] rfl (by kernel_rfl) ?_
   have hp56 := At.Ser_0 hp18
   refine DW.x rfl rfl (X.field Try.runUnderlying25 rfl Try.sizeOf22 rfl) (by decide) ?_
   refine DW.xe rfl rfl (E.loadSl Try.isAgg22 rfl hp56) (by decide) (fun v57 hs58 => ?_)
   have hl59 := hs58.le
   have hp60 := At.A2_0 hp55
   refine DW.x rfl rfl (X.idxAr 0 Try.underlying113 Try.sizeOf3 rfl rfl rfl (by decide)) (by decide) ?_
   refine DW.x rfl rfl (X.loadInt Try.isAgg3 rfl hp60) (by decide) ?_
   refine DW.xe rfl rfl (E.idx Try.runUnderlying22 Try.sizeOf62 rfl rfl hs58 (by omega) (by omega)) (by decide) (fun p61 hp62 => ?_)
   refine DW.xe rfl rfl (E.loadAgg Try.isAgg62 Try.sizeOf62 rfl hp62) (by decide) (fun c63 hc64 => ?_)
   obtain rfl := hc64
   have hp65 := At.Ser_0 hp21
   refine DW.xf rfl rfl rfl (fun _ _ hle_ => (X.field Try.runUnderlying25 rfl Try.sizeOf22 rfl)) (by decide) ?_
   refine DW.xfe rfl rfl rfl (EF.loadSl Try.isAgg22 rfl hp65) (by decide) (fun v66 hs67 => ?_)
   have hl68 := hs67.le
   have hp69 := At.A2_1 hp55
   refine DW.xf rfl rfl rfl (fun _ _ hle_ => (X.idxAr 1 Try.underlying113 Try.sizeOf3 rfl rfl rfl (by decide))) (by decide) ?_
   refine DW.xf rfl rfl rfl (fun _ _ hle_ => (X.loadInt Try.isAgg3 rfl (hp69.mono hle_))) (by decide) ?_
   refine DW.xfe rfl rfl rfl (EF.idx Try.runUnderlying22 Try.sizeOf62 rfl rfl hs67 (by omega) (by omega)) (by decide) (fun p70 hp71 => ?_)
   refine DW.xfe rfl rfl rfl (EF.loadAgg Try.isAgg62 Try.sizeOf62 rfl hp71) (by decide) (fun c72 hc73 => ?_)
   obtain rfl := hc73
   refine DW.fork (List.cons_ne_nil _ _) ?_ ?_
   ·refine DW.tn rfl rfl rfl (T.alloc Try.zeroValue62 rfl) (by decide) fun b74 => ?_
    refine DW.tn rfl rfl rfl (T.alloc Try.zeroValue62 rfl) (by decide) fun b75 => ?_
    refine DW.ts rfl rfl rfl rfl (T.storeBA (k := 1) Try.sizeOf62 rfl rfl rfl (one_cons rfl (one_cons rfl (one_cons rfl one_nil))) rfl rfl) ?_
    refine DW.ts rfl rfl rfl rfl (T.storeBA (k := 0) Try.sizeOf62 rfl rfl rfl (one_cons rfl (one_cons rfl (one_cons rfl one_nil))) rfl rfl) ?_
    refine DW.nil ?_
    refine WK.nThen ?_
    refine WC.seq ?_
    have hv1 := hos.vl (i := (gt (comL s t) k).a.toNat) (by omega)
    have hv2 := hot.vl (i := (gt (comL s t) k).b.toNat) (by omega)
    refine WC.region ?_
    refine WL.x (X.field Try.runUnderlying121 rfl Try.sizeOf74 rfl) (by decide) ?_
    refine WL.x (X.loadB (k := 4) Try.isAgg74 rfl rfl rfl) (by decide) ?_
    refine WL.x (X.field Try.runUnderlying62 rfl Try.sizeOf33 rfl) (by decide) ?_
    refine WL.x (X.field Try.runUnderlying33 rfl Try.sizeOf3 rfl) (by decide) ?_
    refine WL.x (X.loadB (k := 1) Try.isAgg3 rfl rfl rfl) (by decide) ?_
    refine WL.x (X.field Try.runUnderlying62 rfl Try.sizeOf33 rfl) (by decide) ?_
    refine WL.x (X.field Try.runUnderlying33 rfl Try.sizeOf3 rfl) (by decide) ?_
    refine WL.x (X.loadB (k := 0) Try.isAgg3 rfl rfl rfl) (by decide) ?_
    refine WL.x (X.sub rfl rfl (by omega) (by omega)) (by decide) ?_
    refine WL.x (X.field Try.runUnderlying62 rfl Try.sizeOf33 rfl) (by decide) ?_
    refine WL.x (X.field Try.runUnderlying33 rfl Try.sizeOf3 rfl) (by decide) ?_
    refine WL.x (X.loadB (k := 1) Try.isAgg3 rfl rfl rfl) (by decide) ?_
    refine WL.x (X.field Try.runUnderlying62 rfl Try.sizeOf33 rfl) (by decide) ?_
    refine WL.x (X.field Try.runUnderlying33 rfl Try.sizeOf3 rfl) (by decide) ?_
    refine WL.x (X.loadB (k := 0) Try.isAgg3 rfl rfl rfl) (by decide) ?_
    refine WL.x (X.sub rfl rfl (by omega) (by omega)) (by decide) ?_
    refine WL.x (V := Value.agg [.int .i64 ((((gt s.Values (((gt (comL s t) k).a : Int).toNat)).Levels).Lo) - (((gt t.Values (((gt (comL s t) k).b : Int).toNat)).Levels).Hi)), .int .i64 ((((gt s.Values (((gt (comL s t) k).a : Int).toNat)).Levels).Hi) - (((gt t.Values (((gt (comL s t) k).b : Int).toNat)).Levels).Lo))].toArray) (X.build Try.zeroValue33 Try.runUnderlying33 (places33 _ Try.underlying33) rfl rfl) (by decide) ?_
    refine WL.tl (T.lit1 sl74 rfl rfl rfl (by decide)) (by decide) fun b76 => ?_
    refine WL.ta (T.appendF (k := 3) (a := (Span.mk ((((gt s.Values (((gt (comL s t) k).a : Int).toNat)).Levels).Lo) - (((gt t.Values (((gt (comL s t) k).b : Int).toNat)).Levels).Hi)) ((((gt s.Values (((gt (comL s t) k).a : Int).toNat)).Levels).Hi) - (((gt t.Values (((gt (comL s t) k).b : Int).toNat)).Levels).Lo)))) sl74 rfl rfl rfl rfl (by first | omega | (simp; done) | (simp; omega)) (by decide)) (by decide) (fun v77 => ?_)
    refine WL.x (X.field Try.runUnderlying121 rfl Try.sizeOf74 rfl) (by decide) ?_
    refine WL.own1 (k := 3) rfl (fun ho78 => ?_)
    refine WL.ts (T.storeB (k := 4) Try.sizeOf74 rfl rfl rfl ho78 (Nat.le_of_ble_eq_true rfl)) ?_
    refine WL.nil ?_
    refine WK.nThen ?_
    refine WC.seq ?_
    refine WC.seq ?_
    refine WC.region ?_
    refine WL.x (X.move rfl) (by decide) ?_
    refine WL.cond (X.gtr rfl rfl) (by decide) (fun h79 => ?_) (fun h79 => ?_)
    ·refine WL.nil ?_
     refine WK.nThen ?_
     refine WC.condT rfl ?_
     refine WC.seq ?_
     have hcp1 := hcp (by omega)
     refine WC.draw (π := (.cons 0 (.cons 1 (.cons 2 (.cons 3 (.cons 4 (.cons 5 (.cons 6 (.cons 7 (.cons 8 (.cons 9 (.cons 10 (.cons 11 .done))))))))))))) [] [] rfl (by kernel_rfl) ?_
     have hp80 := At.Ser_0 hp18
     refine DW.x rfl rfl (X.field Try.runUnderlying25 rfl Try.sizeOf22 rfl) (by decide) ?_
     refine DW.xe rfl rfl (E.loadSl Try.isAgg22 rfl hp80) (by decide) (fun v81 hs82 => ?_)
     have hl83 := hs82.le
     refine DW.x rfl rfl (X.move rfl) (by decide) ?_
     refine DW.x rfl rfl (X.move rfl) (by decide) ?_
     refine DW.x rfl rfl (X.sub rfl rfl (by omega) (by omega)) (by decide) ?_
     refine DW.xe rfl rfl (E.idxE (k - 1) Try.runUnderlying108 Try.sizeOf113 rfl rfl hs44 (by omega) (by omega)) (by decide) (fun p84 hp85 => ?_)
     have hp86 := At.A2_0 hp85
     refine DW.x rfl rfl (X.idxAr 0 Try.underlying113 Try.sizeOf3 rfl rfl rfl (by decide)) (by decide) ?_
     refine DW.x rfl rfl (X.loadInt Try.isAgg3 rfl hp86) (by decide) ?_
     refine DW.xe rfl rfl (E.idx Try.runUnderlying22 Try.sizeOf62 rfl rfl hs82 (by omega) (by omega)) (by decide) (fun p87 hp88 => ?_)
     have hp89 := At.Val_0 hp88
     refine DW.x rfl rfl (X.field Try.runUnderlying62 rfl Try.sizeOf3 rfl) (by decide) ?_
     refine DW.x rfl rfl (X.loadInt Try.isAgg3 rfl hp89) (by decide) ?_
     refine DW.x rfl rfl (X.assign rfl) (by decide) ?_
     refine DW.nil ?_
     refine WK.nThen ?_
     refine WC.cut (G := Mem × Nat × Nat) (fun (m90, b106, b107) => m90) (fun (m90, b106, b107) => [blk b107 33 [.int .i64 ((bt t.Shifts (((gt s.Values (((gt (comL s t) (k - 1)).a : Int).toNat)).Time)) (((gt s.Values (((gt (comL s t) k).a : Int).toNat)).Time))).Lo), .int .i64 ((bt t.Shifts (((gt s.Values (((gt (comL s t) (k - 1)).a : Int).toNat)).Time)) (((gt s.Values (((gt (comL s t) k).a : Int).toNat)).Time))).Hi)], blk b106 33 [.int .i64 ((bt s.Shifts (((gt s.Values (((gt (comL s t) (k - 1)).a : Int).toNat)).Time)) (((gt s.Values (((gt (comL s t) k).a : Int).toNat)).Time))).Lo), .int .i64 ((bt s.Shifts (((gt s.Values (((gt (comL s t) (k - 1)).a : Int).toNat)).Time)) (((gt s.Values (((gt (comL s t) k).a : Int).toNat)).Time))).Hi)], blk b75 62 [.int .i64 ((gt t.Values (((gt (comL s t) k).b : Int).toNat)).Time), .int .i64 (((gt t.Values (((gt (comL s t) k).b : Int).toNat)).Levels).Lo), .int .i64 (((gt t.Values (((gt (comL s t) k).b : Int).toNat)).Levels).Hi)], blk b74 62 [.int .i64 ((gt s.Values (((gt (comL s t) k).a : Int).toNat)).Time), .int .i64 (((gt s.Values (((gt (comL s t) k).a : Int).toNat)).Levels).Lo), .int .i64 (((gt s.Values (((gt (comL s t) k).a : Int).toNat)).Levels).Hi)], rowF (vb) 33 ((List.range (k - 1)).map (difX s t)), rowF (v77) 33 (((List.range k).map (difV s t)) ++ [(Span.mk ((((gt s.Values (((gt (comL s t) k).a : Int).toNat)).Levels).Lo) - (((gt t.Values (((gt (comL s t) k).b : Int).toNat)).Levels).Hi)) ((((gt s.Values (((gt (comL s t) k).a : Int).toNat)).Levels).Hi) - (((gt t.Values (((gt (comL s t) k).b : Int).toNat)).Levels).Lo)))]), blk b22 121 [v77, vb], blk b15 121 [.slice none 0 0, .slice none 0 0]]) (fun (m90, b106, b107) => [(2, .int .i64 (time)), (3, .pointer (some (⟨b13, 0, none⟩))), (4, .pointer (some (⟨b14, 0, none⟩))), (6, .pointer (some ⟨b15, 0, none⟩)), (8, .pointer (some ⟨b22, 0, none⟩)), (9, r40), (10, .int .i64 (f)), (11, .int .i64 (↑k)), (13, .pointer (some ⟨b74, 0, none⟩)), (16, .pointer (some ⟨b106, 0, none⟩)), (17, .pointer (some ⟨b107, 0, none⟩)), (23, r40), (24, .int .i64 (↑(comL s t).length)), (25, .int .i64 (↑k))]) (fun (m90, b106, b107) => m53.le m90) ?_ ?_
     ·refine WC.draw (π := (.cons 0 (.cons 1 (.cons 2 (.cons 3 (.cons 4 (.cons 5 (.cons 6 (.cons 7 (.cons 8 (.cons 9 (.cons 10 (.cons 11 (.fork (.cons 12 (.cons 13 (.cons 14 (.cons 15 .done)))) (.cons 13 (.cons 12 (.cons 14 (.cons 15 .done)))))))))))))))))) [12, 13, 14, 15] [14, 15] rfl (by kernel_rfl) ?_
      refine DW.xe rfl rfl (E.loadAgg Try.isAgg25 Try.sizeOf25 rfl hp18) (by decide) (fun c91 hc92 => ?_)
      obtain ⟨v93, v95, rfl, hs94, hs96⟩ := hc92
      have hl97 := hs94.le
      have hl98 := hs96.le
      refine DW.x (V := Value.agg [v93, v95].toArray) rfl rfl (X.build Try.zeroValue111 Try.runUnderlying111 (places111 _ Try.underlying111) rfl rfl) (by decide) ?_
      refine DW.x rfl rfl (X.move rfl) (by decide) ?_
      refine DW.x rfl rfl (X.field Try.runUnderlying62 rfl Try.sizeOf3 rfl) (by decide) ?_
      refine DW.x rfl rfl (X.loadB (k := 1) Try.isAgg3 rfl rfl rfl) (by decide) ?_
      refine DW.x rfl rfl (X.call Try.call99 rfl (between99 _ _ s ⟨_, _, rfl, hs94, hs96⟩ _ _ (by assumption))) (by decide) ?_
      refine DW.xe rfl rfl (E.loadAgg Try.isAgg25 Try.sizeOf25 rfl hp21) (by decide) (fun c99 hc100 => ?_)
      obtain ⟨v101, v103, rfl, hs102, hs104⟩ := hc100
      have hl105 := hs102.le
      have hl106 := hs104.le
      refine DW.x (V := Value.agg [v101, v103].toArray) rfl rfl (X.build Try.zeroValue111 Try.runUnderlying111 (places111 _ Try.underlying111) rfl rfl) (by decide) ?_
      refine DW.x rfl rfl (X.move rfl) (by decide) ?_
      refine DW.x rfl rfl (X.field Try.runUnderlying62 rfl Try.sizeOf3 rfl) (by decide) ?_
      refine DW.x rfl rfl (X.loadB (k := 1) Try.isAgg3 rfl rfl rfl) (by decide) ?_
      refine DW.x rfl rfl (X.call Try.call99 rfl (between99 _ _ t ⟨_, _, rfl, hs102, hs104⟩ _ _ (by assumption))) (by decide) ?_
      refine DW.fork (List.cons_ne_nil _ _) ?_ ?_
      ·refine DW.tn rfl rfl rfl (T.alloc Try.zeroValue33 rfl) (by decide) fun b107 => ?_
       refine DW.tn rfl rfl rfl (T.alloc Try.zeroValue33 rfl) (by decide) fun b108 => ?_
       refine DW.ts rfl rfl rfl rfl (T.storeBA (k := 1) Try.sizeOf33 rfl rfl rfl (one_cons rfl (one_cons rfl one_nil)) rfl rfl) ?_
       refine DW.ts rfl rfl rfl rfl (T.storeBA (k := 0) Try.sizeOf33 rfl rfl rfl (one_cons rfl (one_cons rfl one_nil)) rfl rfl) ?_
       refine DW.nil ?_
       refine WK.nThen ?_
       exact WK.meet (m53, b107, b108) rfl (.refl _) (.cons rfl (.cons rfl (.cons rfl (.cons rfl (.cons rfl (.cons rfl (.cons rfl (.cons rfl (.cons rfl (.cons rfl (.cons rfl (.cons rfl (.cons rfl (.cons rfl .nil)))))))))))))) (Mem.le_refl _)
      ·refine DW.tn rfl rfl rfl (T.alloc Try.zeroValue33 rfl) (by decide) fun b109 => ?_
       refine DW.tn rfl rfl rfl (T.alloc Try.zeroValue33 rfl) (by decide) fun b110 => ?_
       refine DW.ts rfl rfl rfl rfl (T.storeBA (k := 0) Try.sizeOf33 rfl rfl rfl (one_cons rfl (one_cons rfl one_nil)) rfl rfl) ?_
       refine DW.ts rfl rfl rfl rfl (T.storeBA (k := 1) Try.sizeOf33 rfl rfl rfl (one_cons rfl (one_cons rfl one_nil)) rfl rfl) ?_
       refine DW.nil ?_
       refine WK.nThen ?_
       refine WK.perm [blk b109 33 [.int .i64 ((bt t.Shifts (((gt s.Values (((gt (comL s t) (k - 1)).a : Int).toNat)).Time)) (((gt s.Values (((gt (comL s t) k).a : Int).toNat)).Time))).Lo), .int .i64 ((bt t.Shifts (((gt s.Values (((gt (comL s t) (k - 1)).a : Int).toNat)).Time)) (((gt s.Values (((gt (comL s t) k).a : Int).toNat)).Time))).Hi)], blk b110 33 [.int .i64 ((bt s.Shifts (((gt s.Values (((gt (comL s t) (k - 1)).a : Int).toNat)).Time)) (((gt s.Values (((gt (comL s t) k).a : Int).toNat)).Time))).Lo), .int .i64 ((bt s.Shifts (((gt s.Values (((gt (comL s t) (k - 1)).a : Int).toNat)).Time)) (((gt s.Values (((gt (comL s t) k).a : Int).toNat)).Time))).Hi)], blk b75 62 [.int .i64 ((gt t.Values (((gt (comL s t) k).b : Int).toNat)).Time), .int .i64 (((gt t.Values (((gt (comL s t) k).b : Int).toNat)).Levels).Lo), .int .i64 (((gt t.Values (((gt (comL s t) k).b : Int).toNat)).Levels).Hi)], blk b74 62 [.int .i64 ((gt s.Values (((gt (comL s t) k).a : Int).toNat)).Time), .int .i64 (((gt s.Values (((gt (comL s t) k).a : Int).toNat)).Levels).Lo), .int .i64 (((gt s.Values (((gt (comL s t) k).a : Int).toNat)).Levels).Hi)], rowF (vb) 33 ((List.range (k - 1)).map (difX s t)), rowF (v77) 33 (((List.range k).map (difV s t)) ++ [(Span.mk ((((gt s.Values (((gt (comL s t) k).a : Int).toNat)).Levels).Lo) - (((gt t.Values (((gt (comL s t) k).b : Int).toNat)).Levels).Hi)) ((((gt s.Values (((gt (comL s t) k).a : Int).toNat)).Levels).Hi) - (((gt t.Values (((gt (comL s t) k).b : Int).toNat)).Levels).Lo)))]), blk b22 121 [v77, vb], blk b15 121 [.slice none 0 0, .slice none 0 0]] ((List.Perm.cons _ (.refl _)).trans (List.perm_middle (l₁ := [blk b110 33 [.int .i64 ((bt s.Shifts (((gt s.Values (((gt (comL s t) (k - 1)).a : Int).toNat)).Time)) (((gt s.Values (((gt (comL s t) k).a : Int).toNat)).Time))).Lo), .int .i64 ((bt s.Shifts (((gt s.Values (((gt (comL s t) (k - 1)).a : Int).toNat)).Time)) (((gt s.Values (((gt (comL s t) k).a : Int).toNat)).Time))).Hi)]]) (l₂ := [blk b75 62 [.int .i64 ((gt t.Values (((gt (comL s t) k).b : Int).toNat)).Time), .int .i64 (((gt t.Values (((gt (comL s t) k).b : Int).toNat)).Levels).Lo), .int .i64 (((gt t.Values (((gt (comL s t) k).b : Int).toNat)).Levels).Hi)], blk b74 62 [.int .i64 ((gt s.Values (((gt (comL s t) k).a : Int).toNat)).Time), .int .i64 (((gt s.Values (((gt (comL s t) k).a : Int).toNat)).Levels).Lo), .int .i64 (((gt s.Values (((gt (comL s t) k).a : Int).toNat)).Levels).Hi)], rowF (vb) 33 ((List.range (k - 1)).map (difX s t)), rowF (v77) 33 (((List.range k).map (difV s t)) ++ [(Span.mk ((((gt s.Values (((gt (comL s t) k).a : Int).toNat)).Levels).Lo) - (((gt t.Values (((gt (comL s t) k).b : Int).toNat)).Levels).Hi)) ((((gt s.Values (((gt (comL s t) k).a : Int).toNat)).Levels).Hi) - (((gt t.Values (((gt (comL s t) k).b : Int).toNat)).Levels).Lo)))]), blk b22 121 [v77, vb], blk b15 121 [.slice none 0 0, .slice none 0 0]]) (a := blk b109 33 [.int .i64 ((bt t.Shifts (((gt s.Values (((gt (comL s t) (k - 1)).a : Int).toNat)).Time)) (((gt s.Values (((gt (comL s t) k).a : Int).toNat)).Time))).Lo), .int .i64 ((bt t.Shifts (((gt s.Values (((gt (comL s t) (k - 1)).a : Int).toNat)).Time)) (((gt s.Values (((gt (comL s t) k).a : Int).toNat)).Time))).Hi)])).symm) ?_
       exact WK.meet (m53, b110, b109) rfl (.refl _) (.cons rfl (.cons rfl (.cons rfl (.cons rfl (.cons rfl (.cons rfl (.cons rfl (.cons rfl (.cons rfl (.cons rfl (.cons rfl (.cons rfl (.cons rfl (.cons rfl .nil)))))))))))))) (Mem.le_refl _)
     ·rintro ⟨m90, b106, b107⟩ hle111
      show WK _ _ m90 [blk b107 33 [.int .i64 ((bt t.Shifts (((gt s.Values (((gt (comL s t) (k - 1)).a : Int).toNat)).Time)) (((gt s.Values (((gt (comL s t) k).a : Int).toNat)).Time))).Lo), .int .i64 ((bt t.Shifts (((gt s.Values (((gt (comL s t) (k - 1)).a : Int).toNat)).Time)) (((gt s.Values (((gt (comL s t) k).a : Int).toNat)).Time))).Hi)], blk b106 33 [.int .i64 ((bt s.Shifts (((gt s.Values (((gt (comL s t) (k - 1)).a : Int).toNat)).Time)) (((gt s.Values (((gt (comL s t) k).a : Int).toNat)).Time))).Lo), .int .i64 ((bt s.Shifts (((gt s.Values (((gt (comL s t) (k - 1)).a : Int).toNat)).Time)) (((gt s.Values (((gt (comL s t) k).a : Int).toNat)).Time))).Hi)], blk b75 62 [.int .i64 ((gt t.Values (((gt (comL s t) k).b : Int).toNat)).Time), .int .i64 (((gt t.Values (((gt (comL s t) k).b : Int).toNat)).Levels).Lo), .int .i64 (((gt t.Values (((gt (comL s t) k).b : Int).toNat)).Levels).Hi)], blk b74 62 [.int .i64 ((gt s.Values (((gt (comL s t) k).a : Int).toNat)).Time), .int .i64 (((gt s.Values (((gt (comL s t) k).a : Int).toNat)).Levels).Lo), .int .i64 (((gt s.Values (((gt (comL s t) k).a : Int).toNat)).Levels).Hi)], rowF (vb) 33 ((List.range (k - 1)).map (difX s t)), rowF (v77) 33 (((List.range k).map (difV s t)) ++ [(Span.mk ((((gt s.Values (((gt (comL s t) k).a : Int).toNat)).Levels).Lo) - (((gt t.Values (((gt (comL s t) k).b : Int).toNat)).Levels).Hi)) ((((gt s.Values (((gt (comL s t) k).a : Int).toNat)).Levels).Hi) - (((gt t.Values (((gt (comL s t) k).b : Int).toNat)).Levels).Lo)))]), blk b22 121 [v77, vb], blk b15 121 [.slice none 0 0, .slice none 0 0]] [(2, .int .i64 (time)), (3, .pointer (some (⟨b13, 0, none⟩))), (4, .pointer (some (⟨b14, 0, none⟩))), (6, .pointer (some ⟨b15, 0, none⟩)), (8, .pointer (some ⟨b22, 0, none⟩)), (9, r40), (10, .int .i64 (f)), (11, .int .i64 (↑k)), (13, .pointer (some ⟨b74, 0, none⟩)), (16, .pointer (some ⟨b106, 0, none⟩)), (17, .pointer (some ⟨b107, 0, none⟩)), (23, r40), (24, .int .i64 (↑(comL s t).length)), (25, .int .i64 (↑k))] _
      replace hs2 := hs2.mono hle111
      replace hs4 := hs4.mono hle111
      replace hs8 := hs8.mono hle111
      replace hs10 := hs10.mono hle111
      replace hp18 := hp18.mono hle111
      replace hp21 := hp21.mono hle111
      replace hs26 := hs26.mono hle111
      replace hs28 := hs28.mono hle111
      replace hs34 := hs34.mono hle111
      replace hs36 := hs36.mono hle111
      replace hs44 := hs44.mono hle111
      replace hp49 := hp49.mono hle111
      replace hp55 := hp55.mono hle111
      replace hp56 := hp56.mono hle111
      replace hs58 := hs58.mono hle111
      replace hp60 := hp60.mono hle111
      replace hp62 := hp62.mono hle111
      replace hp65 := hp65.mono hle111
      replace hs67 := hs67.mono hle111
      replace hp69 := hp69.mono hle111
      replace hp71 := hp71.mono hle111
      replace hp80 := hp80.mono hle111
      replace hs82 := hs82.mono hle111
      replace hp85 := hp85.mono hle111
      replace hp86 := hp86.mono hle111
      replace hp88 := hp88.mono hle111
      replace hp89 := hp89.mono hle111
      have hbs := btS_bd hos (difT s t (k - 1)) (difT s t k)
      have hbt := btS_bd hot (difT s t (k - 1)) (difT s t k)
      unfold difT at hbs hbt
      refine WC.region ?_
      refine WL.x (X.field Try.runUnderlying121 rfl Try.sizeOf74 rfl) (by decide) ?_
      refine WL.x (X.loadB (k := 6) Try.isAgg74 rfl rfl rfl) (by decide) ?_
      refine WL.x (X.field Try.runUnderlying33 rfl Try.sizeOf3 rfl) (by decide) ?_
      refine WL.x (X.loadB (k := 1) Try.isAgg3 rfl rfl rfl) (by decide) ?_
      refine WL.x (X.field Try.runUnderlying33 rfl Try.sizeOf3 rfl) (by decide) ?_
      refine WL.x (X.loadB (k := 0) Try.isAgg3 rfl rfl rfl) (by decide) ?_
      refine WL.x (X.sub rfl rfl (by omega) (by omega)) (by decide) ?_
      refine WL.x (X.field Try.runUnderlying33 rfl Try.sizeOf3 rfl) (by decide) ?_
      refine WL.x (X.loadB (k := 1) Try.isAgg3 rfl rfl rfl) (by decide) ?_
      refine WL.x (X.field Try.runUnderlying33 rfl Try.sizeOf3 rfl) (by decide) ?_
      refine WL.x (X.loadB (k := 0) Try.isAgg3 rfl rfl rfl) (by decide) ?_
      refine WL.x (X.sub rfl rfl (by omega) (by omega)) (by decide) ?_
      refine WL.x (V := Value.agg [.int .i64 (((bt s.Shifts (((gt s.Values (((gt (comL s t) (k - 1)).a : Int).toNat)).Time)) (((gt s.Values (((gt (comL s t) k).a : Int).toNat)).Time))).Lo) - ((bt t.Shifts (((gt s.Values (((gt (comL s t) (k - 1)).a : Int).toNat)).Time)) (((gt s.Values (((gt (comL s t) k).a : Int).toNat)).Time))).Hi)), .int .i64 (((bt s.Shifts (((gt s.Values (((gt (comL s t) (k - 1)).a : Int).toNat)).Time)) (((gt s.Values (((gt (comL s t) k).a : Int).toNat)).Time))).Hi) - ((bt t.Shifts (((gt s.Values (((gt (comL s t) (k - 1)).a : Int).toNat)).Time)) (((gt s.Values (((gt (comL s t) k).a : Int).toNat)).Time))).Lo))].toArray) (X.build Try.zeroValue33 Try.runUnderlying33 (places33 _ Try.underlying33) rfl rfl) (by decide) ?_
      refine WL.tl (T.lit1 sl74 rfl rfl rfl (by decide)) (by decide) fun b112 => ?_
      refine WL.ta (T.appendF (k := 4) (a := (Span.mk (((bt s.Shifts (((gt s.Values (((gt (comL s t) (k - 1)).a : Int).toNat)).Time)) (((gt s.Values (((gt (comL s t) k).a : Int).toNat)).Time))).Lo) - ((bt t.Shifts (((gt s.Values (((gt (comL s t) (k - 1)).a : Int).toNat)).Time)) (((gt s.Values (((gt (comL s t) k).a : Int).toNat)).Time))).Hi)) (((bt s.Shifts (((gt s.Values (((gt (comL s t) (k - 1)).a : Int).toNat)).Time)) (((gt s.Values (((gt (comL s t) k).a : Int).toNat)).Time))).Hi) - ((bt t.Shifts (((gt s.Values (((gt (comL s t) (k - 1)).a : Int).toNat)).Time)) (((gt s.Values (((gt (comL s t) k).a : Int).toNat)).Time))).Lo)))) sl74 rfl rfl rfl rfl (by first | omega | (simp; done) | (simp; omega)) (by decide)) (by decide) (fun v113 => ?_)
      refine WL.x (X.field Try.runUnderlying121 rfl Try.sizeOf74 rfl) (by decide) ?_
      refine WL.own1 (k := 4) rfl (fun ho114 => ?_)
      refine WL.ts (T.storeB (k := 6) Try.sizeOf74 rfl rfl rfl ho114 (Nat.le_of_ble_eq_true rfl)) ?_
      refine WL.nil ?_
      refine WK.nThen ?_
      refine WC.seq ?_
      refine WC.region ?_
      refine WL.x (X.field Try.runUnderlying62 rfl Try.sizeOf3 rfl) (by decide) ?_
      refine WL.x (X.loadB (k := 3) Try.isAgg3 rfl rfl rfl) (by decide) ?_
      refine WL.x (X.move rfl) (by decide) ?_
      refine WL.cond (X.geq rfl rfl) (by decide) (fun h115 => ?_) (fun h115 => ?_)
      ·refine WL.nil ?_
       refine WK.nThen ?_
       refine WC.condT rfl ?_
       refine WC.region ?_
       refine WL.x (X.move rfl) (by decide) ?_
       refine WL.x (X.move rfl) (by decide) ?_
       refine WL.x (X.mn rfl rfl) (by decide) ?_
       refine WL.x (X.assign rfl) (by decide) ?_
       refine WL.nil ?_
       refine WK.nBlock ?_
       refine WK.nThen ?_
       refine WC.region ?_
       refine WL.x (X.add rfl rfl (by omega) (by omega)) (by decide) ?_
       refine WL.x (X.move rfl) (by decide) ?_
       refine WL.nil ?_
       refine WK.nThen ?_
       refine WK.back hgood0 (Mem.le_trans hle54 hle111) ?_
       have he116 : (((List.range k).map (difV s t)) ++ [(Span.mk ((((gt s.Values (((gt (comL s t) k).a : Int).toNat)).Levels).Lo) - (((gt t.Values (((gt (comL s t) k).b : Int).toNat)).Levels).Hi)) ((((gt s.Values (((gt (comL s t) k).a : Int).toNat)).Levels).Hi) - (((gt t.Values (((gt (comL s t) k).b : Int).toNat)).Levels).Lo)))]) = ((List.range (k + 1)).map (difV s t)) := map_succ _ _
       rw [he116]
       have he117 : (((List.range (k - 1)).map (difX s t)) ++ [(Span.mk (((bt s.Shifts (((gt s.Values (((gt (comL s t) (k - 1)).a : Int).toNat)).Time)) (((gt s.Values (((gt (comL s t) k).a : Int).toNat)).Time))).Lo) - ((bt t.Shifts (((gt s.Values (((gt (comL s t) (k - 1)).a : Int).toNat)).Time)) (((gt s.Values (((gt (comL s t) k).a : Int).toNat)).Time))).Hi)) (((bt s.Shifts (((gt s.Values (((gt (comL s t) (k - 1)).a : Int).toNat)).Time)) (((gt s.Values (((gt (comL s t) k).a : Int).toNat)).Time))).Hi) - ((bt t.Shifts (((gt s.Values (((gt (comL s t) (k - 1)).a : Int).toNat)).Time)) (((gt s.Values (((gt (comL s t) k).a : Int).toNat)).Time))).Lo)))]) = ((List.range (k + 1 - 1)).map (difX s t)) := (by first | exact dif_snoc (by omega) | exact win_none (by omega))
       rw [he117]
       refine WK.next ((k + 1, v77, v113, min f ↑k)) rfl (.cons _ (.cons _ (.cons _ (.cons _ (.refl _))))) (.cons rfl (.cons rfl (.cons rfl (.cons rfl (.cons rfl (.cons rfl (.cons rfl (.cons rfl (.cons rfl (.cons rfl .nil)))))))))) ?_ ?_
       ·first | exact ⟨by omega, dif_yes hf (by omega) (by unfold difT; omega)⟩ | exact ⟨by omega, dif_no hf (by unfold difT; omega)⟩
       ·(dsimp only; omega)
      ·refine WL.nil ?_
       refine WK.nThen ?_
       refine WC.condF rfl ?_
       refine WC.skip ?_
       refine WK.nBlock ?_
       refine WK.nThen ?_
       refine WC.region ?_
       refine WL.x (X.add rfl rfl (by omega) (by omega)) (by decide) ?_
       refine WL.x (X.move rfl) (by decide) ?_
       refine WL.nil ?_
       refine WK.nThen ?_
       refine WK.back hgood0 (Mem.le_trans hle54 hle111) ?_
       have he118 : (((List.range k).map (difV s t)) ++ [(Span.mk ((((gt s.Values (((gt (comL s t) k).a : Int).toNat)).Levels).Lo) - (((gt t.Values (((gt (comL s t) k).b : Int).toNat)).Levels).Hi)) ((((gt s.Values (((gt (comL s t) k).a : Int).toNat)).Levels).Hi) - (((gt t.Values (((gt (comL s t) k).b : Int).toNat)).Levels).Lo)))]) = ((List.range (k + 1)).map (difV s t)) := map_succ _ _
       rw [he118]
       have he119 : (((List.range (k - 1)).map (difX s t)) ++ [(Span.mk (((bt s.Shifts (((gt s.Values (((gt (comL s t) (k - 1)).a : Int).toNat)).Time)) (((gt s.Values (((gt (comL s t) k).a : Int).toNat)).Time))).Lo) - ((bt t.Shifts (((gt s.Values (((gt (comL s t) (k - 1)).a : Int).toNat)).Time)) (((gt s.Values (((gt (comL s t) k).a : Int).toNat)).Time))).Hi)) (((bt s.Shifts (((gt s.Values (((gt (comL s t) (k - 1)).a : Int).toNat)).Time)) (((gt s.Values (((gt (comL s t) k).a : Int).toNat)).Time))).Hi) - ((bt t.Shifts (((gt s.Values (((gt (comL s t) (k - 1)).a : Int).toNat)).Time)) (((gt s.Values (((gt (comL s t) k).a : Int).toNat)).Time))).Lo)))]) = ((List.range (k + 1 - 1)).map (difX s t)) := (by first | exact dif_snoc (by omega) | exact win_none (by omega))
       rw [he119]
       refine WK.next ((k + 1, v77, v113, f)) rfl (.cons _ (.cons _ (.cons _ (.cons _ (.refl _))))) (.cons rfl (.cons rfl (.cons rfl (.cons rfl (.cons rfl (.cons rfl (.cons rfl (.cons rfl (.cons rfl (.cons rfl .nil)))))))))) ?_ ?_
       ·first | exact ⟨by omega, dif_yes hf (by omega) (by unfold difT; omega)⟩ | exact ⟨by omega, dif_no hf (by unfold difT; omega)⟩
       ·(dsimp only; omega)
    ·refine WL.nil ?_
     refine WK.nThen ?_
     refine WC.condF rfl ?_
     refine WC.skip ?_
     refine WK.nThen ?_
     refine WC.seq ?_
     refine WC.region ?_
     refine WL.x (X.field Try.runUnderlying62 rfl Try.sizeOf3 rfl) (by decide) ?_
     refine WL.x (X.loadB (k := 1) Try.isAgg3 rfl rfl rfl) (by decide) ?_
     refine WL.x (X.move rfl) (by decide) ?_
     refine WL.cond (X.geq rfl rfl) (by decide) (fun h120 => ?_) (fun h120 => ?_)
     ·refine WL.nil ?_
      refine WK.nThen ?_
      refine WC.condT rfl ?_
      refine WC.region ?_
      refine WL.x (X.move rfl) (by decide) ?_
      refine WL.x (X.move rfl) (by decide) ?_
      refine WL.x (X.mn rfl rfl) (by decide) ?_
      refine WL.x (X.assign rfl) (by decide) ?_
      refine WL.nil ?_
      refine WK.nBlock ?_
      refine WK.nThen ?_
      refine WC.region ?_
      refine WL.x (X.add rfl rfl (by omega) (by omega)) (by decide) ?_
      refine WL.x (X.move rfl) (by decide) ?_
      refine WL.nil ?_
      refine WK.nThen ?_
      refine WK.back hgood0 hle54 ?_
      have he121 : (((List.range k).map (difV s t)) ++ [(Span.mk ((((gt s.Values (((gt (comL s t) k).a : Int).toNat)).Levels).Lo) - (((gt t.Values (((gt (comL s t) k).b : Int).toNat)).Levels).Hi)) ((((gt s.Values (((gt (comL s t) k).a : Int).toNat)).Levels).Hi) - (((gt t.Values (((gt (comL s t) k).b : Int).toNat)).Levels).Lo)))]) = ((List.range (k + 1)).map (difV s t)) := map_succ _ _
      rw [he121]
      have he122 : ((List.range (k - 1)).map (difX s t)) = ((List.range (k + 1 - 1)).map (difX s t)) := (by first | exact dif_snoc (by omega) | exact win_none (by omega))
      rw [he122]
      refine WK.next ((k + 1, v77, vb, min f ↑k)) rfl (.cons _ (.cons _ (.refl _))) (.cons rfl (.cons rfl (.cons rfl (.cons rfl (.cons rfl (.cons rfl (.cons rfl (.cons rfl (.cons rfl (.cons rfl .nil)))))))))) ?_ ?_
      ·first | exact ⟨by omega, dif_yes hf (by omega) (by unfold difT; omega)⟩ | exact ⟨by omega, dif_no hf (by unfold difT; omega)⟩
      ·(dsimp only; omega)
     ·refine WL.nil ?_
      refine WK.nThen ?_
      refine WC.condF rfl ?_
      refine WC.skip ?_
      refine WK.nBlock ?_
      refine WK.nThen ?_
      refine WC.region ?_
      refine WL.x (X.add rfl rfl (by omega) (by omega)) (by decide) ?_
      refine WL.x (X.move rfl) (by decide) ?_
      refine WL.nil ?_
      refine WK.nThen ?_
      refine WK.back hgood0 hle54 ?_
      have he123 : (((List.range k).map (difV s t)) ++ [(Span.mk ((((gt s.Values (((gt (comL s t) k).a : Int).toNat)).Levels).Lo) - (((gt t.Values (((gt (comL s t) k).b : Int).toNat)).Levels).Hi)) ((((gt s.Values (((gt (comL s t) k).a : Int).toNat)).Levels).Hi) - (((gt t.Values (((gt (comL s t) k).b : Int).toNat)).Levels).Lo)))]) = ((List.range (k + 1)).map (difV s t)) := map_succ _ _
      rw [he123]
      have he124 : ((List.range (k - 1)).map (difX s t)) = ((List.range (k + 1 - 1)).map (difX s t)) := (by first | exact dif_snoc (by omega) | exact win_none (by omega))
      rw [he124]
      refine WK.next ((k + 1, v77, vb, f)) rfl (.cons _ (.cons _ (.refl _))) (.cons rfl (.cons rfl (.cons rfl (.cons rfl (.cons rfl (.cons rfl (.cons rfl (.cons rfl (.cons rfl (.cons rfl .nil)))))))))) ?_ ?_
      ·first | exact ⟨by omega, dif_yes hf (by omega) (by unfold difT; omega)⟩ | exact ⟨by omega, dif_no hf (by unfold difT; omega)⟩
      ·(dsimp only; omega)
   ·refine DW.tn rfl rfl rfl (T.alloc Try.zeroValue62 rfl) (by decide) fun b125 => ?_
    refine DW.tn rfl rfl rfl (T.alloc Try.zeroValue62 rfl) (by decide) fun b126 => ?_
    refine DW.ts rfl rfl rfl rfl (T.storeBA (k := 0) Try.sizeOf62 rfl rfl rfl (one_cons rfl (one_cons rfl (one_cons rfl one_nil))) rfl rfl) ?_
    refine DW.ts rfl rfl rfl rfl (T.storeBA (k := 1) Try.sizeOf62 rfl rfl rfl (one_cons rfl (one_cons rfl (one_cons rfl one_nil))) rfl rfl) ?_
    refine DW.nil ?_
    refine WK.nThen ?_
    refine WC.seq ?_
    have hv1 := hos.vl (i := (gt (comL s t) k).a.toNat) (by omega)
    have hv2 := hot.vl (i := (gt (comL s t) k).b.toNat) (by omega)
    refine WC.region ?_
    refine WL.x (X.field Try.runUnderlying121 rfl Try.sizeOf74 rfl) (by decide) ?_
    refine WL.x (X.loadB (k := 4) Try.isAgg74 rfl rfl rfl) (by decide) ?_
    refine WL.x (X.field Try.runUnderlying62 rfl Try.sizeOf33 rfl) (by decide) ?_
    refine WL.x (X.field Try.runUnderlying33 rfl Try.sizeOf3 rfl) (by decide) ?_
    refine WL.x (X.loadB (k := 0) Try.isAgg3 rfl rfl rfl) (by decide) ?_
    refine WL.x (X.field Try.runUnderlying62 rfl Try.sizeOf33 rfl) (by decide) ?_
    refine WL.x (X.field Try.runUnderlying33 rfl Try.sizeOf3 rfl) (by decide) ?_
    refine WL.x (X.loadB (k := 1) Try.isAgg3 rfl rfl rfl) (by decide) ?_
    refine WL.x (X.sub rfl rfl (by omega) (by omega)) (by decide) ?_
    refine WL.x (X.field Try.runUnderlying62 rfl Try.sizeOf33 rfl) (by decide) ?_
    refine WL.x (X.field Try.runUnderlying33 rfl Try.sizeOf3 rfl) (by decide) ?_
    refine WL.x (X.loadB (k := 0) Try.isAgg3 rfl rfl rfl) (by decide) ?_
    refine WL.x (X.field Try.runUnderlying62 rfl Try.sizeOf33 rfl) (by decide) ?_
    refine WL.x (X.field Try.runUnderlying33 rfl Try.sizeOf3 rfl) (by decide) ?_
    refine WL.x (X.loadB (k := 1) Try.isAgg3 rfl rfl rfl) (by decide) ?_
    refine WL.x (X.sub rfl rfl (by omega) (by omega)) (by decide) ?_
    refine WL.x (V := Value.agg [.int .i64 ((((gt s.Values (((gt (comL s t) k).a : Int).toNat)).Levels).Lo) - (((gt t.Values (((gt (comL s t) k).b : Int).toNat)).Levels).Hi)), .int .i64 ((((gt s.Values (((gt (comL s t) k).a : Int).toNat)).Levels).Hi) - (((gt t.Values (((gt (comL s t) k).b : Int).toNat)).Levels).Lo))].toArray) (X.build Try.zeroValue33 Try.runUnderlying33 (places33 _ Try.underlying33) rfl rfl) (by decide) ?_
    refine WL.tl (T.lit1 sl74 rfl rfl rfl (by decide)) (by decide) fun b127 => ?_
    refine WL.ta (T.appendF (k := 3) (a := (Span.mk ((((gt s.Values (((gt (comL s t) k).a : Int).toNat)).Levels).Lo) - (((gt t.Values (((gt (comL s t) k).b : Int).toNat)).Levels).Hi)) ((((gt s.Values (((gt (comL s t) k).a : Int).toNat)).Levels).Hi) - (((gt t.Values (((gt (comL s t) k).b : Int).toNat)).Levels).Lo)))) sl74 rfl rfl rfl rfl (by first | omega | (simp; done) | (simp; omega)) (by decide)) (by decide) (fun v128 => ?_)
    refine WL.x (X.field Try.runUnderlying121 rfl Try.sizeOf74 rfl) (by decide) ?_
    refine WL.own1 (k := 3) rfl (fun ho129 => ?_)
    refine WL.ts (T.storeB (k := 4) Try.sizeOf74 rfl rfl rfl ho129 (Nat.le_of_ble_eq_true rfl)) ?_
    refine WL.nil ?_
    refine WK.nThen ?_
    refine WC.seq ?_
    refine WC.seq ?_
    refine WC.region ?_
    refine WL.x (X.move rfl) (by decide) ?_
    refine WL.cond (X.gtr rfl rfl) (by decide) (fun h130 => ?_) (fun h130 => ?_)
    ·refine WL.nil ?_
     refine WK.nThen ?_
     refine WC.condT rfl ?_
     refine WC.seq ?_
     have hcp1 := hcp (by omega)
     refine WC.draw (π := (.cons 0 (.cons 1 (.cons 2 (.cons 3 (.cons 4 (.cons 5 (.cons 6 (.cons 7 (.cons 8 (.cons 9 (.cons 10 (.cons 11 .done))))))))))))) [] [] rfl (by kernel_rfl) ?_
     have hp131 := At.Ser_0 hp18
     refine DW.x rfl rfl (X.field Try.runUnderlying25 rfl Try.sizeOf22 rfl) (by decide) ?_
     refine DW.xe rfl rfl (E.loadSl Try.isAgg22 rfl hp131) (by decide) (fun v132 hs133 => ?_)
     have hl134 := hs133.le
     refine DW.x rfl rfl (X.move rfl) (by decide) ?_
     refine DW.x rfl rfl (X.move rfl) (by decide) ?_
     refine DW.x rfl rfl (X.sub rfl rfl (by omega) (by omega)) (by decide) ?_
     refine DW.xe rfl rfl (E.idxE (k - 1) Try.runUnderlying108 Try.sizeOf113 rfl rfl hs44 (by omega) (by omega)) (by decide) (fun p135 hp136 => ?_)
     have hp137 := At.A2_0 hp136
     refine DW.x rfl rfl (X.idxAr 0 Try.underlying113 Try.sizeOf3 rfl rfl rfl (by decide)) (by decide) ?_
     refine DW.x rfl rfl (X.loadInt Try.isAgg3 rfl hp137) (by decide) ?_
     refine DW.xe rfl rfl (E.idx Try.runUnderlying22 Try.sizeOf62 rfl rfl hs133 (by omega) (by omega)) (by decide) (fun p138 hp139 => ?_)
     have hp140 := At.Val_0 hp139
     refine DW.x rfl rfl (X.field Try.runUnderlying62 rfl Try.sizeOf3 rfl) (by decide) ?_
     refine DW.x rfl rfl (X.loadInt Try.isAgg3 rfl hp140) (by decide) ?_
     refine DW.x rfl rfl (X.assign rfl) (by decide) ?_
     refine DW.nil ?_
     refine WK.nThen ?_
     refine WC.cut (G := Mem × Nat × Nat) (fun (m141, b157, b158) => m141) (fun (m141, b157, b158) => [blk b158 33 [.int .i64 ((bt t.Shifts (((gt s.Values (((gt (comL s t) (k - 1)).a : Int).toNat)).Time)) (((gt s.Values (((gt (comL s t) k).a : Int).toNat)).Time))).Lo), .int .i64 ((bt t.Shifts (((gt s.Values (((gt (comL s t) (k - 1)).a : Int).toNat)).Time)) (((gt s.Values (((gt (comL s t) k).a : Int).toNat)).Time))).Hi)], blk b157 33 [.int .i64 ((bt s.Shifts (((gt s.Values (((gt (comL s t) (k - 1)).a : Int).toNat)).Time)) (((gt s.Values (((gt (comL s t) k).a : Int).toNat)).Time))).Lo), .int .i64 ((bt s.Shifts (((gt s.Values (((gt (comL s t) (k - 1)).a : Int).toNat)).Time)) (((gt s.Values (((gt (comL s t) k).a : Int).toNat)).Time))).Hi)], blk b126 62 [.int .i64 ((gt s.Values (((gt (comL s t) k).a : Int).toNat)).Time), .int .i64 (((gt s.Values (((gt (comL s t) k).a : Int).toNat)).Levels).Lo), .int .i64 (((gt s.Values (((gt (comL s t) k).a : Int).toNat)).Levels).Hi)], blk b125 62 [.int .i64 ((gt t.Values (((gt (comL s t) k).b : Int).toNat)).Time), .int .i64 (((gt t.Values (((gt (comL s t) k).b : Int).toNat)).Levels).Lo), .int .i64 (((gt t.Values (((gt (comL s t) k).b : Int).toNat)).Levels).Hi)], rowF (vb) 33 ((List.range (k - 1)).map (difX s t)), rowF (v128) 33 (((List.range k).map (difV s t)) ++ [(Span.mk ((((gt s.Values (((gt (comL s t) k).a : Int).toNat)).Levels).Lo) - (((gt t.Values (((gt (comL s t) k).b : Int).toNat)).Levels).Hi)) ((((gt s.Values (((gt (comL s t) k).a : Int).toNat)).Levels).Hi) - (((gt t.Values (((gt (comL s t) k).b : Int).toNat)).Levels).Lo)))]), blk b22 121 [v128, vb], blk b15 121 [.slice none 0 0, .slice none 0 0]]) (fun (m141, b157, b158) => [(2, .int .i64 (time)), (3, .pointer (some (⟨b13, 0, none⟩))), (4, .pointer (some (⟨b14, 0, none⟩))), (6, .pointer (some ⟨b15, 0, none⟩)), (8, .pointer (some ⟨b22, 0, none⟩)), (9, r40), (10, .int .i64 (f)), (11, .int .i64 (↑k)), (13, .pointer (some ⟨b126, 0, none⟩)), (16, .pointer (some ⟨b157, 0, none⟩)), (17, .pointer (some ⟨b158, 0, none⟩)), (23, r40), (24, .int .i64 (↑(comL s t).length)), (25, .int .i64 (↑k))]) (fun (m141, b157, b158) => m53.le m141) ?_ ?_
     ·refine WC.draw (π := (.cons 0 (.cons 1 (.cons 2 (.cons 3 (.cons 4 (.cons 5 (.cons 6 (.cons 7 (.cons 8 (.cons 9 (.cons 10 (.cons 11 (.fork (.cons 12 (.cons 13 (.cons 14 (.cons 15 .done)))) (.cons 13 (.cons 12 (.cons 14 (.cons 15 .done)))))))))))))))))) [12, 13, 14, 15] [14, 15] rfl (by kernel_rfl) ?_
      refine DW.xe rfl rfl (E.loadAgg Try.isAgg25 Try.sizeOf25 rfl hp18) (by decide) (fun c142 hc143 => ?_)
      obtain ⟨v144, v146, rfl, hs145, hs147⟩ := hc143
      have hl148 := hs145.le
      have hl149 := hs147.le
      refine DW.x (V := Value.agg [v144, v146].toArray) rfl rfl (X.build Try.zeroValue111 Try.runUnderlying111 (places111 _ Try.underlying111) rfl rfl) (by decide) ?_
      refine DW.x rfl rfl (X.move rfl) (by decide) ?_
      refine DW.x rfl rfl (X.field Try.runUnderlying62 rfl Try.sizeOf3 rfl) (by decide) ?_
      refine DW.x rfl rfl (X.loadB (k := 0) Try.isAgg3 rfl rfl rfl) (by decide) ?_
      refine DW.x rfl rfl (X.call Try.call99 rfl (between99 _ _ s ⟨_, _, rfl, hs145, hs147⟩ _ _ (by assumption))) (by decide) ?_
      refine DW.xe rfl rfl (E.loadAgg Try.isAgg25 Try.sizeOf25 rfl hp21) (by decide) (fun c150 hc151 => ?_)
      obtain ⟨v152, v154, rfl, hs153, hs155⟩ := hc151
      have hl156 := hs153.le
      have hl157 := hs155.le
      refine DW.x (V := Value.agg [v152, v154].toArray) rfl rfl (X.build Try.zeroValue111 Try.runUnderlying111 (places111 _ Try.underlying111) rfl rfl) (by decide) ?_
      refine DW.x rfl rfl (X.move rfl) (by decide) ?_
      refine DW.x rfl rfl (X.field Try.runUnderlying62 rfl Try.sizeOf3 rfl) (by decide) ?_
      refine DW.x rfl rfl (X.loadB (k := 0) Try.isAgg3 rfl rfl rfl) (by decide) ?_
      refine DW.x rfl rfl (X.call Try.call99 rfl (between99 _ _ t ⟨_, _, rfl, hs153, hs155⟩ _ _ (by assumption))) (by decide) ?_
      refine DW.fork (List.cons_ne_nil _ _) ?_ ?_
      ·refine DW.tn rfl rfl rfl (T.alloc Try.zeroValue33 rfl) (by decide) fun b158 => ?_
       refine DW.tn rfl rfl rfl (T.alloc Try.zeroValue33 rfl) (by decide) fun b159 => ?_
       refine DW.ts rfl rfl rfl rfl (T.storeBA (k := 1) Try.sizeOf33 rfl rfl rfl (one_cons rfl (one_cons rfl one_nil)) rfl rfl) ?_
       refine DW.ts rfl rfl rfl rfl (T.storeBA (k := 0) Try.sizeOf33 rfl rfl rfl (one_cons rfl (one_cons rfl one_nil)) rfl rfl) ?_
       refine DW.nil ?_
       refine WK.nThen ?_
       exact WK.meet (m53, b158, b159) rfl (.refl _) (.cons rfl (.cons rfl (.cons rfl (.cons rfl (.cons rfl (.cons rfl (.cons rfl (.cons rfl (.cons rfl (.cons rfl (.cons rfl (.cons rfl (.cons rfl (.cons rfl .nil)))))))))))))) (Mem.le_refl _)
      ·refine DW.tn rfl rfl rfl (T.alloc Try.zeroValue33 rfl) (by decide) fun b160 => ?_
       refine DW.tn rfl rfl rfl (T.alloc Try.zeroValue33 rfl) (by decide) fun b161 => ?_
       refine DW.ts rfl rfl rfl rfl (T.storeBA (k := 0) Try.sizeOf33 rfl rfl rfl (one_cons rfl (one_cons rfl one_nil)) rfl rfl) ?_
       refine DW.ts rfl rfl rfl rfl (T.storeBA (k := 1) Try.sizeOf33 rfl rfl rfl (one_cons rfl (one_cons rfl one_nil)) rfl rfl) ?_
       refine DW.nil ?_
       refine WK.nThen ?_
       refine WK.perm [blk b160 33 [.int .i64 ((bt t.Shifts (((gt s.Values (((gt (comL s t) (k - 1)).a : Int).toNat)).Time)) (((gt s.Values (((gt (comL s t) k).a : Int).toNat)).Time))).Lo), .int .i64 ((bt t.Shifts (((gt s.Values (((gt (comL s t) (k - 1)).a : Int).toNat)).Time)) (((gt s.Values (((gt (comL s t) k).a : Int).toNat)).Time))).Hi)], blk b161 33 [.int .i64 ((bt s.Shifts (((gt s.Values (((gt (comL s t) (k - 1)).a : Int).toNat)).Time)) (((gt s.Values (((gt (comL s t) k).a : Int).toNat)).Time))).Lo), .int .i64 ((bt s.Shifts (((gt s.Values (((gt (comL s t) (k - 1)).a : Int).toNat)).Time)) (((gt s.Values (((gt (comL s t) k).a : Int).toNat)).Time))).Hi)], blk b126 62 [.int .i64 ((gt s.Values (((gt (comL s t) k).a : Int).toNat)).Time), .int .i64 (((gt s.Values (((gt (comL s t) k).a : Int).toNat)).Levels).Lo), .int .i64 (((gt s.Values (((gt (comL s t) k).a : Int).toNat)).Levels).Hi)], blk b125 62 [.int .i64 ((gt t.Values (((gt (comL s t) k).b : Int).toNat)).Time), .int .i64 (((gt t.Values (((gt (comL s t) k).b : Int).toNat)).Levels).Lo), .int .i64 (((gt t.Values (((gt (comL s t) k).b : Int).toNat)).Levels).Hi)], rowF (vb) 33 ((List.range (k - 1)).map (difX s t)), rowF (v128) 33 (((List.range k).map (difV s t)) ++ [(Span.mk ((((gt s.Values (((gt (comL s t) k).a : Int).toNat)).Levels).Lo) - (((gt t.Values (((gt (comL s t) k).b : Int).toNat)).Levels).Hi)) ((((gt s.Values (((gt (comL s t) k).a : Int).toNat)).Levels).Hi) - (((gt t.Values (((gt (comL s t) k).b : Int).toNat)).Levels).Lo)))]), blk b22 121 [v128, vb], blk b15 121 [.slice none 0 0, .slice none 0 0]] ((List.Perm.cons _ (.refl _)).trans (List.perm_middle (l₁ := [blk b161 33 [.int .i64 ((bt s.Shifts (((gt s.Values (((gt (comL s t) (k - 1)).a : Int).toNat)).Time)) (((gt s.Values (((gt (comL s t) k).a : Int).toNat)).Time))).Lo), .int .i64 ((bt s.Shifts (((gt s.Values (((gt (comL s t) (k - 1)).a : Int).toNat)).Time)) (((gt s.Values (((gt (comL s t) k).a : Int).toNat)).Time))).Hi)]]) (l₂ := [blk b126 62 [.int .i64 ((gt s.Values (((gt (comL s t) k).a : Int).toNat)).Time), .int .i64 (((gt s.Values (((gt (comL s t) k).a : Int).toNat)).Levels).Lo), .int .i64 (((gt s.Values (((gt (comL s t) k).a : Int).toNat)).Levels).Hi)], blk b125 62 [.int .i64 ((gt t.Values (((gt (comL s t) k).b : Int).toNat)).Time), .int .i64 (((gt t.Values (((gt (comL s t) k).b : Int).toNat)).Levels).Lo), .int .i64 (((gt t.Values (((gt (comL s t) k).b : Int).toNat)).Levels).Hi)], rowF (vb) 33 ((List.range (k - 1)).map (difX s t)), rowF (v128) 33 (((List.range k).map (difV s t)) ++ [(Span.mk ((((gt s.Values (((gt (comL s t) k).a : Int).toNat)).Levels).Lo) - (((gt t.Values (((gt (comL s t) k).b : Int).toNat)).Levels).Hi)) ((((gt s.Values (((gt (comL s t) k).a : Int).toNat)).Levels).Hi) - (((gt t.Values (((gt (comL s t) k).b : Int).toNat)).Levels).Lo)))]), blk b22 121 [v128, vb], blk b15 121 [.slice none 0 0, .slice none 0 0]]) (a := blk b160 33 [.int .i64 ((bt t.Shifts (((gt s.Values (((gt (comL s t) (k - 1)).a : Int).toNat)).Time)) (((gt s.Values (((gt (comL s t) k).a : Int).toNat)).Time))).Lo), .int .i64 ((bt t.Shifts (((gt s.Values (((gt (comL s t) (k - 1)).a : Int).toNat)).Time)) (((gt s.Values (((gt (comL s t) k).a : Int).toNat)).Time))).Hi)])).symm) ?_
       exact WK.meet (m53, b161, b160) rfl (.refl _) (.cons rfl (.cons rfl (.cons rfl (.cons rfl (.cons rfl (.cons rfl (.cons rfl (.cons rfl (.cons rfl (.cons rfl (.cons rfl (.cons rfl (.cons rfl (.cons rfl .nil)))))))))))))) (Mem.le_refl _)
     ·rintro ⟨m141, b157, b158⟩ hle162
      show WK _ _ m141 [blk b158 33 [.int .i64 ((bt t.Shifts (((gt s.Values (((gt (comL s t) (k - 1)).a : Int).toNat)).Time)) (((gt s.Values (((gt (comL s t) k).a : Int).toNat)).Time))).Lo), .int .i64 ((bt t.Shifts (((gt s.Values (((gt (comL s t) (k - 1)).a : Int).toNat)).Time)) (((gt s.Values (((gt (comL s t) k).a : Int).toNat)).Time))).Hi)], blk b157 33 [.int .i64 ((bt s.Shifts (((gt s.Values (((gt (comL s t) (k - 1)).a : Int).toNat)).Time)) (((gt s.Values (((gt (comL s t) k).a : Int).toNat)).Time))).Lo), .int .i64 ((bt s.Shifts (((gt s.Values (((gt (comL s t) (k - 1)).a : Int).toNat)).Time)) (((gt s.Values (((gt (comL s t) k).a : Int).toNat)).Time))).Hi)], blk b126 62 [.int .i64 ((gt s.Values (((gt (comL s t) k).a : Int).toNat)).Time), .int .i64 (((gt s.Values (((gt (comL s t) k).a : Int).toNat)).Levels).Lo), .int .i64 (((gt s.Values (((gt (comL s t) k).a : Int).toNat)).Levels).Hi)], blk b125 62 [.int .i64 ((gt t.Values (((gt (comL s t) k).b : Int).toNat)).Time), .int .i64 (((gt t.Values (((gt (comL s t) k).b : Int).toNat)).Levels).Lo), .int .i64 (((gt t.Values (((gt (comL s t) k).b : Int).toNat)).Levels).Hi)], rowF (vb) 33 ((List.range (k - 1)).map (difX s t)), rowF (v128) 33 (((List.range k).map (difV s t)) ++ [(Span.mk ((((gt s.Values (((gt (comL s t) k).a : Int).toNat)).Levels).Lo) - (((gt t.Values (((gt (comL s t) k).b : Int).toNat)).Levels).Hi)) ((((gt s.Values (((gt (comL s t) k).a : Int).toNat)).Levels).Hi) - (((gt t.Values (((gt (comL s t) k).b : Int).toNat)).Levels).Lo)))]), blk b22 121 [v128, vb], blk b15 121 [.slice none 0 0, .slice none 0 0]] [(2, .int .i64 (time)), (3, .pointer (some (⟨b13, 0, none⟩))), (4, .pointer (some (⟨b14, 0, none⟩))), (6, .pointer (some ⟨b15, 0, none⟩)), (8, .pointer (some ⟨b22, 0, none⟩)), (9, r40), (10, .int .i64 (f)), (11, .int .i64 (↑k)), (13, .pointer (some ⟨b126, 0, none⟩)), (16, .pointer (some ⟨b157, 0, none⟩)), (17, .pointer (some ⟨b158, 0, none⟩)), (23, r40), (24, .int .i64 (↑(comL s t).length)), (25, .int .i64 (↑k))] _
      replace hs2 := hs2.mono hle162
      replace hs4 := hs4.mono hle162
      replace hs8 := hs8.mono hle162
      replace hs10 := hs10.mono hle162
      replace hp18 := hp18.mono hle162
      replace hp21 := hp21.mono hle162
      replace hs26 := hs26.mono hle162
      replace hs28 := hs28.mono hle162
      replace hs34 := hs34.mono hle162
      replace hs36 := hs36.mono hle162
      replace hs44 := hs44.mono hle162
      replace hp49 := hp49.mono hle162
      replace hp55 := hp55.mono hle162
      replace hp56 := hp56.mono hle162
      replace hs58 := hs58.mono hle162
      replace hp60 := hp60.mono hle162
      replace hp62 := hp62.mono hle162
      replace hp65 := hp65.mono hle162
      replace hs67 := hs67.mono hle162
      replace hp69 := hp69.mono hle162
      replace hp71 := hp71.mono hle162
      replace hp131 := hp131.mono hle162
      replace hs133 := hs133.mono hle162
      replace hp136 := hp136.mono hle162
      replace hp137 := hp137.mono hle162
      replace hp139 := hp139.mono hle162
      replace hp140 := hp140.mono hle162
      have hbs := btS_bd hos (difT s t (k - 1)) (difT s t k)
      have hbt := btS_bd hot (difT s t (k - 1)) (difT s t k)
      unfold difT at hbs hbt
      refine WC.region ?_
      refine WL.x (X.field Try.runUnderlying121 rfl Try.sizeOf74 rfl) (by decide) ?_
      refine WL.x (X.loadB (k := 6) Try.isAgg74 rfl rfl rfl) (by decide) ?_
      refine WL.x (X.field Try.runUnderlying33 rfl Try.sizeOf3 rfl) (by decide) ?_
      refine WL.x (X.loadB (k := 1) Try.isAgg3 rfl rfl rfl) (by decide) ?_
      refine WL.x (X.field Try.runUnderlying33 rfl Try.sizeOf3 rfl) (by decide) ?_
      refine WL.x (X.loadB (k := 0) Try.isAgg3 rfl rfl rfl) (by decide) ?_
      refine WL.x (X.sub rfl rfl (by omega) (by omega)) (by decide) ?_
      refine WL.x (X.field Try.runUnderlying33 rfl Try.sizeOf3 rfl) (by decide) ?_
      refine WL.x (X.loadB (k := 1) Try.isAgg3 rfl rfl rfl) (by decide) ?_
      refine WL.x (X.field Try.runUnderlying33 rfl Try.sizeOf3 rfl) (by decide) ?_
      refine WL.x (X.loadB (k := 0) Try.isAgg3 rfl rfl rfl) (by decide) ?_
      refine WL.x (X.sub rfl rfl (by omega) (by omega)) (by decide) ?_
      refine WL.x (V := Value.agg [.int .i64 (((bt s.Shifts (((gt s.Values (((gt (comL s t) (k - 1)).a : Int).toNat)).Time)) (((gt s.Values (((gt (comL s t) k).a : Int).toNat)).Time))).Lo) - ((bt t.Shifts (((gt s.Values (((gt (comL s t) (k - 1)).a : Int).toNat)).Time)) (((gt s.Values (((gt (comL s t) k).a : Int).toNat)).Time))).Hi)), .int .i64 (((bt s.Shifts (((gt s.Values (((gt (comL s t) (k - 1)).a : Int).toNat)).Time)) (((gt s.Values (((gt (comL s t) k).a : Int).toNat)).Time))).Hi) - ((bt t.Shifts (((gt s.Values (((gt (comL s t) (k - 1)).a : Int).toNat)).Time)) (((gt s.Values (((gt (comL s t) k).a : Int).toNat)).Time))).Lo))].toArray) (X.build Try.zeroValue33 Try.runUnderlying33 (places33 _ Try.underlying33) rfl rfl) (by decide) ?_
      refine WL.tl (T.lit1 sl74 rfl rfl rfl (by decide)) (by decide) fun b163 => ?_
      refine WL.ta (T.appendF (k := 4) (a := (Span.mk (((bt s.Shifts (((gt s.Values (((gt (comL s t) (k - 1)).a : Int).toNat)).Time)) (((gt s.Values (((gt (comL s t) k).a : Int).toNat)).Time))).Lo) - ((bt t.Shifts (((gt s.Values (((gt (comL s t) (k - 1)).a : Int).toNat)).Time)) (((gt s.Values (((gt (comL s t) k).a : Int).toNat)).Time))).Hi)) (((bt s.Shifts (((gt s.Values (((gt (comL s t) (k - 1)).a : Int).toNat)).Time)) (((gt s.Values (((gt (comL s t) k).a : Int).toNat)).Time))).Hi) - ((bt t.Shifts (((gt s.Values (((gt (comL s t) (k - 1)).a : Int).toNat)).Time)) (((gt s.Values (((gt (comL s t) k).a : Int).toNat)).Time))).Lo)))) sl74 rfl rfl rfl rfl (by first | omega | (simp; done) | (simp; omega)) (by decide)) (by decide) (fun v164 => ?_)
      refine WL.x (X.field Try.runUnderlying121 rfl Try.sizeOf74 rfl) (by decide) ?_
      refine WL.own1 (k := 4) rfl (fun ho165 => ?_)
      refine WL.ts (T.storeB (k := 6) Try.sizeOf74 rfl rfl rfl ho165 (Nat.le_of_ble_eq_true rfl)) ?_
      refine WL.nil ?_
      refine WK.nThen ?_
      refine WC.seq ?_
      refine WC.region ?_
      refine WL.x (X.field Try.runUnderlying62 rfl Try.sizeOf3 rfl) (by decide) ?_
      refine WL.x (X.loadB (k := 2) Try.isAgg3 rfl rfl rfl) (by decide) ?_
      refine WL.x (X.move rfl) (by decide) ?_
      refine WL.cond (X.geq rfl rfl) (by decide) (fun h166 => ?_) (fun h166 => ?_)
      ·refine WL.nil ?_
       refine WK.nThen ?_
       refine WC.condT rfl ?_
       refine WC.region ?_
       refine WL.x (X.move rfl) (by decide) ?_
       refine WL.x (X.move rfl) (by decide) ?_
       refine WL.x (X.mn rfl rfl) (by decide) ?_
       refine WL.x (X.assign rfl) (by decide) ?_
       refine WL.nil ?_
       refine WK.nBlock ?_
       refine WK.nThen ?_
       refine WC.region ?_
       refine WL.x (X.add rfl rfl (by omega) (by omega)) (by decide) ?_
       refine WL.x (X.move rfl) (by decide) ?_
       refine WL.nil ?_
       refine WK.nThen ?_
       refine WK.back hgood0 (Mem.le_trans hle54 hle162) ?_
       have he167 : (((List.range k).map (difV s t)) ++ [(Span.mk ((((gt s.Values (((gt (comL s t) k).a : Int).toNat)).Levels).Lo) - (((gt t.Values (((gt (comL s t) k).b : Int).toNat)).Levels).Hi)) ((((gt s.Values (((gt (comL s t) k).a : Int).toNat)).Levels).Hi) - (((gt t.Values (((gt (comL s t) k).b : Int).toNat)).Levels).Lo)))]) = ((List.range (k + 1)).map (difV s t)) := map_succ _ _
       rw [he167]
       have he168 : (((List.range (k - 1)).map (difX s t)) ++ [(Span.mk (((bt s.Shifts (((gt s.Values (((gt (comL s t) (k - 1)).a : Int).toNat)).Time)) (((gt s.Values (((gt (comL s t) k).a : Int).toNat)).Time))).Lo) - ((bt t.Shifts (((gt s.Values (((gt (comL s t) (k - 1)).a : Int).toNat)).Time)) (((gt s.Values (((gt (comL s t) k).a : Int).toNat)).Time))).Hi)) (((bt s.Shifts (((gt s.Values (((gt (comL s t) (k - 1)).a : Int).toNat)).Time)) (((gt s.Values (((gt (comL s t) k).a : Int).toNat)).Time))).Hi) - ((bt t.Shifts (((gt s.Values (((gt (comL s t) (k - 1)).a : Int).toNat)).Time)) (((gt s.Values (((gt (comL s t) k).a : Int).toNat)).Time))).Lo)))]) = ((List.range (k + 1 - 1)).map (difX s t)) := (by first | exact dif_snoc (by omega) | exact win_none (by omega))
       rw [he168]
       refine WK.next ((k + 1, v128, v164, min f ↑k)) rfl (.cons _ (.cons _ (.cons _ (.cons _ (.refl _))))) (.cons rfl (.cons rfl (.cons rfl (.cons rfl (.cons rfl (.cons rfl (.cons rfl (.cons rfl (.cons rfl (.cons rfl .nil)))))))))) ?_ ?_
       ·first | exact ⟨by omega, dif_yes hf (by omega) (by unfold difT; omega)⟩ | exact ⟨by omega, dif_no hf (by unfold difT; omega)⟩
       ·(dsimp only; omega)
      ·refine WL.nil ?_
       refine WK.nThen ?_
       refine WC.condF rfl ?_
       refine WC.skip ?_
       refine WK.nBlock ?_
       refine WK.nThen ?_
       refine WC.region ?_
       refine WL.x (X.add rfl rfl (by omega) (by omega)) (by decide) ?_
       refine WL.x (X.move rfl) (by decide) ?_
       refine WL.nil ?_
       refine WK.nThen ?_
       refine WK.back hgood0 (Mem.le_trans hle54 hle162) ?_
       have he169 : (((List.range k).map (difV s t)) ++ [(Span.mk ((((gt s.Values (((gt (comL s t) k).a : Int).toNat)).Levels).Lo) - (((gt t.Values (((gt (comL s t) k).b : Int).toNat)).Levels).Hi)) ((((gt s.Values (((gt (comL s t) k).a : Int).toNat)).Levels).Hi) - (((gt t.Values (((gt (comL s t) k).b : Int).toNat)).Levels).Lo)))]) = ((List.range (k + 1)).map (difV s t)) := map_succ _ _
       rw [he169]
       have he170 : (((List.range (k - 1)).map (difX s t)) ++ [(Span.mk (((bt s.Shifts (((gt s.Values (((gt (comL s t) (k - 1)).a : Int).toNat)).Time)) (((gt s.Values (((gt (comL s t) k).a : Int).toNat)).Time))).Lo) - ((bt t.Shifts (((gt s.Values (((gt (comL s t) (k - 1)).a : Int).toNat)).Time)) (((gt s.Values (((gt (comL s t) k).a : Int).toNat)).Time))).Hi)) (((bt s.Shifts (((gt s.Values (((gt (comL s t) (k - 1)).a : Int).toNat)).Time)) (((gt s.Values (((gt (comL s t) k).a : Int).toNat)).Time))).Hi) - ((bt t.Shifts (((gt s.Values (((gt (comL s t) (k - 1)).a : Int).toNat)).Time)) (((gt s.Values (((gt (comL s t) k).a : Int).toNat)).Time))).Lo)))]) = ((List.range (k + 1 - 1)).map (difX s t)) := (by first | exact dif_snoc (by omega) | exact win_none (by omega))
       rw [he170]
       refine WK.next ((k + 1, v128, v164, f)) rfl (.cons _ (.cons _ (.cons _ (.cons _ (.refl _))))) (.cons rfl (.cons rfl (.cons rfl (.cons rfl (.cons rfl (.cons rfl (.cons rfl (.cons rfl (.cons rfl (.cons rfl .nil)))))))))) ?_ ?_
       ·first | exact ⟨by omega, dif_yes hf (by omega) (by unfold difT; omega)⟩ | exact ⟨by omega, dif_no hf (by unfold difT; omega)⟩
       ·(dsimp only; omega)
    ·refine WL.nil ?_
     refine WK.nThen ?_
     refine WC.condF rfl ?_
     refine WC.skip ?_
     refine WK.nThen ?_
     refine WC.seq ?_
     refine WC.region ?_
     refine WL.x (X.field Try.runUnderlying62 rfl Try.sizeOf3 rfl) (by decide) ?_
     refine WL.x (X.loadB (k := 0) Try.isAgg3 rfl rfl rfl) (by decide) ?_
     refine WL.x (X.move rfl) (by decide) ?_
     refine WL.cond (X.geq rfl rfl) (by decide) (fun h171 => ?_) (fun h171 => ?_)
     ·refine WL.nil ?_
      refine WK.nThen ?_
      refine WC.condT rfl ?_
      refine WC.region ?_
      refine WL.x (X.move rfl) (by decide) ?_
      refine WL.x (X.move rfl) (by decide) ?_
      refine WL.x (X.mn rfl rfl) (by decide) ?_
      refine WL.x (X.assign rfl) (by decide) ?_
      refine WL.nil ?_
      refine WK.nBlock ?_
      refine WK.nThen ?_
      refine WC.region ?_
      refine WL.x (X.add rfl rfl (by omega) (by omega)) (by decide) ?_
      refine WL.x (X.move rfl) (by decide) ?_
      refine WL.nil ?_
      refine WK.nThen ?_
      refine WK.back hgood0 hle54 ?_
      have he172 : (((List.range k).map (difV s t)) ++ [(Span.mk ((((gt s.Values (((gt (comL s t) k).a : Int).toNat)).Levels).Lo) - (((gt t.Values (((gt (comL s t) k).b : Int).toNat)).Levels).Hi)) ((((gt s.Values (((gt (comL s t) k).a : Int).toNat)).Levels).Hi) - (((gt t.Values (((gt (comL s t) k).b : Int).toNat)).Levels).Lo)))]) = ((List.range (k + 1)).map (difV s t)) := map_succ _ _
      rw [he172]
      have he173 : ((List.range (k - 1)).map (difX s t)) = ((List.range (k + 1 - 1)).map (difX s t)) := (by first | exact dif_snoc (by omega) | exact win_none (by omega))
      rw [he173]
      refine WK.next ((k + 1, v128, vb, min f ↑k)) rfl (.cons _ (.cons _ (.refl _))) (.cons rfl (.cons rfl (.cons rfl (.cons rfl (.cons rfl (.cons rfl (.cons rfl (.cons rfl (.cons rfl (.cons rfl .nil)))))))))) ?_ ?_
      ·first | exact ⟨by omega, dif_yes hf (by omega) (by unfold difT; omega)⟩ | exact ⟨by omega, dif_no hf (by unfold difT; omega)⟩
      ·(dsimp only; omega)
     ·refine WL.nil ?_
      refine WK.nThen ?_
      refine WC.condF rfl ?_
      refine WC.skip ?_
      refine WK.nBlock ?_
      refine WK.nThen ?_
      refine WC.region ?_
      refine WL.x (X.add rfl rfl (by omega) (by omega)) (by decide) ?_
      refine WL.x (X.move rfl) (by decide) ?_
      refine WL.nil ?_
      refine WK.nThen ?_
      refine WK.back hgood0 hle54 ?_
      have he174 : (((List.range k).map (difV s t)) ++ [(Span.mk ((((gt s.Values (((gt (comL s t) k).a : Int).toNat)).Levels).Lo) - (((gt t.Values (((gt (comL s t) k).b : Int).toNat)).Levels).Hi)) ((((gt s.Values (((gt (comL s t) k).a : Int).toNat)).Levels).Hi) - (((gt t.Values (((gt (comL s t) k).b : Int).toNat)).Levels).Lo)))]) = ((List.range (k + 1)).map (difV s t)) := map_succ _ _
      rw [he174]
      have he175 : ((List.range (k - 1)).map (difX s t)) = ((List.range (k + 1 - 1)).map (difX s t)) := (by first | exact dif_snoc (by omega) | exact win_none (by omega))
      rw [he175]
      refine WK.next ((k + 1, v128, vb, f)) rfl (.cons _ (.cons _ (.refl _))) (.cons rfl (.cons rfl (.cons rfl (.cons rfl (.cons rfl (.cons rfl (.cons rfl (.cons rfl (.cons rfl (.cons rfl .nil)))))))))) ?_ ?_
      ·first | exact ⟨by omega, dif_yes hf (by omega) (by unfold difT; omega)⟩ | exact ⟨by omega, dif_no hf (by unfold difT; omega)⟩
      ·(dsimp only; omega)
  ·refine WL.nil ?_
   refine WK.nThen ?_
   refine WC.seq ?_
   refine WC.condF rfl ?_
   refine WC.exit ?_
   refine WK.eThen ?_
   refine WK.eThen ?_
   refine WK.eHit ?_
   refine WK.nThen ?_
   refine WC.seq ?_
   obtain rfl : k = (comL s t).length := (by omega)
   refine WC.region ?_
   refine WL.x (X.loadBA (k := 2) Try.isAgg121 Try.sizeOf121 rfl rfl rfl) (by decide) ?_
   refine WL.x (X.move rfl) (by decide) ?_
   refine WL.own1 (k := 1) rfl (fun ho176 => ?_)
   refine WL.own1 (k := 0) rfl (fun ho177 => ?_)
   refine WL.ts (T.storeBA (k := 3) Try.sizeOf121 rfl rfl rfl (one_cons ho176 (one_cons ho177 one_nil)) rfl rfl) ?_
   refine WL.x (X.assign rfl) (by decide) ?_
   refine WL.nil ?_
   refine WK.nThen ?_
   refine WC.ret ?_
   refine WK.freezeF 1 rfl rfl (by simp [lenB]; omega) (fun m178 hle179 hs180 => ?_)
   replace hs2 := hs2.mono hle179
   replace hs4 := hs4.mono hle179
   replace hs8 := hs8.mono hle179
   replace hs10 := hs10.mono hle179
   replace hp18 := hp18.mono hle179
   replace hp21 := hp21.mono hle179
   replace hs26 := hs26.mono hle179
   replace hs28 := hs28.mono hle179
   replace hs34 := hs34.mono hle179
   replace hs36 := hs36.mono hle179
   replace hs44 := hs44.mono hle179
   refine WK.freezeF 0 rfl rfl (by simp [lenB]; omega) (fun m181 hle182 hs183 => ?_)
   replace hs2 := hs2.mono hle182
   replace hs4 := hs4.mono hle182
   replace hs8 := hs8.mono hle182
   replace hs10 := hs10.mono hle182
   replace hp18 := hp18.mono hle182
   replace hp21 := hp21.mono hle182
   replace hs26 := hs26.mono hle182
   replace hs28 := hs28.mono hle182
   replace hs34 := hs34.mono hle182
   replace hs36 := hs36.mono hle182
   replace hs44 := hs44.mono hle182
   replace hs180 := hs180.mono hle182
   refine WK.retC2 1 rfl rfl rfl rfl Try.isAgg121 Try.sizeOf121 (fun w' hw' => Ret.mem hw' ?_)
   exact ⟨_, tup2 rfl (int_eq (dif_end hf)), ⟨_, _, rfl, hs180, hs183⟩⟩

theorem part90 (m : Mem) {cw : List Value} {w : Win} (hw : Enc.rd m cw w) (a b : Nat) (ia ib : Int) (hia : ia = a) (hib : ib = b) (hab : a ≤ b) (hb : b ≤ w.levels.length) (hx : a ≤ w.shifts.length ∧ b ≤ w.shifts.length + 1) : Pure Try.prog 90 #[.agg cw.toArray, .int .i64 ia, .int .i64 ib] m (fun m' v => ∃ c0, v = .agg c0.toArray ∧ Enc.rd m' c0 (winPart w a b)) := by
 obtain ⟨v1, v3, rfl, hs2, hs4⟩ := hw
 have hl5 := hs2.le
 have hl6 := hs4.le
 subst hia
 subst hib
 refine Pure.start Try.func90 rfl Try.ntmps90 rfl fun wld => ?_
 refine WC.seq ?_
 refine WC.region ?_
 refine WL.tn (T.boxB rfl rfl) (by decide) fun b7 => ?_
 refine WL.tn (T.alloc Try.zeroValue121 rfl) (by decide) fun b8 => ?_
 refine WL.nil ?_
 refine WK.nThen ?_
 refine WC.seq ?_
 refine WC.draw (π := (.cons 0 (.cons 1 (.cons 2 (.cons 3 (.cons 4 (.cons 5 (.cons 6 (.cons 7 (.cons 8 (.cons 9 (.cons 10 (.cons 11 (.cons 12 (.cons 13 (.cons 14 .done)))))))))))))))) [14] [14] rfl (by kernel_rfl) ?_
 refine DW.x rfl rfl (X.field Try.runUnderlying121 rfl Try.sizeOf74 rfl) (by decide) ?_
 refine DW.x rfl rfl (X.loadB (k := 1) Try.isAgg74 rfl rfl rfl) (by decide) ?_
 refine DW.x rfl rfl (X.move rfl) (by decide) ?_
 refine DW.x rfl rfl (X.move rfl) (by decide) ?_
 refine DW.xe rfl rfl (E.slLH a b Try.underlying74 Try.sizeOf33 rfl rfl rfl hs2 (by omega) (by omega) (by omega) (by omega)) (by decide) (fun v9 hs10 => ?_)
 refine DW.x rfl rfl (X.field Try.runUnderlying121 rfl Try.sizeOf74 rfl) (by decide) ?_
 refine DW.x rfl rfl (X.loadB (k := 1) Try.isAgg74 rfl rfl rfl) (by decide) ?_
 refine DW.x rfl rfl (X.move rfl) (by decide) ?_
 refine DW.x rfl rfl (X.move rfl) (by decide) ?_
 refine DW.x rfl rfl (X.move rfl) (by decide) ?_
 refine DW.x rfl rfl (X.sub rfl rfl (by omega) (by omega)) (by decide) ?_
 refine DW.x rfl rfl (X.mx rfl rfl) (by decide) ?_
 refine DW.xe rfl rfl (E.slLH a ((max ↑a (↑b - 1) : Int).toNat) Try.underlying74 Try.sizeOf33 rfl rfl rfl hs4 (by omega) (by omega) (by omega) (by omega)) (by decide) (fun v11 hs12 => ?_)
 refine DW.x (V := Value.agg [v9, v11].toArray) rfl rfl (X.build Try.zeroValue121 Try.runUnderlying121 (places121 _ Try.underlying121) rfl (by simp only [Instr.fill, one_cells hs10.one, one_cells hs12.one]; rfl)) (by decide) ?_
 refine DW.ts rfl rfl rfl rfl (T.storeBA (k := 0) Try.sizeOf121 rfl rfl rfl (one_cons hs10.one (one_cons hs12.one one_nil)) rfl rfl) ?_
 refine DW.nil ?_
 refine WK.nThen ?_
 refine WC.ret ?_
 refine WK.retC1 0 rfl rfl rfl Try.isAgg121 Try.sizeOf121 (fun w' hw' => Ret.mem hw' ?_)
 exact ⟨_, rfl, _, _, rfl, hs10, by unfold winPart; rw [show max a (b - 1) = (max (↑a) (↑b - 1) : Int).toNat by omega]; exact hs12⟩

theorem clone140 (m : Mem) {v : Value} {L : List Span} (hL : Sl m v L) (hn : L.length ≤ 1000) : Mut Try.prog 140 #[v] m [] (fun _ Es u => Es = [rowF u 33 L] ∧ u.oneCell' = true) := by
 refine Mut.start Try.func140 rfl Try.ntmps140 rfl fun wld => ?_
 refine WC.seq ?_
 refine WC.region ?_
 refine WL.x (X.assign rfl) (by decide) ?_
 refine WL.nil ?_
 refine WK.nThen ?_
 refine WC.seq ?_
 refine WC.seq ?_
 refine WC.region ?_
 refine WL.x (X.move rfl) (by decide) ?_
 refine WL.condb (X.eqlNil Try.underlying74 rfl rfl hL) (by decide) (fun h1 => ?_) (fun h1 => ?_)
 ·refine WL.nil ?_
  refine WK.nThen ?_
  refine WC.condT rfl ?_
  refine WC.seq ?_
  obtain rfl := hL.nil_of (by assumption)
  refine WK.ownF Span 33 ?_
  refine WC.region ?_
  refine WL.x (X.assign rfl) (by decide) ?_
  refine WL.nil ?_
  refine WK.nThen ?_
  refine WC.ret ?_
  refine WK.rThen ?_
  refine WK.ret1 rfl rfl (fun w' hw' => Ret.mut hw' ?_)
  first | exact ⟨rfl, rfl⟩ | exact ⟨rfl, ho_⟩
 ·refine WL.nil ?_
  refine WK.nThen ?_
  refine WC.condF rfl ?_
  refine WC.skip ?_
  refine WK.nThen ?_
  refine WC.seq ?_
  refine WC.region ?_
  refine WL.ta (T.lit0 (α := Span) sl74 rfl) (by decide) (fun v2 => ?_)
  refine WL.x (X.move rfl) (by decide) ?_
  refine WL.ta (T.appendFl (α := Span) (fun _ _ _ h => h) (k := 0) sl74 rfl rfl hL rfl (by first | omega | (simp; omega)) (by first | omega | (simp; omega))) (by decide) (fun v3 => ?_)
  refine WL.own1 (k := 0) rfl (fun ho_ => ?_)
  refine WL.x (X.assign rfl) (by decide) ?_
  refine WL.nil ?_
  refine WK.nThen ?_
  refine WC.ret ?_
  refine WK.ret1 rfl rfl (fun w' hw' => Ret.mut hw' ?_)
  first | exact ⟨rfl, rfl⟩ | exact ⟨rfl, ho_⟩

theorem rev141 (m : Mem) {v : Value} {L : List Span} (hn : L.length ≤ 1000) : Mut Try.prog 141 #[v] m [rowF v 33 L] (fun _ Es _ => Es = [rowF v 33 L.reverse]) := by
 refine Mut.start Try.func141 rfl Try.ntmps141 rfl fun wld => ?_
 refine WC.seq ?_
 refine WC.region ?_
 refine WL.x (X.move rfl) (by decide) ?_
 refine WL.x (X.lenF (k := 0) Try.runUnderlying74 rfl rfl) (by decide) ?_
 refine WL.x (X.sub rfl rfl (by omega) (by omega)) (by decide) ?_
 refine WL.x (X.assign rfl) (by decide) ?_
 refine WL.x (X.assign rfl) (by decide) ?_
 refine WL.nil ?_
 refine WK.nThen ?_
 refine WC.block ?_
 refine WC.loop (G := Nat × Int × List Span) (fun (i, j, M) => L.length - i) (fun (i, j, M) => m) (fun (i, j, M) => [rowF (v) 33 (M)]) (fun (i, j, M) => [(0, v), (2, .int .i64 (↑i)), (3, .int .i64 (j))]) (fun (i, j, M) => ((i = 0 ∨ i ≤ L.length) ∧ j = ↑L.length - 1 - ↑i) ∧ RevI L i M) ((0, ↑L.length - 1, L)) rfl (.refl _) (.cons rfl (.cons rfl (.cons rfl .nil))) ?_ ?_
 ·exact ⟨⟨.inl rfl, by omega⟩, rev_start L⟩
 ·rintro ⟨i, j, M⟩ hF1
  show WK _ _ m [rowF (v) 33 (M)] [(0, v), (2, .int .i64 (↑i)), (3, .int .i64 (j))] _
  replace hF1 : ((i = 0 ∨ i ≤ L.length) ∧ j = ↑L.length - 1 - ↑i) ∧ RevI L i M := hF1
  obtain ⟨hi, hM⟩ := hF1
  have hml := hM.1
  refine WC.seq ?_
  refine WC.seq ?_
  refine WC.region ?_
  refine WL.x (X.move rfl) (by decide) ?_
  refine WL.x (X.move rfl) (by decide) ?_
  refine WL.cond (X.lss rfl rfl) (by decide) (fun h2 => ?_) (fun h2 => ?_)
  ·refine WL.nil ?_
   refine WK.nThen ?_
   refine WC.condT rfl ?_
   refine WC.skip ?_
   refine WK.nThen ?_
   refine WC.seq ?_
   refine WC.block ?_
   refine WC.draw (π := (.cons 0 (.cons 1 (.cons 2 (.cons 3 (.cons 4 (.cons 5 (.cons 6 (.cons 7 (.cons 8 (.cons 9 (.cons 10 (.cons 11 (.cons 12 (.cons 13 (.cons 14 (.cons 15 .done))))))))))))))))) [13, 15] [13, 15] rfl (by kernel_rfl) ?_
   refine DW.x rfl rfl (X.move rfl) (by decide) ?_
   refine DW.x rfl rfl (X.move rfl) (by decide) ?_
   refine DW.x rfl rfl (X.move rfl) (by decide) ?_
   refine DW.x rfl rfl (X.move rfl) (by decide) ?_
   refine DW.x rfl rfl (X.move rfl) (by decide) ?_
   refine DW.x rfl rfl (X.move rfl) (by decide) ?_
   refine DW.x rfl rfl (X.idxRow (k := 0) Try.runUnderlying74 Try.sizeOf33 rfl rfl rfl (by first | omega | (simp; omega) | simp) (by first | omega | (simp; omega) | simp)) (by decide) ?_
   refine DW.x rfl rfl (X.loadFs (k := 0) (i := (j : Int).toNat) (off := 0) (us := [.int .i64 (((gt M ((j : Int).toNat))).Lo), .int .i64 (((gt M ((j : Int).toNat))).Hi)]) Try.isAgg33 Try.sizeOf33 rfl rfl (by first | omega | (simp; omega) | simp) rfl rfl) (by decide) ?_
   refine DW.x rfl rfl (X.move rfl) (by decide) ?_
   refine DW.x rfl rfl (X.move rfl) (by decide) ?_
   refine DW.x rfl rfl (X.idxRow (k := 0) Try.runUnderlying74 Try.sizeOf33 rfl rfl rfl (by first | omega | (simp; omega) | simp) (by first | omega | (simp; omega) | simp)) (by decide) ?_
   refine DW.x rfl rfl (X.loadFs (k := 0) (i := i) (off := 0) (us := [.int .i64 (((gt M i)).Lo), .int .i64 (((gt M i)).Hi)]) Try.isAgg33 Try.sizeOf33 rfl rfl (by first | omega | (simp; omega) | simp) rfl rfl) (by decide) ?_
   refine DW.x rfl rfl (X.idxRow (k := 0) Try.runUnderlying74 Try.sizeOf33 rfl rfl rfl (by first | omega | (simp; omega) | simp) (by first | omega | (simp; omega) | simp)) (by decide) ?_
   refine DW.ts rfl rfl rfl rfl (T.storeFp (k := 0) (i := i) (off := 0) (us := [.int .i64 (((gt M ((j : Int).toNat))).Lo), .int .i64 (((gt M ((j : Int).toNat))).Hi)]) (gt M ((j : Int).toNat)) Try.sizeOf33 rfl rfl rfl rfl (Nat.zero_lt_succ _) rfl (by first | omega | (simp; omega) | simp) rfl rfl (one_cons rfl (one_cons rfl one_nil))) ?_
   refine DW.x rfl rfl (X.idxRow (k := 0) Try.runUnderlying74 Try.sizeOf33 rfl rfl rfl (by first | omega | (simp; omega) | simp) (by first | omega | (simp; omega) | simp)) (by decide) ?_
   refine DW.ts rfl rfl rfl rfl (T.storeFp (k := 0) (i := (j : Int).toNat) (off := 0) (us := [.int .i64 (((gt M i)).Lo), .int .i64 (((gt M i)).Hi)]) (gt M i) Try.sizeOf33 rfl rfl rfl rfl (Nat.zero_lt_succ _) rfl (by first | omega | (simp; omega) | simp) rfl rfl (one_cons rfl (one_cons rfl one_nil))) ?_
   refine DW.nil ?_
   refine WK.nBlock ?_
   refine WK.nThen ?_
   refine WC.region ?_
   refine WL.x (X.move rfl) (by decide) ?_
   refine WL.x (X.add rfl rfl (by omega) (by omega)) (by decide) ?_
   refine WL.x (X.move rfl) (by decide) ?_
   refine WL.x (X.sub rfl rfl (by omega) (by omega)) (by decide) ?_
   refine WL.x (X.assign rfl) (by decide) ?_
   refine WL.x (X.assign rfl) (by decide) ?_
   refine WL.nil ?_
   refine WK.nThen ?_
   refine WK.next ((i + 1, j - 1, (M.set i (gt M ((j : Int).toNat))).set ((j : Int).toNat) (gt M i))) rfl (.refl _) (.cons rfl (.cons rfl (.cons rfl .nil))) ?_ ?_
   ·exact ⟨by omega, rev_step hM (by omega) (by omega) (by omega)⟩
   ·(dsimp only; omega)
  ·refine WL.nil ?_
   refine WK.nThen ?_
   refine WC.condF rfl ?_
   refine WC.exit ?_
   refine WK.eThen ?_
   refine WK.eThen ?_
   refine WK.eHit ?_
   refine WK.end0 rfl (fun w' hw' => Ret.mut hw' ?_)
   exact congrArg (fun x => [rowF v 33 x]) (rev_end hM (by omega))

theorem turn92 (m : Mem) (cw : List Value) (w : Win) (hw : Enc.rd m cw w)  (hww : WinW w) (hxn : w.shifts.length ≤ 300) : Pure Try.prog 92 #[.agg cw.toArray] m (fun m' v => ∃ r0, v = .agg r0.toArray ∧ Enc.rd m' r0 (winTurn w)) := by
 obtain ⟨v1, v3, rfl, hs2, hs4⟩ := hw
 have hl5 := hs2.le
 have hl6 := hs4.le
 have hwn := hww.n
 refine Pure.start Try.func92 rfl Try.ntmps92 rfl fun wld => ?_
 refine WC.seq ?_
 refine WC.region ?_
 refine WL.tn (T.boxB rfl rfl) (by decide) fun b7 => ?_
 refine WL.tn (T.alloc Try.zeroValue121 rfl) (by decide) fun b8 => ?_
 refine WL.nil ?_
 refine WK.nThen ?_
 refine WC.cut (G := Mem × Nat × Value × Value) (fun (m9, b19, v11, v16) => m9) (fun (m9, b19, v11, v16) => [blk b19 121 [v11, v16], rowF (v16) 33 (w.shifts), rowF (v11) 33 (w.levels), blk b8 121 [.slice none 0 0, .slice none 0 0], blk b7 121 [v1, v3]]) (fun (m9, b19, v11, v16) => [(2, .pointer (some ⟨b8, 0, none⟩)), (3, .pointer (some ⟨b19, 0, none⟩))]) (fun (m9, b19, v11, v16) => m.le m9 ∧ Sl (α := Span) m9 v1 w.levels ∧ Sl (α := Span) m9 v3 w.shifts) ?_ ?_
 ·refine WC.draw (π := (.cons 0 (.cons 1 (.cons 3 (.cons 4 (.fork (.cons 2 (.fork (.cons 5 (.cons 6 (.cons 7 (.cons 8 .done)))) (.cons 7 (.cons 5 (.cons 6 (.cons 8 .done)))))) (.cons 7 (.cons 2 (.cons 5 (.cons 6 (.cons 8 .done))))))))))) [2, 5, 7, 8] [8] rfl (by kernel_rfl) ?_
  refine DW.x rfl rfl (X.field Try.runUnderlying121 rfl Try.sizeOf74 rfl) (by decide) ?_
  refine DW.x rfl rfl (X.loadB (k := 1) Try.isAgg74 rfl rfl rfl) (by decide) ?_
  refine DW.x rfl rfl (X.field Try.runUnderlying121 rfl Try.sizeOf74 rfl) (by decide) ?_
  refine DW.x rfl rfl (X.loadB (k := 1) Try.isAgg74 rfl rfl rfl) (by decide) ?_
  refine DW.fork (List.cons_ne_nil _ _) ?_ ?_
  ·refine DW.tO rfl rfl rfl (T.callO Try.call140 rfl (clone140 _ hs2 (by omega))) (by decide) (fun m10 Es11 v12 hle13 hR_ => ?_)
   obtain ⟨rfl, ho14⟩ := hR_
   replace hs2 := hs2.mono hle13
   replace hs4 := hs4.mono hle13
   refine DW.fork (List.cons_ne_nil _ _) ?_ ?_
   ·refine DW.tO rfl rfl rfl (T.callO Try.call140 rfl (clone140 _ hs4 (by omega))) (by decide) (fun m15 Es16 v17 hle18 hR_ => ?_)
    obtain ⟨rfl, ho19⟩ := hR_
    replace hs2 := hs2.mono hle18
    replace hs4 := hs4.mono hle18
    refine DW.x (V := Value.agg [v12, v17].toArray) rfl rfl (X.build Try.zeroValue121 Try.runUnderlying121 (places121 _ Try.underlying121) rfl (by simp only [Instr.fill, one_cells ho14, one_cells ho19]; rfl)) (by decide) ?_
    refine DW.tn rfl rfl rfl (T.alloc Try.zeroValue121 rfl) (by decide) fun b20 => ?_
    refine DW.ts rfl rfl rfl rfl (T.storeBA (k := 0) Try.sizeOf121 rfl rfl rfl (one_cons ho14 (one_cons ho19 one_nil)) rfl rfl) ?_
    refine DW.nil ?_
    refine WK.nThen ?_
    exact WK.meet (m15, b20, v12, v17) rfl (.refl _) (.cons rfl (.cons rfl .nil)) ⟨(Mem.le_trans hle13 hle18), hs2, hs4⟩
   ·refine DW.tn rfl rfl rfl (T.alloc Try.zeroValue121 rfl) (by decide) fun b21 => ?_
    refine DW.tO rfl rfl rfl (T.callO Try.call140 rfl (clone140 _ hs4 (by omega))) (by decide) (fun m22 Es23 v24 hle25 hR_ => ?_)
    obtain ⟨rfl, ho26⟩ := hR_
    replace hs2 := hs2.mono hle25
    replace hs4 := hs4.mono hle25
    refine DW.x (V := Value.agg [v12, v24].toArray) rfl rfl (X.build Try.zeroValue121 Try.runUnderlying121 (places121 _ Try.underlying121) rfl (by simp only [Instr.fill, one_cells ho14, one_cells ho26]; rfl)) (by decide) ?_
    refine DW.ts rfl rfl rfl rfl (T.storeBA (k := 1) Try.sizeOf121 rfl rfl rfl (one_cons ho14 (one_cons ho26 one_nil)) rfl rfl) ?_
    refine DW.nil ?_
    refine WK.nThen ?_
    refine WK.perm [blk b21 121 [v12, v24], rowF (v24) 33 (w.shifts), rowF (v12) 33 (w.levels), blk b8 121 [.slice none 0 0, .slice none 0 0], blk b7 121 [v1, v3]] ((List.Perm.cons _ (.refl _)).trans (List.perm_middle (l₁ := [rowF (v24) 33 (w.shifts)]) (l₂ := [rowF (v12) 33 (w.levels), blk b8 121 [.slice none 0 0, .slice none 0 0], blk b7 121 [v1, v3]]) (a := blk b21 121 [v12, v24])).symm) ?_
    exact WK.meet (m22, b21, v12, v24) rfl (.refl _) (.cons rfl (.cons rfl .nil)) ⟨(Mem.le_trans hle13 hle25), hs2, hs4⟩
  ·refine DW.tn rfl rfl rfl (T.alloc Try.zeroValue121 rfl) (by decide) fun b27 => ?_
   refine DW.tO rfl rfl rfl (T.callO Try.call140 rfl (clone140 _ hs2 (by omega))) (by decide) (fun m28 Es29 v30 hle31 hR_ => ?_)
   obtain ⟨rfl, ho32⟩ := hR_
   replace hs2 := hs2.mono hle31
   replace hs4 := hs4.mono hle31
   refine DW.tO rfl rfl rfl (T.callO Try.call140 rfl (clone140 _ hs4 (by omega))) (by decide) (fun m33 Es34 v35 hle36 hR_ => ?_)
   obtain ⟨rfl, ho37⟩ := hR_
   replace hs2 := hs2.mono hle36
   replace hs4 := hs4.mono hle36
   refine DW.x (V := Value.agg [v30, v35].toArray) rfl rfl (X.build Try.zeroValue121 Try.runUnderlying121 (places121 _ Try.underlying121) rfl (by simp only [Instr.fill, one_cells ho32, one_cells ho37]; rfl)) (by decide) ?_
   refine DW.ts rfl rfl rfl rfl (T.storeBA (k := 2) Try.sizeOf121 rfl rfl rfl (one_cons ho32 (one_cons ho37 one_nil)) rfl rfl) ?_
   refine DW.nil ?_
   refine WK.nThen ?_
   refine WK.perm [blk b27 121 [v30, v35], rowF (v35) 33 (w.shifts), rowF (v30) 33 (w.levels), blk b8 121 [.slice none 0 0, .slice none 0 0], blk b7 121 [v1, v3]] ((List.Perm.cons _ (.refl _)).trans (List.perm_middle (l₁ := [rowF (v35) 33 (w.shifts), rowF (v30) 33 (w.levels)]) (l₂ := [blk b8 121 [.slice none 0 0, .slice none 0 0], blk b7 121 [v1, v3]]) (a := blk b27 121 [v30, v35])).symm) ?_
   exact WK.meet (m33, b27, v30, v35) rfl (.refl _) (.cons rfl (.cons rfl .nil)) ⟨(Mem.le_trans hle31 hle36), hs2, hs4⟩
 ·rintro ⟨m9, b19, v11, v16⟩ ⟨hle38, hs39, hs40⟩
  show WK _ _ m9 [blk b19 121 [v11, v16], rowF (v16) 33 (w.shifts), rowF (v11) 33 (w.levels), blk b8 121 [.slice none 0 0, .slice none 0 0], blk b7 121 [v1, v3]] [(2, .pointer (some ⟨b8, 0, none⟩)), (3, .pointer (some ⟨b19, 0, none⟩))] _
  replace hs2 := hs2.mono hle38
  replace hs4 := hs4.mono hle38
  have hl41 := hs39.le
  have hl42 := hs40.le
  refine WC.seq ?_
  refine WC.region ?_
  refine WL.x (X.field Try.runUnderlying121 rfl Try.sizeOf74 rfl) (by decide) ?_
  refine WL.x (X.loadB (k := 0) Try.isAgg74 rfl rfl rfl) (by decide) ?_
  refine WL.tM (T.callP (Hs := [rowF (v11) 33 (w.levels)]) (A := [blk b19 121 [v11, v16], rowF (v16) 33 (w.shifts), blk b8 121 [.slice none 0 0, .slice none 0 0], blk b7 121 [v1, v3]]) Try.call141 rfl ((List.Perm.cons _ (.refl _)).trans (List.perm_middle (l₁ := [blk b19 121 [v11, v16], rowF (v16) 33 (w.shifts)]) (l₂ := [blk b8 121 [.slice none 0 0, .slice none 0 0], blk b7 121 [v1, v3]]) (a := rowF (v11) 33 (w.levels))).symm) (rev141 _ (by first | omega | (simp; omega)))) (by decide) (fun m43 _ r44 hle45 hR_ => ?_)
  subst hR_
  replace hs2 := hs2.mono hle45
  replace hs4 := hs4.mono hle45
  replace hs39 := hs39.mono hle45
  replace hs40 := hs40.mono hle45
  refine WL.nil ?_
  refine WK.nThen ?_
  refine WC.seq ?_
  refine WC.region ?_
  refine WL.x (X.field Try.runUnderlying121 rfl Try.sizeOf74 rfl) (by decide) ?_
  refine WL.x (X.loadB (k := 1) Try.isAgg74 rfl rfl rfl) (by decide) ?_
  refine WL.tM (T.callP (Hs := [rowF (v16) 33 (w.shifts)]) (A := [rowF (v11) 33 (w.levels.reverse), blk b19 121 [v11, v16], blk b8 121 [.slice none 0 0, .slice none 0 0], blk b7 121 [v1, v3]]) Try.call141 rfl ((List.Perm.cons _ (.refl _)).trans (List.perm_middle (l₁ := [rowF (v11) 33 (w.levels.reverse), blk b19 121 [v11, v16]]) (l₂ := [blk b8 121 [.slice none 0 0, .slice none 0 0], blk b7 121 [v1, v3]]) (a := rowF (v16) 33 (w.shifts))).symm) (rev141 _ (by first | omega | (simp; omega)))) (by decide) (fun m46 _ r47 hle48 hR_ => ?_)
  subst hR_
  replace hs2 := hs2.mono hle48
  replace hs4 := hs4.mono hle48
  replace hs39 := hs39.mono hle48
  replace hs40 := hs40.mono hle48
  refine WL.nil ?_
  refine WK.nThen ?_
  refine WC.seq ?_
  refine WC.seq ?_
  refine WC.region ?_
  refine WL.x (X.field Try.runUnderlying121 rfl Try.sizeOf74 rfl) (by decide) ?_
  refine WL.x (X.loadB (k := 2) Try.isAgg74 rfl rfl rfl) (by decide) ?_
  refine WL.x (X.lenF (k := 0) Try.runUnderlying74 rfl rfl) (by decide) ?_
  refine WL.x (X.move rfl) (by decide) ?_
  refine WL.nil ?_
  refine WK.nThen ?_
  refine WC.block ?_
  have hrl : w.shifts.reverse.length = w.shifts.length := List.length_reverse
  have hrv : w.levels.reverse.length = w.levels.length := List.length_reverse
  refine WC.loop (G := Nat × List Span) (fun (k, M) => w.shifts.length - k) (fun (k, M) => m46) (fun (k, M) => [rowF (v16) 33 (M), rowF (v11) 33 (w.levels.reverse), blk b19 121 [v11, v16], blk b8 121 [.slice none 0 0, .slice none 0 0], blk b7 121 [v1, v3]]) (fun (k, M) => [(2, .pointer (some ⟨b8, 0, none⟩)), (3, .pointer (some ⟨b19, 0, none⟩)), (20, v16), (21, .int .i64 (↑w.shifts.reverse.length)), (22, .int .i64 (↑k))]) (fun (k, M) => k ≤ w.shifts.length ∧ NegI w.shifts.reverse k M) ((0, w.shifts.reverse)) rfl (.refl _) (.cons rfl (.cons rfl (.cons rfl (.cons rfl (.cons rfl .nil))))) ?_ ?_
  ·exact ⟨Nat.zero_le _, neg_start _⟩
  ·rintro ⟨k, M⟩ hF49
   show WK _ _ m46 [rowF (v16) 33 (M), rowF (v11) 33 (w.levels.reverse), blk b19 121 [v11, v16], blk b8 121 [.slice none 0 0, .slice none 0 0], blk b7 121 [v1, v3]] [(2, .pointer (some ⟨b8, 0, none⟩)), (3, .pointer (some ⟨b19, 0, none⟩)), (20, v16), (21, .int .i64 (↑w.shifts.reverse.length)), (22, .int .i64 (↑k))] _
   replace hF49 : k ≤ w.shifts.length ∧ NegI w.shifts.reverse k M := hF49
   obtain ⟨hk, hM⟩ := hF49
   have hml := hM.1
   simp only [List.length_reverse] at hml
   have hma := fun h => neg_at hM (k := k) h
   have hmb := fun h => hww.xb (w.shifts.length - 1 - k) h
   have hmr := fun h => gt_rev w.shifts (i := k) h
   refine WC.seq ?_
   refine WC.region ?_
   refine WL.cond (X.lss rfl rfl) (by decide) (fun h50 => ?_) (fun h50 => ?_)
   ·refine WL.nil ?_
    refine WK.nThen ?_
    refine WC.seq ?_
    refine WC.condT rfl ?_
    refine WC.skip ?_
    refine WK.nThen ?_
    refine WC.seq ?_
    refine WC.block ?_
    refine WC.seq ?_
    refine WC.region ?_
    refine WL.x (X.move rfl) (by decide) ?_
    refine WL.x (X.idxRow (k := 0) Try.runUnderlying74 Try.sizeOf33 rfl rfl rfl (by first | omega | (simp; omega) | simp) (by first | omega | (simp; omega) | simp)) (by decide) ?_
    refine WL.x (X.loadFs (k := 0) (i := k) (off := 0) (us := [.int .i64 (((gt M k)).Lo), .int .i64 (((gt M k)).Hi)]) Try.isAgg33 Try.sizeOf33 rfl rfl (by first | omega | (simp; omega) | simp) rfl rfl) (by decide) ?_
    refine WL.tn (T.alloc Try.zeroValue33 rfl) (by decide) fun b51 => ?_
    refine WL.x (X.assign rfl) (by decide) ?_
    refine WL.ts (T.storeBA (k := 0) Try.sizeOf33 rfl rfl rfl (one_cons rfl (one_cons rfl one_nil)) rfl rfl) ?_
    refine WL.nil ?_
    refine WK.nThen ?_
    have hmg : gt M k = gt w.shifts (w.shifts.length - 1 - k) := (by rw [hma (by simp; omega), hmr (by omega)])
    have hmb1 := hmb (by omega)
    rw [← hmg] at hmb1
    refine WC.region ?_
    refine WL.x (X.field Try.runUnderlying121 rfl Try.sizeOf74 rfl) (by decide) ?_
    refine WL.x (X.loadB (k := 3) Try.isAgg74 rfl rfl rfl) (by decide) ?_
    refine WL.x (X.move rfl) (by decide) ?_
    refine WL.x (X.field Try.runUnderlying33 rfl Try.sizeOf3 rfl) (by decide) ?_
    refine WL.x (X.loadB (k := 0) Try.isAgg3 rfl rfl rfl) (by decide) ?_
    refine WL.x (X.neg rfl (by omega) (by omega)) (by decide) ?_
    refine WL.x (X.field Try.runUnderlying33 rfl Try.sizeOf3 rfl) (by decide) ?_
    refine WL.x (X.loadB (k := 0) Try.isAgg3 rfl rfl rfl) (by decide) ?_
    refine WL.x (X.neg rfl (by omega) (by omega)) (by decide) ?_
    refine WL.x (V := Value.agg [.int .i64 (-(((gt M k)).Hi)), .int .i64 (-(((gt M k)).Lo))].toArray) (X.build Try.zeroValue33 Try.runUnderlying33 (places33 _ Try.underlying33) rfl rfl) (by decide) ?_
    refine WL.x (X.idxRow (k := 1) Try.runUnderlying74 Try.sizeOf33 rfl rfl rfl (by first | omega | (simp; omega) | simp) (by first | omega | (simp; omega) | simp)) (by decide) ?_
    refine WL.ts (T.storeFp (k := 1) (i := k) (off := 0) (us := [.int .i64 (-(((gt M k)).Hi)), .int .i64 (-(((gt M k)).Lo))]) ((Span.mk (-(((gt M k)).Hi)) (-(((gt M k)).Lo)))) Try.sizeOf33 rfl rfl rfl rfl (Nat.zero_lt_succ _) rfl (by first | omega | (simp; omega) | simp) rfl rfl (one_cons rfl (one_cons rfl one_nil))) ?_
    refine WL.nil ?_
    refine WK.nBlock ?_
    refine WK.nThen ?_
    refine WC.region ?_
    refine WL.x (X.add rfl rfl (by omega) (by omega)) (by decide) ?_
    refine WL.x (X.move rfl) (by decide) ?_
    refine WL.nil ?_
    refine WK.nThen ?_
    refine WK.next ((k + 1, M.set k ((Span.mk (-(((gt M k)).Hi)) (-(((gt M k)).Lo)))))) rfl (.cons _ (.refl _)) (.cons rfl (.cons rfl (.cons rfl (.cons rfl (.cons rfl .nil))))) ?_ ?_
    ·exact ⟨by omega, neg_step hM (by simp; omega)⟩
    ·(dsimp only; omega)
   ·refine WL.nil ?_
    refine WK.nThen ?_
    refine WC.seq ?_
    refine WC.condF rfl ?_
    refine WC.exit ?_
    refine WK.eThen ?_
    refine WK.eThen ?_
    refine WK.eHit ?_
    refine WK.nThen ?_
    refine WC.seq ?_
    have he52 : M = (w.shifts.reverse.map fun x => ⟨-x.Hi, -x.Lo⟩) := neg_end (by rw [show w.shifts.reverse.length = k by simp; omega]; exact hM)
    rw [he52]
    have hrm : (w.shifts.reverse.map fun x => (⟨-x.Hi, -x.Lo⟩ : Span)).length = w.shifts.length := (by simp)
    refine WC.region ?_
    refine WL.x (X.loadBA (k := 2) Try.isAgg121 Try.sizeOf121 rfl rfl rfl) (by decide) ?_
    refine WL.own1 (k := 1) rfl (fun ho53 => ?_)
    refine WL.own1 (k := 0) rfl (fun ho54 => ?_)
    refine WL.ts (T.storeBA (k := 3) Try.sizeOf121 rfl rfl rfl (one_cons ho53 (one_cons ho54 one_nil)) rfl rfl) ?_
    refine WL.nil ?_
    refine WK.nThen ?_
    refine WC.ret ?_
    refine WK.freezeF 1 rfl rfl (by simp [lenB]; omega) (fun m55 hle56 hs57 => ?_)
    replace hs2 := hs2.mono hle56
    replace hs4 := hs4.mono hle56
    replace hs39 := hs39.mono hle56
    replace hs40 := hs40.mono hle56
    refine WK.freezeF 0 rfl rfl (by simp [lenB]; omega) (fun m58 hle59 hs60 => ?_)
    replace hs2 := hs2.mono hle59
    replace hs4 := hs4.mono hle59
    replace hs39 := hs39.mono hle59
    replace hs40 := hs40.mono hle59
    replace hs57 := hs57.mono hle59
    refine WK.retC1 1 rfl rfl rfl Try.isAgg121 Try.sizeOf121 (fun w' hw' => Ret.mem hw' ?_)
    exact ⟨_, rfl, ⟨_, _, rfl, hs57, hs60⟩⟩

theorem adjust25 (m : Mem) (cs : List Value) (s : Ser) (hs : Enc.rd m cs s) (ct : List Value) (t : Ser) (ht : Enc.rd m ct t) (time : Int) (most : Int)   : Exact Try.prog 25 #[.agg cs.toArray, .agg ct.toArray, .int .i64 (time), .int .i64 (most)] m (.tuple #[.agg [.int .i64 ((adjR s t time most).1.Lo), .int .i64 ((adjR s t time most).1.Hi)].toArray, .int .i64 ((adjR s t time most).2)]) := by
 obtain ⟨v1, v3, rfl, hs2, hs4⟩ := hs
 have hl5 := hs2.le
 have hl6 := hs4.le
 obtain ⟨v7, v9, rfl, hs8, hs10⟩ := ht
 have hl11 := hs8.le
 have hl12 := hs10.le
 refine Exact.start Try.func25 rfl Try.ntmps25 rfl fun wld => ?_
 refine WC.seq ?_
 refine WC.region ?_
 refine WL.tn (T.boxB rfl rfl) (by decide) fun b13 => ?_
 refine WL.tn (T.boxB rfl rfl) (by decide) fun b14 => ?_
 refine WL.tn (T.alloc Try.zeroValue33 rfl) (by decide) fun b15 => ?_
 refine WL.x (X.assign rfl) (by decide) ?_
 refine WL.nil ?_
 refine WK.nThen ?_
 refine WC.seq ?_
 refine WC.seq ?_
 refine WC.region ?_
 refine WL.x (X.loadBA (k := 2) Try.isAgg25 Try.sizeOf25 rfl rfl rfl) (by decide) ?_
 refine WL.x (X.loadBA (k := 1) Try.isAgg25 Try.sizeOf25 rfl rfl rfl) (by decide) ?_
 refine WL.tm (T.litM (α := Ser) (vals := [.agg [v1, v3].toArray, .agg [v7, v9].toArray]) (L := [s, t]) sl179 rfl (.cons rfl ⟨_, _, rfl, hs2, hs4⟩ (.cons rfl ⟨_, _, rfl, hs8, hs10⟩ .nil)) rfl rfl) (by decide) (fun m16 v17 hle18 hs19 => ?_)
 replace hs2 := hs2.mono hle18
 replace hs4 := hs4.mono hle18
 replace hs8 := hs8.mono hle18
 replace hs10 := hs10.mono hle18
 refine WL.x (X.call Try.call81 rfl (checked81_2 _ _ hs19)) (by decide) ?_
 refine WL.x (X.assign rfl) (by decide) ?_
 refine WL.nil ?_
 refine WK.nThen ?_
 refine WC.seq ?_
 refine WC.region ?_
 refine WL.x (X.move rfl) (by decide) ?_
 refine WL.condn (X.neq rfl rfl) (by decide) (fun h20 => ?_) (fun h20 => ?_)
 ·refine WL.nil ?_
  refine WK.nThen ?_
  refine WC.condT rfl ?_
  refine WC.seq ?_
  refine WC.region ?_
  refine WL.x (V := Value.agg [.int .i64 (0), .int .i64 (0)].toArray) (X.build Try.zeroValue33 Try.runUnderlying33 (places33 _ Try.underlying33) rfl rfl) (by decide) ?_
  refine WL.x (X.move rfl) (by decide) ?_
  refine WL.ts (T.storeBA (k := 0) Try.sizeOf33 rfl rfl rfl (one_cons rfl (one_cons rfl one_nil)) rfl rfl) ?_
  refine WL.x (X.assign rfl) (by decide) ?_
  refine WL.nil ?_
  refine WK.nThen ?_
  refine WC.ret ?_
  refine WK.rThen ?_
  refine WK.retC2 0 rfl rfl rfl rfl Try.isAgg33 Try.sizeOf33 (fun w' hw' => Ret.exact hw' ?_)
  first | exact tup2 (agg2i (by rw [adj_err (by omega)]) (by rw [adj_err (by omega)])) (int_eq (by rw [adj_err (by omega)])) | exact tup2 (agg2i (by rw [adj_arg (by omega) (by omega)]) (by rw [adj_arg (by omega) (by omega)])) (int_eq (by rw [adj_arg (by omega) (by omega)])) | exact tup2 (agg2i (by rw [adj_none (by omega) (by omega) (by omega)]) (by rw [adj_none (by omega) (by omega) (by omega)])) (int_eq (by rw [adj_none (by omega) (by omega) (by omega)])) | exact tup2 (agg2i (by rw [adj_bad (by omega) (by omega) (by omega) (by unfold adjA adjB; rw [← hdn]; first | exact .inl (by simpa using ‹(!(lastR (winPart (difW s t) 0 (difF s t time)) most).2) = true›) | exact .inr (by simpa using ‹(!(lastR (winTurn (winPart (difW s t) (difF s t time) (difW s t).levels.length)) most).2) = true›))]) (by rw [adj_bad (by omega) (by omega) (by omega) (by unfold adjA adjB; rw [← hdn]; first | exact .inl (by simpa using ‹(!(lastR (winPart (difW s t) 0 (difF s t time)) most).2) = true›) | exact .inr (by simpa using ‹(!(lastR (winTurn (winPart (difW s t) (difF s t time) (difW s t).levels.length)) most).2) = true›))])) (int_eq (by rw [adj_bad (by omega) (by omega) (by omega) (by unfold adjA adjB; rw [← hdn]; first | exact .inl (by simpa using ‹(!(lastR (winPart (difW s t) 0 (difF s t time)) most).2) = true›) | exact .inr (by simpa using ‹(!(lastR (winTurn (winPart (difW s t) (difF s t time) (difW s t).levels.length)) most).2) = true›))]))
 ·refine WL.nil ?_
  refine WK.nThen ?_
  refine WC.condF rfl ?_
  refine WC.skip ?_
  refine WK.nThen ?_
  refine WC.seq ?_
  refine WC.seq ?_
  refine WC.region ?_
  refine WL.x (X.move rfl) (by decide) ?_
  refine WL.cond (X.call Try.call82 rfl (within82 _ _ _ _ )) (by decide) (fun h21 => ?_) (fun h21 => ?_)
  ·refine WL.x (X.not rfl) (by decide) ?_
   refine WL.x (X.move rfl) (by decide) ?_
   refine WL.yes rfl rfl ?_
   refine WL.x (X.move rfl) (by decide) ?_
   refine WL.yes rfl rfl ?_
   refine WL.cond (X.call Try.call82 rfl (within82 _ _ _ _ )) (by decide) (fun h22 => ?_) (fun h22 => ?_)
   ·refine WL.yes rfl rfl ?_
    refine WL.x (X.not rfl) (by decide) ?_
    refine WL.x (X.pickF rfl rfl rfl) (by decide) ?_
    refine WL.nil ?_
    refine WK.nThen ?_
    refine WC.condF rfl ?_
    refine WC.skip ?_
    refine WK.nThen ?_
    refine WC.seq ?_
    have h2z := twoE_zero (s := s) (t := t) (by omega)
    have hos := Ok.of h2z.1
    have hot := Ok.of h2z.2
    have hnV := hos.nV
    have hcl := comL_len s t
    have hdl := dif_len s t time
    have hdw := dif_w hos hot
    have hdn : (difW s t).levels.length = (comL s t).length := map_len _ _
    have hdx : (difW s t).shifts.length = (comL s t).length - 1 := map_len _ _
    refine WC.region ?_
    refine WL.x (X.loadBA (k := 2) Try.isAgg25 Try.sizeOf25 rfl rfl rfl) (by decide) ?_
    refine WL.x (X.loadBA (k := 1) Try.isAgg25 Try.sizeOf25 rfl rfl rfl) (by decide) ?_
    refine WL.x (X.move rfl) (by decide) ?_
    refine WL.tm (T.call Try.call89 rfl (diff89 _ _ s ⟨_, _, rfl, hs2, hs4⟩ _ t ⟨_, _, rfl, hs8, hs10⟩ _ (by assumption) (by assumption))) (by decide) fun m23 r24 hle25 hR26 => ?_
    obtain ⟨c27, rfl, hc28⟩ := hR26
    replace hs2 := hs2.mono hle25
    replace hs4 := hs4.mono hle25
    replace hs8 := hs8.mono hle25
    replace hs10 := hs10.mono hle25
    replace hs19 := hs19.mono hle25
    obtain ⟨v29, v31, rfl, hs30, hs32⟩ := hc28
    have hl33 := hs30.le
    have hl34 := hs32.le
    refine WL.x (X.move rfl) (by decide) ?_
    refine WL.x (X.extract rfl rfl) (by decide) ?_
    refine WL.x (X.extract rfl rfl) (by decide) ?_
    refine WL.tn (T.alloc Try.zeroValue121 rfl) (by decide) fun b35 => ?_
    refine WL.ts (T.storeBA (k := 0) Try.sizeOf121 rfl rfl rfl (one_cons hs30.one (one_cons hs32.one one_nil)) rfl rfl) ?_
    refine WL.x (X.assign rfl) (by decide) ?_
    refine WL.nil ?_
    refine WK.nThen ?_
    refine WC.seq ?_
    refine WC.seq ?_
    refine WC.region ?_
    refine WL.x (X.move rfl) (by decide) ?_
    refine WL.cond (X.eql rfl rfl) (by decide) (fun h36 => ?_) (fun h36 => ?_)
    ·refine WL.x (X.move rfl) (by decide) ?_
     refine WL.no rfl rfl rfl (by decide) ?_
     refine WL.no rfl rfl rfl (by decide) ?_
     refine WL.no rfl rfl rfl (by decide) ?_
     refine WL.no rfl rfl rfl (by decide) ?_
     refine WL.no rfl rfl rfl (by decide) ?_
     refine WL.x (X.pickT rfl rfl rfl) (by decide) ?_
     refine WL.nil ?_
     refine WK.nThen ?_
     refine WC.condT rfl ?_
     refine WC.seq ?_
     refine WC.region ?_
     refine WL.x (V := Value.agg [.int .i64 (0), .int .i64 (0)].toArray) (X.build Try.zeroValue33 Try.runUnderlying33 (places33 _ Try.underlying33) rfl rfl) (by decide) ?_
     refine WL.ts (T.storeBA (k := 1) Try.sizeOf33 rfl rfl rfl (one_cons rfl (one_cons rfl one_nil)) rfl rfl) ?_
     refine WL.x (X.assign rfl) (by decide) ?_
     refine WL.nil ?_
     refine WK.nThen ?_
     refine WC.ret ?_
     refine WK.rThen ?_
     refine WK.retC2 1 rfl rfl rfl rfl Try.isAgg33 Try.sizeOf33 (fun w' hw' => Ret.exact hw' ?_)
     first | exact tup2 (agg2i (by rw [adj_err (by omega)]) (by rw [adj_err (by omega)])) (int_eq (by rw [adj_err (by omega)])) | exact tup2 (agg2i (by rw [adj_arg (by omega) (by omega)]) (by rw [adj_arg (by omega) (by omega)])) (int_eq (by rw [adj_arg (by omega) (by omega)])) | exact tup2 (agg2i (by rw [adj_none (by omega) (by omega) (by omega)]) (by rw [adj_none (by omega) (by omega) (by omega)])) (int_eq (by rw [adj_none (by omega) (by omega) (by omega)])) | exact tup2 (agg2i (by rw [adj_bad (by omega) (by omega) (by omega) (by unfold adjA adjB; rw [← hdn]; first | exact .inl (by simpa using ‹(!(lastR (winPart (difW s t) 0 (difF s t time)) most).2) = true›) | exact .inr (by simpa using ‹(!(lastR (winTurn (winPart (difW s t) (difF s t time) (difW s t).levels.length)) most).2) = true›))]) (by rw [adj_bad (by omega) (by omega) (by omega) (by unfold adjA adjB; rw [← hdn]; first | exact .inl (by simpa using ‹(!(lastR (winPart (difW s t) 0 (difF s t time)) most).2) = true›) | exact .inr (by simpa using ‹(!(lastR (winTurn (winPart (difW s t) (difF s t time) (difW s t).levels.length)) most).2) = true›))])) (int_eq (by rw [adj_bad (by omega) (by omega) (by omega) (by unfold adjA adjB; rw [← hdn]; first | exact .inl (by simpa using ‹(!(lastR (winPart (difW s t) 0 (difF s t time)) most).2) = true›) | exact .inr (by simpa using ‹(!(lastR (winTurn (winPart (difW s t) (difF s t time) (difW s t).levels.length)) most).2) = true›))]))
    ·refine WL.x (X.move rfl) (by decide) ?_
     refine WL.yes rfl rfl ?_
     refine WL.x (X.move rfl) (by decide) ?_
     refine WL.yes rfl rfl ?_
     refine WL.x (X.field Try.runUnderlying121 rfl Try.sizeOf74 rfl) (by decide) ?_
     refine WL.yes rfl rfl ?_
     refine WL.x (X.loadB (k := 0) Try.isAgg74 rfl rfl rfl) (by decide) ?_
     refine WL.yes rfl rfl ?_
     refine WL.x (X.len Try.runUnderlying74 rfl hs30) (by decide) ?_
     refine WL.yes rfl rfl ?_
     refine WL.cond (X.eql rfl rfl) (by decide) (fun h37 => ?_) (fun h37 => ?_)
     ·refine WL.x (X.pickF rfl rfl rfl) (by decide) ?_
      refine WL.nil ?_
      refine WK.nThen ?_
      refine WC.condT rfl ?_
      refine WC.seq ?_
      refine WC.region ?_
      refine WL.x (V := Value.agg [.int .i64 (0), .int .i64 (0)].toArray) (X.build Try.zeroValue33 Try.runUnderlying33 (places33 _ Try.underlying33) rfl rfl) (by decide) ?_
      refine WL.ts (T.storeBA (k := 1) Try.sizeOf33 rfl rfl rfl (one_cons rfl (one_cons rfl one_nil)) rfl rfl) ?_
      refine WL.x (X.assign rfl) (by decide) ?_
      refine WL.nil ?_
      refine WK.nThen ?_
      refine WC.ret ?_
      refine WK.rThen ?_
      refine WK.retC2 1 rfl rfl rfl rfl Try.isAgg33 Try.sizeOf33 (fun w' hw' => Ret.exact hw' ?_)
      first | exact tup2 (agg2i (by rw [adj_err (by omega)]) (by rw [adj_err (by omega)])) (int_eq (by rw [adj_err (by omega)])) | exact tup2 (agg2i (by rw [adj_arg (by omega) (by omega)]) (by rw [adj_arg (by omega) (by omega)])) (int_eq (by rw [adj_arg (by omega) (by omega)])) | exact tup2 (agg2i (by rw [adj_none (by omega) (by omega) (by omega)]) (by rw [adj_none (by omega) (by omega) (by omega)])) (int_eq (by rw [adj_none (by omega) (by omega) (by omega)])) | exact tup2 (agg2i (by rw [adj_bad (by omega) (by omega) (by omega) (by unfold adjA adjB; rw [← hdn]; first | exact .inl (by simpa using ‹(!(lastR (winPart (difW s t) 0 (difF s t time)) most).2) = true›) | exact .inr (by simpa using ‹(!(lastR (winTurn (winPart (difW s t) (difF s t time) (difW s t).levels.length)) most).2) = true›))]) (by rw [adj_bad (by omega) (by omega) (by omega) (by unfold adjA adjB; rw [← hdn]; first | exact .inl (by simpa using ‹(!(lastR (winPart (difW s t) 0 (difF s t time)) most).2) = true›) | exact .inr (by simpa using ‹(!(lastR (winTurn (winPart (difW s t) (difF s t time) (difW s t).levels.length)) most).2) = true›))])) (int_eq (by rw [adj_bad (by omega) (by omega) (by omega) (by unfold adjA adjB; rw [← hdn]; first | exact .inl (by simpa using ‹(!(lastR (winPart (difW s t) 0 (difF s t time)) most).2) = true›) | exact .inr (by simpa using ‹(!(lastR (winTurn (winPart (difW s t) (difF s t time) (difW s t).levels.length)) most).2) = true›))]))
     ·refine WL.x (X.pickF rfl rfl rfl) (by decide) ?_
      refine WL.nil ?_
      refine WK.nThen ?_
      refine WC.condF rfl ?_
      refine WC.skip ?_
      refine WK.nThen ?_
      refine WC.seq ?_
      refine WC.region ?_
      refine WL.x (X.field Try.runUnderlying121 rfl Try.sizeOf74 rfl) (by decide) ?_
      refine WL.x (X.loadB (k := 0) Try.isAgg74 rfl rfl rfl) (by decide) ?_
      refine WL.x (X.move rfl) (by decide) ?_
      refine WL.x (X.sub rfl rfl (by omega) (by omega)) (by decide) ?_
      refine WL.xe (E.idxE ((difF s t time) - 1) Try.runUnderlying74 Try.sizeOf33 rfl rfl hs32 (by omega) (by omega)) (by decide) (fun p38 hp39 => ?_)
      refine WL.xe (E.loadAgg Try.isAgg33 Try.sizeOf33 rfl hp39) (by decide) (fun c40 hc41 => ?_)
      obtain rfl := hc41
      refine WL.tn (T.alloc Try.zeroValue33 rfl) (by decide) fun b42 => ?_
      refine WL.ts (T.storeBA (k := 0) Try.sizeOf33 rfl rfl rfl (one_cons rfl (one_cons rfl one_nil)) rfl rfl) ?_
      refine WL.nil ?_
      refine WK.nThen ?_
      refine WC.seq ?_
      have hwa := part_w hdw (a := 0) (b := difF s t time) (by omega) (by omega)
      have hwb := part_w hdw (a := difF s t time) (b := (comL s t).length) (by omega) (by omega)
      have hwt := turn_w hwb
      have hla := lastR_bd hwa (most := most) (by omega)
      have hlb := lastR_bd hwt (most := most) (by omega)
      have hjx := hdw.xb (difF s t time - 1) (by omega)
      have hps : (winPart (difW s t) (difF s t time) (difW s t).levels.length).shifts.length ≤ 300 := (by simp [winPart]; omega)
      refine WC.region ?_
      refine WL.x (X.loadBA (k := 1) Try.isAgg121 Try.sizeOf121 rfl rfl rfl) (by decide) ?_
      refine WL.x (X.move rfl) (by decide) ?_
      refine WL.tm (T.call Try.call90 rfl (part90 _ ⟨_, _, rfl, hs30, hs32⟩ 0 ((difF s t time)) _ _ (by omega) (by omega) (by omega) (by omega) (by omega))) (by decide) (fun m43 r44 hle45 hR_ => ?_)
      obtain ⟨c46, rfl, hc47⟩ := hR_
      replace hs2 := hs2.mono hle45
      replace hs4 := hs4.mono hle45
      replace hs8 := hs8.mono hle45
      replace hs10 := hs10.mono hle45
      replace hs19 := hs19.mono hle45
      replace hs30 := hs30.mono hle45
      replace hs32 := hs32.mono hle45
      replace hp39 := hp39.mono hle45
      obtain ⟨v48, v50, rfl, hs49, hs51⟩ := hc47
      have hl52 := hs49.le
      have hl53 := hs51.le
      refine WL.x (X.move rfl) (by decide) ?_
      refine WL.x (X.call Try.call91 rfl (last91 _ _ (winPart (difW s t) 0 ((difF s t time))) ⟨_, _, rfl, hs49, hs51⟩ _ (by first | exact win_w (by assumption) (by omega) (by omega) | assumption) (by omega))) (by decide) ?_
      refine WL.x (X.move rfl) (by decide) ?_
      refine WL.x (X.extract rfl rfl) (by decide) ?_
      refine WL.x (X.extract rfl rfl) (by decide) ?_
      refine WL.tn (T.alloc Try.zeroValue33 rfl) (by decide) fun b54 => ?_
      refine WL.ts (T.storeBA (k := 0) Try.sizeOf33 rfl rfl rfl (one_cons rfl (one_cons rfl one_nil)) rfl rfl) ?_
      refine WL.x (X.assign rfl) (by decide) ?_
      refine WL.nil ?_
      refine WK.nThen ?_
      refine WC.seq ?_
      rw [← hdn] at hwb hwt hlb
      refine WC.region ?_
      refine WL.x (X.loadBA (k := 2) Try.isAgg121 Try.sizeOf121 rfl rfl rfl) (by decide) ?_
      refine WL.x (X.move rfl) (by decide) ?_
      refine WL.x (X.field Try.runUnderlying121 rfl Try.sizeOf74 rfl) (by decide) ?_
      refine WL.x (X.loadB (k := 2) Try.isAgg74 rfl rfl rfl) (by decide) ?_
      refine WL.x (X.len Try.runUnderlying74 rfl hs30) (by decide) ?_
      refine WL.tm (T.call Try.call90 rfl (part90 _ ⟨_, _, rfl, hs30, hs32⟩ ((difF s t time)) (((difW s t).levels).length) _ _ (by omega) (by omega) (by omega) (by omega) (by omega))) (by decide) (fun m55 r56 hle57 hR_ => ?_)
      obtain ⟨c58, rfl, hc59⟩ := hR_
      replace hs2 := hs2.mono hle57
      replace hs4 := hs4.mono hle57
      replace hs8 := hs8.mono hle57
      replace hs10 := hs10.mono hle57
      replace hs19 := hs19.mono hle57
      replace hs30 := hs30.mono hle57
      replace hs32 := hs32.mono hle57
      replace hp39 := hp39.mono hle57
      replace hs49 := hs49.mono hle57
      replace hs51 := hs51.mono hle57
      obtain ⟨v60, v62, rfl, hs61, hs63⟩ := hc59
      have hl64 := hs61.le
      have hl65 := hs63.le
      refine WL.tm (T.call Try.call92 rfl (turn92 _ _ (winPart (difW s t) ((difF s t time)) (((difW s t).levels).length)) ⟨_, _, rfl, hs61, hs63⟩ (by assumption) (by omega))) (by decide) fun m66 r67 hle68 hR69 => ?_
      obtain ⟨c70, rfl, hc71⟩ := hR69
      replace hs2 := hs2.mono hle68
      replace hs4 := hs4.mono hle68
      replace hs8 := hs8.mono hle68
      replace hs10 := hs10.mono hle68
      replace hs19 := hs19.mono hle68
      replace hs30 := hs30.mono hle68
      replace hs32 := hs32.mono hle68
      replace hp39 := hp39.mono hle68
      replace hs49 := hs49.mono hle68
      replace hs51 := hs51.mono hle68
      replace hs61 := hs61.mono hle68
      replace hs63 := hs63.mono hle68
      obtain ⟨v72, v74, rfl, hs73, hs75⟩ := hc71
      have hl76 := hs73.le
      have hl77 := hs75.le
      refine WL.x (X.move rfl) (by decide) ?_
      refine WL.x (X.call Try.call91 rfl (last91 _ _ (winTurn ((winPart (difW s t) ((difF s t time)) (((difW s t).levels).length)))) ⟨_, _, rfl, hs73, hs75⟩ _ (by first | exact win_w (by assumption) (by omega) (by omega) | assumption) (by omega))) (by decide) ?_
      refine WL.x (X.move rfl) (by decide) ?_
      refine WL.x (X.extract rfl rfl) (by decide) ?_
      refine WL.x (X.extract rfl rfl) (by decide) ?_
      refine WL.tn (T.alloc Try.zeroValue33 rfl) (by decide) fun b78 => ?_
      refine WL.ts (T.storeBA (k := 0) Try.sizeOf33 rfl rfl rfl (one_cons rfl (one_cons rfl one_nil)) rfl rfl) ?_
      refine WL.x (X.assign rfl) (by decide) ?_
      refine WL.nil ?_
      refine WK.nThen ?_
      refine WC.seq ?_
      refine WC.seq ?_
      refine WC.region ?_
      refine WL.x (X.move rfl) (by decide) ?_
      refine WL.condb (X.not rfl) (by decide) (fun h79 => ?_) (fun h79 => ?_)
      ·refine WL.x (X.move rfl) (by decide) ?_
       refine WL.no rfl rfl rfl (by decide) ?_
       refine WL.no rfl rfl rfl (by decide) ?_
       refine WL.x (X.pickT rfl rfl rfl) (by decide) ?_
       refine WL.nil ?_
       refine WK.nThen ?_
       refine WC.condT rfl ?_
       refine WC.seq ?_
       refine WC.region ?_
       refine WL.x (V := Value.agg [.int .i64 (0), .int .i64 (0)].toArray) (X.build Try.zeroValue33 Try.runUnderlying33 (places33 _ Try.underlying33) rfl rfl) (by decide) ?_
       refine WL.ts (T.storeBA (k := 4) Try.sizeOf33 rfl rfl rfl (one_cons rfl (one_cons rfl one_nil)) rfl rfl) ?_
       refine WL.x (X.assign rfl) (by decide) ?_
       refine WL.nil ?_
       refine WK.nThen ?_
       refine WC.ret ?_
       refine WK.rThen ?_
       refine WK.retC2 4 rfl rfl rfl rfl Try.isAgg33 Try.sizeOf33 (fun w' hw' => Ret.exact hw' ?_)
       first | exact tup2 (agg2i (by rw [adj_err (by omega)]) (by rw [adj_err (by omega)])) (int_eq (by rw [adj_err (by omega)])) | exact tup2 (agg2i (by rw [adj_arg (by omega) (by omega)]) (by rw [adj_arg (by omega) (by omega)])) (int_eq (by rw [adj_arg (by omega) (by omega)])) | exact tup2 (agg2i (by rw [adj_none (by omega) (by omega) (by omega)]) (by rw [adj_none (by omega) (by omega) (by omega)])) (int_eq (by rw [adj_none (by omega) (by omega) (by omega)])) | exact tup2 (agg2i (by rw [adj_bad (by omega) (by omega) (by omega) (by unfold adjA adjB; rw [← hdn]; first | exact .inl (by simpa using ‹(!(lastR (winPart (difW s t) 0 (difF s t time)) most).2) = true›) | exact .inr (by simpa using ‹(!(lastR (winTurn (winPart (difW s t) (difF s t time) (difW s t).levels.length)) most).2) = true›))]) (by rw [adj_bad (by omega) (by omega) (by omega) (by unfold adjA adjB; rw [← hdn]; first | exact .inl (by simpa using ‹(!(lastR (winPart (difW s t) 0 (difF s t time)) most).2) = true›) | exact .inr (by simpa using ‹(!(lastR (winTurn (winPart (difW s t) (difF s t time) (difW s t).levels.length)) most).2) = true›))])) (int_eq (by rw [adj_bad (by omega) (by omega) (by omega) (by unfold adjA adjB; rw [← hdn]; first | exact .inl (by simpa using ‹(!(lastR (winPart (difW s t) 0 (difF s t time)) most).2) = true›) | exact .inr (by simpa using ‹(!(lastR (winTurn (winPart (difW s t) (difF s t time) (difW s t).levels.length)) most).2) = true›))]))
      ·refine WL.x (X.move rfl) (by decide) ?_
       refine WL.yes rfl rfl ?_
       refine WL.x (X.move rfl) (by decide) ?_
       refine WL.yes rfl rfl ?_
       refine WL.condb (X.not rfl) (by decide) (fun h80 => ?_) (fun h80 => ?_)
       ·refine WL.x (X.pickF rfl rfl rfl) (by decide) ?_
        refine WL.nil ?_
        refine WK.nThen ?_
        refine WC.condT rfl ?_
        refine WC.seq ?_
        refine WC.region ?_
        refine WL.x (V := Value.agg [.int .i64 (0), .int .i64 (0)].toArray) (X.build Try.zeroValue33 Try.runUnderlying33 (places33 _ Try.underlying33) rfl rfl) (by decide) ?_
        refine WL.ts (T.storeBA (k := 4) Try.sizeOf33 rfl rfl rfl (one_cons rfl (one_cons rfl one_nil)) rfl rfl) ?_
        refine WL.x (X.assign rfl) (by decide) ?_
        refine WL.nil ?_
        refine WK.nThen ?_
        refine WC.ret ?_
        refine WK.rThen ?_
        refine WK.retC2 4 rfl rfl rfl rfl Try.isAgg33 Try.sizeOf33 (fun w' hw' => Ret.exact hw' ?_)
        first | exact tup2 (agg2i (by rw [adj_err (by omega)]) (by rw [adj_err (by omega)])) (int_eq (by rw [adj_err (by omega)])) | exact tup2 (agg2i (by rw [adj_arg (by omega) (by omega)]) (by rw [adj_arg (by omega) (by omega)])) (int_eq (by rw [adj_arg (by omega) (by omega)])) | exact tup2 (agg2i (by rw [adj_none (by omega) (by omega) (by omega)]) (by rw [adj_none (by omega) (by omega) (by omega)])) (int_eq (by rw [adj_none (by omega) (by omega) (by omega)])) | exact tup2 (agg2i (by rw [adj_bad (by omega) (by omega) (by omega) (by unfold adjA adjB; rw [← hdn]; first | exact .inl (by simpa using ‹(!(lastR (winPart (difW s t) 0 (difF s t time)) most).2) = true›) | exact .inr (by simpa using ‹(!(lastR (winTurn (winPart (difW s t) (difF s t time) (difW s t).levels.length)) most).2) = true›))]) (by rw [adj_bad (by omega) (by omega) (by omega) (by unfold adjA adjB; rw [← hdn]; first | exact .inl (by simpa using ‹(!(lastR (winPart (difW s t) 0 (difF s t time)) most).2) = true›) | exact .inr (by simpa using ‹(!(lastR (winTurn (winPart (difW s t) (difF s t time) (difW s t).levels.length)) most).2) = true›))])) (int_eq (by rw [adj_bad (by omega) (by omega) (by omega) (by unfold adjA adjB; rw [← hdn]; first | exact .inl (by simpa using ‹(!(lastR (winPart (difW s t) 0 (difF s t time)) most).2) = true›) | exact .inr (by simpa using ‹(!(lastR (winTurn (winPart (difW s t) (difF s t time) (difW s t).levels.length)) most).2) = true›))]))
       ·refine WL.x (X.pickF rfl rfl rfl) (by decide) ?_
        refine WL.nil ?_
        refine WK.nThen ?_
        refine WC.condF rfl ?_
        refine WC.skip ?_
        refine WK.nThen ?_
        refine WC.seq ?_
        refine WC.region ?_
        refine WL.x (X.field Try.runUnderlying33 rfl Try.sizeOf3 rfl) (by decide) ?_
        refine WL.x (X.loadB (k := 0) Try.isAgg3 rfl rfl rfl) (by decide) ?_
        refine WL.x (X.field Try.runUnderlying33 rfl Try.sizeOf3 rfl) (by decide) ?_
        refine WL.x (X.loadB (k := 1) Try.isAgg3 rfl rfl rfl) (by decide) ?_
        refine WL.x (X.sub rfl rfl (by omega) (by omega)) (by decide) ?_
        refine WL.x (X.field Try.runUnderlying33 rfl Try.sizeOf3 rfl) (by decide) ?_
        refine WL.x (X.loadB (k := 2) Try.isAgg3 rfl rfl rfl) (by decide) ?_
        refine WL.x (X.sub rfl rfl (by omega) (by omega)) (by decide) ?_
        refine WL.x (X.field Try.runUnderlying33 rfl Try.sizeOf3 rfl) (by decide) ?_
        refine WL.x (X.loadB (k := 0) Try.isAgg3 rfl rfl rfl) (by decide) ?_
        refine WL.x (X.field Try.runUnderlying33 rfl Try.sizeOf3 rfl) (by decide) ?_
        refine WL.x (X.loadB (k := 1) Try.isAgg3 rfl rfl rfl) (by decide) ?_
        refine WL.x (X.sub rfl rfl (by omega) (by omega)) (by decide) ?_
        refine WL.x (X.field Try.runUnderlying33 rfl Try.sizeOf3 rfl) (by decide) ?_
        refine WL.x (X.loadB (k := 2) Try.isAgg3 rfl rfl rfl) (by decide) ?_
        refine WL.x (X.sub rfl rfl (by omega) (by omega)) (by decide) ?_
        refine WL.x (V := Value.agg [.int .i64 ((((lastR ((winTurn ((winPart (difW s t) ((difF s t time)) (((difW s t).levels).length))))) most).1.Lo) - ((lastR ((winPart (difW s t) 0 ((difF s t time)))) most).1.Hi)) - ((gt ((difW s t).shifts) ((difF s t time) - 1)).Hi)), .int .i64 ((((lastR ((winTurn ((winPart (difW s t) ((difF s t time)) (((difW s t).levels).length))))) most).1.Hi) - ((lastR ((winPart (difW s t) 0 ((difF s t time)))) most).1.Lo)) - ((gt ((difW s t).shifts) ((difF s t time) - 1)).Lo))].toArray) (X.build Try.zeroValue33 Try.runUnderlying33 (places33 _ Try.underlying33) rfl rfl) (by decide) ?_
        refine WL.ts (T.storeBA (k := 4) Try.sizeOf33 rfl rfl rfl (one_cons rfl (one_cons rfl one_nil)) rfl rfl) ?_
        refine WL.x (X.assign rfl) (by decide) ?_
        refine WL.nil ?_
        refine WK.nThen ?_
        refine WC.ret ?_
        refine WK.retC2 4 rfl rfl rfl rfl Try.isAgg33 Try.sizeOf33 (fun w' hw' => Ret.exact hw' ?_)
        first | exact tup2 (agg2i (by rw [adj_ok (s := s) (t := t) (time := time) (most := most) (by omega) (by omega) (by omega) (by unfold adjA; simpa using ‹(!(lastR (winPart (difW s t) 0 (difF s t time)) most).2) = false›) (by unfold adjB; rw [← hdn]; simpa using ‹(!(lastR (winTurn (winPart (difW s t) (difF s t time) (difW s t).levels.length)) most).2) = false›), adjA, adjB, ← hdn]) (by rw [adj_ok (s := s) (t := t) (time := time) (most := most) (by omega) (by omega) (by omega) (by unfold adjA; simpa using ‹(!(lastR (winPart (difW s t) 0 (difF s t time)) most).2) = false›) (by unfold adjB; rw [← hdn]; simpa using ‹(!(lastR (winTurn (winPart (difW s t) (difF s t time) (difW s t).levels.length)) most).2) = false›), adjA, adjB, ← hdn])) (int_eq (by rw [adj_ok (s := s) (t := t) (time := time) (most := most) (by omega) (by omega) (by omega) (by unfold adjA; simpa using ‹(!(lastR (winPart (difW s t) 0 (difF s t time)) most).2) = false›) (by unfold adjB; rw [← hdn]; simpa using ‹(!(lastR (winTurn (winPart (difW s t) (difF s t time) (difW s t).levels.length)) most).2) = false›)]))
   ·refine WL.yes rfl rfl ?_
    refine WL.x (X.not rfl) (by decide) ?_
    refine WL.x (X.pickF rfl rfl rfl) (by decide) ?_
    refine WL.nil ?_
    refine WK.nThen ?_
    refine WC.condT rfl ?_
    refine WC.seq ?_
    refine WC.region ?_
    refine WL.x (V := Value.agg [.int .i64 (0), .int .i64 (0)].toArray) (X.build Try.zeroValue33 Try.runUnderlying33 (places33 _ Try.underlying33) rfl rfl) (by decide) ?_
    refine WL.ts (T.storeBA (k := 0) Try.sizeOf33 rfl rfl rfl (one_cons rfl (one_cons rfl one_nil)) rfl rfl) ?_
    refine WL.x (X.assign rfl) (by decide) ?_
    refine WL.nil ?_
    refine WK.nThen ?_
    refine WC.ret ?_
    refine WK.rThen ?_
    refine WK.retC2 0 rfl rfl rfl rfl Try.isAgg33 Try.sizeOf33 (fun w' hw' => Ret.exact hw' ?_)
    first | exact tup2 (agg2i (by rw [adj_err (by omega)]) (by rw [adj_err (by omega)])) (int_eq (by rw [adj_err (by omega)])) | exact tup2 (agg2i (by rw [adj_arg (by omega) (by omega)]) (by rw [adj_arg (by omega) (by omega)])) (int_eq (by rw [adj_arg (by omega) (by omega)])) | exact tup2 (agg2i (by rw [adj_none (by omega) (by omega) (by omega)]) (by rw [adj_none (by omega) (by omega) (by omega)])) (int_eq (by rw [adj_none (by omega) (by omega) (by omega)])) | exact tup2 (agg2i (by rw [adj_bad (by omega) (by omega) (by omega) (by unfold adjA adjB; rw [← hdn]; first | exact .inl (by simpa using ‹(!(lastR (winPart (difW s t) 0 (difF s t time)) most).2) = true›) | exact .inr (by simpa using ‹(!(lastR (winTurn (winPart (difW s t) (difF s t time) (difW s t).levels.length)) most).2) = true›))]) (by rw [adj_bad (by omega) (by omega) (by omega) (by unfold adjA adjB; rw [← hdn]; first | exact .inl (by simpa using ‹(!(lastR (winPart (difW s t) 0 (difF s t time)) most).2) = true›) | exact .inr (by simpa using ‹(!(lastR (winTurn (winPart (difW s t) (difF s t time) (difW s t).levels.length)) most).2) = true›))])) (int_eq (by rw [adj_bad (by omega) (by omega) (by omega) (by unfold adjA adjB; rw [← hdn]; first | exact .inl (by simpa using ‹(!(lastR (winPart (difW s t) 0 (difF s t time)) most).2) = true›) | exact .inr (by simpa using ‹(!(lastR (winTurn (winPart (difW s t) (difF s t time) (difW s t).levels.length)) most).2) = true›))]))
  ·refine WL.x (X.not rfl) (by decide) ?_
   refine WL.x (X.move rfl) (by decide) ?_
   refine WL.no rfl rfl rfl (by decide) ?_
   refine WL.no rfl rfl rfl (by decide) ?_
   refine WL.no rfl rfl rfl (by decide) ?_
   refine WL.x (X.pickT rfl rfl rfl) (by decide) ?_
   refine WL.nil ?_
   refine WK.nThen ?_
   refine WC.condT rfl ?_
   refine WC.seq ?_
   refine WC.region ?_
   refine WL.x (V := Value.agg [.int .i64 (0), .int .i64 (0)].toArray) (X.build Try.zeroValue33 Try.runUnderlying33 (places33 _ Try.underlying33) rfl rfl) (by decide) ?_
   refine WL.ts (T.storeBA (k := 0) Try.sizeOf33 rfl rfl rfl (one_cons rfl (one_cons rfl one_nil)) rfl rfl) ?_
   refine WL.x (X.assign rfl) (by decide) ?_
   refine WL.nil ?_
   refine WK.nThen ?_
   refine WC.ret ?_
   refine WK.rThen ?_
   refine WK.retC2 0 rfl rfl rfl rfl Try.isAgg33 Try.sizeOf33 (fun w' hw' => Ret.exact hw' ?_)
   first | exact tup2 (agg2i (by rw [adj_err (by omega)]) (by rw [adj_err (by omega)])) (int_eq (by rw [adj_err (by omega)])) | exact tup2 (agg2i (by rw [adj_arg (by omega) (by omega)]) (by rw [adj_arg (by omega) (by omega)])) (int_eq (by rw [adj_arg (by omega) (by omega)])) | exact tup2 (agg2i (by rw [adj_none (by omega) (by omega) (by omega)]) (by rw [adj_none (by omega) (by omega) (by omega)])) (int_eq (by rw [adj_none (by omega) (by omega) (by omega)])) | exact tup2 (agg2i (by rw [adj_bad (by omega) (by omega) (by omega) (by unfold adjA adjB; rw [← hdn]; first | exact .inl (by simpa using ‹(!(lastR (winPart (difW s t) 0 (difF s t time)) most).2) = true›) | exact .inr (by simpa using ‹(!(lastR (winTurn (winPart (difW s t) (difF s t time) (difW s t).levels.length)) most).2) = true›))]) (by rw [adj_bad (by omega) (by omega) (by omega) (by unfold adjA adjB; rw [← hdn]; first | exact .inl (by simpa using ‹(!(lastR (winPart (difW s t) 0 (difF s t time)) most).2) = true›) | exact .inr (by simpa using ‹(!(lastR (winTurn (winPart (difW s t) (difF s t time) (difW s t).levels.length)) most).2) = true›))])) (int_eq (by rw [adj_bad (by omega) (by omega) (by omega) (by unfold adjA adjB; rw [← hdn]; first | exact .inl (by simpa using ‹(!(lastR (winPart (difW s t) 0 (difF s t time)) most).2) = true›) | exact .inr (by simpa using ‹(!(lastR (winTurn (winPart (difW s t) (difF s t time) (difW s t).levels.length)) most).2) = true›))]))

end Go.Proofs.C8
