import Derived.Test.YtmnipmbgdbdjeaaC2W2
/- Clocks: walks, third part, by program. -/
namespace Go.Proofs.C2
open Go Go.Kx
set_option linter.unusedVariables false

theorem gaps105 (m : Mem) (cd : List Value) (d : Drum) (hd : Enc.rd m cd d)  (hdp : drumP d) : Pure Try.prog 105 #[.agg cd.toArray] m (fun m' v => ∃ r0, v = r0 ∧ Sl m' r0 (gapL d)) := by
  obtain ⟨v1, v3, rfl, hs2, hs4⟩ := hd
  have hl5 := hs2.le
  have hl6 := hs4.le
  have hd1 := hdp.1
  refine Pure.start Try.func105 rfl Try.ntmps105 rfl fun wld => ?_
  refine WC.seq ?_
  refine WC.region ?_
  refine WL.tn (T.boxB rfl rfl) (by decide) fun b7 => ?_
  refine WL.x (X.assign rfl) (by decide) ?_
  refine WL.nil ?_
  refine WK.nThen ?_
  refine WC.seq ?_
  refine WC.region ?_
  refine WL.x (X.field Try.runUnderlying25 rfl Try.sizeOf22 rfl) (by decide) ?_
  refine WL.x (X.loadB (k := 0) Try.isAgg22 rfl rfl rfl) (by decide) ?_
  refine WL.tM (T.callO Try.call116 rfl (clone116 _ hs2 (by omega))) (by decide) (fun m8 Es9 v10 hle11 hR_ => ?_)
  obtain ⟨rfl, ho12⟩ := hR_
  replace hs2 := hs2.mono hle11
  replace hs4 := hs4.mono hle11
  refine WL.x (X.assign rfl) (by decide) ?_
  refine WL.nil ?_
  refine WK.nThen ?_
  refine WC.seq ?_
  refine WC.seq ?_
  refine WC.region ?_
  refine WL.x (X.field Try.runUnderlying25 rfl Try.sizeOf23 rfl) (by decide) ?_
  refine WL.x (X.loadB (k := 1) Try.isAgg23 rfl rfl rfl) (by decide) ?_
  refine WL.x (X.len Try.runUnderlying23 rfl hs4) (by decide) ?_
  refine WL.x (X.move rfl) (by decide) ?_
  refine WL.nil ?_
  refine WK.nThen ?_
  refine WC.block ?_
  have he13 : d.Rates = ((List.range d.Rates.length).map (fun c => gapN d c 0)) := (map_gt d.Rates).symm
  rw [he13]
  refine WC.loop (G := Nat) (fun k => d.Stops.length - k) (fun k => m8) (fun k => [rowF (v10) 31 ((List.range d.Rates.length).map (fun c => gapN d c k)), blk b7 25 [v1, v3]]) (fun k => [(3, v10), (10, v3), (11, .int .i64 (↑d.Stops.length)), (12, .int .i64 (↑k))]) (fun k => k ≤ d.Stops.length) 0 rfl (.refl _) (.cons rfl (.cons rfl (.cons rfl (.cons rfl .nil)))) ?_ ?_
  · exact Nat.zero_le _
  · rintro k hF14
    show WK _ _ m8 [rowF (v10) 31 ((List.range d.Rates.length).map (fun c => gapN d c k)), blk b7 25 [v1, v3]] [(3, v10), (10, v3), (11, .int .i64 (↑d.Stops.length)), (12, .int .i64 (↑k))] _
    replace hF14 : k ≤ d.Stops.length := hF14
    have hk := hF14
    have hso := fun h => stop_ok hdp (i := k) h
    have hll : ((List.range d.Rates.length).map (fun c => gapN d c k)).length = d.Rates.length := (by simp)
    refine WC.seq ?_
    refine WC.region ?_
    refine WL.cond (X.lss rfl rfl) (by decide) (fun h15 => ?_) (fun h15 => ?_)
    · refine WL.nil ?_
      refine WK.nThen ?_
      refine WC.seq ?_
      refine WC.condT rfl ?_
      refine WC.skip ?_
      refine WK.nThen ?_
      refine WC.seq ?_
      refine WC.block ?_
      refine WC.seq ?_
      refine WC.region ?_
      refine WL.xe (E.idxN k Try.runUnderlying23 Try.sizeOf34 rfl rfl hs4 (by omega)) (by decide) (fun p16 hp17 => ?_)
      refine WL.xe (E.loadAgg Try.isAgg34 Try.sizeOf34 rfl hp17) (by decide) (fun c18 hc19 => ?_)
      obtain rfl := hc19
      refine WL.tn (T.alloc Try.zeroValue34 rfl) (by decide) fun b20 => ?_
      refine WL.ts (T.storeBA (k := 0) Try.sizeOf34 rfl rfl rfl (one_cons rfl (one_cons rfl (one_cons rfl one_nil))) rfl rfl) ?_
      refine WL.nil ?_
      refine WK.nThen ?_
      refine WC.seq ?_
      have hso1 := hso (by omega)
      have hso2 := hso1.1
      have hso3 := hso1.2
      unfold spOk at hso3
      have hgb := gapN_bd hdp (c := ((gt d.Stops k).Column : Int).toNat) (by omega) k (by omega)
      have hgc0 := gt_map (f := fun c => gapN d c k) (n := d.Rates.length) (i := ((gt d.Stops k).Column : Int).toNat) (by omega)
      have hg1_ := congrArg Span.Lo hgc0
      have hg2_ := congrArg Span.Hi hgc0
      try dsimp only at hg1_ hg2_
      refine WC.draw (π := (.cons 0 (.cons 1 (.cons 2 (.cons 3 (.cons 4 (.cons 5 (.cons 6 (.cons 7 (.cons 8 (.cons 9 (.cons 10 (.cons 11 (.cons 12 .done)))))))))))))) [12] [12] rfl (by kernel_rfl) ?_
      refine DW.x rfl rfl (X.move rfl) (by decide) ?_
      refine DW.x rfl rfl (X.field Try.runUnderlying34 rfl Try.sizeOf3 rfl) (by decide) ?_
      refine DW.x rfl rfl (X.loadB (k := 0) Try.isAgg3 rfl rfl rfl) (by decide) ?_
      refine DW.x rfl rfl (X.idxRow (k := 1) Try.runUnderlying22 Try.sizeOf31 rfl rfl rfl (by first | omega | (simp; omega) | simp) (by first | omega | (simp; omega) | simp)) (by decide) ?_
      refine DW.x rfl rfl (X.field Try.runUnderlying31 rfl Try.sizeOf3 rfl) (by decide) ?_
      refine DW.x rfl rfl (X.loadFp (k := 1) (i := ((gt d.Stops k).Column : Int).toNat) (off := 0) (u := .int .i64 (((gt ((List.range d.Rates.length).map (fun c => gapN d c k)) (((gt d.Stops k).Column : Int).toNat))).Lo)) Try.isAgg3 rfl rfl (by first | omega | (simp; omega) | simp) rfl) (by decide) ?_
      refine DW.x rfl rfl (X.field Try.runUnderlying34 rfl Try.sizeOf31 rfl) (by decide) ?_
      refine DW.x rfl rfl (X.field Try.runUnderlying31 rfl Try.sizeOf3 rfl) (by decide) ?_
      refine DW.x rfl rfl (X.loadB (k := 0) Try.isAgg3 rfl rfl rfl) (by decide) ?_
      refine DW.x rfl rfl (X.add rfl rfl (by omega) (by omega)) (by decide) ?_
      refine DW.x rfl rfl (X.idxRow (k := 1) Try.runUnderlying22 Try.sizeOf31 rfl rfl rfl (by first | omega | (simp; omega) | simp) (by first | omega | (simp; omega) | simp)) (by decide) ?_
      refine DW.x rfl rfl (X.field Try.runUnderlying31 rfl Try.sizeOf3 rfl) (by decide) ?_
      refine DW.ts rfl rfl rfl rfl (T.storeFp (k := 1) (i := ((gt d.Stops k).Column : Int).toNat) (off := 0) (us := [.int .i64 ((((gt ((List.range d.Rates.length).map (fun c => gapN d c k)) (((gt d.Stops k).Column : Int).toNat))).Lo) + (((gt d.Stops k).Ticks).Lo))]) ((Span.mk ((((gt ((List.range d.Rates.length).map (fun c => gapN d c k)) (((gt d.Stops k).Column : Int).toNat))).Lo) + (((gt d.Stops k).Ticks).Lo)) (((gt ((List.range d.Rates.length).map (fun c => gapN d c k)) (((gt d.Stops k).Column : Int).toNat))).Hi))) Try.sizeOf3 rfl rfl rfl rfl (Nat.zero_lt_succ _) rfl (by first | omega | (simp; omega) | simp) rfl rfl (one_cons rfl one_nil)) ?_
      refine DW.nil ?_
      refine WK.nThen ?_
      have hgc := gt_map (f := fun c => gapN d c k) (n := d.Rates.length) (i := ((gt d.Stops k).Column : Int).toNat) (by omega)
      have hs1_ := gt_set ((List.range d.Rates.length).map (fun c => gapN d c k)) (a := ((gt d.Stops k).Column : Int).toNat) (b := ((gt d.Stops k).Column : Int).toNat) (Span.mk ((gapN d ((gt d.Stops k).Column : Int).toNat k).Lo + (gt d.Stops k).Ticks.Lo) (gapN d ((gt d.Stops k).Column : Int).toNat k).Hi) (by simp; omega)
      rw [if_pos rfl] at hs1_
      have hl1_ : (((List.range d.Rates.length).map (fun c => gapN d c k)).set ((gt d.Stops k).Column : Int).toNat (Span.mk ((gapN d ((gt d.Stops k).Column : Int).toNat k).Lo + (gt d.Stops k).Ticks.Lo) (gapN d ((gt d.Stops k).Column : Int).toNat k).Hi)).length = d.Rates.length := (by simp)
      have he21 : (((List.range d.Rates.length).map (fun c => gapN d c k)).set (((gt d.Stops k).Column : Int).toNat) ((Span.mk ((((gt ((List.range d.Rates.length).map (fun c => gapN d c k)) (((gt d.Stops k).Column : Int).toNat))).Lo) + (((gt d.Stops k).Ticks).Lo)) (((gt ((List.range d.Rates.length).map (fun c => gapN d c k)) (((gt d.Stops k).Column : Int).toNat))).Hi)))) = (((List.range d.Rates.length).map (fun c => gapN d c k)).set ((gt d.Stops k).Column : Int).toNat (Span.mk ((gapN d ((gt d.Stops k).Column : Int).toNat k).Lo + (gt d.Stops k).Ticks.Lo) (gapN d ((gt d.Stops k).Column : Int).toNat k).Hi)) := (by rw [hgc])
      rw [he21]
      have hs2_ := congrArg Span.Lo hs1_
      have hs3_ := congrArg Span.Hi hs1_
      try dsimp only at hs2_ hs3_
      refine WC.draw (π := (.cons 0 (.cons 1 (.cons 2 (.cons 3 (.cons 4 (.cons 5 (.cons 6 (.cons 7 (.cons 8 (.cons 9 (.cons 10 (.cons 11 (.cons 12 .done)))))))))))))) [12] [12] rfl (by kernel_rfl) ?_
      refine DW.x rfl rfl (X.move rfl) (by decide) ?_
      refine DW.x rfl rfl (X.field Try.runUnderlying34 rfl Try.sizeOf3 rfl) (by decide) ?_
      refine DW.x rfl rfl (X.loadB (k := 0) Try.isAgg3 rfl rfl rfl) (by decide) ?_
      refine DW.x rfl rfl (X.idxRow (k := 1) Try.runUnderlying22 Try.sizeOf31 rfl rfl rfl (by first | omega | (simp; omega) | simp) (by first | omega | (simp; omega) | simp)) (by decide) ?_
      refine DW.x rfl rfl (X.field Try.runUnderlying31 rfl Try.sizeOf3 rfl) (by decide) ?_
      refine DW.x rfl rfl (X.loadFp (k := 1) (i := ((gt d.Stops k).Column : Int).toNat) (off := 1) (u := .int .i64 (((gt (((List.range d.Rates.length).map (fun c => gapN d c k)).set ((gt d.Stops k).Column : Int).toNat (Span.mk ((gapN d ((gt d.Stops k).Column : Int).toNat k).Lo + (gt d.Stops k).Ticks.Lo) (gapN d ((gt d.Stops k).Column : Int).toNat k).Hi)) (((gt d.Stops k).Column : Int).toNat))).Hi)) Try.isAgg3 rfl rfl (by first | omega | (simp; omega) | simp) rfl) (by decide) ?_
      refine DW.x rfl rfl (X.field Try.runUnderlying34 rfl Try.sizeOf31 rfl) (by decide) ?_
      refine DW.x rfl rfl (X.field Try.runUnderlying31 rfl Try.sizeOf3 rfl) (by decide) ?_
      refine DW.x rfl rfl (X.loadB (k := 0) Try.isAgg3 rfl rfl rfl) (by decide) ?_
      refine DW.x rfl rfl (X.add rfl rfl (by omega) (by omega)) (by decide) ?_
      refine DW.x rfl rfl (X.idxRow (k := 1) Try.runUnderlying22 Try.sizeOf31 rfl rfl rfl (by first | omega | (simp; omega) | simp) (by first | omega | (simp; omega) | simp)) (by decide) ?_
      refine DW.x rfl rfl (X.field Try.runUnderlying31 rfl Try.sizeOf3 rfl) (by decide) ?_
      refine DW.ts rfl rfl rfl rfl (T.storeFp (k := 1) (i := ((gt d.Stops k).Column : Int).toNat) (off := 1) (us := [.int .i64 ((((gt (((List.range d.Rates.length).map (fun c => gapN d c k)).set ((gt d.Stops k).Column : Int).toNat (Span.mk ((gapN d ((gt d.Stops k).Column : Int).toNat k).Lo + (gt d.Stops k).Ticks.Lo) (gapN d ((gt d.Stops k).Column : Int).toNat k).Hi)) (((gt d.Stops k).Column : Int).toNat))).Hi) + (((gt d.Stops k).Ticks).Hi))]) ((Span.mk (((gt (((List.range d.Rates.length).map (fun c => gapN d c k)).set ((gt d.Stops k).Column : Int).toNat (Span.mk ((gapN d ((gt d.Stops k).Column : Int).toNat k).Lo + (gt d.Stops k).Ticks.Lo) (gapN d ((gt d.Stops k).Column : Int).toNat k).Hi)) (((gt d.Stops k).Column : Int).toNat))).Lo) ((((gt (((List.range d.Rates.length).map (fun c => gapN d c k)).set ((gt d.Stops k).Column : Int).toNat (Span.mk ((gapN d ((gt d.Stops k).Column : Int).toNat k).Lo + (gt d.Stops k).Ticks.Lo) (gapN d ((gt d.Stops k).Column : Int).toNat k).Hi)) (((gt d.Stops k).Column : Int).toNat))).Hi) + (((gt d.Stops k).Ticks).Hi)))) Try.sizeOf3 rfl rfl rfl rfl (Nat.zero_lt_succ _) rfl (by first | omega | (simp; omega) | simp) rfl rfl (one_cons rfl one_nil)) ?_
      refine DW.nil ?_
      refine WK.nBlock ?_
      refine WK.nThen ?_
      refine WC.region ?_
      refine WL.x (X.add rfl rfl (by omega) (by omega)) (by decide) ?_
      refine WL.x (X.move rfl) (by decide) ?_
      refine WL.nil ?_
      refine WK.nThen ?_
      have he22 : ((((List.range d.Rates.length).map (fun c => gapN d c k)).set ((gt d.Stops k).Column : Int).toNat (Span.mk ((gapN d ((gt d.Stops k).Column : Int).toNat k).Lo + (gt d.Stops k).Ticks.Lo) (gapN d ((gt d.Stops k).Column : Int).toNat k).Hi)).set (((gt d.Stops k).Column : Int).toNat) ((Span.mk (((gt (((List.range d.Rates.length).map (fun c => gapN d c k)).set ((gt d.Stops k).Column : Int).toNat (Span.mk ((gapN d ((gt d.Stops k).Column : Int).toNat k).Lo + (gt d.Stops k).Ticks.Lo) (gapN d ((gt d.Stops k).Column : Int).toNat k).Hi)) (((gt d.Stops k).Column : Int).toNat))).Lo) ((((gt (((List.range d.Rates.length).map (fun c => gapN d c k)).set ((gt d.Stops k).Column : Int).toNat (Span.mk ((gapN d ((gt d.Stops k).Column : Int).toNat k).Lo + (gt d.Stops k).Ticks.Lo) (gapN d ((gt d.Stops k).Column : Int).toNat k).Hi)) (((gt d.Stops k).Column : Int).toNat))).Hi) + (((gt d.Stops k).Ticks).Hi))))) = ((List.range d.Rates.length).map (fun c => gapN d c (k + 1))) := (by rw [hs1_, List.set_set]; exact gap_step hdp (by omega))
      rw [he22]
      refine WK.next (k + 1) rfl (.cons _ (.cons_cons _ (.cons_cons _ .slnil))) (.cons rfl (.cons rfl (.cons rfl (.cons rfl .nil)))) ?_ ?_
      · omega
      · omega
    · refine WL.nil ?_
      refine WK.nThen ?_
      refine WC.seq ?_
      refine WC.condF rfl ?_
      refine WC.exit ?_
      refine WK.eThen ?_
      refine WK.eThen ?_
      refine WK.eHit ?_
      refine WK.nThen ?_
      refine WC.seq ?_
      have he23 : ((List.range d.Rates.length).map (fun c => gapN d c k)) = (gapL d) := (by rw [show k = d.Stops.length by omega]; rfl)
      rw [he23]
      refine WC.region ?_
      refine WL.x (X.move rfl) (by decide) ?_
      refine WL.x (X.assign rfl) (by decide) ?_
      refine WL.nil ?_
      refine WK.nThen ?_
      refine WC.ret ?_
      refine WK.freezeF 0 rfl rfl (by simp [gapL, lenB]; omega) (fun m24 hle25 hs26 => ?_)
      replace hs2 := hs2.mono hle25
      replace hs4 := hs4.mono hle25
      refine WK.ret1 rfl rfl (fun w' hw' => Ret.mem hw' ?_)
      exact ⟨_, rfl, hs26⟩

theorem clockOf96 (m : Mem) (cd : List Value) (d : Drum) (hd : Enc.rd m cd d) (vm_ : Value) (m_ : List Mark) (hm_ : Sl m vm_ m_)  (hok : Ok d m_) : Pure Try.prog 96 #[.agg cd.toArray, vm_] m (fun m' v => ∃ r0, v = .agg r0.toArray ∧ Enc.rd m' r0 (Ck.mk (gapL d) (atL d m_))) := by
  obtain ⟨v1, v3, rfl, hs2, hs4⟩ := hd
  have hl5 := hs2.le
  have hl6 := hs4.le
  have lm_ := hm_.le
  have hd1 := hok.dr.1
  have hn_ := hok.n
  refine Pure.start Try.func96 rfl Try.ntmps96 rfl fun wld => ?_
  refine WC.seq ?_
  refine WC.region ?_
  refine WL.tn (T.boxB rfl rfl) (by decide) fun b7 => ?_
  refine WL.tn (T.alloc Try.zeroValue83 rfl) (by decide) fun b8 => ?_
  refine WL.nil ?_
  refine WK.nThen ?_
  refine WC.seq ?_
  refine WC.region ?_
  refine WL.x (X.loadBA (k := 1) Try.isAgg25 Try.sizeOf25 rfl rfl rfl) (by decide) ?_
  refine WL.tm (T.call Try.call105 rfl (gaps105 _ _ d ⟨_, _, rfl, hs2, hs4⟩ hok.dr)) (by decide) fun m9 r10 hle11 hR12 => ?_
  obtain ⟨v13, hv_, hs14⟩ := hR12
  rw [← hv_] at hs14
  clear hv_ v13
  replace hs2 := hs2.mono hle11
  replace hs4 := hs4.mono hle11
  replace hm_ := hm_.mono hle11
  have hl15 := hs14.le
  refine WL.x (V := Value.agg [r10, .slice none 0 0].toArray) (X.build Try.zeroValue83 Try.runUnderlying83 (places83 _ Try.underlying83) rfl (by simp only [Instr.fill, one_cells hs14.one]; rfl)) (by decide) ?_
  refine WL.tn (T.alloc Try.zeroValue83 rfl) (by decide) fun b16 => ?_
  refine WL.ts (T.storeBA (k := 0) Try.sizeOf83 rfl rfl rfl (one_cons hs14.one (one_cons rfl one_nil)) rfl rfl) ?_
  refine WL.nil ?_
  refine WK.nThen ?_
  refine WC.seq ?_
  refine WC.region ?_
  refine WL.x (V := Value.agg [.int .i64 (0), .int .i64 (400)].toArray) (X.build Try.zeroValue31 Try.runUnderlying31 (places31 _ Try.underlying31) rfl rfl) (by decide) ?_
  refine WL.tm (T.litM (α := Span) (vals := [.agg [.int .i64 (0), .int .i64 (400)].toArray]) (L := [(Span.mk (0) (400))]) sl22 rfl (.cons rfl rfl .nil) rfl rfl) (by decide) (fun m17 v18 hle19 hs20 => ?_)
  replace hs2 := hs2.mono hle19
  replace hs4 := hs4.mono hle19
  replace hm_ := hm_.mono hle19
  replace hs14 := hs14.mono hle19
  refine WL.x (X.field Try.runUnderlying25 rfl Try.sizeOf22 rfl) (by decide) ?_
  refine WL.x (X.loadB (k := 2) Try.isAgg22 rfl rfl rfl) (by decide) ?_
  refine WL.x (X.len Try.runUnderlying22 rfl hs2) (by decide) ?_
  refine WL.x (X.add rfl rfl (by omega) (by omega)) (by decide) ?_
  refine WL.tM (T.callO Try.call133 rfl (repeat133 _ hs20 (n := d.Rates.length + 1) (by omega) (by omega))) (by decide) (fun m21 _ v22 hle23 hR_ => ?_)
  obtain ⟨rfl, ho24⟩ := hR_
  replace hs2 := hs2.mono hle23
  replace hs4 := hs4.mono hle23
  replace hm_ := hm_.mono hle23
  replace hs14 := hs14.mono hle23
  replace hs20 := hs20.mono hle23
  refine WL.x (X.field Try.runUnderlying83 rfl Try.sizeOf22 rfl) (by decide) ?_
  refine WL.ts (T.storeB (k := 1) Try.sizeOf22 rfl rfl rfl ho24 (Nat.le_of_ble_eq_true rfl)) ?_
  refine WL.nil ?_
  refine WK.nThen ?_
  refine WC.seq ?_
  refine WC.seq ?_
  refine WC.region ?_
  refine WL.x (X.move rfl) (by decide) ?_
  refine WL.x (X.len Try.runUnderlying26 rfl hm_) (by decide) ?_
  refine WL.x (X.move rfl) (by decide) ?_
  refine WL.nil ?_
  refine WK.nThen ?_
  refine WC.block ?_
  have he25 : (List.replicate (d.Rates.length + 1) ((Span.mk (0) (400)))) = ((List.range (d.Rates.length + 1)).map (fun c => atN m_ 0 c)) := (rep_map _ _)
  rw [he25]
  refine WC.loop (G := Nat) (fun k => m_.length - k) (fun k => m21) (fun k => [rowF (v22) 31 ((List.range (d.Rates.length + 1)).map (fun c => atN m_ k c)), blk b16 83 [r10, v22], blk b8 83 [.slice none 0 0, .slice none 0 0], blk b7 25 [v1, v3]]) (fun k => [(4, .pointer (some ⟨b8, 0, none⟩)), (5, .pointer (some ⟨b16, 0, none⟩)), (19, vm_), (20, .int .i64 (↑m_.length)), (21, .int .i64 (↑k))]) (fun k => k ≤ m_.length) 0 rfl (.refl _) (.cons rfl (.cons rfl (.cons rfl (.cons rfl (.cons rfl .nil))))) ?_ ?_
  · exact Nat.zero_le _
  · rintro k hF26
    show WK _ _ m21 [rowF (v22) 31 ((List.range (d.Rates.length + 1)).map (fun c => atN m_ k c)), blk b16 83 [r10, v22], blk b8 83 [.slice none 0 0, .slice none 0 0], blk b7 25 [v1, v3]] [(4, .pointer (some ⟨b8, 0, none⟩)), (5, .pointer (some ⟨b16, 0, none⟩)), (19, vm_), (20, .int .i64 (↑m_.length)), (21, .int .i64 (↑k))] _
    replace hF26 : k ≤ m_.length := hF26
    have hk := hF26
    refine WK.good (fun hgood0 => ?_)
    have hco := fun h => hok.col (j := k) h
    have hll : ((List.range (d.Rates.length + 1)).map (fun c => atN m_ k c)).length = d.Rates.length + 1 := (by simp)
    refine WC.seq ?_
    refine WC.region ?_
    refine WL.cond (X.lss rfl rfl) (by decide) (fun h27 => ?_) (fun h27 => ?_)
    · refine WL.nil ?_
      refine WK.nThen ?_
      refine WC.seq ?_
      refine WC.condT rfl ?_
      refine WC.skip ?_
      refine WK.nThen ?_
      refine WC.seq ?_
      refine WC.block ?_
      refine WC.seq ?_
      refine WC.region ?_
      refine WL.xe (E.idxN k Try.runUnderlying26 Try.sizeOf33 rfl rfl hm_ (by omega)) (by decide) (fun p28 hp29 => ?_)
      refine WL.xe (E.loadAgg Try.isAgg33 Try.sizeOf33 rfl hp29) (by decide) (fun c30 hc31 => ?_)
      obtain rfl := hc31
      refine WL.tn (T.alloc Try.zeroValue33 rfl) (by decide) fun b32 => ?_
      refine WL.ts (T.storeBA (k := 0) Try.sizeOf33 rfl rfl rfl (one_cons rfl (one_cons rfl (one_cons rfl one_nil))) rfl rfl) ?_
      refine WL.nil ?_
      refine WK.nThen ?_
      have hco1 := (hco (by omega)).1
      refine WC.region ?_
      refine WL.x (X.field Try.runUnderlying33 rfl Try.sizeOf3 rfl) (by decide) ?_
      refine WL.x (X.loadB (k := 0) Try.isAgg3 rfl rfl rfl) (by decide) ?_
      refine WL.x (X.field Try.runUnderlying33 rfl Try.sizeOf31 rfl) (by decide) ?_
      refine WL.x (X.loadBP (k := 0) (vs := [.int .i64 (((gt m_ k).Ticks).Lo), .int .i64 (((gt m_ k).Ticks).Hi)]) Try.isAgg31 Try.sizeOf31 rfl rfl rfl rfl) (by decide) ?_
      refine WL.tM (T.callP (A := [blk b32 33 [.int .i64 ((gt m_ k).Column), .int .i64 (((gt m_ k).Ticks).Lo), .int .i64 (((gt m_ k).Ticks).Hi)], blk b8 83 [.slice none 0 0, .slice none 0 0], blk b7 25 [v1, v3]]) Try.call128 rfl ((List.Perm.cons _ ((List.Perm.cons _ (.refl _)).trans (List.perm_middle (l₁ := [blk b32 33 [.int .i64 ((gt m_ k).Column), .int .i64 (((gt m_ k).Ticks).Lo), .int .i64 (((gt m_ k).Ticks).Hi)]]) (l₂ := [blk b8 83 [.slice none 0 0, .slice none 0 0], blk b7 25 [v1, v3]]) (a := rowF (v22) 31 ((List.range (d.Rates.length + 1)).map (fun c => atN m_ k c)))).symm)).trans (List.perm_middle (l₁ := [blk b32 33 [.int .i64 ((gt m_ k).Column), .int .i64 (((gt m_ k).Ticks).Lo), .int .i64 (((gt m_ k).Ticks).Hi)], rowF (v22) 31 ((List.range (d.Rates.length + 1)).map (fun c => atN m_ k c))]) (l₂ := [blk b8 83 [.slice none 0 0, .slice none 0 0], blk b7 25 [v1, v3]]) (a := blk b16 83 [r10, v22])).symm) (narrow128 _ (k := (((gt m_ k).Column : Int).toNat)) (by omega) (by omega) ((gt m_ k).Ticks))) (by decide) (fun m33 Es_ v_ hle34 hR_ => ?_)
      obtain ⟨rfl, rfl⟩ := hR_
      replace hs2 := hs2.mono hle34
      replace hs4 := hs4.mono hle34
      replace hm_ := hm_.mono hle34
      replace hs14 := hs14.mono hle34
      replace hs20 := hs20.mono hle34
      replace hp29 := hp29.mono hle34
      refine WL.nil ?_
      refine WK.nBlock ?_
      refine WK.nThen ?_
      refine WC.region ?_
      refine WL.x (X.add rfl rfl (by omega) (by omega)) (by decide) ?_
      refine WL.x (X.move rfl) (by decide) ?_
      refine WL.nil ?_
      refine WK.nThen ?_
      have hgc := gt_map (f := fun c => atN m_ k c) (n := d.Rates.length + 1) (i := ((gt m_ k).Column : Int).toNat) (by omega)
      have he35 : (((List.range (d.Rates.length + 1)).map (fun c => atN m_ k c)).set (((gt m_ k).Column : Int).toNat) (meet (gt ((List.range (d.Rates.length + 1)).map (fun c => atN m_ k c)) (((gt m_ k).Column : Int).toNat)) ((gt m_ k).Ticks))) = ((List.range (d.Rates.length + 1)).map (fun c => atN m_ (k + 1) c)) := (by rw [hgc]; exact at_step hok.ma (by omega))
      rw [he35]
      refine WK.back hgood0 hle34 ?_
      refine WK.perm [blk b32 33 [.int .i64 ((gt m_ k).Column), .int .i64 (((gt m_ k).Ticks).Lo), .int .i64 (((gt m_ k).Ticks).Hi)], rowF (v22) 31 ((List.range (d.Rates.length + 1)).map (fun c => atN m_ (k + 1) c)), blk b16 83 [r10, v22], blk b8 83 [.slice none 0 0, .slice none 0 0], blk b7 25 [v1, v3]] ((List.Perm.cons _ ((List.Perm.cons _ (.refl _)).trans (List.perm_middle (l₁ := [blk b16 83 [r10, v22]]) (l₂ := [blk b8 83 [.slice none 0 0, .slice none 0 0], blk b7 25 [v1, v3]]) (a := rowF (v22) 31 ((List.range (d.Rates.length + 1)).map (fun c => atN m_ (k + 1) c)))).symm)).trans (List.perm_middle (l₁ := [blk b16 83 [r10, v22], rowF (v22) 31 ((List.range (d.Rates.length + 1)).map (fun c => atN m_ (k + 1) c))]) (l₂ := [blk b8 83 [.slice none 0 0, .slice none 0 0], blk b7 25 [v1, v3]]) (a := blk b32 33 [.int .i64 ((gt m_ k).Column), .int .i64 (((gt m_ k).Ticks).Lo), .int .i64 (((gt m_ k).Ticks).Hi)])).symm) ?_
      refine WK.next (k + 1) rfl (.cons _ (.cons_cons _ (.cons_cons _ (.cons_cons _ (.cons_cons _ .slnil))))) (.cons rfl (.cons rfl (.cons rfl (.cons rfl (.cons rfl .nil))))) ?_ ?_
      · omega
      · omega
    · refine WL.nil ?_
      refine WK.nThen ?_
      refine WC.seq ?_
      refine WC.condF rfl ?_
      refine WC.exit ?_
      refine WK.eThen ?_
      refine WK.eThen ?_
      refine WK.eHit ?_
      refine WK.nThen ?_
      refine WC.seq ?_
      have he36 : ((List.range (d.Rates.length + 1)).map (fun c => atN m_ k c)) = (atL d m_) := (by rw [show k = m_.length by omega]; rfl)
      rw [he36]
      refine WC.region ?_
      refine WL.x (X.loadBA (k := 1) Try.isAgg83 Try.sizeOf83 rfl rfl rfl) (by decide) ?_
      refine WL.ts (T.storeBA (k := 2) Try.sizeOf83 rfl rfl rfl (one_cons hs14.one (one_cons ho24 one_nil)) rfl rfl) ?_
      refine WL.nil ?_
      refine WK.nThen ?_
      refine WC.ret ?_
      refine WK.freezeF 0 rfl rfl (by rw [atL_len]; unfold lenB; omega) (fun m37 hle38 hs39 => ?_)
      replace hs2 := hs2.mono hle38
      replace hs4 := hs4.mono hle38
      replace hm_ := hm_.mono hle38
      replace hs14 := hs14.mono hle38
      replace hs20 := hs20.mono hle38
      refine WK.retC1 1 rfl rfl rfl Try.isAgg83 Try.sizeOf83 (fun w' hw' => Ret.mem hw' ?_)
      exact ⟨_, rfl, ⟨_, _, rfl, hs14, hs39⟩⟩

theorem fwd129 (m : Mem) (vg va : Value) : Pure Try.prog 129 #[.agg [vg, va].toArray] m (fun m' v => ∃ pc : Addr, v = .func (.func 146) #[] [.pointer (some pc)].toArray ∧ Cells m' pc [vg, va]) := by
  refine Pure.start Try.func129 rfl Try.ntmps129 rfl fun wld => ?_
  refine WC.seq ?_
  refine WC.region ?_
  refine WL.tn (T.boxB rfl rfl) (by decide) fun b1 => ?_
  refine WL.x (X.assign rfl) (by decide) ?_
  refine WL.nil ?_
  refine WK.nThen ?_
  refine WC.seq ?_
  refine WK.freezeB 0 rfl rfl (fun m2 hle3 hc4 => ?_)
  refine WC.region ?_
  refine WL.x (X.makeFunc (by intro x hx; simp at hx; subst hx; all_goals exact ⟨_, rfl⟩) rfl) (by decide) ?_
  refine WL.x (X.assign rfl) (by decide) ?_
  refine WL.nil ?_
  refine WK.nThen ?_
  refine WC.ret ?_
  refine WK.ret1 rfl rfl (fun w' hw' => Ret.mem hw' ?_)
  exact ⟨_, rfl, hc4⟩

theorem bwd130 (m : Mem) (vg va : Value) : Pure Try.prog 130 #[.agg [vg, va].toArray] m (fun m' v => ∃ pc : Addr, v = .func (.func 147) #[] [.pointer (some pc)].toArray ∧ Cells m' pc [vg, va]) := by
  refine Pure.start Try.func130 rfl Try.ntmps130 rfl fun wld => ?_
  refine WC.seq ?_
  refine WC.region ?_
  refine WL.tn (T.boxB rfl rfl) (by decide) fun b1 => ?_
  refine WL.x (X.assign rfl) (by decide) ?_
  refine WL.nil ?_
  refine WK.nThen ?_
  refine WC.seq ?_
  refine WK.freezeB 0 rfl rfl (fun m2 hle3 hc4 => ?_)
  refine WC.region ?_
  refine WL.x (X.makeFunc (by intro x hx; simp at hx; subst hx; all_goals exact ⟨_, rfl⟩) rfl) (by decide) ?_
  refine WL.x (X.assign rfl) (by decide) ?_
  refine WL.nil ?_
  refine WK.nThen ?_
  refine WC.ret ?_
  refine WK.ret1 rfl rfl (fun w' hw' => Ret.mem hw' ?_)
  exact ⟨_, rfl, hc4⟩

theorem iter146 (m : Mem) {pc : Addr} {vg va : Value} {G : List Span} (hc : Cells m pc [vg, va]) (hG : Sl m vg G) : Iter Try.prog 146 [.pointer (some pc)] m false G.length (fun i _ args => args = #[.int .i64 ((i : Nat) : Int), .agg [.int .i64 (gt G i).Lo, .int .i64 (gt G i).Hi].toArray]) := by
  intro lo S HS I Ix s0 hone hmono hy h0
  have hlg := hG.le
  refine Mut.start Try.func146 rfl Try.ntmps146 rfl fun wld => ?_
  refine WC.seq ?_
  refine WC.region ?_
  have hp1 : Cells m (pc.add 0) [vg] := hc.part 0 (by intro j v hj; cases j with | zero => exact hj | succ j => simp at hj)
  refine WL.x (X.field Try.runUnderlying83 rfl Try.sizeOf22 rfl) (by decide) ?_
  refine WL.x (X.loadV Try.isAgg22 rfl hp1) (by decide) ?_
  refine WL.x (X.len Try.runUnderlying22 rfl hG) (by decide) ?_
  refine WL.x (X.move rfl) (by decide) ?_
  refine WL.nil ?_
  refine WK.nThen ?_
  refine WC.block ?_
  refine WC.loop (G := Nat × Int × Mem × S) (fun (k, q, mm, s) => G.length - k) (fun (k, q, mm, s) => mm) (fun (k, q, mm, s) => ([] ++ HS s)) (fun (k, q, mm, s) => [(0, .func (.yield lo) #[] #[]), (6, vg), (7, .int .i64 (↑G.length)), (8, .int .i64 (↑k))]) (fun (k, q, mm, s) => m.le mm ∧ (k ≤ G.length) ∧ I k mm s) ((0, 0, m, s0)) rfl (.refl _) (.cons rfl (.cons rfl (.cons rfl (.cons rfl .nil)))) ?_ ?_
  · exact ⟨Mem.le_refl _, by omega, h0⟩
  · rintro ⟨k, q, mm, s⟩ hF2
    show WK _ _ mm ([] ++ HS s) [(0, .func (.yield lo) #[] #[]), (6, vg), (7, .int .i64 (↑G.length)), (8, .int .i64 (↑k))] _
    replace hF2 : m.le mm ∧ (k ≤ G.length) ∧ I k mm s := hF2
    obtain ⟨hmm, hk, hI0⟩ := hF2
    replace hc := hc.mono hmm
    replace hG := hG.mono hmm
    replace hp1 := hp1.mono hmm
    refine WC.seq ?_
    refine WC.region ?_
    refine WL.cond (X.lss rfl rfl) (by decide) (fun h3 => ?_) (fun h3 => ?_)
    · refine WL.nil ?_
      refine WK.nThen ?_
      refine WC.seq ?_
      refine WC.condT rfl ?_
      refine WC.skip ?_
      refine WK.nThen ?_
      refine WC.seq ?_
      refine WC.block ?_
      refine WC.seq ?_
      refine WC.region ?_
      refine WL.x (X.move rfl) (by decide) ?_
      refine WL.xe (E.idxN k Try.runUnderlying22 Try.sizeOf31 rfl rfl hG (by omega)) (by decide) (fun p4 hp5 => ?_)
      refine WL.xe (E.loadAgg Try.isAgg31 Try.sizeOf31 rfl hp5) (by decide) (fun c6 hc7 => ?_)
      obtain rfl := hc7
      refine WL.tn (T.alloc Try.zeroValue31 rfl) (by decide) fun b8 => ?_
      refine WL.x (X.assign rfl) (by decide) ?_
      refine WL.ts (T.storeBA (k := 0) Try.sizeOf31 rfl rfl rfl (one_cons rfl (one_cons rfl one_nil)) rfl rfl) ?_
      refine WL.nil ?_
      refine WK.nThen ?_
      refine WC.seq ?_
      refine WC.region ?_
      refine WL.x (X.move rfl) (by decide) ?_
      refine WL.x (X.move rfl) (by decide) ?_
      refine WL.x (X.loadBA (k := 0) Try.isAgg31 Try.sizeOf31 rfl rfl rfl) (by decide) ?_
      refine WL.tY (T.yield (A := [blk b8 31 [.int .i64 ((gt G k).Lo), .int .i64 ((gt G k).Hi)]]) rfl rfl rfl (hy k _ s _ (by omega) hmm rfl hI0)) (by decide) (fun m9 H10 hT11 => ?_) (fun m9 H10 hT11 => ?_)
      · obtain ⟨hle13, s12, rfl, hI14⟩ := hT11
        replace hc := hc.mono hle13
        replace hG := hG.mono hle13
        replace hp1 := hp1.mono hle13
        replace hp5 := hp5.mono hle13
        refine WL.x (X.not rfl) (by decide) ?_
        refine WL.nil ?_
        refine WK.nThen ?_
        refine WC.condF rfl ?_
        refine WC.skip ?_
        refine WK.nBlock ?_
        refine WK.nThen ?_
        refine WC.region ?_
        refine WL.x (X.add rfl rfl (by omega) (by omega)) (by decide) ?_
        refine WL.x (X.move rfl) (by decide) ?_
        refine WL.nil ?_
        refine WK.nThen ?_
        refine WK.next ((k + 1, 0, m9, s12)) rfl (.cons _ (.refl _)) (.cons rfl (.cons rfl (.cons rfl (.cons rfl .nil)))) ?_ ?_
        · exact ⟨Mem.le_trans hmm hle13, by omega, hI14⟩
        · (dsimp only; omega)
      · obtain ⟨hle13, s12, rfl, hI14⟩ := hT11
        replace hc := hc.mono hle13
        replace hG := hG.mono hle13
        replace hp1 := hp1.mono hle13
        replace hp5 := hp5.mono hle13
        refine WL.x (X.not rfl) (by decide) ?_
        refine WL.nil ?_
        refine WK.nThen ?_
        refine WC.condT rfl ?_
        refine WC.ret ?_
        refine WK.rBlock ?_
        refine WK.rThen ?_
        refine WK.rThen ?_
        refine WK.rBlock ?_
        refine WK.ret0 rfl (fun w' hw' => Ret.mut (hw'.weaken (.cons _ (.refl _))) ?_)
        exact ⟨_, rfl, .inr ⟨k + 1, by omega, hI14⟩⟩
    · refine WL.nil ?_
      refine WK.nThen ?_
      refine WC.seq ?_
      refine WC.condF rfl ?_
      refine WC.exit ?_
      refine WK.eThen ?_
      refine WK.eThen ?_
      refine WK.eHit ?_
      refine WK.end0 rfl (fun w' hw' => Ret.mut (hw'.weaken (.refl _)) ?_)
      refine ⟨_, rfl, .inl ?_⟩
      rw [show G.length = k by omega]
      exact hI0

theorem iter147 (m : Mem) {pc : Addr} {vg va : Value} {G : List Span} (hc : Cells m pc [vg, va]) (hG : Sl m vg G) : Iter Try.prog 147 [.pointer (some pc)] m false G.length (fun i _ args => args = #[.int .i64 (((G.length - 1 - i) : Nat) : Int), .agg [.int .i64 (gt G (G.length - 1 - i)).Lo, .int .i64 (gt G (G.length - 1 - i)).Hi].toArray]) := by
  intro lo S HS I Ix s0 hone hmono hy h0
  have hlg := hG.le
  refine Mut.start Try.func147 rfl Try.ntmps147 rfl fun wld => ?_
  refine WC.seq ?_
  refine WC.region ?_
  have hp1 : Cells m (pc.add 0) [vg] := hc.part 0 (by intro j v hj; cases j with | zero => exact hj | succ j => simp at hj)
  refine WL.x (X.field Try.runUnderlying83 rfl Try.sizeOf22 rfl) (by decide) ?_
  refine WL.x (X.loadV Try.isAgg22 rfl hp1) (by decide) ?_
  refine WL.x (X.len Try.runUnderlying22 rfl hG) (by decide) ?_
  refine WL.x (X.sub rfl rfl (by omega) (by omega)) (by decide) ?_
  refine WL.x (X.assign rfl) (by decide) ?_
  refine WL.nil ?_
  refine WK.nThen ?_
  refine WC.block ?_
  refine WC.loop (G := Nat × Int × Mem × S) (fun (k, q, mm, s) => G.length - k) (fun (k, q, mm, s) => mm) (fun (k, q, mm, s) => ([] ++ HS s)) (fun (k, q, mm, s) => [(0, .func (.yield lo) #[] #[]), (1, .pointer (some pc)), (3, .int .i64 (q))]) (fun (k, q, mm, s) => m.le mm ∧ (k ≤ G.length ∧ q = (G.length : Int) - 1 - k) ∧ I k mm s) ((0, (↑G.length - 1), m, s0)) rfl (.refl _) (.cons rfl (.cons rfl (.cons rfl .nil))) ?_ ?_
  · exact ⟨Mem.le_refl _, by omega, h0⟩
  · rintro ⟨k, q, mm, s⟩ hF2
    show WK _ _ mm ([] ++ HS s) [(0, .func (.yield lo) #[] #[]), (1, .pointer (some pc)), (3, .int .i64 (q))] _
    replace hF2 : m.le mm ∧ (k ≤ G.length ∧ q = (G.length : Int) - 1 - k) ∧ I k mm s := hF2
    obtain ⟨hmm, hk, hI0⟩ := hF2
    replace hc := hc.mono hmm
    replace hG := hG.mono hmm
    replace hp1 := hp1.mono hmm
    refine WC.seq ?_
    refine WC.seq ?_
    refine WC.region ?_
    refine WL.x (X.move rfl) (by decide) ?_
    refine WL.cond (X.geq rfl rfl) (by decide) (fun h3 => ?_) (fun h3 => ?_)
    · refine WL.nil ?_
      refine WK.nThen ?_
      refine WC.condT rfl ?_
      refine WC.skip ?_
      refine WK.nThen ?_
      refine WC.seq ?_
      refine WC.block ?_
      refine WC.seq ?_
      refine WC.region ?_
      refine WL.x (X.move rfl) (by decide) ?_
      refine WL.x (X.move rfl) (by decide) ?_
      have hp4 : Cells mm (pc.add 0) [vg] := hc.part 0 (by intro j v hj; cases j with | zero => exact hj | succ j => simp at hj)
      refine WL.x (X.field Try.runUnderlying83 rfl Try.sizeOf22 rfl) (by decide) ?_
      refine WL.x (X.loadV Try.isAgg22 rfl hp4) (by decide) ?_
      refine WL.x (X.move rfl) (by decide) ?_
      refine WL.xe (E.idx Try.runUnderlying22 Try.sizeOf31 rfl rfl hG (by omega) (by omega)) (by decide) (fun p5 hp6 => ?_)
      refine WL.xe (E.loadAgg Try.isAgg31 Try.sizeOf31 rfl hp6) (by decide) (fun c7 hc8 => ?_)
      obtain rfl := hc8
      refine WL.tY (T.yield (A := []) rfl rfl rfl (hy k _ s _ (by omega) hmm (by show _ = _; rw [show ((G.length - 1 - k : Nat) : Int) = q by omega, show G.length - 1 - k = q.toNat by omega]; rfl) hI0)) (by decide) (fun m9 H10 hT11 => ?_) (fun m9 H10 hT11 => ?_)
      · obtain ⟨hle13, s12, rfl, hI14⟩ := hT11
        replace hc := hc.mono hle13
        replace hG := hG.mono hle13
        replace hp1 := hp1.mono hle13
        replace hp4 := hp4.mono hle13
        replace hp6 := hp6.mono hle13
        refine WL.x (X.not rfl) (by decide) ?_
        refine WL.nil ?_
        refine WK.nThen ?_
        refine WC.condF rfl ?_
        refine WC.skip ?_
        refine WK.nBlock ?_
        refine WK.nThen ?_
        refine WC.region ?_
        refine WL.x (X.move rfl) (by decide) ?_
        refine WL.x (X.sub rfl rfl (by omega) (by omega)) (by decide) ?_
        refine WL.x (X.assign rfl) (by decide) ?_
        refine WL.nil ?_
        refine WK.nThen ?_
        refine WK.next ((k + 1, q - 1, m9, s12)) rfl (.refl _) (.cons rfl (.cons rfl (.cons rfl .nil))) ?_ ?_
        · exact ⟨Mem.le_trans hmm hle13, by omega, hI14⟩
        · (dsimp only; omega)
      · obtain ⟨hle13, s12, rfl, hI14⟩ := hT11
        replace hc := hc.mono hle13
        replace hG := hG.mono hle13
        replace hp1 := hp1.mono hle13
        replace hp4 := hp4.mono hle13
        replace hp6 := hp6.mono hle13
        refine WL.x (X.not rfl) (by decide) ?_
        refine WL.nil ?_
        refine WK.nThen ?_
        refine WC.condT rfl ?_
        refine WC.ret ?_
        refine WK.rBlock ?_
        refine WK.rThen ?_
        refine WK.rThen ?_
        refine WK.rBlock ?_
        refine WK.ret0 rfl (fun w' hw' => Ret.mut (hw'.weaken (.refl _)) ?_)
        exact ⟨_, rfl, .inr ⟨k + 1, by omega, hI14⟩⟩
    · refine WL.nil ?_
      refine WK.nThen ?_
      refine WC.condF rfl ?_
      refine WC.exit ?_
      refine WK.eThen ?_
      refine WK.eThen ?_
      refine WK.eHit ?_
      refine WK.end0 rfl (fun w' hw' => Ret.mut (hw'.weaken (.refl _)) ?_)
      refine ⟨_, rfl, .inl ?_⟩
      rw [show G.length = k by omega]
      exact hI0

end Go.Proofs.C2
