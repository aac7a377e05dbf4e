import Derived.Test.YtmnipmbgdbdjeaaC2W10
import Derived.Test.YtmnipmbgdbdjeaaC2Ref2
/- Clocks: walks of the reference, by program. -/
namespace Go.Proofs.C2
open Go Go.Kx
set_option linter.unusedVariables false

theorem gap115 (m : Mem) (cd : List Value) (d : Drum) (hd : Enc.rd m cd d) (c : Int)  (hdp : drumP d) (hc : 0 ≤ c ∧ c < (d.Rates.length : Int)) : Exact Try.prog 115 #[.agg cd.toArray, .int .i64 (c)] m (.agg [.int .i64 ((gapS d (c : Int).toNat).Lo), .int .i64 ((gapS d (c : Int).toNat).Hi)].toArray) := by
  obtain ⟨v1, v3, rfl, hs2, hs4⟩ := hd
  have hl5 := hs2.le
  have hl6 := hs4.le
  have hd1 := hdp.1
  refine Exact.start Try.func115 rfl Try.ntmps115 rfl fun wld => ?_
  refine WC.seq ?_
  refine WC.region ?_
  refine WL.tn (T.boxB rfl rfl) (by decide) fun b7 => ?_
  refine WL.tn (T.alloc Try.zeroValue31 rfl) (by decide) fun b8 => ?_
  refine WL.nil ?_
  refine WK.nThen ?_
  refine WC.seq ?_
  refine WC.region ?_
  refine WL.x (X.field Try.runUnderlying25 rfl Try.sizeOf22 rfl) (by decide) ?_
  refine WL.x (X.loadB (k := 1) Try.isAgg22 rfl rfl rfl) (by decide) ?_
  refine WL.x (X.move rfl) (by decide) ?_
  refine WL.xe (E.idx Try.runUnderlying22 Try.sizeOf31 rfl rfl hs2 (by omega) (by omega)) (by decide) (fun p9 hp10 => ?_)
  refine WL.xe (E.loadAgg Try.isAgg31 Try.sizeOf31 rfl hp10) (by decide) (fun c11 hc12 => ?_)
  obtain rfl := hc12
  refine WL.tn (T.alloc Try.zeroValue31 rfl) (by decide) fun b13 => ?_
  refine WL.ts (T.storeBA (k := 0) Try.sizeOf31 rfl rfl rfl (one_cons rfl (one_cons rfl one_nil)) rfl rfl) ?_
  refine WL.nil ?_
  refine WK.nThen ?_
  refine WC.seq ?_
  refine WC.seq ?_
  refine WC.region ?_
  refine WL.x (X.assign rfl) (by decide) ?_
  refine WL.nil ?_
  refine WK.nThen ?_
  refine WC.block ?_
  refine WC.loop (G := Nat) (fun k => d.Stops.length - k) (fun k => m) (fun k => [blk b13 31 [.int .i64 ((gapN d c.toNat k).Lo), .int .i64 ((gapN d c.toNat k).Hi)], blk b8 31 [.int .i64 (0), .int .i64 (0)], blk b7 25 [v1, v3]]) (fun k => [(1, .int .i64 (c)), (2, .pointer (some ⟨b7, 0, none⟩)), (4, .pointer (some ⟨b8, 0, none⟩)), (5, .pointer (some ⟨b13, 0, none⟩)), (6, .int .i64 (↑k))]) (fun k => k ≤ d.Stops.length) 0 rfl (.refl _) (.cons rfl (.cons rfl (.cons rfl (.cons rfl (.cons rfl .nil))))) ?_ ?_
  · exact Nat.zero_le _
  · rintro k hF14
    show WK _ _ m [blk b13 31 [.int .i64 ((gapN d c.toNat k).Lo), .int .i64 ((gapN d c.toNat k).Hi)], blk b8 31 [.int .i64 (0), .int .i64 (0)], blk b7 25 [v1, v3]] [(1, .int .i64 (c)), (2, .pointer (some ⟨b7, 0, none⟩)), (4, .pointer (some ⟨b8, 0, none⟩)), (5, .pointer (some ⟨b13, 0, none⟩)), (6, .int .i64 (↑k))] _
    replace hF14 : k ≤ d.Stops.length := hF14
    have hk := hF14
    refine WC.seq ?_
    refine WC.seq ?_
    refine WC.region ?_
    refine WL.x (X.move rfl) (by decide) ?_
    refine WL.x (X.field Try.runUnderlying25 rfl Try.sizeOf23 rfl) (by decide) ?_
    refine WL.x (X.loadB (k := 2) Try.isAgg23 rfl rfl rfl) (by decide) ?_
    refine WL.x (X.len Try.runUnderlying23 rfl hs4) (by decide) ?_
    refine WL.cond (X.lss rfl rfl) (by decide) (fun h15 => ?_) (fun h15 => ?_)
    · refine WL.nil ?_
      refine WK.nThen ?_
      refine WC.condT rfl ?_
      refine WC.skip ?_
      refine WK.nThen ?_
      refine WC.seq ?_
      refine WC.block ?_
      refine WC.seq ?_
      have hso := stop_ok hdp (i := k) (by omega)
      have hso3 := hso.2
      unfold spOk at hso3
      have hgb := gapN_bd hdp (c := c.toNat) (by omega) k (by omega)
      refine WC.region ?_
      refine WL.x (X.field Try.runUnderlying25 rfl Try.sizeOf23 rfl) (by decide) ?_
      refine WL.x (X.loadB (k := 2) Try.isAgg23 rfl rfl rfl) (by decide) ?_
      refine WL.x (X.move rfl) (by decide) ?_
      refine WL.xe (E.idxN k Try.runUnderlying23 Try.sizeOf34 rfl rfl hs4 (by omega)) (by decide) (fun p16 hp17 => ?_)
      have hp18 := At.Stop_0 hp17
      refine WL.x (X.field Try.runUnderlying34 rfl Try.sizeOf3 rfl) (by decide) ?_
      refine WL.x (X.loadInt Try.isAgg3 rfl hp18) (by decide) ?_
      refine WL.x (X.move rfl) (by decide) ?_
      refine WL.cond (X.eql rfl rfl) (by decide) (fun h19 => ?_) (fun h19 => ?_)
      · refine WL.nil ?_
        refine WK.nThen ?_
        refine WC.condT rfl ?_
        refine WC.seq ?_
        refine WC.draw (π := (.cons 0 (.cons 1 (.cons 2 (.cons 3 (.cons 4 (.cons 5 (.cons 6 (.cons 7 (.cons 8 (.cons 9 (.cons 10 (.cons 11 .done))))))))))))) [11] [11] rfl (by kernel_rfl) ?_
        refine DW.x rfl rfl (X.field Try.runUnderlying31 rfl Try.sizeOf3 rfl) (by decide) ?_
        refine DW.x rfl rfl (X.loadB (k := 0) Try.isAgg3 rfl rfl rfl) (by decide) ?_
        refine DW.x rfl rfl (X.field Try.runUnderlying25 rfl Try.sizeOf23 rfl) (by decide) ?_
        refine DW.x rfl rfl (X.loadB (k := 2) Try.isAgg23 rfl rfl rfl) (by decide) ?_
        refine DW.x rfl rfl (X.move rfl) (by decide) ?_
        refine DW.xe rfl rfl (E.idxN k Try.runUnderlying23 Try.sizeOf34 rfl rfl hs4 (by omega)) (by decide) (fun p20 hp21 => ?_)
        have hp22 := At.Stop_1 hp21
        refine DW.x rfl rfl (X.field Try.runUnderlying34 rfl Try.sizeOf31 rfl) (by decide) ?_
        have hp23 := At.Span_0 hp22
        refine DW.x rfl rfl (X.field Try.runUnderlying31 rfl Try.sizeOf3 rfl) (by decide) ?_
        refine DW.x rfl rfl (X.loadInt Try.isAgg3 rfl hp23) (by decide) ?_
        refine DW.x rfl rfl (X.add rfl rfl (by omega) (by omega)) (by decide) ?_
        refine DW.x rfl rfl (X.field Try.runUnderlying31 rfl Try.sizeOf3 rfl) (by decide) ?_
        refine DW.ts rfl rfl rfl rfl (T.storeB (k := 0) Try.sizeOf3 rfl rfl rfl rfl (Nat.le_of_ble_eq_true rfl)) ?_
        refine DW.nil ?_
        refine WK.nThen ?_
        refine WC.draw (π := (.cons 0 (.cons 1 (.cons 2 (.cons 3 (.cons 4 (.cons 5 (.cons 6 (.cons 7 (.cons 8 (.cons 9 (.cons 10 (.cons 11 .done))))))))))))) [11] [11] rfl (by kernel_rfl) ?_
        refine DW.x rfl rfl (X.field Try.runUnderlying31 rfl Try.sizeOf3 rfl) (by decide) ?_
        refine DW.x rfl rfl (X.loadB (k := 0) Try.isAgg3 rfl rfl rfl) (by decide) ?_
        refine DW.x rfl rfl (X.field Try.runUnderlying25 rfl Try.sizeOf23 rfl) (by decide) ?_
        refine DW.x rfl rfl (X.loadB (k := 2) Try.isAgg23 rfl rfl rfl) (by decide) ?_
        refine DW.x rfl rfl (X.move rfl) (by decide) ?_
        refine DW.xe rfl rfl (E.idxN k Try.runUnderlying23 Try.sizeOf34 rfl rfl hs4 (by omega)) (by decide) (fun p24 hp25 => ?_)
        have hp26 := At.Stop_1 hp25
        refine DW.x rfl rfl (X.field Try.runUnderlying34 rfl Try.sizeOf31 rfl) (by decide) ?_
        have hp27 := At.Span_1 hp26
        refine DW.x rfl rfl (X.field Try.runUnderlying31 rfl Try.sizeOf3 rfl) (by decide) ?_
        refine DW.x rfl rfl (X.loadInt Try.isAgg3 rfl hp27) (by decide) ?_
        refine DW.x rfl rfl (X.add rfl rfl (by omega) (by omega)) (by decide) ?_
        refine DW.x rfl rfl (X.field Try.runUnderlying31 rfl Try.sizeOf3 rfl) (by decide) ?_
        refine DW.ts rfl rfl rfl rfl (T.storeB (k := 0) Try.sizeOf3 rfl rfl rfl rfl (Nat.le_of_ble_eq_true rfl)) ?_
        refine DW.nil ?_
        refine WK.nBlock ?_
        refine WK.nThen ?_
        refine WC.region ?_
        refine WL.x (X.move rfl) (by decide) ?_
        refine WL.x (X.add rfl rfl (by omega) (by omega)) (by decide) ?_
        refine WL.x (X.assign rfl) (by decide) ?_
        refine WL.nil ?_
        refine WK.nThen ?_
        have he28 : ((gapN d c.toNat k).Lo) + (((gt d.Stops k).Ticks).Lo) = (gapN d c.toNat (k + 1)).Lo := (by rw [gapN]; first | rw [if_pos (by omega)] | rw [if_neg (by omega)])
        rw [he28]
        have he29 : ((gapN d c.toNat k).Hi) + (((gt d.Stops k).Ticks).Hi) = (gapN d c.toNat (k + 1)).Hi := (by rw [gapN]; first | rw [if_pos (by omega)] | rw [if_neg (by omega)])
        rw [he29]
        refine WK.next (k + 1) rfl (.refl _) (.cons rfl (.cons rfl (.cons rfl (.cons rfl (.cons rfl .nil))))) ?_ ?_
        · omega
        · omega
      · refine WL.nil ?_
        refine WK.nThen ?_
        refine WC.condF rfl ?_
        refine WC.skip ?_
        refine WK.nBlock ?_
        refine WK.nThen ?_
        refine WC.region ?_
        refine WL.x (X.move rfl) (by decide) ?_
        refine WL.x (X.add rfl rfl (by omega) (by omega)) (by decide) ?_
        refine WL.x (X.assign rfl) (by decide) ?_
        refine WL.nil ?_
        refine WK.nThen ?_
        have he30 : (gapN d c.toNat k).Lo = (gapN d c.toNat (k + 1)).Lo := (by rw [gapN]; first | rw [if_pos (by omega)] | rw [if_neg (by omega)])
        rw [he30]
        have he31 : (gapN d c.toNat k).Hi = (gapN d c.toNat (k + 1)).Hi := (by rw [gapN]; first | rw [if_pos (by omega)] | rw [if_neg (by omega)])
        rw [he31]
        refine WK.next (k + 1) rfl (.refl _) (.cons rfl (.cons rfl (.cons rfl (.cons rfl (.cons rfl .nil))))) ?_ ?_
        · omega
        · omega
    · refine WL.nil ?_
      refine WK.nThen ?_
      refine WC.condF rfl ?_
      refine WC.exit ?_
      refine WK.eThen ?_
      refine WK.eThen ?_
      refine WK.eHit ?_
      refine WK.nThen ?_
      refine WC.seq ?_
      have hke : k = d.Stops.length := (by omega)
      refine WC.region ?_
      refine WL.x (X.loadBA (k := 0) Try.isAgg31 Try.sizeOf31 rfl rfl rfl) (by decide) ?_
      refine WL.ts (T.storeBA (k := 1) Try.sizeOf31 rfl rfl rfl (one_cons rfl (one_cons rfl one_nil)) rfl rfl) ?_
      refine WL.nil ?_
      refine WK.nThen ?_
      refine WC.ret ?_
      refine WK.retC1 1 rfl rfl rfl Try.isAgg31 Try.sizeOf31 (fun w' hw' => Ret.exact hw' ?_)
      first | exact agg2i (by rw [hke]; rfl) (by rw [hke]; rfl) | rfl

set_option maxHeartbeats 2000000 in
theorem spans89 (m : Mem) (cd : List Value) (d : Drum) (hd : Enc.rd m cd d) (vm_ : Value) (m_ : List Mark) (hm_ : Sl m vm_ m_)  (hv : ValP d m_) (hl : m_.length ≤ 1000) : Pure Try.prog 89 #[.agg cd.toArray, vm_] m (fun m' v => ∃ r0, v = .tuple #[r0, .bool ((spR d m_).2)] ∧ Sl m' r0 ((spR d m_).1)) := by
  obtain ⟨v1, v3, rfl, hs2, hs4⟩ := hd
  have hl5 := hs2.le
  have hl6 := hs4.le
  have lm_ := hm_.le
  have hd1 := hv.dr.1
  have hw := hv.w
  have hgl := gapL_len d
  have hal := atL_len d m_
  refine Pure.start Try.func89 rfl Try.ntmps89 rfl fun wld => ?_
  refine WC.seq ?_
  refine WC.region ?_
  refine WL.tn (T.boxB rfl rfl) (by decide) fun b7 => ?_
  refine WL.x (X.assign rfl) (by decide) ?_
  refine WL.x (X.assign rfl) (by decide) ?_
  refine WL.nil ?_
  refine WK.nThen ?_
  refine WC.seq ?_
  refine WC.region ?_
  refine WL.x (X.field Try.runUnderlying25 rfl Try.sizeOf22 rfl) (by decide) ?_
  refine WL.x (X.loadB (k := 0) Try.isAgg22 rfl rfl rfl) (by decide) ?_
  refine WL.x (X.len Try.runUnderlying22 rfl hs2) (by decide) ?_
  refine WL.x (X.add rfl rfl (by omega) (by omega)) (by decide) ?_
  refine WL.x (X.assign rfl) (by decide) ?_
  refine WL.nil ?_
  refine WK.nThen ?_
  refine WC.seq ?_
  refine WC.region ?_
  refine WL.x (X.move rfl) (by decide) ?_
  refine WL.ta (T.makeN (d.Rates.length + 1) (a := (Span.mk (0) (0))) sl22 rfl rfl rfl (by omega) (by decide)) (by decide) (fun v8 => ?_)
  refine WL.x (X.assign rfl) (by decide) ?_
  refine WL.nil ?_
  refine WK.nThen ?_
  refine WC.seq ?_
  refine WC.seq ?_
  refine WC.region ?_
  refine WL.x (X.assign rfl) (by decide) ?_
  refine WL.nil ?_
  refine WK.nThen ?_
  refine WC.block ?_
  have he9 : (List.replicate (d.Rates.length + 1) (Span.mk (0) (0))) = (flL (d.Rates.length + 1) 0) := (by first | exact flL_zero _ | (rw [show ((↑d.Rates.length : Int) + 1).toNat = d.Rates.length + 1 by omega]; exact flL_zero _))
  rw [he9]
  refine WC.loop (G := Nat) (fun k0 => d.Rates.length + 1 - k0) (fun k0 => m) (fun k0 => [rowF (v8) 31 (flL (d.Rates.length + 1) k0), blk b7 25 [v1, v3]]) (fun k0 => [(1, vm_), (2, .pointer (some ⟨b7, 0, none⟩)), (6, .int .i64 (↑d.Rates.length + 1)), (7, v8), (8, .int .i64 (↑k0))]) (fun k0 => k0 ≤ d.Rates.length + 1) 0 rfl (.refl _) (.cons rfl (.cons rfl (.cons rfl (.cons rfl (.cons rfl .nil))))) ?_ ?_
  · exact Nat.zero_le _
  · rintro k0 hF10
    show WK _ _ m [rowF (v8) 31 (flL (d.Rates.length + 1) k0), blk b7 25 [v1, v3]] [(1, vm_), (2, .pointer (some ⟨b7, 0, none⟩)), (6, .int .i64 (↑d.Rates.length + 1)), (7, v8), (8, .int .i64 (↑k0))] _
    replace hF10 : k0 ≤ d.Rates.length + 1 := hF10
    have hk0 := hF10
    have hll := flL_len (d.Rates.length + 1) k0
    refine WC.seq ?_
    refine WC.seq ?_
    refine WC.region ?_
    refine WL.x (X.move rfl) (by decide) ?_
    refine WL.x (X.move rfl) (by decide) ?_
    refine WL.cond (X.lss rfl rfl) (by decide) (fun h11 => ?_) (fun h11 => ?_)
    · refine WL.nil ?_
      refine WK.nThen ?_
      refine WC.condT rfl ?_
      refine WC.skip ?_
      refine WK.nThen ?_
      refine WC.seq ?_
      refine WC.block ?_
      refine WC.region ?_
      refine WL.x (X.move rfl) (by decide) ?_
      refine WL.x (X.move rfl) (by decide) ?_
      refine WL.x (V := Value.agg [.int .i64 (0), .int .i64 (400)].toArray) (X.build Try.zeroValue31 Try.runUnderlying31 (places31 _ Try.underlying31) rfl rfl) (by decide) ?_
      refine WL.x (X.idxRowE (k := 0) k0 Try.runUnderlying22 Try.sizeOf31 rfl rfl rfl (by omega) (by first | omega | (simp; omega) | simp)) (by decide) ?_
      refine WL.ts (T.storeFp (k := 0) (i := k0) (off := 0) (us := [.int .i64 (0), .int .i64 (400)]) ((Span.mk (0) (400))) Try.sizeOf31 rfl rfl rfl rfl (Nat.zero_lt_succ _) rfl (by first | omega | (simp; omega) | simp) rfl rfl (one_cons rfl (one_cons rfl one_nil))) ?_
      refine WL.nil ?_
      refine WK.nBlock ?_
      refine WK.nThen ?_
      refine WC.region ?_
      refine WL.x (X.move rfl) (by decide) ?_
      refine WL.x (X.add rfl rfl (by omega) (by omega)) (by decide) ?_
      refine WL.x (X.assign rfl) (by decide) ?_
      refine WL.nil ?_
      refine WK.nThen ?_
      have he12 : ((flL (d.Rates.length + 1) k0).set k0 ((Span.mk (0) (400)))) = (flL (d.Rates.length + 1) (k0 + 1)) := flL_step
      rw [he12]
      refine WK.next (k0 + 1) rfl (.refl _) (.cons rfl (.cons rfl (.cons rfl (.cons rfl (.cons rfl .nil))))) ?_ ?_
      · omega
      · omega
    · refine WL.nil ?_
      refine WK.nThen ?_
      refine WC.condF rfl ?_
      refine WC.exit ?_
      refine WK.eThen ?_
      refine WK.eThen ?_
      refine WK.eHit ?_
      refine WK.nThen ?_
      refine WC.seq ?_
      refine WC.seq ?_
      refine WC.region ?_
      refine WL.x (X.assign rfl) (by decide) ?_
      refine WL.nil ?_
      refine WK.nThen ?_
      refine WC.block ?_
      have he13 : (flL (d.Rates.length + 1) k0) = ((List.range (d.Rates.length + 1)).map (fun c => atN m_ 0 c)) := (by rw [show k0 = d.Rates.length + 1 by omega]; exact flL_last m_ _)
      rw [he13]
      refine WC.loop (G := Nat) (fun k1 => m_.length - k1) (fun k1 => m) (fun k1 => [rowF (v8) 31 ((List.range (d.Rates.length + 1)).map (fun c => atN m_ k1 c)), blk b7 25 [v1, v3]]) (fun k1 => [(1, vm_), (2, .pointer (some ⟨b7, 0, none⟩)), (6, .int .i64 (↑d.Rates.length + 1)), (7, v8), (9, .int .i64 (↑k1))]) (fun k1 => k1 ≤ m_.length) 0 rfl (.refl _) (.cons rfl (.cons rfl (.cons rfl (.cons rfl (.cons rfl .nil))))) ?_ ?_
      · exact Nat.zero_le _
      · rintro k1 hF14
        show WK _ _ m [rowF (v8) 31 ((List.range (d.Rates.length + 1)).map (fun c => atN m_ k1 c)), blk b7 25 [v1, v3]] [(1, vm_), (2, .pointer (some ⟨b7, 0, none⟩)), (6, .int .i64 (↑d.Rates.length + 1)), (7, v8), (9, .int .i64 (↑k1))] _
        replace hF14 : k1 ≤ m_.length := hF14
        have hk1 := hF14
        have hll : ((List.range (d.Rates.length + 1)).map (fun c => atN m_ k1 c)).length = d.Rates.length + 1 := (by simp)
        refine WC.seq ?_
        refine WC.seq ?_
        refine WC.region ?_
        refine WL.x (X.move rfl) (by decide) ?_
        refine WL.x (X.move rfl) (by decide) ?_
        refine WL.x (X.len Try.runUnderlying26 rfl hm_) (by decide) ?_
        refine WL.cond (X.lss rfl rfl) (by decide) (fun h15 => ?_) (fun h15 => ?_)
        · refine WL.nil ?_
          refine WK.nThen ?_
          refine WC.condT rfl ?_
          refine WC.skip ?_
          refine WK.nThen ?_
          refine WC.seq ?_
          refine WC.block ?_
          refine WC.seq ?_
          have hco := hv.col (j := k1) (by omega)
          have hco1 := hco.1
          refine WC.region ?_
          refine WL.x (X.move rfl) (by decide) ?_
          refine WL.x (X.move rfl) (by decide) ?_
          refine WL.xe (E.idxN k1 Try.runUnderlying26 Try.sizeOf33 rfl rfl hm_ (by omega)) (by decide) (fun p16 hp17 => ?_)
          have hp18 := At.Mark_0 hp17
          refine WL.x (X.field Try.runUnderlying33 rfl Try.sizeOf3 rfl) (by decide) ?_
          refine WL.x (X.loadInt Try.isAgg3 rfl hp18) (by decide) ?_
          refine WL.x (X.assign rfl) (by decide) ?_
          refine WL.nil ?_
          refine WK.nThen ?_
          refine WC.draw (π := (.cons 0 (.cons 1 (.cons 2 (.cons 3 (.cons 4 (.cons 5 (.cons 6 (.cons 7 (.cons 8 (.cons 9 (.cons 10 (.cons 11 (.cons 12 (.cons 13 (.cons 14 (.cons 15 (.cons 16 (.cons 17 (.cons 18 (.cons 19 (.cons 20 (.cons 21 (.cons 22 (.cons 23 (.cons 24 (.cons 25 (.cons 26 (.cons 27 (.cons 28 .done)))))))))))))))))))))))))))))) [28] [28] rfl (by kernel_rfl) ?_
          refine DW.x rfl rfl (X.move rfl) (by decide) ?_
          refine DW.x rfl rfl (X.move rfl) (by decide) ?_
          refine DW.x rfl rfl (X.move rfl) (by decide) ?_
          refine DW.x rfl rfl (X.move rfl) (by decide) ?_
          refine DW.x rfl rfl (X.idxRow (k := 0) Try.runUnderlying22 Try.sizeOf31 rfl rfl rfl (by first | omega | (simp; omega) | simp) (by first | omega | (simp; omega) | simp)) (by decide) ?_
          refine DW.x rfl rfl (X.field Try.runUnderlying31 rfl Try.sizeOf3 rfl) (by decide) ?_
          refine DW.x rfl rfl (X.loadFp (k := 0) (i := ((gt m_ k1).Column : Int).toNat) (off := 0) (u := .int .i64 (((gt ((List.range (d.Rates.length + 1)).map (fun c => atN m_ k1 c)) (((gt m_ k1).Column : Int).toNat))).Lo)) Try.isAgg3 rfl rfl (by first | omega | (simp; omega) | simp) rfl) (by decide) ?_
          refine DW.x rfl rfl (X.move rfl) (by decide) ?_
          refine DW.x rfl rfl (X.move rfl) (by decide) ?_
          refine DW.xe rfl rfl (E.idxN k1 Try.runUnderlying26 Try.sizeOf33 rfl rfl hm_ (by omega)) (by decide) (fun p19 hp20 => ?_)
          have hp21 := At.Mark_1 hp20
          refine DW.x rfl rfl (X.field Try.runUnderlying33 rfl Try.sizeOf31 rfl) (by decide) ?_
          have hp22 := At.Span_0 hp21
          refine DW.x rfl rfl (X.field Try.runUnderlying31 rfl Try.sizeOf3 rfl) (by decide) ?_
          refine DW.x rfl rfl (X.loadInt Try.isAgg3 rfl hp22) (by decide) ?_
          refine DW.x rfl rfl (X.mx rfl rfl) (by decide) ?_
          refine DW.x rfl rfl (X.move rfl) (by decide) ?_
          refine DW.x rfl rfl (X.move rfl) (by decide) ?_
          refine DW.x rfl rfl (X.idxRow (k := 0) Try.runUnderlying22 Try.sizeOf31 rfl rfl rfl (by first | omega | (simp; omega) | simp) (by first | omega | (simp; omega) | simp)) (by decide) ?_
          refine DW.x rfl rfl (X.field Try.runUnderlying31 rfl Try.sizeOf3 rfl) (by decide) ?_
          refine DW.x rfl rfl (X.loadFp (k := 0) (i := ((gt m_ k1).Column : Int).toNat) (off := 1) (u := .int .i64 (((gt ((List.range (d.Rates.length + 1)).map (fun c => atN m_ k1 c)) (((gt m_ k1).Column : Int).toNat))).Hi)) Try.isAgg3 rfl rfl (by first | omega | (simp; omega) | simp) rfl) (by decide) ?_
          refine DW.x rfl rfl (X.move rfl) (by decide) ?_
          refine DW.x rfl rfl (X.move rfl) (by decide) ?_
          refine DW.xe rfl rfl (E.idxN k1 Try.runUnderlying26 Try.sizeOf33 rfl rfl hm_ (by omega)) (by decide) (fun p23 hp24 => ?_)
          have hp25 := At.Mark_1 hp24
          refine DW.x rfl rfl (X.field Try.runUnderlying33 rfl Try.sizeOf31 rfl) (by decide) ?_
          have hp26 := At.Span_1 hp25
          refine DW.x rfl rfl (X.field Try.runUnderlying31 rfl Try.sizeOf3 rfl) (by decide) ?_
          refine DW.x rfl rfl (X.loadInt Try.isAgg3 rfl hp26) (by decide) ?_
          refine DW.x rfl rfl (X.mn rfl rfl) (by decide) ?_
          refine DW.x (V := Value.agg [.int .i64 (max (((gt ((List.range (d.Rates.length + 1)).map (fun c => atN m_ k1 c)) (((gt m_ k1).Column : Int).toNat))).Lo) (((gt m_ k1).Ticks).Lo)), .int .i64 (min (((gt ((List.range (d.Rates.length + 1)).map (fun c => atN m_ k1 c)) (((gt m_ k1).Column : Int).toNat))).Hi) (((gt m_ k1).Ticks).Hi))].toArray) rfl rfl (X.build Try.zeroValue31 Try.runUnderlying31 (places31 _ Try.underlying31) rfl rfl) (by decide) ?_
          refine DW.x rfl rfl (X.idxRow (k := 0) Try.runUnderlying22 Try.sizeOf31 rfl rfl rfl (by first | omega | (simp; omega) | simp) (by first | omega | (simp; omega) | simp)) (by decide) ?_
          refine DW.ts rfl rfl rfl rfl (T.storeFp (k := 0) (i := ((gt m_ k1).Column : Int).toNat) (off := 0) (us := [.int .i64 (max (((gt ((List.range (d.Rates.length + 1)).map (fun c => atN m_ k1 c)) (((gt m_ k1).Column : Int).toNat))).Lo) (((gt m_ k1).Ticks).Lo)), .int .i64 (min (((gt ((List.range (d.Rates.length + 1)).map (fun c => atN m_ k1 c)) (((gt m_ k1).Column : Int).toNat))).Hi) (((gt m_ k1).Ticks).Hi))]) ((Span.mk (max (((gt ((List.range (d.Rates.length + 1)).map (fun c => atN m_ k1 c)) (((gt m_ k1).Column : Int).toNat))).Lo) (((gt m_ k1).Ticks).Lo)) (min (((gt ((List.range (d.Rates.length + 1)).map (fun c => atN m_ k1 c)) (((gt m_ k1).Column : Int).toNat))).Hi) (((gt m_ k1).Ticks).Hi)))) Try.sizeOf31 rfl rfl rfl rfl (Nat.zero_lt_succ _) rfl (by first | omega | (simp; omega) | simp) rfl rfl (one_cons rfl (one_cons rfl one_nil))) ?_
          refine DW.nil ?_
          refine WK.nBlock ?_
          refine WK.nThen ?_
          refine WC.region ?_
          refine WL.x (X.move rfl) (by decide) ?_
          refine WL.x (X.add rfl rfl (by omega) (by omega)) (by decide) ?_
          refine WL.x (X.assign rfl) (by decide) ?_
          refine WL.nil ?_
          refine WK.nThen ?_
          have hgc := gt_map (f := fun c => atN m_ k1 c) (n := d.Rates.length + 1) (i := ((gt m_ k1).Column : Int).toNat) (by omega)
          have he27 : (((List.range (d.Rates.length + 1)).map (fun c => atN m_ k1 c)).set (((gt m_ k1).Column : Int).toNat) ((Span.mk (max (((gt ((List.range (d.Rates.length + 1)).map (fun c => atN m_ k1 c)) (((gt m_ k1).Column : Int).toNat))).Lo) (((gt m_ k1).Ticks).Lo)) (min (((gt ((List.range (d.Rates.length + 1)).map (fun c => atN m_ k1 c)) (((gt m_ k1).Column : Int).toNat))).Hi) (((gt m_ k1).Ticks).Hi))))) = ((List.range (d.Rates.length + 1)).map (fun c => atN m_ (k1 + 1) c)) := (by rw [hgc]; exact at_step hv.ma (by omega))
          rw [he27]
          refine WK.next (k1 + 1) rfl (.refl _) (.cons rfl (.cons rfl (.cons rfl (.cons rfl (.cons rfl .nil))))) ?_ ?_
          · omega
          · omega
        · refine WL.nil ?_
          refine WK.nThen ?_
          refine WC.condF rfl ?_
          refine WC.exit ?_
          refine WK.eThen ?_
          refine WK.eThen ?_
          refine WK.eHit ?_
          refine WK.nThen ?_
          refine WC.seq ?_
          refine WC.seq ?_
          refine WC.region ?_
          refine WL.x (X.assign rfl) (by decide) ?_
          refine WL.nil ?_
          refine WK.nThen ?_
          refine WC.block ?_
          have he28 : ((List.range (d.Rates.length + 1)).map (fun c => atN m_ k1 c)) = (atL d m_) := (by rw [show k1 = m_.length by omega]; rfl)
          rw [he28]
          have he29 : (atL d m_) = (fwP (gapL d) (atL d m_) 0) := (fwP_zero (by rw [atL_len, gapL_len])).symm
          rw [he29]
          refine WC.loop (G := Nat) (fun k2 => d.Rates.length - k2) (fun k2 => m) (fun k2 => [rowF (v8) 31 (fwP (gapL d) (atL d m_) k2), blk b7 25 [v1, v3]]) (fun k2 => [(2, .pointer (some ⟨b7, 0, none⟩)), (6, .int .i64 (↑d.Rates.length + 1)), (7, v8), (11, .int .i64 (↑(k2 + 1)))]) (fun k2 => k2 ≤ d.Rates.length) 0 rfl (.refl _) (.cons rfl (.cons rfl (.cons rfl (.cons rfl .nil)))) ?_ ?_
          · exact Nat.zero_le _
          · rintro k2 hF30
            show WK _ _ m [rowF (v8) 31 (fwP (gapL d) (atL d m_) k2), blk b7 25 [v1, v3]] [(2, .pointer (some ⟨b7, 0, none⟩)), (6, .int .i64 (↑d.Rates.length + 1)), (7, v8), (11, .int .i64 (↑(k2 + 1)))] _
            replace hF30 : k2 ≤ d.Rates.length := hF30
            have hk2 := hF30
            have hll : (fwP (gapL d) (atL d m_) k2).length = d.Rates.length + 1 := (by rw [fwP_len, gapL_len])
            refine WC.seq ?_
            refine WC.seq ?_
            refine WC.region ?_
            refine WL.x (X.move rfl) (by decide) ?_
            refine WL.x (X.move rfl) (by decide) ?_
            refine WL.cond (X.lss rfl rfl) (by decide) (fun h31 => ?_) (fun h31 => ?_)
            · refine WL.nil ?_
              refine WK.nThen ?_
              refine WC.condT rfl ?_
              refine WC.skip ?_
              refine WK.nThen ?_
              refine WC.seq ?_
              refine WC.block ?_
              refine WC.seq ?_
              have hb1 := fwP_bd hw (.inl rfl) (i := k2) (j := k2 + 1 - 1) (by (try dsimp only); omega)
              have hb2 := fwP_bd hw (.inl rfl) (i := k2) (j := k2 + 1) (by (try dsimp only); omega)
              have hgb := gapS_bd hv.dr (c := k2) (by omega)
              have hix : ((↑(k2 + 1) : Int) - 1).toNat = k2 := (by omega)
              have hgk : gapS d ((↑(k2 + 1) : Int) - 1).toNat = gapS d k2 := (by rw [hix])
              have hga := gapL_at (d := d) (i := k2) (by omega)
              have hgk1 := congrArg Span.Lo hgk
              have hgk2 := congrArg Span.Hi hgk
              try dsimp only at hb1 hb2
              refine WC.region ?_
              refine WL.x (X.loadBA (k := 1) Try.isAgg25 Try.sizeOf25 rfl rfl rfl) (by decide) ?_
              refine WL.x (X.move rfl) (by decide) ?_
              refine WL.x (X.sub rfl rfl (by omega) (by omega)) (by decide) ?_
              refine WL.x (X.call Try.call115 rfl (gap115 _ _ d ⟨_, _, rfl, hs2, hs4⟩ _ (by first | assumption | exact hv.dr | omega) (by first | assumption | exact hv.dr | omega))) (by decide) ?_
              refine WL.tn (T.alloc Try.zeroValue31 rfl) (by decide) fun b32 => ?_
              refine WL.ts (T.storeBA (k := 0) Try.sizeOf31 rfl rfl rfl (one_cons rfl (one_cons rfl one_nil)) rfl rfl) ?_
              refine WL.nil ?_
              refine WK.nThen ?_
              refine WC.draw (π := (.cons 0 (.cons 1 (.cons 2 (.cons 3 (.cons 4 (.cons 5 (.cons 6 (.cons 7 (.cons 8 (.cons 9 (.cons 10 (.cons 11 (.cons 12 (.cons 13 (.cons 14 (.cons 15 (.cons 16 (.cons 17 (.cons 18 (.cons 19 (.cons 20 (.cons 21 (.cons 22 (.cons 23 (.cons 24 (.cons 25 (.cons 26 (.cons 27 (.cons 28 (.cons 29 (.cons 30 (.cons 31 (.cons 32 (.cons 33 (.cons 34 .done)))))))))))))))))))))))))))))))))))) [34] [34] rfl (by kernel_rfl) ?_
              refine DW.x rfl rfl (X.move rfl) (by decide) ?_
              refine DW.x rfl rfl (X.move rfl) (by decide) ?_
              refine DW.x rfl rfl (X.move rfl) (by decide) ?_
              refine DW.x rfl rfl (X.move rfl) (by decide) ?_
              refine DW.x rfl rfl (X.idxRowE (k := 1) ((k2 + 1)) Try.runUnderlying22 Try.sizeOf31 rfl rfl rfl (by omega) (by first | omega | (simp; omega) | simp)) (by decide) ?_
              refine DW.x rfl rfl (X.field Try.runUnderlying31 rfl Try.sizeOf3 rfl) (by decide) ?_
              refine DW.x rfl rfl (X.loadFp (k := 1) (i := (k2 + 1)) (off := 0) (u := .int .i64 (((gt (fwP (gapL d) (atL d m_) k2) ((k2 + 1)))).Lo)) Try.isAgg3 rfl rfl (by first | omega | (simp; omega) | simp) rfl) (by decide) ?_
              refine DW.x rfl rfl (X.move rfl) (by decide) ?_
              refine DW.x rfl rfl (X.move rfl) (by decide) ?_
              refine DW.x rfl rfl (X.sub rfl rfl (by omega) (by omega)) (by decide) ?_
              refine DW.x rfl rfl (X.idxRowE (k := 1) ((k2 + 1) - 1) Try.runUnderlying22 Try.sizeOf31 rfl rfl rfl (by omega) (by first | omega | (simp; omega) | simp)) (by decide) ?_
              refine DW.x rfl rfl (X.field Try.runUnderlying31 rfl Try.sizeOf3 rfl) (by decide) ?_
              refine DW.x rfl rfl (X.loadFp (k := 1) (i := (k2 + 1) - 1) (off := 0) (u := .int .i64 (((gt (fwP (gapL d) (atL d m_) k2) ((k2 + 1) - 1))).Lo)) Try.isAgg3 rfl rfl (by first | omega | (simp; omega) | simp) rfl) (by decide) ?_
              refine DW.x rfl rfl (X.field Try.runUnderlying31 rfl Try.sizeOf3 rfl) (by decide) ?_
              refine DW.x rfl rfl (X.loadB (k := 0) Try.isAgg3 rfl rfl rfl) (by decide) ?_
              refine DW.x rfl rfl (X.add rfl rfl (by omega) (by omega)) (by decide) ?_
              refine DW.x rfl rfl (X.mx rfl rfl) (by decide) ?_
              refine DW.x rfl rfl (X.move rfl) (by decide) ?_
              refine DW.x rfl rfl (X.move rfl) (by decide) ?_
              refine DW.x rfl rfl (X.idxRowE (k := 1) ((k2 + 1)) Try.runUnderlying22 Try.sizeOf31 rfl rfl rfl (by omega) (by first | omega | (simp; omega) | simp)) (by decide) ?_
              refine DW.x rfl rfl (X.field Try.runUnderlying31 rfl Try.sizeOf3 rfl) (by decide) ?_
              refine DW.x rfl rfl (X.loadFp (k := 1) (i := (k2 + 1)) (off := 1) (u := .int .i64 (((gt (fwP (gapL d) (atL d m_) k2) ((k2 + 1)))).Hi)) Try.isAgg3 rfl rfl (by first | omega | (simp; omega) | simp) rfl) (by decide) ?_
              refine DW.x rfl rfl (X.move rfl) (by decide) ?_
              refine DW.x rfl rfl (X.move rfl) (by decide) ?_
              refine DW.x rfl rfl (X.sub rfl rfl (by omega) (by omega)) (by decide) ?_
              refine DW.x rfl rfl (X.idxRowE (k := 1) ((k2 + 1) - 1) Try.runUnderlying22 Try.sizeOf31 rfl rfl rfl (by omega) (by first | omega | (simp; omega) | simp)) (by decide) ?_
              refine DW.x rfl rfl (X.field Try.runUnderlying31 rfl Try.sizeOf3 rfl) (by decide) ?_
              refine DW.x rfl rfl (X.loadFp (k := 1) (i := (k2 + 1) - 1) (off := 1) (u := .int .i64 (((gt (fwP (gapL d) (atL d m_) k2) ((k2 + 1) - 1))).Hi)) Try.isAgg3 rfl rfl (by first | omega | (simp; omega) | simp) rfl) (by decide) ?_
              refine DW.x rfl rfl (X.field Try.runUnderlying31 rfl Try.sizeOf3 rfl) (by decide) ?_
              refine DW.x rfl rfl (X.loadB (k := 0) Try.isAgg3 rfl rfl rfl) (by decide) ?_
              refine DW.x rfl rfl (X.add rfl rfl (by omega) (by omega)) (by decide) ?_
              refine DW.x rfl rfl (X.mn rfl rfl) (by decide) ?_
              refine DW.x (V := Value.agg [.int .i64 (max (((gt (fwP (gapL d) (atL d m_) k2) ((k2 + 1)))).Lo) ((((gt (fwP (gapL d) (atL d m_) k2) ((k2 + 1) - 1))).Lo) + ((gapS d (((↑(k2 + 1)) - 1) : Int).toNat).Lo))), .int .i64 (min (((gt (fwP (gapL d) (atL d m_) k2) ((k2 + 1)))).Hi) ((((gt (fwP (gapL d) (atL d m_) k2) ((k2 + 1) - 1))).Hi) + ((gapS d (((↑(k2 + 1)) - 1) : Int).toNat).Hi)))].toArray) rfl rfl (X.build Try.zeroValue31 Try.runUnderlying31 (places31 _ Try.underlying31) rfl rfl) (by decide) ?_
              refine DW.x rfl rfl (X.idxRowE (k := 1) ((k2 + 1)) Try.runUnderlying22 Try.sizeOf31 rfl rfl rfl (by omega) (by first | omega | (simp; omega) | simp)) (by decide) ?_
              refine DW.ts rfl rfl rfl rfl (T.storeFp (k := 1) (i := (k2 + 1)) (off := 0) (us := [.int .i64 (max (((gt (fwP (gapL d) (atL d m_) k2) ((k2 + 1)))).Lo) ((((gt (fwP (gapL d) (atL d m_) k2) ((k2 + 1) - 1))).Lo) + ((gapS d (((↑(k2 + 1)) - 1) : Int).toNat).Lo))), .int .i64 (min (((gt (fwP (gapL d) (atL d m_) k2) ((k2 + 1)))).Hi) ((((gt (fwP (gapL d) (atL d m_) k2) ((k2 + 1) - 1))).Hi) + ((gapS d (((↑(k2 + 1)) - 1) : Int).toNat).Hi)))]) ((Span.mk (max (((gt (fwP (gapL d) (atL d m_) k2) ((k2 + 1)))).Lo) ((((gt (fwP (gapL d) (atL d m_) k2) ((k2 + 1) - 1))).Lo) + ((gapS d (((↑(k2 + 1)) - 1) : Int).toNat).Lo))) (min (((gt (fwP (gapL d) (atL d m_) k2) ((k2 + 1)))).Hi) ((((gt (fwP (gapL d) (atL d m_) k2) ((k2 + 1) - 1))).Hi) + ((gapS d (((↑(k2 + 1)) - 1) : Int).toNat).Hi))))) Try.sizeOf31 rfl rfl rfl rfl (Nat.zero_lt_succ _) rfl (by first | omega | (simp; omega) | simp) rfl rfl (one_cons rfl (one_cons rfl one_nil))) ?_
              refine DW.nil ?_
              refine WK.nBlock ?_
              refine WK.nThen ?_
              refine WC.region ?_
              refine WL.x (X.move rfl) (by decide) ?_
              refine WL.x (X.add rfl rfl (by omega) (by omega)) (by decide) ?_
              refine WL.x (X.assign rfl) (by decide) ?_
              refine WL.nil ?_
              refine WK.nThen ?_
              have he33 : ((fwP (gapL d) (atL d m_) k2).set ((k2 + 1)) ((Span.mk (max (((gt (fwP (gapL d) (atL d m_) k2) ((k2 + 1)))).Lo) ((((gt (fwP (gapL d) (atL d m_) k2) ((k2 + 1) - 1))).Lo) + ((gapS d (((↑(k2 + 1)) - 1) : Int).toNat).Lo))) (min (((gt (fwP (gapL d) (atL d m_) k2) ((k2 + 1)))).Hi) ((((gt (fwP (gapL d) (atL d m_) k2) ((k2 + 1) - 1))).Hi) + ((gapS d (((↑(k2 + 1)) - 1) : Int).toNat).Hi)))))) = (fwP (gapL d) (atL d m_) ((k2 + 1))) := (by rw [hgk, ← hga]; exact fwP_step (by omega))
              rw [he33]
              refine WK.next (k2 + 1) rfl (.cons _ (.refl _)) (.cons rfl (.cons rfl (.cons rfl (.cons rfl .nil)))) ?_ ?_
              · omega
              · omega
            · refine WL.nil ?_
              refine WK.nThen ?_
              refine WC.condF rfl ?_
              refine WC.exit ?_
              refine WK.eThen ?_
              refine WK.eThen ?_
              refine WK.eHit ?_
              refine WK.nThen ?_
              refine WC.seq ?_
              refine WC.seq ?_
              refine WC.region ?_
              refine WL.x (X.move rfl) (by decide) ?_
              refine WL.x (X.sub rfl rfl (by omega) (by omega)) (by decide) ?_
              refine WL.x (X.assign rfl) (by decide) ?_
              refine WL.nil ?_
              refine WK.nThen ?_
              refine WC.block ?_
              have he34 : (fwP (gapL d) (atL d m_) k2) = (bwP (gapL d) (atL d m_) 0) := (by rw [show k2 = (gapL d).length by omega]; exact fwP_last _ _)
              rw [he34]
              refine WC.loop (G := Int × Nat) (fun (i, k3) => d.Rates.length - k3) (fun (i, k3) => m) (fun (i, k3) => [rowF (v8) 31 (bwP (gapL d) (atL d m_) k3), blk b7 25 [v1, v3]]) (fun (i, k3) => [(2, .pointer (some ⟨b7, 0, none⟩)), (6, .int .i64 (↑d.Rates.length + 1)), (7, v8), (13, .int .i64 (i))]) (fun (i, k3) => i = (↑d.Rates.length : Int) - 1 - ↑k3 ∧ k3 ≤ d.Rates.length) (((↑d.Rates.length + 1) - 2, 0)) rfl (.refl _) (.cons rfl (.cons rfl (.cons rfl (.cons rfl .nil)))) ?_ ?_
              · exact ⟨by omega, Nat.zero_le _⟩
              · rintro ⟨i, k3⟩ hF35
                show WK _ _ m [rowF (v8) 31 (bwP (gapL d) (atL d m_) k3), blk b7 25 [v1, v3]] [(2, .pointer (some ⟨b7, 0, none⟩)), (6, .int .i64 (↑d.Rates.length + 1)), (7, v8), (13, .int .i64 (i))] _
                replace hF35 : i = (↑d.Rates.length : Int) - 1 - ↑k3 ∧ k3 ≤ d.Rates.length := hF35
                obtain ⟨hik, hk3⟩ := hF35
                have hll : (bwP (gapL d) (atL d m_) k3).length = d.Rates.length + 1 := (by rw [bwP_len, gapL_len])
                refine WC.seq ?_
                refine WC.seq ?_
                refine WC.region ?_
                refine WL.x (X.move rfl) (by decide) ?_
                refine WL.cond (X.geq rfl rfl) (by decide) (fun h36 => ?_) (fun h36 => ?_)
                · refine WL.nil ?_
                  refine WK.nThen ?_
                  refine WC.condT rfl ?_
                  refine WC.skip ?_
                  refine WK.nThen ?_
                  refine WC.seq ?_
                  refine WC.block ?_
                  refine WC.seq ?_
                  have hb1 := bwP_bd hw (.inl rfl) (i := k3) (j := i.toNat) (by (try dsimp only); omega)
                  have hb2 := bwP_bd hw (.inl rfl) (i := k3) (j := (i + 1).toNat) (by (try dsimp only); omega)
                  have hgb := gapS_bd hv.dr (c := i.toNat) (by omega)
                  have hix : (i + 1).toNat = i.toNat + 1 := (by omega)
                  have hga := gapL_at (d := d) (i := i.toNat) (by omega)
                  try dsimp only at hb1 hb2
                  refine WC.region ?_
                  refine WL.x (X.loadBA (k := 1) Try.isAgg25 Try.sizeOf25 rfl rfl rfl) (by decide) ?_
                  refine WL.x (X.move rfl) (by decide) ?_
                  refine WL.x (X.call Try.call115 rfl (gap115 _ _ d ⟨_, _, rfl, hs2, hs4⟩ _ (by first | assumption | exact hv.dr | omega) (by first | assumption | exact hv.dr | omega))) (by decide) ?_
                  refine WL.tn (T.alloc Try.zeroValue31 rfl) (by decide) fun b37 => ?_
                  refine WL.ts (T.storeBA (k := 0) Try.sizeOf31 rfl rfl rfl (one_cons rfl (one_cons rfl one_nil)) rfl rfl) ?_
                  refine WL.nil ?_
                  refine WK.nThen ?_
                  refine WC.draw (π := (.cons 0 (.cons 1 (.cons 2 (.cons 3 (.cons 4 (.cons 5 (.cons 6 (.cons 7 (.cons 8 (.cons 9 (.cons 10 (.cons 11 (.cons 12 (.cons 13 (.cons 14 (.cons 15 (.cons 16 (.cons 17 (.cons 18 (.cons 19 (.cons 20 (.cons 21 (.cons 22 (.cons 23 (.cons 24 (.cons 25 (.cons 26 (.cons 27 (.cons 28 (.cons 29 (.cons 30 (.cons 31 (.cons 32 (.cons 33 (.cons 34 .done)))))))))))))))))))))))))))))))))))) [34] [34] rfl (by kernel_rfl) ?_
                  refine DW.x rfl rfl (X.move rfl) (by decide) ?_
                  refine DW.x rfl rfl (X.move rfl) (by decide) ?_
                  refine DW.x rfl rfl (X.move rfl) (by decide) ?_
                  refine DW.x rfl rfl (X.move rfl) (by decide) ?_
                  refine DW.x rfl rfl (X.idxRow (k := 1) Try.runUnderlying22 Try.sizeOf31 rfl rfl rfl (by first | omega | (simp; omega) | simp) (by first | omega | (simp; omega) | simp)) (by decide) ?_
                  refine DW.x rfl rfl (X.field Try.runUnderlying31 rfl Try.sizeOf3 rfl) (by decide) ?_
                  refine DW.x rfl rfl (X.loadFp (k := 1) (i := (i : Int).toNat) (off := 0) (u := .int .i64 (((gt (bwP (gapL d) (atL d m_) k3) ((i : Int).toNat))).Lo)) Try.isAgg3 rfl rfl (by first | omega | (simp; omega) | simp) rfl) (by decide) ?_
                  refine DW.x rfl rfl (X.move rfl) (by decide) ?_
                  refine DW.x rfl rfl (X.move rfl) (by decide) ?_
                  refine DW.x rfl rfl (X.add rfl rfl (by omega) (by omega)) (by decide) ?_
                  refine DW.x rfl rfl (X.idxRow (k := 1) Try.runUnderlying22 Try.sizeOf31 rfl rfl rfl (by first | omega | (simp; omega) | simp) (by first | omega | (simp; omega) | simp)) (by decide) ?_
                  refine DW.x rfl rfl (X.field Try.runUnderlying31 rfl Try.sizeOf3 rfl) (by decide) ?_
                  refine DW.x rfl rfl (X.loadFp (k := 1) (i := (i + 1 : Int).toNat) (off := 0) (u := .int .i64 (((gt (bwP (gapL d) (atL d m_) k3) ((i + 1 : Int).toNat))).Lo)) Try.isAgg3 rfl rfl (by first | omega | (simp; omega) | simp) rfl) (by decide) ?_
                  refine DW.x rfl rfl (X.field Try.runUnderlying31 rfl Try.sizeOf3 rfl) (by decide) ?_
                  refine DW.x rfl rfl (X.loadB (k := 0) Try.isAgg3 rfl rfl rfl) (by decide) ?_
                  refine DW.x rfl rfl (X.sub rfl rfl (by omega) (by omega)) (by decide) ?_
                  refine DW.x rfl rfl (X.mx rfl rfl) (by decide) ?_
                  refine DW.x rfl rfl (X.move rfl) (by decide) ?_
                  refine DW.x rfl rfl (X.move rfl) (by decide) ?_
                  refine DW.x rfl rfl (X.idxRow (k := 1) Try.runUnderlying22 Try.sizeOf31 rfl rfl rfl (by first | omega | (simp; omega) | simp) (by first | omega | (simp; omega) | simp)) (by decide) ?_
                  refine DW.x rfl rfl (X.field Try.runUnderlying31 rfl Try.sizeOf3 rfl) (by decide) ?_
                  refine DW.x rfl rfl (X.loadFp (k := 1) (i := (i : Int).toNat) (off := 1) (u := .int .i64 (((gt (bwP (gapL d) (atL d m_) k3) ((i : Int).toNat))).Hi)) Try.isAgg3 rfl rfl (by first | omega | (simp; omega) | simp) rfl) (by decide) ?_
                  refine DW.x rfl rfl (X.move rfl) (by decide) ?_
                  refine DW.x rfl rfl (X.move rfl) (by decide) ?_
                  refine DW.x rfl rfl (X.add rfl rfl (by omega) (by omega)) (by decide) ?_
                  refine DW.x rfl rfl (X.idxRow (k := 1) Try.runUnderlying22 Try.sizeOf31 rfl rfl rfl (by first | omega | (simp; omega) | simp) (by first | omega | (simp; omega) | simp)) (by decide) ?_
                  refine DW.x rfl rfl (X.field Try.runUnderlying31 rfl Try.sizeOf3 rfl) (by decide) ?_
                  refine DW.x rfl rfl (X.loadFp (k := 1) (i := (i + 1 : Int).toNat) (off := 1) (u := .int .i64 (((gt (bwP (gapL d) (atL d m_) k3) ((i + 1 : Int).toNat))).Hi)) Try.isAgg3 rfl rfl (by first | omega | (simp; omega) | simp) rfl) (by decide) ?_
                  refine DW.x rfl rfl (X.field Try.runUnderlying31 rfl Try.sizeOf3 rfl) (by decide) ?_
                  refine DW.x rfl rfl (X.loadB (k := 0) Try.isAgg3 rfl rfl rfl) (by decide) ?_
                  refine DW.x rfl rfl (X.sub rfl rfl (by omega) (by omega)) (by decide) ?_
                  refine DW.x rfl rfl (X.mn rfl rfl) (by decide) ?_
                  refine DW.x (V := Value.agg [.int .i64 (max (((gt (bwP (gapL d) (atL d m_) k3) ((i : Int).toNat))).Lo) ((((gt (bwP (gapL d) (atL d m_) k3) ((i + 1 : Int).toNat))).Lo) - ((gapS d (i : Int).toNat).Hi))), .int .i64 (min (((gt (bwP (gapL d) (atL d m_) k3) ((i : Int).toNat))).Hi) ((((gt (bwP (gapL d) (atL d m_) k3) ((i + 1 : Int).toNat))).Hi) - ((gapS d (i : Int).toNat).Lo)))].toArray) rfl rfl (X.build Try.zeroValue31 Try.runUnderlying31 (places31 _ Try.underlying31) rfl rfl) (by decide) ?_
                  refine DW.x rfl rfl (X.idxRow (k := 1) Try.runUnderlying22 Try.sizeOf31 rfl rfl rfl (by first | omega | (simp; omega) | simp) (by first | omega | (simp; omega) | simp)) (by decide) ?_
                  refine DW.ts rfl rfl rfl rfl (T.storeFp (k := 1) (i := (i : Int).toNat) (off := 0) (us := [.int .i64 (max (((gt (bwP (gapL d) (atL d m_) k3) ((i : Int).toNat))).Lo) ((((gt (bwP (gapL d) (atL d m_) k3) ((i + 1 : Int).toNat))).Lo) - ((gapS d (i : Int).toNat).Hi))), .int .i64 (min (((gt (bwP (gapL d) (atL d m_) k3) ((i : Int).toNat))).Hi) ((((gt (bwP (gapL d) (atL d m_) k3) ((i + 1 : Int).toNat))).Hi) - ((gapS d (i : Int).toNat).Lo)))]) ((Span.mk (max (((gt (bwP (gapL d) (atL d m_) k3) ((i : Int).toNat))).Lo) ((((gt (bwP (gapL d) (atL d m_) k3) ((i + 1 : Int).toNat))).Lo) - ((gapS d (i : Int).toNat).Hi))) (min (((gt (bwP (gapL d) (atL d m_) k3) ((i : Int).toNat))).Hi) ((((gt (bwP (gapL d) (atL d m_) k3) ((i + 1 : Int).toNat))).Hi) - ((gapS d (i : Int).toNat).Lo))))) Try.sizeOf31 rfl rfl rfl rfl (Nat.zero_lt_succ _) rfl (by first | omega | (simp; omega) | simp) rfl rfl (one_cons rfl (one_cons rfl one_nil))) ?_
                  refine DW.nil ?_
                  refine WK.nBlock ?_
                  refine WK.nThen ?_
                  refine WC.region ?_
                  refine WL.x (X.move rfl) (by decide) ?_
                  refine WL.x (X.sub rfl rfl (by omega) (by omega)) (by decide) ?_
                  refine WL.x (X.assign rfl) (by decide) ?_
                  refine WL.nil ?_
                  refine WK.nThen ?_
                  have he38 : ((bwP (gapL d) (atL d m_) k3).set ((i : Int).toNat) ((Span.mk (max (((gt (bwP (gapL d) (atL d m_) k3) ((i : Int).toNat))).Lo) ((((gt (bwP (gapL d) (atL d m_) k3) ((i + 1 : Int).toNat))).Lo) - ((gapS d (i : Int).toNat).Hi))) (min (((gt (bwP (gapL d) (atL d m_) k3) ((i : Int).toNat))).Hi) ((((gt (bwP (gapL d) (atL d m_) k3) ((i + 1 : Int).toNat))).Hi) - ((gapS d (i : Int).toNat).Lo)))))) = (bwP (gapL d) (atL d m_) ((k3 + 1))) := (by rw [hix, ← hga]; exact bwP_step (by omega) (by omega))
                  rw [he38]
                  refine WK.next ((i - 1, k3 + 1)) rfl (.cons _ (.refl _)) (.cons rfl (.cons rfl (.cons rfl (.cons rfl .nil)))) ?_ ?_
                  · exact ⟨by omega, by omega⟩
                  · (dsimp only; omega)
                · refine WL.nil ?_
                  refine WK.nThen ?_
                  refine WC.condF rfl ?_
                  refine WC.exit ?_
                  refine WK.eThen ?_
                  refine WK.eThen ?_
                  refine WK.eHit ?_
                  refine WK.nThen ?_
                  refine WC.seq ?_
                  refine WC.seq ?_
                  have hsl := setD_len d m_
                  refine WC.region ?_
                  refine WL.x (X.assign rfl) (by decide) ?_
                  refine WL.nil ?_
                  refine WK.nThen ?_
                  refine WC.block ?_
                  have he39 : (bwP (gapL d) (atL d m_) k3) = (setD d m_) := (by rw [show k3 = (gapL d).length by omega]; exact (bwP_last ⟨gapL d, atL d m_⟩ _).trans (setL_clock _ _))
                  rw [he39]
                  refine WC.loop (G := Nat) (fun k4 => d.Rates.length + 1 - k4) (fun k4 => m) (fun k4 => [rowF (v8) 31 (setD d m_), blk b7 25 [v1, v3]]) (fun k4 => [(6, .int .i64 (↑d.Rates.length + 1)), (7, v8), (15, .int .i64 (↑k4))]) (fun k4 => k4 ≤ d.Rates.length + 1 ∧ (∀ j, j < k4 → ¬ (gt (setD d m_) j).Hi < (gt (setD d m_) j).Lo)) 0 rfl (.refl _) (.cons rfl (.cons rfl (.cons rfl .nil))) ?_ ?_
                  · exact ⟨Nat.zero_le _, fun j hj => absurd hj (Nat.not_lt_zero _)⟩
                  · rintro k4 hF40
                    show WK _ _ m [rowF (v8) 31 (setD d m_), blk b7 25 [v1, v3]] [(6, .int .i64 (↑d.Rates.length + 1)), (7, v8), (15, .int .i64 (↑k4))] _
                    replace hF40 : k4 ≤ d.Rates.length + 1 ∧ (∀ j, j < k4 → ¬ (gt (setD d m_) j).Hi < (gt (setD d m_) j).Lo) := hF40
                    obtain ⟨hk4, hall⟩ := hF40
                    refine WC.seq ?_
                    refine WC.seq ?_
                    refine WC.region ?_
                    refine WL.x (X.move rfl) (by decide) ?_
                    refine WL.x (X.move rfl) (by decide) ?_
                    refine WL.cond (X.lss rfl rfl) (by decide) (fun h41 => ?_) (fun h41 => ?_)
                    · refine WL.nil ?_
                      refine WK.nThen ?_
                      refine WC.condT rfl ?_
                      refine WC.skip ?_
                      refine WK.nThen ?_
                      refine WC.seq ?_
                      refine WC.block ?_
                      refine WC.seq ?_
                      refine WC.draw (π := (.cons 0 (.cons 1 (.cons 2 (.cons 3 (.cons 4 (.cons 5 (.cons 6 (.cons 7 (.cons 8 (.cons 9 (.cons 10 .done)))))))))))) [] [] rfl (by kernel_rfl) ?_
                      refine DW.x rfl rfl (X.move rfl) (by decide) ?_
                      refine DW.x rfl rfl (X.move rfl) (by decide) ?_
                      refine DW.x rfl rfl (X.idxRowE (k := 0) k4 Try.runUnderlying22 Try.sizeOf31 rfl rfl rfl (by omega) (by first | omega | (simp; omega) | simp)) (by decide) ?_
                      refine DW.x rfl rfl (X.field Try.runUnderlying31 rfl Try.sizeOf3 rfl) (by decide) ?_
                      refine DW.x rfl rfl (X.loadFp (k := 0) (i := k4) (off := 0) (u := .int .i64 (((gt (setD d m_) k4)).Lo)) Try.isAgg3 rfl rfl (by first | omega | (simp; omega) | simp) rfl) (by decide) ?_
                      refine DW.x rfl rfl (X.move rfl) (by decide) ?_
                      refine DW.x rfl rfl (X.move rfl) (by decide) ?_
                      refine DW.x rfl rfl (X.idxRowE (k := 0) k4 Try.runUnderlying22 Try.sizeOf31 rfl rfl rfl (by omega) (by first | omega | (simp; omega) | simp)) (by decide) ?_
                      refine DW.x rfl rfl (X.field Try.runUnderlying31 rfl Try.sizeOf3 rfl) (by decide) ?_
                      refine DW.x rfl rfl (X.loadFp (k := 0) (i := k4) (off := 1) (u := .int .i64 (((gt (setD d m_) k4)).Hi)) Try.isAgg3 rfl rfl (by first | omega | (simp; omega) | simp) rfl) (by decide) ?_
                      refine DW.cond rfl rfl (X.gtr rfl rfl) (by decide) (fun h42 => ?_) (fun h42 => ?_)
                      · refine DW.nil ?_
                        refine WK.nThen ?_
                        refine WC.condT rfl ?_
                        refine WC.seq ?_
                        refine WC.region ?_
                        refine WL.x (X.assign rfl) (by decide) ?_
                        refine WL.x (X.assign rfl) (by decide) ?_
                        refine WL.nil ?_
                        refine WK.nThen ?_
                        refine WC.ret ?_
                        refine WK.rBlock ?_
                        refine WK.rThen ?_
                        refine WK.rThen ?_
                        refine WK.rBlock ?_
                        refine WK.rThen ?_
                        refine WK.ret2 rfl rfl rfl (fun w' hw' => Ret.mem hw' ?_)
                        (have hno : ¬ okD d m_ := fun h_ => okD_all.1 h_ k4 (by omega) (by assumption))
                        exact ⟨_, by rw [spR_no hno], by rw [spR_no hno]; exact .nil⟩
                      · refine DW.nil ?_
                        refine WK.nThen ?_
                        refine WC.condF rfl ?_
                        refine WC.skip ?_
                        refine WK.nBlock ?_
                        refine WK.nThen ?_
                        refine WC.region ?_
                        refine WL.x (X.move rfl) (by decide) ?_
                        refine WL.x (X.add rfl rfl (by omega) (by omega)) (by decide) ?_
                        refine WL.x (X.assign rfl) (by decide) ?_
                        refine WL.nil ?_
                        refine WK.nThen ?_
                        refine WK.next (k4 + 1) rfl (.refl _) (.cons rfl (.cons rfl (.cons rfl .nil))) ?_ ?_
                        · exact ⟨by omega, fun j hj => by rcases Nat.lt_succ_iff_lt_or_eq.1 hj with h | h; exact hall j h; subst h; assumption⟩
                        · omega
                    · refine WL.nil ?_
                      refine WK.nThen ?_
                      refine WC.condF rfl ?_
                      refine WC.exit ?_
                      refine WK.eThen ?_
                      refine WK.eThen ?_
                      refine WK.eHit ?_
                      refine WK.nThen ?_
                      refine WC.seq ?_
                      have hok : okD d m_ := okD_all.2 (fun j hj => hall j (by omega))
                      refine WC.region ?_
                      refine WL.x (X.move rfl) (by decide) ?_
                      refine WL.x (X.assign rfl) (by decide) ?_
                      refine WL.x (X.assign rfl) (by decide) ?_
                      refine WL.nil ?_
                      refine WK.nThen ?_
                      refine WC.ret ?_
                      refine WK.freezeF 0 rfl rfl (by rw [setD_len]; unfold lenB; omega) (fun m43 hle44 hs45 => ?_)
                      replace hs2 := hs2.mono hle44
                      replace hs4 := hs4.mono hle44
                      replace hm_ := hm_.mono hle44
                      refine WK.ret2 rfl rfl rfl (fun w' hw' => Ret.mem hw' ?_)
                      exact ⟨_, by rw [spR_yes hok], by rw [spR_yes hok]; exact hs45⟩

end Go.Proofs.C2
