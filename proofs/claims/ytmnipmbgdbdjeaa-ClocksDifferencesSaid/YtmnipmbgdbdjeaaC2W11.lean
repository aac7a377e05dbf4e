import Derived.Test.YtmnipmbgdbdjeaaC2W10
import Derived.Test.YtmnipmbgdbdjeaaC2Ref
/- Clocks: walks of the reference, by program. -/
namespace Go.Proofs.C2
open Go Go.Kx
set_option linter.unusedVariables false

theorem lowest94 (m : Mem) (num : Int) (den : Int)  (hn : -4000000000000000000 ≤ num ∧ num ≤ 4000000000000000000) (hd : 0 < den ∧ den ≤ 4000000000000000000) : Exact Try.prog 94 #[.int .i64 (num), .int .i64 (den)] m (.agg [.int .i64 ((lowR num den).Num), .int .i64 ((lowR num den).Den)].toArray) := by
  refine Exact.start Try.func94 rfl Try.ntmps94 rfl fun wld => ?_
  refine WC.seq ?_
  refine WC.region ?_
  refine WL.tn (T.alloc Try.zeroValue46 rfl) (by decide) fun b1 => ?_
  refine WL.nil ?_
  refine WK.nThen ?_
  refine WC.seq ?_
  refine WC.region ?_
  refine WL.x (X.move rfl) (by decide) ?_
  refine WL.x (X.move rfl) (by decide) ?_
  refine WL.x (X.sub rfl rfl (by omega) (by omega)) (by decide) ?_
  refine WL.x (X.mx rfl rfl) (by decide) ?_
  refine WL.x (X.assign rfl) (by decide) ?_
  refine WL.nil ?_
  refine WK.nThen ?_
  refine WC.seq ?_
  refine WC.region ?_
  refine WL.x (X.move rfl) (by decide) ?_
  refine WL.x (X.assign rfl) (by decide) ?_
  refine WL.nil ?_
  refine WK.nThen ?_
  refine WC.seq ?_
  refine WC.block ?_
  refine WC.loop (G := Int × Int) (fun (x, y) => y.toNat) (fun (x, y) => m) (fun (x, y) => [blk b1 46 [.int .i64 (0), .int .i64 (0)]]) (fun (x, y) => [(0, .int .i64 (num)), (1, .int .i64 (den)), (4, .pointer (some ⟨b1, 0, none⟩)), (5, .int .i64 (x)), (6, .int .i64 (y))]) (fun (x, y) => (0 ≤ x ∧ x ≤ 4000000000000000000 ∧ 0 ≤ y ∧ y ≤ 4000000000000000000 ∧ (y = 0 → 0 < x)) ∧ Int.gcd x y = Int.gcd num den) ((max num (0 - num), den)) rfl (.refl _) (.cons rfl (.cons rfl (.cons rfl (.cons rfl (.cons rfl .nil))))) ?_ ?_
  · exact ⟨by omega, (by first | exact gcd_max _ _ | (rw [Int.zero_sub]; exact gcd_max _ _))⟩
  · rintro ⟨x, y⟩ hF2
    show WK _ _ m [blk b1 46 [.int .i64 (0), .int .i64 (0)]] [(0, .int .i64 (num)), (1, .int .i64 (den)), (4, .pointer (some ⟨b1, 0, none⟩)), (5, .int .i64 (x)), (6, .int .i64 (y))] _
    replace hF2 : (0 ≤ x ∧ x ≤ 4000000000000000000 ∧ 0 ≤ y ∧ y ≤ 4000000000000000000 ∧ (y = 0 → 0 < x)) ∧ Int.gcd x y = Int.gcd num den := hF2
    obtain ⟨hxy, hgc⟩ := hF2
    have hmod : 0 < y → 0 ≤ x % y ∧ x % y < y := fun h => emod_bd h
    refine WC.seq ?_
    refine WC.seq ?_
    refine WC.region ?_
    refine WL.x (X.move rfl) (by decide) ?_
    refine WL.cond (X.gtr rfl rfl) (by decide) (fun h3 => ?_) (fun h3 => ?_)
    · refine WL.nil ?_
      refine WK.nThen ?_
      refine WC.condT rfl ?_
      refine WC.skip ?_
      refine WK.nThen ?_
      refine WC.block ?_
      refine WC.seq ?_
      refine WC.region ?_
      refine WL.x (X.move rfl) (by decide) ?_
      refine WL.x (X.move rfl) (by decide) ?_
      refine WL.x (X.rem rfl rfl (by omega) (by omega)) (by decide) ?_
      refine WL.x (X.assign rfl) (by decide) ?_
      refine WL.nil ?_
      refine WK.nThen ?_
      refine WC.seq ?_
      refine WC.region ?_
      refine WL.x (X.move rfl) (by decide) ?_
      refine WL.x (X.assign rfl) (by decide) ?_
      refine WL.nil ?_
      refine WK.nThen ?_
      refine WC.region ?_
      refine WL.x (X.move rfl) (by decide) ?_
      refine WL.x (X.assign rfl) (by decide) ?_
      refine WL.nil ?_
      refine WK.nBlock ?_
      refine WK.nThen ?_
      refine WK.next ((y, x % y)) rfl (.refl _) (.cons rfl (.cons rfl (.cons rfl (.cons rfl (.cons rfl .nil))))) ?_ ?_
      · exact ⟨by have := hmod (by omega); omega, by rw [gcd_rem]; exact hgc⟩
      · (dsimp only; have := hmod (by omega); omega)
    · refine WL.nil ?_
      refine WK.nThen ?_
      refine WC.condF rfl ?_
      refine WC.exit ?_
      refine WK.eThen ?_
      refine WK.eThen ?_
      refine WK.eHit ?_
      refine WK.nThen ?_
      refine WC.seq ?_
      have hg : x = ↑(Int.gcd num den) := (by rw [← hgc, show y = 0 by omega, gcd_zero (by omega)])
      have hq1 := tdiv_bd (b := x) (B := 4000000000000000000) (show -4000000000000000000 ≤ num ∧ num ≤ 4000000000000000000 by omega)
      have hq2 := tdiv_bd (b := x) (B := 4000000000000000000) (show -4000000000000000000 ≤ den ∧ den ≤ 4000000000000000000 by omega)
      refine WC.draw (π := (.cons 0 (.cons 1 (.cons 2 (.cons 3 (.cons 4 (.cons 5 (.cons 6 (.cons 7 .done))))))))) [7] [7] rfl (by kernel_rfl) ?_
      refine DW.x rfl rfl (X.move rfl) (by decide) ?_
      refine DW.x rfl rfl (X.move rfl) (by decide) ?_
      refine DW.x rfl rfl (X.quoT rfl rfl (by omega) (by omega) (by omega)) (by decide) ?_
      refine DW.x rfl rfl (X.move rfl) (by decide) ?_
      refine DW.x rfl rfl (X.move rfl) (by decide) ?_
      refine DW.x rfl rfl (X.quoT rfl rfl (by omega) (by omega) (by omega)) (by decide) ?_
      refine DW.x (V := Value.agg [.int .i64 (Int.tdiv num x), .int .i64 (Int.tdiv den x)].toArray) rfl rfl (X.build Try.zeroValue46 Try.runUnderlying46 (places46 _ Try.underlying46) rfl rfl) (by decide) ?_
      refine DW.ts rfl rfl rfl rfl (T.storeBA (k := 0) Try.sizeOf46 rfl rfl rfl (one_cons rfl (one_cons rfl one_nil)) rfl rfl) ?_
      refine DW.nil ?_
      refine WK.nThen ?_
      refine WC.ret ?_
      refine WK.retC1 0 rfl rfl rfl Try.isAgg46 Try.sizeOf46 (fun w' hw' => Ret.exact hw' ?_)
      exact agg2i (by unfold lowR; rw [hg]) (by unfold lowR; rw [hg])

theorem gap115 (m : Mem) (cd : List Value) (d : Drum) (hd : Enc.rd m cd d) (c : Int)  (hdp : drumP d) (hc : 0 ≤ c ∧ c < (d.Rates.length : Int)) : Exact Try.prog 115 #[.agg cd.toArray, .int .i64 (c)] m (.agg [.int .i64 ((gapS d (c : Int).toNat).Lo), .int .i64 ((gapS d (c : Int).toNat).Hi)].toArray) := by
  obtain ⟨v1, v3, rfl, hs2, hs4⟩ := hd
  have hl5 := hs2.le
  have hl6 := hs4.le
  have hd1 := hdp.1
  refine Exact.start Try.func115 rfl Try.ntmps115 rfl fun wld => ?_
  refine WC.seq ?_
  refine WC.region ?_
  refine WL.tn (T.boxB rfl rfl) (by decide) fun b7 => ?_
  refine WL.tn (T.alloc Try.zeroValue31 rfl) (by decide) fun b8 => ?_
  refine WL.nil ?_
  refine WK.nThen ?_
  refine WC.seq ?_
  refine WC.region ?_
  refine WL.x (X.field Try.runUnderlying25 rfl Try.sizeOf22 rfl) (by decide) ?_
  refine WL.x (X.loadB (k := 1) Try.isAgg22 rfl rfl rfl) (by decide) ?_
  refine WL.x (X.move rfl) (by decide) ?_
  refine WL.xe (E.idx Try.runUnderlying22 Try.sizeOf31 rfl rfl hs2 (by omega) (by omega)) (by decide) (fun p9 hp10 => ?_)
  refine WL.xe (E.loadAgg Try.isAgg31 Try.sizeOf31 rfl hp10) (by decide) (fun c11 hc12 => ?_)
  obtain rfl := hc12
  refine WL.tn (T.alloc Try.zeroValue31 rfl) (by decide) fun b13 => ?_
  refine WL.ts (T.storeBA (k := 0) Try.sizeOf31 rfl rfl rfl (one_cons rfl (one_cons rfl one_nil)) rfl rfl) ?_
  refine WL.nil ?_
  refine WK.nThen ?_
  refine WC.seq ?_
  refine WC.seq ?_
  refine WC.region ?_
  refine WL.x (X.assign rfl) (by decide) ?_
  refine WL.nil ?_
  refine WK.nThen ?_
  refine WC.block ?_
  refine WC.loop (G := Nat) (fun k => d.Stops.length - k) (fun k => m) (fun k => [blk b13 31 [.int .i64 ((gapN d c.toNat k).Lo), .int .i64 ((gapN d c.toNat k).Hi)], blk b8 31 [.int .i64 (0), .int .i64 (0)], blk b7 25 [v1, v3]]) (fun k => [(1, .int .i64 (c)), (2, .pointer (some ⟨b7, 0, none⟩)), (4, .pointer (some ⟨b8, 0, none⟩)), (5, .pointer (some ⟨b13, 0, none⟩)), (6, .int .i64 (↑k))]) (fun k => k ≤ d.Stops.length) 0 rfl (.refl _) (.cons rfl (.cons rfl (.cons rfl (.cons rfl (.cons rfl .nil))))) ?_ ?_
  · exact Nat.zero_le _
  · rintro k hF14
    show WK _ _ m [blk b13 31 [.int .i64 ((gapN d c.toNat k).Lo), .int .i64 ((gapN d c.toNat k).Hi)], blk b8 31 [.int .i64 (0), .int .i64 (0)], blk b7 25 [v1, v3]] [(1, .int .i64 (c)), (2, .pointer (some ⟨b7, 0, none⟩)), (4, .pointer (some ⟨b8, 0, none⟩)), (5, .pointer (some ⟨b13, 0, none⟩)), (6, .int .i64 (↑k))] _
    replace hF14 : k ≤ d.Stops.length := hF14
    have hk := hF14
    refine WC.seq ?_
    refine WC.seq ?_
    refine WC.region ?_
    refine WL.x (X.move rfl) (by decide) ?_
    refine WL.x (X.field Try.runUnderlying25 rfl Try.sizeOf23 rfl) (by decide) ?_
    refine WL.x (X.loadB (k := 2) Try.isAgg23 rfl rfl rfl) (by decide) ?_
    refine WL.x (X.len Try.runUnderlying23 rfl hs4) (by decide) ?_
    refine WL.cond (X.lss rfl rfl) (by decide) (fun h15 => ?_) (fun h15 => ?_)
    · refine WL.nil ?_
      refine WK.nThen ?_
      refine WC.condT rfl ?_
      refine WC.skip ?_
      refine WK.nThen ?_
      refine WC.seq ?_
      refine WC.block ?_
      refine WC.seq ?_
      have hso := stop_ok hdp (i := k) (by omega)
      have hso3 := hso.2
      unfold spOk at hso3
      have hgb := gapN_bd hdp (c := c.toNat) (by omega) k (by omega)
      refine WC.region ?_
      refine WL.x (X.field Try.runUnderlying25 rfl Try.sizeOf23 rfl) (by decide) ?_
      refine WL.x (X.loadB (k := 2) Try.isAgg23 rfl rfl rfl) (by decide) ?_
      refine WL.x (X.move rfl) (by decide) ?_
      refine WL.xe (E.idxN k Try.runUnderlying23 Try.sizeOf34 rfl rfl hs4 (by omega)) (by decide) (fun p16 hp17 => ?_)
      have hp18 := At.Stop_0 hp17
      refine WL.x (X.field Try.runUnderlying34 rfl Try.sizeOf3 rfl) (by decide) ?_
      refine WL.x (X.loadInt Try.isAgg3 rfl hp18) (by decide) ?_
      refine WL.x (X.move rfl) (by decide) ?_
      refine WL.cond (X.eql rfl rfl) (by decide) (fun h19 => ?_) (fun h19 => ?_)
      · refine WL.nil ?_
        refine WK.nThen ?_
        refine WC.condT rfl ?_
        refine WC.seq ?_
        refine WC.draw (π := (.cons 0 (.cons 1 (.cons 2 (.cons 3 (.cons 4 (.cons 5 (.cons 6 (.cons 7 (.cons 8 (.cons 9 (.cons 10 (.cons 11 .done))))))))))))) [11] [11] rfl (by kernel_rfl) ?_
        refine DW.x rfl rfl (X.field Try.runUnderlying31 rfl Try.sizeOf3 rfl) (by decide) ?_
        refine DW.x rfl rfl (X.loadB (k := 0) Try.isAgg3 rfl rfl rfl) (by decide) ?_
        refine DW.x rfl rfl (X.field Try.runUnderlying25 rfl Try.sizeOf23 rfl) (by decide) ?_
        refine DW.x rfl rfl (X.loadB (k := 2) Try.isAgg23 rfl rfl rfl) (by decide) ?_
        refine DW.x rfl rfl (X.move rfl) (by decide) ?_
        refine DW.xe rfl rfl (E.idxN k Try.runUnderlying23 Try.sizeOf34 rfl rfl hs4 (by omega)) (by decide) (fun p20 hp21 => ?_)
        have hp22 := At.Stop_1 hp21
        refine DW.x rfl rfl (X.field Try.runUnderlying34 rfl Try.sizeOf31 rfl) (by decide) ?_
        have hp23 := At.Span_0 hp22
        refine DW.x rfl rfl (X.field Try.runUnderlying31 rfl Try.sizeOf3 rfl) (by decide) ?_
        refine DW.x rfl rfl (X.loadInt Try.isAgg3 rfl hp23) (by decide) ?_
        refine DW.x rfl rfl (X.add rfl rfl (by omega) (by omega)) (by decide) ?_
        refine DW.x rfl rfl (X.field Try.runUnderlying31 rfl Try.sizeOf3 rfl) (by decide) ?_
        refine DW.ts rfl rfl rfl rfl (T.storeB (k := 0) Try.sizeOf3 rfl rfl rfl rfl (Nat.le_of_ble_eq_true rfl)) ?_
        refine DW.nil ?_
        refine WK.nThen ?_
        refine WC.draw (π := (.cons 0 (.cons 1 (.cons 2 (.cons 3 (.cons 4 (.cons 5 (.cons 6 (.cons 7 (.cons 8 (.cons 9 (.cons 10 (.cons 11 .done))))))))))))) [11] [11] rfl (by kernel_rfl) ?_
        refine DW.x rfl rfl (X.field Try.runUnderlying31 rfl Try.sizeOf3 rfl) (by decide) ?_
        refine DW.x rfl rfl (X.loadB (k := 0) Try.isAgg3 rfl rfl rfl) (by decide) ?_
        refine DW.x rfl rfl (X.field Try.runUnderlying25 rfl Try.sizeOf23 rfl) (by decide) ?_
        refine DW.x rfl rfl (X.loadB (k := 2) Try.isAgg23 rfl rfl rfl) (by decide) ?_
        refine DW.x rfl rfl (X.move rfl) (by decide) ?_
        refine DW.xe rfl rfl (E.idxN k Try.runUnderlying23 Try.sizeOf34 rfl rfl hs4 (by omega)) (by decide) (fun p24 hp25 => ?_)
        have hp26 := At.Stop_1 hp25
        refine DW.x rfl rfl (X.field Try.runUnderlying34 rfl Try.sizeOf31 rfl) (by decide) ?_
        have hp27 := At.Span_1 hp26
        refine DW.x rfl rfl (X.field Try.runUnderlying31 rfl Try.sizeOf3 rfl) (by decide) ?_
        refine DW.x rfl rfl (X.loadInt Try.isAgg3 rfl hp27) (by decide) ?_
        refine DW.x rfl rfl (X.add rfl rfl (by omega) (by omega)) (by decide) ?_
        refine DW.x rfl rfl (X.field Try.runUnderlying31 rfl Try.sizeOf3 rfl) (by decide) ?_
        refine DW.ts rfl rfl rfl rfl (T.storeB (k := 0) Try.sizeOf3 rfl rfl rfl rfl (Nat.le_of_ble_eq_true rfl)) ?_
        refine DW.nil ?_
        refine WK.nBlock ?_
        refine WK.nThen ?_
        refine WC.region ?_
        refine WL.x (X.move rfl) (by decide) ?_
        refine WL.x (X.add rfl rfl (by omega) (by omega)) (by decide) ?_
        refine WL.x (X.assign rfl) (by decide) ?_
        refine WL.nil ?_
        refine WK.nThen ?_
        have he28 : ((gapN d c.toNat k).Lo) + (((gt d.Stops k).Ticks).Lo) = (gapN d c.toNat (k + 1)).Lo := (by rw [gapN]; first | rw [if_pos (by omega)] | rw [if_neg (by omega)])
        rw [he28]
        have he29 : ((gapN d c.toNat k).Hi) + (((gt d.Stops k).Ticks).Hi) = (gapN d c.toNat (k + 1)).Hi := (by rw [gapN]; first | rw [if_pos (by omega)] | rw [if_neg (by omega)])
        rw [he29]
        refine WK.next (k + 1) rfl (.refl _) (.cons rfl (.cons rfl (.cons rfl (.cons rfl (.cons rfl .nil))))) ?_ ?_
        · omega
        · omega
      · refine WL.nil ?_
        refine WK.nThen ?_
        refine WC.condF rfl ?_
        refine WC.skip ?_
        refine WK.nBlock ?_
        refine WK.nThen ?_
        refine WC.region ?_
        refine WL.x (X.move rfl) (by decide) ?_
        refine WL.x (X.add rfl rfl (by omega) (by omega)) (by decide) ?_
        refine WL.x (X.assign rfl) (by decide) ?_
        refine WL.nil ?_
        refine WK.nThen ?_
        have he30 : (gapN d c.toNat k).Lo = (gapN d c.toNat (k + 1)).Lo := (by rw [gapN]; first | rw [if_pos (by omega)] | rw [if_neg (by omega)])
        rw [he30]
        have he31 : (gapN d c.toNat k).Hi = (gapN d c.toNat (k + 1)).Hi := (by rw [gapN]; first | rw [if_pos (by omega)] | rw [if_neg (by omega)])
        rw [he31]
        refine WK.next (k + 1) rfl (.refl _) (.cons rfl (.cons rfl (.cons rfl (.cons rfl (.cons rfl .nil))))) ?_ ?_
        · omega
        · omega
    · refine WL.nil ?_
      refine WK.nThen ?_
      refine WC.condF rfl ?_
      refine WC.exit ?_
      refine WK.eThen ?_
      refine WK.eThen ?_
      refine WK.eHit ?_
      refine WK.nThen ?_
      refine WC.seq ?_
      have hke : k = d.Stops.length := (by omega)
      refine WC.region ?_
      refine WL.x (X.loadBA (k := 0) Try.isAgg31 Try.sizeOf31 rfl rfl rfl) (by decide) ?_
      refine WL.ts (T.storeBA (k := 1) Try.sizeOf31 rfl rfl rfl (one_cons rfl (one_cons rfl one_nil)) rfl rfl) ?_
      refine WL.nil ?_
      refine WK.nThen ?_
      refine WC.ret ?_
      refine WK.retC1 1 rfl rfl rfl Try.isAgg31 Try.sizeOf31 (fun w' hw' => Ret.exact hw' ?_)
      first | exact agg2i (by rw [hke]; rfl) (by rw [hke]; rfl) | rfl

set_option maxHeartbeats 2000000 in
theorem spans89 (m : Mem) (cd : List Value) (d : Drum) (hd : Enc.rd m cd d) (vm_ : Value) (m_ : List Mark) (hm_ : Sl m vm_ m_)  (hv : ValP d m_) (hl : m_.length ≤ 1000) : Pure Try.prog 89 #[.agg cd.toArray, vm_] m (fun m' v => ∃ r0, v = .tuple #[r0, .bool ((spR d m_).2)] ∧ Sl m' r0 ((spR d m_).1)) := by
  obtain ⟨v1, v3, rfl, hs2, hs4⟩ := hd
  have hl5 := hs2.le
  have hl6 := hs4.le
  have lm_ := hm_.le
  have hd1 := hv.dr.1
  have hw := hv.w
  have hgl := gapL_len d
  have hal := atL_len d m_
  refine Pure.start Try.func89 rfl Try.ntmps89 rfl fun wld => ?_
  refine WC.seq ?_
  refine WC.region ?_
  refine WL.tn (T.boxB rfl rfl) (by decide) fun b7 => ?_
  refine WL.x (X.assign rfl) (by decide) ?_
  refine WL.x (X.assign rfl) (by decide) ?_
  refine WL.nil ?_
  refine WK.nThen ?_
  refine WC.seq ?_
  refine WC.region ?_
  refine WL.x (X.field Try.runUnderlying25 rfl Try.sizeOf22 rfl) (by decide) ?_
  refine WL.x (X.loadB (k := 0) Try.isAgg22 rfl rfl rfl) (by decide) ?_
  refine WL.x (X.len Try.runUnderlying22 rfl hs2) (by decide) ?_
  refine WL.x (X.add rfl rfl (by omega) (by omega)) (by decide) ?_
  refine WL.x (X.assign rfl) (by decide) ?_
  refine WL.nil ?_
  refine WK.nThen ?_
  refine WC.seq ?_
  refine WC.region ?_
  refine WL.x (X.move rfl) (by decide) ?_
  refine WL.ta (T.makeN (d.Rates.length + 1) (a := (Span.mk (0) (0))) sl22 rfl rfl rfl (by omega) (by decide)) (by decide) (fun v8 => ?_)
  refine WL.x (X.assign rfl) (by decide) ?_
  refine WL.nil ?_
  refine WK.nThen ?_
  refine WC.seq ?_
  refine WC.seq ?_
  refine WC.region ?_
  refine WL.x (X.assign rfl) (by decide) ?_
  refine WL.nil ?_
  refine WK.nThen ?_
  refine WC.block ?_
  have he9 : (List.replicate (d.Rates.length + 1) (Span.mk (0) (0))) = (flL (d.Rates.length + 1) 0) := (by first | exact flL_zero _ | (rw [show ((↑d.Rates.length : Int) + 1).toNat = d.Rates.length + 1 by omega]; exact flL_zero _))
  rw [he9]
  refine WC.loop (G := Nat) (fun k0 => d.Rates.length + 1 - k0) (fun k0 => m) (fun k0 => [rowF (v8) 31 (flL (d.Rates.length + 1) k0), blk b7 25 [v1, v3]]) (fun k0 => [(1, vm_), (2, .pointer (some ⟨b7, 0, none⟩)), (6, .int .i64 (↑d.Rates.length + 1)), (7, v8), (8, .int .i64 (↑k0))]) (fun k0 => k0 ≤ d.Rates.length + 1) 0 rfl (.refl _) (.cons rfl (.cons rfl (.cons rfl (.cons rfl (.cons rfl .nil))))) ?_ ?_
  · exact Nat.zero_le _
  · rintro k0 hF10
    show WK _ _ m [rowF (v8) 31 (flL (d.Rates.length + 1) k0), blk b7 25 [v1, v3]] [(1, vm_), (2, .pointer (some ⟨b7, 0, none⟩)), (6, .int .i64 (↑d.Rates.length + 1)), (7, v8), (8, .int .i64 (↑k0))] _
    replace hF10 : k0 ≤ d.Rates.length + 1 := hF10
    have hk0 := hF10
    have hll := flL_len (d.Rates.length + 1) k0
    refine WC.seq ?_
    refine WC.seq ?_
    refine WC.region ?_
    refine WL.x (X.move rfl) (by decide) ?_
    refine WL.x (X.move rfl) (by decide) ?_
    refine WL.cond (X.lss rfl rfl) (by decide) (fun h11 => ?_) (fun h11 => ?_)
    · refine WL.nil ?_
      refine WK.nThen ?_
      refine WC.condT rfl ?_
      refine WC.skip ?_
      refine WK.nThen ?_
      refine WC.seq ?_
      refine WC.block ?_
      refine WC.region ?_
      refine WL.x (X.move rfl) (by decide) ?_
      refine WL.x (X.move rfl) (by decide) ?_
      refine WL.x (V := Value.agg [.int .i64 (0), .int .i64 (400)].toArray) (X.build Try.zeroValue31 Try.runUnderlying31 (places31 _ Try.underlying31) rfl rfl) (by decide) ?_
      refine WL.x (X.idxRowE (k := 0) k0 Try.runUnderlying22 Try.sizeOf31 rfl rfl rfl (by omega) (by first | omega | (simp; omega) | simp)) (by decide) ?_
      refine WL.ts (T.storeFp (k := 0) (i := k0) (off := 0) (us := [.int .i64 (0), .int .i64 (400)]) ((Span.mk (0) (400))) Try.sizeOf31 rfl rfl rfl rfl (Nat.zero_lt_succ _) rfl (by first | omega | (simp; omega) | simp) rfl rfl (one_cons rfl (one_cons rfl one_nil))) ?_
      refine WL.nil ?_
      refine WK.nBlock ?_
      refine WK.nThen ?_
      refine WC.region ?_
      refine WL.x (X.move rfl) (by decide) ?_
      refine WL.x (X.add rfl rfl (by omega) (by omega)) (by decide) ?_
      refine WL.x (X.assign rfl) (by decide) ?_
      refine WL.nil ?_
      refine WK.nThen ?_
      have he12 : ((flL (d.Rates.length + 1) k0).set k0 ((Span.mk (0) (400)))) = (flL (d.Rates.length + 1) (k0 + 1)) := flL_step
      rw [he12]
      refine WK.next (k0 + 1) rfl (.refl _) (.cons rfl (.cons rfl (.cons rfl (.cons rfl (.cons rfl .nil))))) ?_ ?_
      · omega
      · omega
    · refine WL.nil ?_
      refine WK.nThen ?_
      refine WC.condF rfl ?_
      refine WC.exit ?_
      refine WK.eThen ?_
      refine WK.eThen ?_
      refine WK.eHit ?_
      refine WK.nThen ?_
      refine WC.seq ?_
      refine WC.seq ?_
      refine WC.region ?_
      refine WL.x (X.assign rfl) (by decide) ?_
      refine WL.nil ?_
      refine WK.nThen ?_
      refine WC.block ?_
      have he13 : (flL (d.Rates.length + 1) k0) = ((List.range (d.Rates.length + 1)).map (fun c => atN m_ 0 c)) := (by rw [show k0 = d.Rates.length + 1 by omega]; exact flL_last m_ _)
      rw [he13]
      refine WC.loop (G := Nat) (fun k1 => m_.length - k1) (fun k1 => m) (fun k1 => [rowF (v8) 31 ((List.range (d.Rates.length + 1)).map (fun c => atN m_ k1 c)), blk b7 25 [v1, v3]]) (fun k1 => [(1, vm_), (2, .pointer (some ⟨b7, 0, none⟩)), (6, .int .i64 (↑d.Rates.length + 1)), (7, v8), (9, .int .i64 (↑k1))]) (fun k1 => k1 ≤ m_.length) 0 rfl (.refl _) (.cons rfl (.cons rfl (.cons rfl (.cons rfl (.cons rfl .nil))))) ?_ ?_
      · exact Nat.zero_le _
      · rintro k1 hF14
        show WK _ _ m [rowF (v8) 31 ((List.range (d.Rates.length + 1)).map (fun c => atN m_ k1 c)), blk b7 25 [v1, v3]] [(1, vm_), (2, .pointer (some ⟨b7, 0, none⟩)), (6, .int .i64 (↑d.Rates.length + 1)), (7, v8), (9, .int .i64 (↑k1))] _
        replace hF14 : k1 ≤ m_.length := hF14
        have hk1 := hF14
        have hll : ((List.range (d.Rates.length + 1)).map (fun c => atN m_ k1 c)).length = d.Rates.length + 1 := (by simp)
        refine WC.seq ?_
        refine WC.seq ?_
        refine WC.region ?_
        refine WL.x (X.move rfl) (by decide) ?_
        refine WL.x (X.move rfl) (by decide) ?_
        refine WL.x (X.len Try.runUnderlying26 rfl hm_) (by decide) ?_
        refine WL.cond (X.lss rfl rfl) (by decide) (fun h15 => ?_) (fun h15 => ?_)
        · refine WL.nil ?_
          refine WK.nThen ?_
          refine WC.condT rfl ?_
          refine WC.skip ?_
          refine WK.nThen ?_
          refine WC.seq ?_
          refine WC.block ?_
          refine WC.seq ?_
          have hco := hv.col (j := k1) (by omega)
          have hco1 := hco.1
          refine WC.region ?_
          refine WL.x (X.move rfl) (by decide) ?_
          refine WL.x (X.move rfl) (by decide) ?_
          refine WL.xe (E.idxN k1 Try.runUnderlying26 Try.sizeOf33 rfl rfl hm_ (by omega)) (by decide) (fun p16 hp17 => ?_)
          have hp18 := At.Mark_0 hp17
          refine WL.x (X.field Try.runUnderlying33 rfl Try.sizeOf3 rfl) (by decide) ?_
          refine WL.x (X.loadInt Try.isAgg3 rfl hp18) (by decide) ?_
          refine WL.x (X.assign rfl) (by decide) ?_
          refine WL.nil ?_
          refine WK.nThen ?_
          refine WC.draw (π := (.cons 0 (.cons 1 (.cons 2 (.cons 3 (.cons 4 (.cons 5 (.cons 6 (.cons 7 (.cons 8 (.cons 9 (.cons 10 (.cons 11 (.cons 12 (.cons 13 (.cons 14 (.cons 15 (.cons 16 (.cons 17 (.cons 18 (.cons 19 (.cons 20 (.cons 21 (.cons 22 (.cons 23 (.cons 24 (.cons 25 (.cons 26 (.cons 27 (.cons 28 .done)))))))))))))))))))))))))))))) [28] [28] rfl (by kernel_rfl) ?_
          refine DW.x rfl rfl (X.move rfl) (by decide) ?_
          refine DW.x rfl rfl (X.move rfl) (by decide) ?_
          refine DW.x rfl rfl (X.move rfl) (by decide) ?_
          refine DW.x rfl rfl (X.move rfl) (by decide) ?_
          refine DW.x rfl rfl (X.idxRow (k := 0) Try.runUnderlying22 Try.sizeOf31 rfl rfl rfl (by first | omega | (simp; omega) | simp) (by first | omega | (simp; omega) | simp)) (by decide) ?_
          refine DW.x rfl rfl (X.field Try.runUnderlying31 rfl Try.sizeOf3 rfl) (by decide) ?_
          refine DW.x rfl rfl (X.loadFp (k := 0) (i := ((gt m_ k1).Column : Int).toNat) (off := 0) (u := .int .i64 (((gt ((List.range (d.Rates.length + 1)).map (fun c => atN m_ k1 c)) (((gt m_ k1).Column : Int).toNat))).Lo)) Try.isAgg3 rfl rfl (by first | omega | (simp; omega) | simp) rfl) (by decide) ?_
          refine DW.x rfl rfl (X.move rfl) (by decide) ?_
          refine DW.x rfl rfl (X.move rfl) (by decide) ?_
          refine DW.xe rfl rfl (E.idxN k1 Try.runUnderlying26 Try.sizeOf33 rfl rfl hm_ (by omega)) (by decide) (fun p19 hp20 => ?_)
          have hp21 := At.Mark_1 hp20
          refine DW.x rfl rfl (X.field Try.runUnderlying33 rfl Try.sizeOf31 rfl) (by decide) ?_
          have hp22 := At.Span_0 hp21
          refine DW.x rfl rfl (X.field Try.runUnderlying31 rfl Try.sizeOf3 rfl) (by decide) ?_
          refine DW.x rfl rfl (X.loadInt Try.isAgg3 rfl hp22) (by decide) ?_
          refine DW.x rfl rfl (X.mx rfl rfl) (by decide) ?_
          refine DW.x rfl rfl (X.move rfl) (by decide) ?_
          refine DW.x rfl rfl (X.move rfl) (by decide) ?_
          refine DW.x rfl rfl (X.idxRow (k := 0) Try.runUnderlying22 Try.sizeOf31 rfl rfl rfl (by first | omega | (simp; omega) | simp) (by first | omega | (simp; omega) | simp)) (by decide) ?_
          refine DW.x rfl rfl (X.field Try.runUnderlying31 rfl Try.sizeOf3 rfl) (by decide) ?_
          refine DW.x rfl rfl (X.loadFp (k := 0) (i := ((gt m_ k1).Column : Int).toNat) (off := 1) (u := .int .i64 (((gt ((List.range (d.Rates.length + 1)).map (fun c => atN m_ k1 c)) (((gt m_ k1).Column : Int).toNat))).Hi)) Try.isAgg3 rfl rfl (by first | omega | (simp; omega) | simp) rfl) (by decide) ?_
          refine DW.x rfl rfl (X.move rfl) (by decide) ?_
          refine DW.x rfl rfl (X.move rfl) (by decide) ?_
          refine DW.xe rfl rfl (E.idxN k1 Try.runUnderlying26 Try.sizeOf33 rfl rfl hm_ (by omega)) (by decide) (fun p23 hp24 => ?_)
          have hp25 := At.Mark_1 hp24
          refine DW.x rfl rfl (X.field Try.runUnderlying33 rfl Try.sizeOf31 rfl) (by decide) ?_
          have hp26 := At.Span_1 hp25
          refine DW.x rfl rfl (X.field Try.runUnderlying31 rfl Try.sizeOf3 rfl) (by decide) ?_
          refine DW.x rfl rfl (X.loadInt Try.isAgg3 rfl hp26) (by decide) ?_
          refine DW.x rfl rfl (X.mn rfl rfl) (by decide) ?_
          refine DW.x (V := Value.agg [.int .i64 (max (((gt ((List.range (d.Rates.length + 1)).map (fun c => atN m_ k1 c)) (((gt m_ k1).Column : Int).toNat))).Lo) (((gt m_ k1).Ticks).Lo)), .int .i64 (min (((gt ((List.range (d.Rates.length + 1)).map (fun c => atN m_ k1 c)) (((gt m_ k1).Column : Int).toNat))).Hi) (((gt m_ k1).Ticks).Hi))].toArray) rfl rfl (X.build Try.zeroValue31 Try.runUnderlying31 (places31 _ Try.underlying31) rfl rfl) (by decide) ?_
          refine DW.x rfl rfl (X.idxRow (k := 0) Try.runUnderlying22 Try.sizeOf31 rfl rfl rfl (by first | omega | (simp; omega) | simp) (by first | omega | (simp; omega) | simp)) (by decide) ?_
          refine DW.ts rfl rfl rfl rfl (T.storeFp (k := 0) (i := ((gt m_ k1).Column : Int).toNat) (off := 0) (us := [.int .i64 (max (((gt ((List.range (d.Rates.length + 1)).map (fun c => atN m_ k1 c)) (((gt m_ k1).Column : Int).toNat))).Lo) (((gt m_ k1).Ticks).Lo)), .int .i64 (min (((gt ((List.range (d.Rates.length + 1)).map (fun c => atN m_ k1 c)) (((gt m_ k1).Column : Int).toNat))).Hi) (((gt m_ k1).Ticks).Hi))]) ((Span.mk (max (((gt ((List.range (d.Rates.length + 1)).map (fun c => atN m_ k1 c)) (((gt m_ k1).Column : Int).toNat))).Lo) (((gt m_ k1).Ticks).Lo)) (min (((gt ((List.range (d.Rates.length + 1)).map (fun c => atN m_ k1 c)) (((gt m_ k1).Column : Int).toNat))).Hi) (((gt m_ k1).Ticks).Hi)))) Try.sizeOf31 rfl rfl rfl rfl (Nat.zero_lt_succ _) rfl (by first | omega | (simp; omega) | simp) rfl rfl (one_cons rfl (one_cons rfl one_nil))) ?_
          refine DW.nil ?_
          refine WK.nBlock ?_
          refine WK.nThen ?_
          refine WC.region ?_
          refine WL.x (X.move rfl) (by decide) ?_
          refine WL.x (X.add rfl rfl (by omega) (by omega)) (by decide) ?_
          refine WL.x (X.assign rfl) (by decide) ?_
          refine WL.nil ?_
          refine WK.nThen ?_
          have hgc := gt_map (f := fun c => atN m_ k1 c) (n := d.Rates.length + 1) (i := ((gt m_ k1).Column : Int).toNat) (by omega)
          have he27 : (((List.range (d.Rates.length + 1)).map (fun c => atN m_ k1 c)).set (((gt m_ k1).Column : Int).toNat) ((Span.mk (max (((gt ((List.range (d.Rates.length + 1)).map (fun c => atN m_ k1 c)) (((gt m_ k1).Column : Int).toNat))).Lo) (((gt m_ k1).Ticks).Lo)) (min (((gt ((List.range (d.Rates.length + 1)).map (fun c => atN m_ k1 c)) (((gt m_ k1).Column : Int).toNat))).Hi) (((gt m_ k1).Ticks).Hi))))) = ((List.range (d.Rates.length + 1)).map (fun c => atN m_ (k1 + 1) c)) := (by rw [hgc]; exact at_step hv.ma (by omega))
          rw [he27]
          refine WK.next (k1 + 1) rfl (.refl _) (.cons rfl (.cons rfl (.cons rfl (.cons rfl (.cons rfl .nil))))) ?_ ?_
          · omega
          · omega
        · refine WL.nil ?_
          refine WK.nThen ?_
          refine WC.condF rfl ?_
          refine WC.exit ?_
          refine WK.eThen ?_
          refine WK.eThen ?_
          refine WK.eHit ?_
          refine WK.nThen ?_
          refine WC.seq ?_
          refine WC.seq ?_
          refine WC.region ?_
          refine WL.x (X.assign rfl) (by decide) ?_
          refine WL.nil ?_
          refine WK.nThen ?_
          refine WC.block ?_
          have he28 : ((List.range (d.Rates.length + 1)).map (fun c => atN m_ k1 c)) = (atL d m_) := (by rw [show k1 = m_.length by omega]; rfl)
          rw [he28]
          have he29 : (atL d m_) = (fwP (gapL d) (atL d m_) 0) := (fwP_zero (by rw [atL_len, gapL_len])).symm
          rw [he29]
          refine WC.loop (G := Nat) (fun k2 => d.Rates.length - k2) (fun k2 => m) (fun k2 => [rowF (v8) 31 (fwP (gapL d) (atL d m_) k2), blk b7 25 [v1, v3]]) (fun k2 => [(2, .pointer (some ⟨b7, 0, none⟩)), (6, .int .i64 (↑d.Rates.length + 1)), (7, v8), (11, .int .i64 (↑(k2 + 1)))]) (fun k2 => k2 ≤ d.Rates.length) 0 rfl (.refl _) (.cons rfl (.cons rfl (.cons rfl (.cons rfl .nil)))) ?_ ?_
          · exact Nat.zero_le _
          · rintro k2 hF30
            show WK _ _ m [rowF (v8) 31 (fwP (gapL d) (atL d m_) k2), blk b7 25 [v1, v3]] [(2, .pointer (some ⟨b7, 0, none⟩)), (6, .int .i64 (↑d.Rates.length + 1)), (7, v8), (11, .int .i64 (↑(k2 + 1)))] _
            replace hF30 : k2 ≤ d.Rates.length := hF30
            have hk2 := hF30
            have hll : (fwP (gapL d) (atL d m_) k2).length = d.Rates.length + 1 := (by rw [fwP_len, gapL_len])
            refine WC.seq ?_
            refine WC.seq ?_
            refine WC.region ?_
            refine WL.x (X.move rfl) (by decide) ?_
            refine WL.x (X.move rfl) (by decide) ?_
            refine WL.cond (X.lss rfl rfl) (by decide) (fun h31 => ?_) (fun h31 => ?_)
            · refine WL.nil ?_
              refine WK.nThen ?_
              refine WC.condT rfl ?_
              refine WC.skip ?_
              refine WK.nThen ?_
              refine WC.seq ?_
              refine WC.block ?_
              refine WC.seq ?_
              have hb1 := fwP_bd hw (.inl rfl) (i := k2) (j := k2 + 1 - 1) (by (try dsimp only); omega)
              have hb2 := fwP_bd hw (.inl rfl) (i := k2) (j := k2 + 1) (by (try dsimp only); omega)
              have hgb := gapS_bd hv.dr (c := k2) (by omega)
              have hix : ((↑(k2 + 1) : Int) - 1).toNat = k2 := (by omega)
              have hgk : gapS d ((↑(k2 + 1) : Int) - 1).toNat = gapS d k2 := (by rw [hix])
              have hga := gapL_at (d := d) (i := k2) (by omega)
              have hgk1 := congrArg Span.Lo hgk
              have hgk2 := congrArg Span.Hi hgk
              try dsimp only at hb1 hb2
              refine WC.region ?_
              refine WL.x (X.loadBA (k := 1) Try.isAgg25 Try.sizeOf25 rfl rfl rfl) (by decide) ?_
              refine WL.x (X.move rfl) (by decide) ?_
              refine WL.x (X.sub rfl rfl (by omega) (by omega)) (by decide) ?_
              refine WL.x (X.call Try.call115 rfl (gap115 _ _ d ⟨_, _, rfl, hs2, hs4⟩ _ (by first | assumption | exact hv.dr | omega) (by first | assumption | exact hv.dr | omega))) (by decide) ?_
              refine WL.tn (T.alloc Try.zeroValue31 rfl) (by decide) fun b32 => ?_
              refine WL.ts (T.storeBA (k := 0) Try.sizeOf31 rfl rfl rfl (one_cons rfl (one_cons rfl one_nil)) rfl rfl) ?_
              refine WL.nil ?_
              refine WK.nThen ?_
              refine WC.draw (π := (.cons 0 (.cons 1 (.cons 2 (.cons 3 (.cons 4 (.cons 5 (.cons 6 (.cons 7 (.cons 8 (.cons 9 (.cons 10 (.cons 11 (.cons 12 (.cons 13 (.cons 14 (.cons 15 (.cons 16 (.cons 17 (.cons 18 (.cons 19 (.cons 20 (.cons 21 (.cons 22 (.cons 23 (.cons 24 (.cons 25 (.cons 26 (.cons 27 (.cons 28 (.cons 29 (.cons 30 (.cons 31 (.cons 32 (.cons 33 (.cons 34 .done)))))))))))))))))))))))))))))))))))) [34] [34] rfl (by kernel_rfl) ?_
              refine DW.x rfl rfl (X.move rfl) (by decide) ?_
              refine DW.x rfl rfl (X.move rfl) (by decide) ?_
              refine DW.x rfl rfl (X.move rfl) (by decide) ?_
              refine DW.x rfl rfl (X.move rfl) (by decide) ?_
              refine DW.x rfl rfl (X.idxRowE (k := 1) ((k2 + 1)) Try.runUnderlying22 Try.sizeOf31 rfl rfl rfl (by omega) (by first | omega | (simp; omega) | simp)) (by decide) ?_
              refine DW.x rfl rfl (X.field Try.runUnderlying31 rfl Try.sizeOf3 rfl) (by decide) ?_
              refine DW.x rfl rfl (X.loadFp (k := 1) (i := (k2 + 1)) (off := 0) (u := .int .i64 (((gt (fwP (gapL d) (atL d m_) k2) ((k2 + 1)))).Lo)) Try.isAgg3 rfl rfl (by first | omega | (simp; omega) | simp) rfl) (by decide) ?_
              refine DW.x rfl rfl (X.move rfl) (by decide) ?_
              refine DW.x rfl rfl (X.move rfl) (by decide) ?_
              refine DW.x rfl rfl (X.sub rfl rfl (by omega) (by omega)) (by decide) ?_
              refine DW.x rfl rfl (X.idxRowE (k := 1) ((k2 + 1) - 1) Try.runUnderlying22 Try.sizeOf31 rfl rfl rfl (by omega) (by first | omega | (simp; omega) | simp)) (by decide) ?_
              refine DW.x rfl rfl (X.field Try.runUnderlying31 rfl Try.sizeOf3 rfl) (by decide) ?_
              refine DW.x rfl rfl (X.loadFp (k := 1) (i := (k2 + 1) - 1) (off := 0) (u := .int .i64 (((gt (fwP (gapL d) (atL d m_) k2) ((k2 + 1) - 1))).Lo)) Try.isAgg3 rfl rfl (by first | omega | (simp; omega) | simp) rfl) (by decide) ?_
              refine DW.x rfl rfl (X.field Try.runUnderlying31 rfl Try.sizeOf3 rfl) (by decide) ?_
              refine DW.x rfl rfl (X.loadB (k := 0) Try.isAgg3 rfl rfl rfl) (by decide) ?_
              refine DW.x rfl rfl (X.add rfl rfl (by omega) (by omega)) (by decide) ?_
              refine DW.x rfl rfl (X.mx rfl rfl) (by decide) ?_
              refine DW.x rfl rfl (X.move rfl) (by decide) ?_
              refine DW.x rfl rfl (X.move rfl) (by decide) ?_
              refine DW.x rfl rfl (X.idxRowE (k := 1) ((k2 + 1)) Try.runUnderlying22 Try.sizeOf31 rfl rfl rfl (by omega) (by first | omega | (simp; omega) | simp)) (by decide) ?_
              refine DW.x rfl rfl (X.field Try.runUnderlying31 rfl Try.sizeOf3 rfl) (by decide) ?_
              refine DW.x rfl rfl (X.loadFp (k := 1) (i := (k2 + 1)) (off := 1) (u := .int .i64 (((gt (fwP (gapL d) (atL d m_) k2) ((k2 + 1)))).Hi)) Try.isAgg3 rfl rfl (by first | omega | (simp; omega) | simp) rfl) (by decide) ?_
              refine DW.x rfl rfl (X.move rfl) (by decide) ?_
              refine DW.x rfl rfl (X.move rfl) (by decide) ?_
              refine DW.x rfl rfl (X.sub rfl rfl (by omega) (by omega)) (by decide) ?_
              refine DW.x rfl rfl (X.idxRowE (k := 1) ((k2 + 1) - 1) Try.runUnderlying22 Try.sizeOf31 rfl rfl rfl (by omega) (by first | omega | (simp; omega) | simp)) (by decide) ?_
              refine DW.x rfl rfl (X.field Try.runUnderlying31 rfl Try.sizeOf3 rfl) (by decide) ?_
              refine DW.x rfl rfl (X.loadFp (k := 1) (i := (k2 + 1) - 1) (off := 1) (u := .int .i64 (((gt (fwP (gapL d) (atL d m_) k2) ((k2 + 1) - 1))).Hi)) Try.isAgg3 rfl rfl (by first | omega | (simp; omega) | simp) rfl) (by decide) ?_
              refine DW.x rfl rfl (X.field Try.runUnderlying31 rfl Try.sizeOf3 rfl) (by decide) ?_
              refine DW.x rfl rfl (X.loadB (k := 0) Try.isAgg3 rfl rfl rfl) (by decide) ?_
              refine DW.x rfl rfl (X.add rfl rfl (by omega) (by omega)) (by decide) ?_
              refine DW.x rfl rfl (X.mn rfl rfl) (by decide) ?_
              refine DW.x (V := Value.agg [.int .i64 (max (((gt (fwP (gapL d) (atL d m_) k2) ((k2 + 1)))).Lo) ((((gt (fwP (gapL d) (atL d m_) k2) ((k2 + 1) - 1))).Lo) + ((gapS d (((↑(k2 + 1)) - 1) : Int).toNat).Lo))), .int .i64 (min (((gt (fwP (gapL d) (atL d m_) k2) ((k2 + 1)))).Hi) ((((gt (fwP (gapL d) (atL d m_) k2) ((k2 + 1) - 1))).Hi) + ((gapS d (((↑(k2 + 1)) - 1) : Int).toNat).Hi)))].toArray) rfl rfl (X.build Try.zeroValue31 Try.runUnderlying31 (places31 _ Try.underlying31) rfl rfl) (by decide) ?_
              refine DW.x rfl rfl (X.idxRowE (k := 1) ((k2 + 1)) Try.runUnderlying22 Try.sizeOf31 rfl rfl rfl (by omega) (by first | omega | (simp; omega) | simp)) (by decide) ?_
              refine DW.ts rfl rfl rfl rfl (T.storeFp (k := 1) (i := (k2 + 1)) (off := 0) (us := [.int .i64 (max (((gt (fwP (gapL d) (atL d m_) k2) ((k2 + 1)))).Lo) ((((gt (fwP (gapL d) (atL d m_) k2) ((k2 + 1) - 1))).Lo) + ((gapS d (((↑(k2 + 1)) - 1) : Int).toNat).Lo))), .int .i64 (min (((gt (fwP (gapL d) (atL d m_) k2) ((k2 + 1)))).Hi) ((((gt (fwP (gapL d) (atL d m_) k2) ((k2 + 1) - 1))).Hi) + ((gapS d (((↑(k2 + 1)) - 1) : Int).toNat).Hi)))]) ((Span.mk (max (((gt (fwP (gapL d) (atL d m_) k2) ((k2 + 1)))).Lo) ((((gt (fwP (gapL d) (atL d m_) k2) ((k2 + 1) - 1))).Lo) + ((gapS d (((↑(k2 + 1)) - 1) : Int).toNat).Lo))) (min (((gt (fwP (gapL d) (atL d m_) k2) ((k2 + 1)))).Hi) ((((gt (fwP (gapL d) (atL d m_) k2) ((k2 + 1) - 1))).Hi) + ((gapS d (((↑(k2 + 1)) - 1) : Int).toNat).Hi))))) Try.sizeOf31 rfl rfl rfl rfl (Nat.zero_lt_succ _) rfl (by first | omega | (simp; omega) | simp) rfl rfl (one_cons rfl (one_cons rfl one_nil))) ?_
              refine DW.nil ?_
              refine WK.nBlock ?_
              refine WK.nThen ?_
              refine WC.region ?_
              refine WL.x (X.move rfl) (by decide) ?_
              refine WL.x (X.add rfl rfl (by omega) (by omega)) (by decide) ?_
              refine WL.x (X.assign rfl) (by decide) ?_
              refine WL.nil ?_
              refine WK.nThen ?_
              have he33 : ((fwP (gapL d) (atL d m_) k2).set ((k2 + 1)) ((Span.mk (max (((gt (fwP (gapL d) (atL d m_) k2) ((k2 + 1)))).Lo) ((((gt (fwP (gapL d) (atL d m_) k2) ((k2 + 1) - 1))).Lo) + ((gapS d (((↑(k2 + 1)) - 1) : Int).toNat).Lo))) (min (((gt (fwP (gapL d) (atL d m_) k2) ((k2 + 1)))).Hi) ((((gt (fwP (gapL d) (atL d m_) k2) ((k2 + 1) - 1))).Hi) + ((gapS d (((↑(k2 + 1)) - 1) : Int).toNat).Hi)))))) = (fwP (gapL d) (atL d m_) ((k2 + 1))) := (by rw [hgk, ← hga]; exact fwP_step (by omega))
              rw [he33]
              refine WK.next (k2 + 1) rfl (.cons _ (.refl _)) (.cons rfl (.cons rfl (.cons rfl (.cons rfl .nil)))) ?_ ?_
              · omega
              · omega
            · refine WL.nil ?_
              refine WK.nThen ?_
              refine WC.condF rfl ?_
              refine WC.exit ?_
              refine WK.eThen ?_
              refine WK.eThen ?_
              refine WK.eHit ?_
              refine WK.nThen ?_
              refine WC.seq ?_
              refine WC.seq ?_
              refine WC.region ?_
              refine WL.x (X.move rfl) (by decide) ?_
              refine WL.x (X.sub rfl rfl (by omega) (by omega)) (by decide) ?_
              refine WL.x (X.assign rfl) (by decide) ?_
              refine WL.nil ?_
              refine WK.nThen ?_
              refine WC.block ?_
              have he34 : (fwP (gapL d) (atL d m_) k2) = (bwP (gapL d) (atL d m_) 0) := (by rw [show k2 = (gapL d).length by omega]; exact fwP_last _ _)
              rw [he34]
              refine WC.loop (G := Int × Nat) (fun (i, k3) => d.Rates.length - k3) (fun (i, k3) => m) (fun (i, k3) => [rowF (v8) 31 (bwP (gapL d) (atL d m_) k3), blk b7 25 [v1, v3]]) (fun (i, k3) => [(2, .pointer (some ⟨b7, 0, none⟩)), (6, .int .i64 (↑d.Rates.length + 1)), (7, v8), (13, .int .i64 (i))]) (fun (i, k3) => i = (↑d.Rates.length : Int) - 1 - ↑k3 ∧ k3 ≤ d.Rates.length) (((↑d.Rates.length + 1) - 2, 0)) rfl (.refl _) (.cons rfl (.cons rfl (.cons rfl (.cons rfl .nil)))) ?_ ?_
              · exact ⟨by omega, Nat.zero_le _⟩
              · rintro ⟨i, k3⟩ hF35
                show WK _ _ m [rowF (v8) 31 (bwP (gapL d) (atL d m_) k3), blk b7 25 [v1, v3]] [(2, .pointer (some ⟨b7, 0, none⟩)), (6, .int .i64 (↑d.Rates.length + 1)), (7, v8), (13, .int .i64 (i))] _
                replace hF35 : i = (↑d.Rates.length : Int) - 1 - ↑k3 ∧ k3 ≤ d.Rates.length := hF35
                obtain ⟨hik, hk3⟩ := hF35
                have hll : (bwP (gapL d) (atL d m_) k3).length = d.Rates.length + 1 := (by rw [bwP_len, gapL_len])
                refine WC.seq ?_
                refine WC.seq ?_
                refine WC.region ?_
                refine WL.x (X.move rfl) (by decide) ?_
                refine WL.cond (X.geq rfl rfl) (by decide) (fun h36 => ?_) (fun h36 => ?_)
                · refine WL.nil ?_
                  refine WK.nThen ?_
                  refine WC.condT rfl ?_
                  refine WC.skip ?_
                  refine WK.nThen ?_
                  refine WC.seq ?_
                  refine WC.block ?_
                  refine WC.seq ?_
                  have hb1 := bwP_bd hw (.inl rfl) (i := k3) (j := i.toNat) (by (try dsimp only); omega)
                  have hb2 := bwP_bd hw (.inl rfl) (i := k3) (j := (i + 1).toNat) (by (try dsimp only); omega)
                  have hgb := gapS_bd hv.dr (c := i.toNat) (by omega)
                  have hix : (i + 1).toNat = i.toNat + 1 := (by omega)
                  have hga := gapL_at (d := d) (i := i.toNat) (by omega)
                  try dsimp only at hb1 hb2
                  refine WC.region ?_
                  refine WL.x (X.loadBA (k := 1) Try.isAgg25 Try.sizeOf25 rfl rfl rfl) (by decide) ?_
                  refine WL.x (X.move rfl) (by decide) ?_
                  refine WL.x (X.call Try.call115 rfl (gap115 _ _ d ⟨_, _, rfl, hs2, hs4⟩ _ (by first | assumption | exact hv.dr | omega) (by first | assumption | exact hv.dr | omega))) (by decide) ?_
                  refine WL.tn (T.alloc Try.zeroValue31 rfl) (by decide) fun b37 => ?_
                  refine WL.ts (T.storeBA (k := 0) Try.sizeOf31 rfl rfl rfl (one_cons rfl (one_cons rfl one_nil)) rfl rfl) ?_
                  refine WL.nil ?_
                  refine WK.nThen ?_
                  refine WC.draw (π := (.cons 0 (.cons 1 (.cons 2 (.cons 3 (.cons 4 (.cons 5 (.cons 6 (.cons 7 (.cons 8 (.cons 9 (.cons 10 (.cons 11 (.cons 12 (.cons 13 (.cons 14 (.cons 15 (.cons 16 (.cons 17 (.cons 18 (.cons 19 (.cons 20 (.cons 21 (.cons 22 (.cons 23 (.cons 24 (.cons 25 (.cons 26 (.cons 27 (.cons 28 (.cons 29 (.cons 30 (.cons 31 (.cons 32 (.cons 33 (.cons 34 .done)))))))))))))))))))))))))))))))))))) [34] [34] rfl (by kernel_rfl) ?_
                  refine DW.x rfl rfl (X.move rfl) (by decide) ?_
                  refine DW.x rfl rfl (X.move rfl) (by decide) ?_
                  refine DW.x rfl rfl (X.move rfl) (by decide) ?_
                  refine DW.x rfl rfl (X.move rfl) (by decide) ?_
                  refine DW.x rfl rfl (X.idxRow (k := 1) Try.runUnderlying22 Try.sizeOf31 rfl rfl rfl (by first | omega | (simp; omega) | simp) (by first | omega | (simp; omega) | simp)) (by decide) ?_
                  refine DW.x rfl rfl (X.field Try.runUnderlying31 rfl Try.sizeOf3 rfl) (by decide) ?_
                  refine DW.x rfl rfl (X.loadFp (k := 1) (i := (i : Int).toNat) (off := 0) (u := .int .i64 (((gt (bwP (gapL d) (atL d m_) k3) ((i : Int).toNat))).Lo)) Try.isAgg3 rfl rfl (by first | omega | (simp; omega) | simp) rfl) (by decide) ?_
                  refine DW.x rfl rfl (X.move rfl) (by decide) ?_
                  refine DW.x rfl rfl (X.move rfl) (by decide) ?_
                  refine DW.x rfl rfl (X.add rfl rfl (by omega) (by omega)) (by decide) ?_
                  refine DW.x rfl rfl (X.idxRow (k := 1) Try.runUnderlying22 Try.sizeOf31 rfl rfl rfl (by first | omega | (simp; omega) | simp) (by first | omega | (simp; omega) | simp)) (by decide) ?_
                  refine DW.x rfl rfl (X.field Try.runUnderlying31 rfl Try.sizeOf3 rfl) (by decide) ?_
                  refine DW.x rfl rfl (X.loadFp (k := 1) (i := (i + 1 : Int).toNat) (off := 0) (u := .int .i64 (((gt (bwP (gapL d) (atL d m_) k3) ((i + 1 : Int).toNat))).Lo)) Try.isAgg3 rfl rfl (by first | omega | (simp; omega) | simp) rfl) (by decide) ?_
                  refine DW.x rfl rfl (X.field Try.runUnderlying31 rfl Try.sizeOf3 rfl) (by decide) ?_
                  refine DW.x rfl rfl (X.loadB (k := 0) Try.isAgg3 rfl rfl rfl) (by decide) ?_
                  refine DW.x rfl rfl (X.sub rfl rfl (by omega) (by omega)) (by decide) ?_
                  refine DW.x rfl rfl (X.mx rfl rfl) (by decide) ?_
                  refine DW.x rfl rfl (X.move rfl) (by decide) ?_
                  refine DW.x rfl rfl (X.move rfl) (by decide) ?_
                  refine DW.x rfl rfl (X.idxRow (k := 1) Try.runUnderlying22 Try.sizeOf31 rfl rfl rfl (by first | omega | (simp; omega) | simp) (by first | omega | (simp; omega) | simp)) (by decide) ?_
                  refine DW.x rfl rfl (X.field Try.runUnderlying31 rfl Try.sizeOf3 rfl) (by decide) ?_
                  refine DW.x rfl rfl (X.loadFp (k := 1) (i := (i : Int).toNat) (off := 1) (u := .int .i64 (((gt (bwP (gapL d) (atL d m_) k3) ((i : Int).toNat))).Hi)) Try.isAgg3 rfl rfl (by first | omega | (simp; omega) | simp) rfl) (by decide) ?_
                  refine DW.x rfl rfl (X.move rfl) (by decide) ?_
                  refine DW.x rfl rfl (X.move rfl) (by decide) ?_
                  refine DW.x rfl rfl (X.add rfl rfl (by omega) (by omega)) (by decide) ?_
                  refine DW.x rfl rfl (X.idxRow (k := 1) Try.runUnderlying22 Try.sizeOf31 rfl rfl rfl (by first | omega | (simp; omega) | simp) (by first | omega | (simp; omega) | simp)) (by decide) ?_
                  refine DW.x rfl rfl (X.field Try.runUnderlying31 rfl Try.sizeOf3 rfl) (by decide) ?_
                  refine DW.x rfl rfl (X.loadFp (k := 1) (i := (i + 1 : Int).toNat) (off := 1) (u := .int .i64 (((gt (bwP (gapL d) (atL d m_) k3) ((i + 1 : Int).toNat))).Hi)) Try.isAgg3 rfl rfl (by first | omega | (simp; omega) | simp) rfl) (by decide) ?_
                  refine DW.x rfl rfl (X.field Try.runUnderlying31 rfl Try.sizeOf3 rfl) (by decide) ?_
                  refine DW.x rfl rfl (X.loadB (k := 0) Try.isAgg3 rfl rfl rfl) (by decide) ?_
                  refine DW.x rfl rfl (X.sub rfl rfl (by omega) (by omega)) (by decide) ?_
                  refine DW.x rfl rfl (X.mn rfl rfl) (by decide) ?_
                  refine DW.x (V := Value.agg [.int .i64 (max (((gt (bwP (gapL d) (atL d m_) k3) ((i : Int).toNat))).Lo) ((((gt (bwP (gapL d) (atL d m_) k3) ((i + 1 : Int).toNat))).Lo) - ((gapS d (i : Int).toNat).Hi))), .int .i64 (min (((gt (bwP (gapL d) (atL d m_) k3) ((i : Int).toNat))).Hi) ((((gt (bwP (gapL d) (atL d m_) k3) ((i + 1 : Int).toNat))).Hi) - ((gapS d (i : Int).toNat).Lo)))].toArray) rfl rfl (X.build Try.zeroValue31 Try.runUnderlying31 (places31 _ Try.underlying31) rfl rfl) (by decide) ?_
                  refine DW.x rfl rfl (X.idxRow (k := 1) Try.runUnderlying22 Try.sizeOf31 rfl rfl rfl (by first | omega | (simp; omega) | simp) (by first | omega | (simp; omega) | simp)) (by decide) ?_
                  refine DW.ts rfl rfl rfl rfl (T.storeFp (k := 1) (i := (i : Int).toNat) (off := 0) (us := [.int .i64 (max (((gt (bwP (gapL d) (atL d m_) k3) ((i : Int).toNat))).Lo) ((((gt (bwP (gapL d) (atL d m_) k3) ((i + 1 : Int).toNat))).Lo) - ((gapS d (i : Int).toNat).Hi))), .int .i64 (min (((gt (bwP (gapL d) (atL d m_) k3) ((i : Int).toNat))).Hi) ((((gt (bwP (gapL d) (atL d m_) k3) ((i + 1 : Int).toNat))).Hi) - ((gapS d (i : Int).toNat).Lo)))]) ((Span.mk (max (((gt (bwP (gapL d) (atL d m_) k3) ((i : Int).toNat))).Lo) ((((gt (bwP (gapL d) (atL d m_) k3) ((i + 1 : Int).toNat))).Lo) - ((gapS d (i : Int).toNat).Hi))) (min (((gt (bwP (gapL d) (atL d m_) k3) ((i : Int).toNat))).Hi) ((((gt (bwP (gapL d) (atL d m_) k3) ((i + 1 : Int).toNat))).Hi) - ((gapS d (i : Int).toNat).Lo))))) Try.sizeOf31 rfl rfl rfl rfl (Nat.zero_lt_succ _) rfl (by first | omega | (simp; omega) | simp) rfl rfl (one_cons rfl (one_cons rfl one_nil))) ?_
                  refine DW.nil ?_
                  refine WK.nBlock ?_
                  refine WK.nThen ?_
                  refine WC.region ?_
                  refine WL.x (X.move rfl) (by decide) ?_
                  refine WL.x (X.sub rfl rfl (by omega) (by omega)) (by decide) ?_
                  refine WL.x (X.assign rfl) (by decide) ?_
                  refine WL.nil ?_
                  refine WK.nThen ?_
                  have he38 : ((bwP (gapL d) (atL d m_) k3).set ((i : Int).toNat) ((Span.mk (max (((gt (bwP (gapL d) (atL d m_) k3) ((i : Int).toNat))).Lo) ((((gt (bwP (gapL d) (atL d m_) k3) ((i + 1 : Int).toNat))).Lo) - ((gapS d (i : Int).toNat).Hi))) (min (((gt (bwP (gapL d) (atL d m_) k3) ((i : Int).toNat))).Hi) ((((gt (bwP (gapL d) (atL d m_) k3) ((i + 1 : Int).toNat))).Hi) - ((gapS d (i : Int).toNat).Lo)))))) = (bwP (gapL d) (atL d m_) ((k3 + 1))) := (by rw [hix, ← hga]; exact bwP_step (by omega) (by omega))
                  rw [he38]
                  refine WK.next ((i - 1, k3 + 1)) rfl (.cons _ (.refl _)) (.cons rfl (.cons rfl (.cons rfl (.cons rfl .nil)))) ?_ ?_
                  · exact ⟨by omega, by omega⟩
                  · (dsimp only; omega)
                · refine WL.nil ?_
                  refine WK.nThen ?_
                  refine WC.condF rfl ?_
                  refine WC.exit ?_
                  refine WK.eThen ?_
                  refine WK.eThen ?_
                  refine WK.eHit ?_
                  refine WK.nThen ?_
                  refine WC.seq ?_
                  refine WC.seq ?_
                  have hsl := setD_len d m_
                  refine WC.region ?_
                  refine WL.x (X.assign rfl) (by decide) ?_
                  refine WL.nil ?_
                  refine WK.nThen ?_
                  refine WC.block ?_
                  have he39 : (bwP (gapL d) (atL d m_) k3) = (setD d m_) := (by rw [show k3 = (gapL d).length by omega]; exact (bwP_last ⟨gapL d, atL d m_⟩ _).trans (setL_clock _ _))
                  rw [he39]
                  refine WC.loop (G := Nat) (fun k4 => d.Rates.length + 1 - k4) (fun k4 => m) (fun k4 => [rowF (v8) 31 (setD d m_), blk b7 25 [v1, v3]]) (fun k4 => [(6, .int .i64 (↑d.Rates.length + 1)), (7, v8), (15, .int .i64 (↑k4))]) (fun k4 => k4 ≤ d.Rates.length + 1 ∧ (∀ j, j < k4 → ¬ (gt (setD d m_) j).Hi < (gt (setD d m_) j).Lo)) 0 rfl (.refl _) (.cons rfl (.cons rfl (.cons rfl .nil))) ?_ ?_
                  · exact ⟨Nat.zero_le _, fun j hj => absurd hj (Nat.not_lt_zero _)⟩
                  · rintro k4 hF40
                    show WK _ _ m [rowF (v8) 31 (setD d m_), blk b7 25 [v1, v3]] [(6, .int .i64 (↑d.Rates.length + 1)), (7, v8), (15, .int .i64 (↑k4))] _
                    replace hF40 : k4 ≤ d.Rates.length + 1 ∧ (∀ j, j < k4 → ¬ (gt (setD d m_) j).Hi < (gt (setD d m_) j).Lo) := hF40
                    obtain ⟨hk4, hall⟩ := hF40
                    refine WC.seq ?_
                    refine WC.seq ?_
                    refine WC.region ?_
                    refine WL.x (X.move rfl) (by decide) ?_
                    refine WL.x (X.move rfl) (by decide) ?_
                    refine WL.cond (X.lss rfl rfl) (by decide) (fun h41 => ?_) (fun h41 => ?_)
                    · refine WL.nil ?_
                      refine WK.nThen ?_
                      refine WC.condT rfl ?_
                      refine WC.skip ?_
                      refine WK.nThen ?_
                      refine WC.seq ?_
                      refine WC.block ?_
                      refine WC.seq ?_
                      refine WC.draw (π := (.cons 0 (.cons 1 (.cons 2 (.cons 3 (.cons 4 (.cons 5 (.cons 6 (.cons 7 (.cons 8 (.cons 9 (.cons 10 .done)))))))))))) [] [] rfl (by kernel_rfl) ?_
                      refine DW.x rfl rfl (X.move rfl) (by decide) ?_
                      refine DW.x rfl rfl (X.move rfl) (by decide) ?_
                      refine DW.x rfl rfl (X.idxRowE (k := 0) k4 Try.runUnderlying22 Try.sizeOf31 rfl rfl rfl (by omega) (by first | omega | (simp; omega) | simp)) (by decide) ?_
                      refine DW.x rfl rfl (X.field Try.runUnderlying31 rfl Try.sizeOf3 rfl) (by decide) ?_
                      refine DW.x rfl rfl (X.loadFp (k := 0) (i := k4) (off := 0) (u := .int .i64 (((gt (setD d m_) k4)).Lo)) Try.isAgg3 rfl rfl (by first | omega | (simp; omega) | simp) rfl) (by decide) ?_
                      refine DW.x rfl rfl (X.move rfl) (by decide) ?_
                      refine DW.x rfl rfl (X.move rfl) (by decide) ?_
                      refine DW.x rfl rfl (X.idxRowE (k := 0) k4 Try.runUnderlying22 Try.sizeOf31 rfl rfl rfl (by omega) (by first | omega | (simp; omega) | simp)) (by decide) ?_
                      refine DW.x rfl rfl (X.field Try.runUnderlying31 rfl Try.sizeOf3 rfl) (by decide) ?_
                      refine DW.x rfl rfl (X.loadFp (k := 0) (i := k4) (off := 1) (u := .int .i64 (((gt (setD d m_) k4)).Hi)) Try.isAgg3 rfl rfl (by first | omega | (simp; omega) | simp) rfl) (by decide) ?_
                      refine DW.cond rfl rfl (X.gtr rfl rfl) (by decide) (fun h42 => ?_) (fun h42 => ?_)
                      · refine DW.nil ?_
                        refine WK.nThen ?_
                        refine WC.condT rfl ?_
                        refine WC.seq ?_
                        refine WC.region ?_
                        refine WL.x (X.assign rfl) (by decide) ?_
                        refine WL.x (X.assign rfl) (by decide) ?_
                        refine WL.nil ?_
                        refine WK.nThen ?_
                        refine WC.ret ?_
                        refine WK.rBlock ?_
                        refine WK.rThen ?_
                        refine WK.rThen ?_
                        refine WK.rBlock ?_
                        refine WK.rThen ?_
                        refine WK.ret2 rfl rfl rfl (fun w' hw' => Ret.mem hw' ?_)
                        (have hno : ¬ okD d m_ := fun h_ => okD_all.1 h_ k4 (by omega) (by assumption))
                        exact ⟨_, by rw [spR_no hno], by rw [spR_no hno]; exact .nil⟩
                      · refine DW.nil ?_
                        refine WK.nThen ?_
                        refine WC.condF rfl ?_
                        refine WC.skip ?_
                        refine WK.nBlock ?_
                        refine WK.nThen ?_
                        refine WC.region ?_
                        refine WL.x (X.move rfl) (by decide) ?_
                        refine WL.x (X.add rfl rfl (by omega) (by omega)) (by decide) ?_
                        refine WL.x (X.assign rfl) (by decide) ?_
                        refine WL.nil ?_
                        refine WK.nThen ?_
                        refine WK.next (k4 + 1) rfl (.refl _) (.cons rfl (.cons rfl (.cons rfl .nil))) ?_ ?_
                        · exact ⟨by omega, fun j hj => by rcases Nat.lt_succ_iff_lt_or_eq.1 hj with h | h; exact hall j h; subst h; assumption⟩
                        · omega
                    · refine WL.nil ?_
                      refine WK.nThen ?_
                      refine WC.condF rfl ?_
                      refine WC.exit ?_
                      refine WK.eThen ?_
                      refine WK.eThen ?_
                      refine WK.eHit ?_
                      refine WK.nThen ?_
                      refine WC.seq ?_
                      have hok : okD d m_ := okD_all.2 (fun j hj => hall j (by omega))
                      refine WC.region ?_
                      refine WL.x (X.move rfl) (by decide) ?_
                      refine WL.x (X.assign rfl) (by decide) ?_
                      refine WL.x (X.assign rfl) (by decide) ?_
                      refine WL.nil ?_
                      refine WK.nThen ?_
                      refine WC.ret ?_
                      refine WK.freezeF 0 rfl rfl (by rw [setD_len]; unfold lenB; omega) (fun m43 hle44 hs45 => ?_)
                      replace hs2 := hs2.mono hle44
                      replace hs4 := hs4.mono hle44
                      replace hm_ := hm_.mono hle44
                      refine WK.ret2 rfl rfl rfl (fun w' hw' => Ret.mem hw' ?_)
                      exact ⟨_, by rw [spR_yes hok], by rw [spR_yes hok]; exact hs45⟩

theorem with90 (m : Mem) (vm_ : Value) (m_ : List Mark) (hm_ : Sl m vm_ m_) (cx : List Value) (x : Mark) (hx : Enc.rd m cx x)  (hl : m_.length ≤ 1000) : Pure Try.prog 90 #[vm_, .agg cx.toArray] m (fun m' v => ∃ r0, v = r0 ∧ Sl m' r0 (m_ ++ [x])) := by
  have lm_ := hm_.le
  obtain rfl := hx
  refine Pure.start Try.func90 rfl Try.ntmps90 rfl fun wld => ?_
  refine WC.seq ?_
  refine WC.region ?_
  refine WL.tn (T.boxB rfl rfl) (by decide) fun b1 => ?_
  refine WL.x (X.assign rfl) (by decide) ?_
  refine WL.nil ?_
  refine WK.nThen ?_
  refine WC.cut (G := Mem × Value) (fun (m2, v7) => m2) (fun (m2, v7) => [rowF (v7) 33 (([] ++ m_) ++ [x]), blk b1 33 [.int .i64 (x.Column), .int .i64 (x.Ticks.Lo), .int .i64 (x.Ticks.Hi)]]) (fun (m2, v7) => [(4, v7)]) (fun (m2, v7) => m.le m2) ?_ ?_
  · refine WC.draw (π := (.cons 1 (.fork (.cons 0 (.fork (.cons 2 (.cons 3 (.cons 4 (.cons 5 (.cons 6 .done))))) (.cons 3 (.fork (.cons 2 (.cons 4 (.cons 5 (.cons 6 .done)))) (.cons 4 (.cons 2 (.cons 5 (.cons 6 .done)))))))) (.cons 3 (.fork (.cons 0 (.fork (.cons 2 (.cons 4 (.cons 5 (.cons 6 .done)))) (.cons 4 (.cons 2 (.cons 5 (.cons 6 .done)))))) (.cons 4 (.cons 0 (.cons 2 (.cons 5 (.cons 6 .done)))))))))) [0, 2, 3, 4, 5] [2, 5] rfl (by kernel_rfl) ?_
    refine DW.x rfl rfl (X.move rfl) (by decide) ?_
    refine DW.fork (List.cons_ne_nil _ _) ?_ ?_
    · refine DW.tO rfl rfl rfl (OpTo.taO (T.lit0 (α := Mark) sl26 rfl)) (by decide) (fun m4 Es_ v3 hle5 hR_ => ?_)
      subst hR_
      replace hm_ := hm_.mono hle5
      refine DW.fork (List.cons_ne_nil _ _) ?_ ?_
      · refine DW.ta rfl rfl rfl rfl (T.appendFl (α := Mark) (fun _ _ _ h => h) (k := 0) sl26 rfl rfl hm_ rfl (by first | omega | (simp; omega)) (by first | omega | (simp; omega))) (by decide) (fun v6 => ?_)
        refine DW.xp rfl rfl rfl (fun _ => (X.loadBA (k := 1) Try.isAgg33 Try.sizeOf33 rfl rfl rfl)) (by decide) ?_
        refine DW.tl rfl rfl rfl (T.lit1 sl26 rfl rfl rfl (by decide)) (by decide) fun b7 => ?_
        refine DW.ta rfl rfl rfl rfl (T.appendF (k := 0) (a := x) sl26 rfl rfl rfl rfl (by first | omega | (simp; done) | (simp; omega)) (by decide)) (by decide) (fun v8 => ?_)
        refine DW.x rfl rfl (X.assign rfl) (by decide) ?_
        refine DW.nil ?_
        refine WK.nThen ?_
        exact WK.meet (m4, v8) rfl (.refl _) (.cons rfl .nil) hle5
      · refine DW.xp rfl rfl rfl (fun _ => (X.loadBA (k := 1) Try.isAgg33 Try.sizeOf33 rfl rfl rfl)) (by decide) ?_
        refine DW.fork (List.cons_ne_nil _ _) ?_ ?_
        · refine DW.ta rfl rfl rfl rfl (T.appendFl (α := Mark) (fun _ _ _ h => h) (k := 0) sl26 rfl rfl hm_ rfl (by first | omega | (simp; omega)) (by first | omega | (simp; omega))) (by decide) (fun v9 => ?_)
          refine DW.tl rfl rfl rfl (T.lit1 sl26 rfl rfl rfl (by decide)) (by decide) fun b10 => ?_
          refine DW.ta rfl rfl rfl rfl (T.appendF (k := 0) (a := x) sl26 rfl rfl rfl rfl (by first | omega | (simp; done) | (simp; omega)) (by decide)) (by decide) (fun v11 => ?_)
          refine DW.x rfl rfl (X.assign rfl) (by decide) ?_
          refine DW.nil ?_
          refine WK.nThen ?_
          exact WK.meet (m4, v11) rfl (.refl _) (.cons rfl .nil) hle5
        · refine DW.tl rfl rfl rfl (T.lit1 sl26 rfl rfl rfl (by decide)) (by decide) fun b12 => ?_
          refine DW.ta rfl rfl rfl rfl (T.appendFl (α := Mark) (fun _ _ _ h => h) (k := 1) sl26 rfl rfl hm_ rfl (by first | omega | (simp; omega)) (by first | omega | (simp; omega))) (by decide) (fun v13 => ?_)
          refine DW.ta rfl rfl rfl rfl (T.appendF (k := 0) (a := x) sl26 rfl rfl rfl rfl (by first | omega | (simp; done) | (simp; omega)) (by decide)) (by decide) (fun v14 => ?_)
          refine DW.x rfl rfl (X.assign rfl) (by decide) ?_
          refine DW.nil ?_
          refine WK.nThen ?_
          exact WK.meet (m4, v14) rfl (.refl _) (.cons rfl .nil) hle5
    · refine DW.xp rfl rfl rfl (fun _ => (X.loadBA (k := 0) Try.isAgg33 Try.sizeOf33 rfl rfl rfl)) (by decide) ?_
      refine DW.fork (List.cons_ne_nil _ _) ?_ ?_
      · refine DW.tO rfl rfl rfl (OpTo.taO (T.lit0 (α := Mark) sl26 rfl)) (by decide) (fun m16 Es_ v15 hle17 hR_ => ?_)
        subst hR_
        replace hm_ := hm_.mono hle17
        refine DW.fork (List.cons_ne_nil _ _) ?_ ?_
        · refine DW.ta rfl rfl rfl rfl (T.appendFl (α := Mark) (fun _ _ _ h => h) (k := 0) sl26 rfl rfl hm_ rfl (by first | omega | (simp; omega)) (by first | omega | (simp; omega))) (by decide) (fun v18 => ?_)
          refine DW.tl rfl rfl rfl (T.lit1 sl26 rfl rfl rfl (by decide)) (by decide) fun b19 => ?_
          refine DW.ta rfl rfl rfl rfl (T.appendF (k := 0) (a := x) sl26 rfl rfl rfl rfl (by first | omega | (simp; done) | (simp; omega)) (by decide)) (by decide) (fun v20 => ?_)
          refine DW.x rfl rfl (X.assign rfl) (by decide) ?_
          refine DW.nil ?_
          refine WK.nThen ?_
          exact WK.meet (m16, v20) rfl (.refl _) (.cons rfl .nil) hle17
        · refine DW.tl rfl rfl rfl (T.lit1 sl26 rfl rfl rfl (by decide)) (by decide) fun b21 => ?_
          refine DW.ta rfl rfl rfl rfl (T.appendFl (α := Mark) (fun _ _ _ h => h) (k := 1) sl26 rfl rfl hm_ rfl (by first | omega | (simp; omega)) (by first | omega | (simp; omega))) (by decide) (fun v22 => ?_)
          refine DW.ta rfl rfl rfl rfl (T.appendF (k := 0) (a := x) sl26 rfl rfl rfl rfl (by first | omega | (simp; done) | (simp; omega)) (by decide)) (by decide) (fun v23 => ?_)
          refine DW.x rfl rfl (X.assign rfl) (by decide) ?_
          refine DW.nil ?_
          refine WK.nThen ?_
          exact WK.meet (m16, v23) rfl (.refl _) (.cons rfl .nil) hle17
      · refine DW.tl rfl rfl rfl (T.lit1 sl26 rfl rfl rfl (by decide)) (by decide) fun b24 => ?_
        refine DW.tO rfl rfl rfl (OpTo.taO (T.lit0 (α := Mark) sl26 rfl)) (by decide) (fun m26 Es_ v25 hle27 hR_ => ?_)
        subst hR_
        replace hm_ := hm_.mono hle27
        refine DW.ta rfl rfl rfl rfl (T.appendFl (α := Mark) (fun _ _ _ h => h) (k := 0) sl26 rfl rfl hm_ rfl (by first | omega | (simp; omega)) (by first | omega | (simp; omega))) (by decide) (fun v28 => ?_)
        refine DW.ta rfl rfl rfl rfl (OpTo.perm (H' := [blk b24 33 [.int .i64 (x.Column), .int .i64 (x.Ticks.Lo), .int .i64 (x.Ticks.Hi)], rowF (v28) 33 ([] ++ m_), blk b1 33 [.int .i64 (x.Column), .int .i64 (x.Ticks.Lo), .int .i64 (x.Ticks.Hi)]]) (List.perm_middle (l₁ := [rowF (v28) 33 ([] ++ m_)]) (l₂ := [blk b1 33 [.int .i64 (x.Column), .int .i64 (x.Ticks.Lo), .int .i64 (x.Ticks.Hi)]]) (a := blk b24 33 [.int .i64 (x.Column), .int .i64 (x.Ticks.Lo), .int .i64 (x.Ticks.Hi)])).symm (T.appendF (k := 0) (a := x) sl26 rfl rfl rfl rfl (by first | omega | (simp; done) | (simp; omega)) (by decide))) (by decide) (fun v29 => ?_)
        refine DW.x rfl rfl (X.assign rfl) (by decide) ?_
        refine DW.nil ?_
        refine WK.nThen ?_
        exact WK.meet (m26, v29) rfl (.refl _) (.cons rfl .nil) hle27
  · rintro ⟨m2, v7⟩ hle30
    show WK _ _ m2 [rowF (v7) 33 (([] ++ m_) ++ [x]), blk b1 33 [.int .i64 (x.Column), .int .i64 (x.Ticks.Lo), .int .i64 (x.Ticks.Hi)]] [(4, v7)] _
    replace hm_ := hm_.mono hle30
    refine WC.ret ?_
    refine WK.freezeF 0 rfl rfl (by simp [lenB]; omega) (fun m31 hle32 hs33 => ?_)
    replace hm_ := hm_.mono hle32
    refine WK.ret1 rfl rfl (fun w' hw' => Ret.mem hw' ?_)
    exact ⟨_, rfl, hs33⟩

theorem ends86 (m : Mem) (vl : Value) (l : List Span) (hl : Sl m vl l) (late : Bool)  (hp1 : l.length ≤ 1000) : Pure Try.prog 86 #[vl, .bool (late)] m (fun m' v => ∃ r0, v = r0 ∧ Sl m' r0 (endL l late)) := by
  have ll := hl.le
  refine Pure.start Try.func86 rfl Try.ntmps86 rfl fun wld => ?_
  refine WC.seq ?_
  refine WC.region ?_
  refine WL.x (X.assign rfl) (by decide) ?_
  refine WL.nil ?_
  refine WK.nThen ?_
  refine WC.seq ?_
  refine WK.ownF Int 3 ?_
  refine WC.region ?_
  refine WL.x (X.assign rfl) (by decide) ?_
  refine WL.nil ?_
  refine WK.nThen ?_
  refine WC.seq ?_
  refine WC.seq ?_
  refine WC.region ?_
  refine WL.x (X.assign rfl) (by decide) ?_
  refine WL.nil ?_
  refine WK.nThen ?_
  refine WC.block ?_
  refine WC.loop (G := Nat × Value) (fun (k, vo) => l.length - k) (fun (k, vo) => m) (fun (k, vo) => [rowF (vo) 3 ((List.range k).map (fun i => if late = true then (gt l i).Hi else (gt l i).Lo))]) (fun (k, vo) => [(0, vl), (1, .bool (late)), (5, vo), (6, .int .i64 (↑k))]) (fun (k, vo) => k ≤ l.length) ((0, Value.slice none 0 0)) rfl (.refl _) (.cons rfl (.cons rfl (.cons rfl (.cons rfl .nil)))) ?_ ?_
  · exact Nat.zero_le _
  · rintro ⟨k, vo⟩ hF1
    show WK _ _ m [rowF (vo) 3 ((List.range k).map (fun i => if late = true then (gt l i).Hi else (gt l i).Lo))] [(0, vl), (1, .bool (late)), (5, vo), (6, .int .i64 (↑k))] _
    replace hF1 : k ≤ l.length := hF1
    have hk := hF1
    refine WC.seq ?_
    refine WC.seq ?_
    refine WC.region ?_
    refine WL.x (X.move rfl) (by decide) ?_
    refine WL.x (X.move rfl) (by decide) ?_
    refine WL.x (X.len Try.runUnderlying22 rfl hl) (by decide) ?_
    refine WL.cond (X.lss rfl rfl) (by decide) (fun h2 => ?_) (fun h2 => ?_)
    · refine WL.nil ?_
      refine WK.nThen ?_
      refine WC.condT rfl ?_
      refine WC.skip ?_
      refine WK.nThen ?_
      refine WC.seq ?_
      refine WC.block ?_
      refine WC.seq ?_
      refine WC.region ?_
      refine WL.x (X.move rfl) (by decide) ?_
      refine WL.nil ?_
      refine WK.nThen ?_
      refine WC.condb rfl (fun h3 => ?_) (fun h3 => ?_)
      · refine WC.region ?_
        refine WL.x (X.move rfl) (by decide) ?_
        refine WL.x (X.move rfl) (by decide) ?_
        refine WL.x (X.move rfl) (by decide) ?_
        refine WL.xe (E.idxN k Try.runUnderlying22 Try.sizeOf31 rfl rfl hl (by omega)) (by decide) (fun p4 hp5 => ?_)
        have hp6 := At.Span_1 hp5
        refine WL.x (X.field Try.runUnderlying31 rfl Try.sizeOf3 rfl) (by decide) ?_
        refine WL.x (X.loadInt Try.isAgg3 rfl hp6) (by decide) ?_
        refine WL.tl (T.lit1 sl29 rfl rfl rfl (by decide)) (by decide) fun b7 => ?_
        refine WL.ta (T.appendF (k := 0) (a := (gt l k).Hi) sl29 rfl rfl rfl rfl (by first | omega | (simp; done) | (simp; omega)) (by decide)) (by decide) (fun v8 => ?_)
        refine WL.x (X.assign rfl) (by decide) ?_
        refine WL.nil ?_
        refine WK.nBlock ?_
        refine WK.nThen ?_
        refine WC.region ?_
        refine WL.x (X.move rfl) (by decide) ?_
        refine WL.x (X.add rfl rfl (by omega) (by omega)) (by decide) ?_
        refine WL.x (X.assign rfl) (by decide) ?_
        refine WL.nil ?_
        refine WK.nThen ?_
        have he9 : (((List.range k).map (fun i => if late = true then (gt l i).Hi else (gt l i).Lo)) ++ [(gt l k).Hi]) = ((List.range (k + 1)).map (fun i => if late = true then (gt l i).Hi else (gt l i).Lo)) := (by first | (rw [← map_succ2, if_pos (by assumption)]) | (rw [← map_succ2, if_neg (by simp_all)]))
        rw [he9]
        refine WK.next ((k + 1, v8)) rfl (.refl _) (.cons rfl (.cons rfl (.cons rfl (.cons rfl .nil)))) ?_ ?_
        · omega
        · (dsimp only; omega)
      · refine WC.region ?_
        refine WL.x (X.move rfl) (by decide) ?_
        refine WL.x (X.move rfl) (by decide) ?_
        refine WL.x (X.move rfl) (by decide) ?_
        refine WL.xe (E.idxN k Try.runUnderlying22 Try.sizeOf31 rfl rfl hl (by omega)) (by decide) (fun p10 hp11 => ?_)
        have hp12 := At.Span_0 hp11
        refine WL.x (X.field Try.runUnderlying31 rfl Try.sizeOf3 rfl) (by decide) ?_
        refine WL.x (X.loadInt Try.isAgg3 rfl hp12) (by decide) ?_
        refine WL.tl (T.lit1 sl29 rfl rfl rfl (by decide)) (by decide) fun b13 => ?_
        refine WL.ta (T.appendF (k := 0) (a := (gt l k).Lo) sl29 rfl rfl rfl rfl (by first | omega | (simp; done) | (simp; omega)) (by decide)) (by decide) (fun v14 => ?_)
        refine WL.x (X.assign rfl) (by decide) ?_
        refine WL.nil ?_
        refine WK.nBlock ?_
        refine WK.nThen ?_
        refine WC.region ?_
        refine WL.x (X.move rfl) (by decide) ?_
        refine WL.x (X.add rfl rfl (by omega) (by omega)) (by decide) ?_
        refine WL.x (X.assign rfl) (by decide) ?_
        refine WL.nil ?_
        refine WK.nThen ?_
        have he15 : (((List.range k).map (fun i => if late = true then (gt l i).Hi else (gt l i).Lo)) ++ [(gt l k).Lo]) = ((List.range (k + 1)).map (fun i => if late = true then (gt l i).Hi else (gt l i).Lo)) := (by first | (rw [← map_succ2, if_pos (by assumption)]) | (rw [← map_succ2, if_neg (by simp_all)]))
        rw [he15]
        refine WK.next ((k + 1, v14)) rfl (.refl _) (.cons rfl (.cons rfl (.cons rfl (.cons rfl .nil)))) ?_ ?_
        · omega
        · (dsimp only; omega)
    · refine WL.nil ?_
      refine WK.nThen ?_
      refine WC.condF rfl ?_
      refine WC.exit ?_
      refine WK.eThen ?_
      refine WK.eThen ?_
      refine WK.eHit ?_
      refine WK.nThen ?_
      refine WC.seq ?_
      obtain rfl : k = l.length := (by omega)
      have hee : endL l late = (List.range l.length).map (fun i => if late = true then (gt l i).Hi else (gt l i).Lo) := (by unfold endL; split <;> rfl)
      refine WC.region ?_
      refine WL.x (X.move rfl) (by decide) ?_
      refine WL.x (X.assign rfl) (by decide) ?_
      refine WL.nil ?_
      refine WK.nThen ?_
      refine WC.ret ?_
      refine WK.freezeF 0 rfl rfl (by simp [lenB]; omega) (fun m16 hle17 hs18 => ?_)
      replace hl := hl.mono hle17
      refine WK.ret1 rfl rfl (fun w' hw' => Ret.mem hw' ?_)
      exact ⟨_, rfl, by rw [hee]; exact hs18⟩

theorem passed85 (m : Mem) (vl : Value) (l : List Int) (hl : Sl m vl l) (t : Int)   : Exact Try.prog 85 #[vl, .int .i64 (t)] m (.int .i64 (pasS l t)) := by
  have ll := hl.le
  refine Exact.start Try.func85 rfl Try.ntmps85 rfl fun wld => ?_
  refine WC.seq ?_
  refine WC.region ?_
  refine WL.x (X.assign rfl) (by decide) ?_
  refine WL.nil ?_
  refine WK.nThen ?_
  refine WC.seq ?_
  refine WC.region ?_
  refine WL.x (X.assign rfl) (by decide) ?_
  refine WL.nil ?_
  refine WK.nThen ?_
  refine WC.seq ?_
  refine WC.seq ?_
  refine WC.region ?_
  refine WL.x (X.assign rfl) (by decide) ?_
  refine WL.nil ?_
  refine WK.nThen ?_
  refine WC.block ?_
  refine WC.loop (G := Nat × Int) (fun (k, o) => l.length - k) (fun (k, o) => m) (fun (k, o) => []) (fun (k, o) => [(0, vl), (1, .int .i64 (t)), (5, .int .i64 (o)), (6, .int .i64 (↑k))]) (fun (k, o) => k ≤ l.length ∧ o = (cntN l t k : Int) - 1) ((0, (-1))) rfl (.refl _) (.cons rfl (.cons rfl (.cons rfl (.cons rfl .nil)))) ?_ ?_
  · exact ⟨Nat.zero_le _, rfl⟩
  · rintro ⟨k, o⟩ hF1
    show WK _ _ m [] [(0, vl), (1, .int .i64 (t)), (5, .int .i64 (o)), (6, .int .i64 (↑k))] _
    replace hF1 : k ≤ l.length ∧ o = (cntN l t k : Int) - 1 := hF1
    obtain ⟨hk, ho⟩ := hF1
    refine WC.seq ?_
    refine WC.seq ?_
    refine WC.region ?_
    refine WL.x (X.move rfl) (by decide) ?_
    refine WL.x (X.move rfl) (by decide) ?_
    refine WL.x (X.len Try.runUnderlying29 rfl hl) (by decide) ?_
    refine WL.cond (X.lss rfl rfl) (by decide) (fun h2 => ?_) (fun h2 => ?_)
    · refine WL.nil ?_
      refine WK.nThen ?_
      refine WC.condT rfl ?_
      refine WC.skip ?_
      refine WK.nThen ?_
      refine WC.seq ?_
      refine WC.block ?_
      refine WC.seq ?_
      refine WC.region ?_
      refine WL.x (X.move rfl) (by decide) ?_
      refine WL.x (X.move rfl) (by decide) ?_
      refine WL.xe (E.idxN k Try.runUnderlying29 Try.sizeOf3 rfl rfl hl (by omega)) (by decide) (fun p3 hp4 => ?_)
      refine WL.x (X.loadInt Try.isAgg3 rfl hp4) (by decide) ?_
      refine WL.x (X.move rfl) (by decide) ?_
      refine WL.cond (X.leq rfl rfl) (by decide) (fun h5 => ?_) (fun h5 => ?_)
      · refine WL.nil ?_
        refine WK.nThen ?_
        refine WC.condT rfl ?_
        refine WC.region ?_
        refine WL.x (X.move rfl) (by decide) ?_
        refine WL.x (X.assign rfl) (by decide) ?_
        refine WL.nil ?_
        refine WK.nBlock ?_
        refine WK.nThen ?_
        refine WC.region ?_
        refine WL.x (X.move rfl) (by decide) ?_
        refine WL.x (X.add rfl rfl (by omega) (by omega)) (by decide) ?_
        refine WL.x (X.assign rfl) (by decide) ?_
        refine WL.nil ?_
        refine WK.nThen ?_
        refine WK.next ((k + 1, ↑k)) rfl (.refl _) (.cons rfl (.cons rfl (.cons rfl (.cons rfl .nil)))) ?_ ?_
        · exact ⟨by omega, by rw [cntN]; first | (rw [if_pos (by assumption)]; omega) | (rw [if_neg (by assumption)]; omega)⟩
        · (dsimp only; omega)
      · refine WL.nil ?_
        refine WK.nThen ?_
        refine WC.condF rfl ?_
        refine WC.skip ?_
        refine WK.nBlock ?_
        refine WK.nThen ?_
        refine WC.region ?_
        refine WL.x (X.move rfl) (by decide) ?_
        refine WL.x (X.add rfl rfl (by omega) (by omega)) (by decide) ?_
        refine WL.x (X.assign rfl) (by decide) ?_
        refine WL.nil ?_
        refine WK.nThen ?_
        refine WK.next ((k + 1, o)) rfl (.refl _) (.cons rfl (.cons rfl (.cons rfl (.cons rfl .nil)))) ?_ ?_
        · exact ⟨by omega, by rw [cntN]; first | (rw [if_pos (by assumption)]; omega) | (rw [if_neg (by assumption)]; omega)⟩
        · (dsimp only; omega)
    · refine WL.nil ?_
      refine WK.nThen ?_
      refine WC.condF rfl ?_
      refine WC.exit ?_
      refine WK.eThen ?_
      refine WK.eThen ?_
      refine WK.eHit ?_
      refine WK.nThen ?_
      refine WC.seq ?_
      obtain rfl : k = l.length := (by omega)
      refine WC.region ?_
      refine WL.x (X.move rfl) (by decide) ?_
      refine WL.x (X.assign rfl) (by decide) ?_
      refine WL.nil ?_
      refine WK.nThen ?_
      refine WC.ret ?_
      refine WK.ret1 rfl rfl (fun w' hw' => Ret.exact hw' ?_)
      exact int_eq ho

theorem columns77 (m : Mem) (cd : List Value) (d : Drum) (hd : Enc.rd m cd d) (vm_ : Value) (m_ : List Mark) (hm_ : Sl m vm_ m_) (a : Int) (b : Int)   : Exact Try.prog 77 #[.agg cd.toArray, vm_, .int .i64 (a), .int .i64 (b)] m (.int .i64 (colE d m_ a b)) := by
  obtain ⟨v1, v3, rfl, hs2, hs4⟩ := hd
  have hl5 := hs2.le
  have hl6 := hs4.le
  have lm_ := hm_.le
  have hce := chkE_cases d m_
  refine Exact.start Try.func77 rfl Try.ntmps77 rfl fun wld => ?_
  refine WC.seq ?_
  refine WC.region ?_
  refine WL.tn (T.boxB rfl rfl) (by decide) fun b7 => ?_
  refine WL.x (X.assign rfl) (by decide) ?_
  refine WL.nil ?_
  refine WK.nThen ?_
  refine WC.seq ?_
  refine WC.region ?_
  refine WL.x (X.loadBA (k := 0) Try.isAgg25 Try.sizeOf25 rfl rfl rfl) (by decide) ?_
  refine WL.x (X.move rfl) (by decide) ?_
  refine WL.x (X.call Try.call83 rfl (asked83 _ _ d ⟨_, _, rfl, hs2, hs4⟩ _ _ hm_ )) (by decide) ?_
  refine WL.x (X.assign rfl) (by decide) ?_
  refine WL.nil ?_
  refine WK.nThen ?_
  refine WC.seq ?_
  refine WC.seq ?_
  refine WC.region ?_
  refine WL.x (X.move rfl) (by decide) ?_
  refine WL.cond (X.eql rfl rfl) (by decide) (fun h8 => ?_) (fun h8 => ?_)
  · refine WL.x (X.move rfl) (by decide) ?_
    refine WL.yes rfl rfl ?_
    refine WL.x (X.move rfl) (by decide) ?_
    refine WL.yes rfl rfl ?_
    refine WL.x (X.field Try.runUnderlying25 rfl Try.sizeOf22 rfl) (by decide) ?_
    refine WL.yes rfl rfl ?_
    refine WL.x (X.loadB (k := 0) Try.isAgg22 rfl rfl rfl) (by decide) ?_
    refine WL.yes rfl rfl ?_
    refine WL.x (X.len Try.runUnderlying22 rfl hs2) (by decide) ?_
    refine WL.yes rfl rfl ?_
    refine WL.cond (X.call Try.call84 rfl (within84 _ _ _ _ )) (by decide) (fun h9 => ?_) (fun h9 => ?_)
    · refine WL.yes rfl rfl ?_
      refine WL.x (X.not rfl) (by decide) ?_
      refine WL.yes rfl rfl ?_
      refine WL.x (X.move rfl) (by decide) ?_
      refine WL.yes rfl rfl ?_
      refine WL.x (X.move rfl) (by decide) ?_
      refine WL.yes rfl rfl ?_
      refine WL.x (X.field Try.runUnderlying25 rfl Try.sizeOf22 rfl) (by decide) ?_
      refine WL.yes rfl rfl ?_
      refine WL.x (X.loadB (k := 0) Try.isAgg22 rfl rfl rfl) (by decide) ?_
      refine WL.yes rfl rfl ?_
      refine WL.x (X.len Try.runUnderlying22 rfl hs2) (by decide) ?_
      refine WL.yes rfl rfl ?_
      refine WL.cond (X.call Try.call84 rfl (within84 _ _ _ _ )) (by decide) (fun h10 => ?_) (fun h10 => ?_)
      · refine WL.yes rfl rfl ?_
        refine WL.x (X.not rfl) (by decide) ?_
        refine WL.yes rfl rfl ?_
        refine WL.x (X.pickF rfl rfl rfl) (by decide) ?_
        refine WL.x (X.pickT rfl rfl rfl) (by decide) ?_
        refine WL.nil ?_
        refine WK.nThen ?_
        refine WC.condF rfl ?_
        refine WC.skip ?_
        refine WK.nThen ?_
        refine WC.seq ?_
        refine WC.region ?_
        refine WL.x (X.move rfl) (by decide) ?_
        refine WL.x (X.assign rfl) (by decide) ?_
        refine WL.nil ?_
        refine WK.nThen ?_
        refine WC.ret ?_
        refine WK.ret1 rfl rfl (fun w' hw' => Ret.exact hw' ?_)
        first | exact int_eq (colE_arg (by omega) (by omega)).symm | exact int_eq (colE_bad (by omega)).symm | exact int_eq ((by omega : chkE d m_ = 0).trans (colE_ok (by omega) (by omega)).symm)
      · refine WL.yes rfl rfl ?_
        refine WL.x (X.not rfl) (by decide) ?_
        refine WL.yes rfl rfl ?_
        refine WL.x (X.pickF rfl rfl rfl) (by decide) ?_
        refine WL.x (X.pickT rfl rfl rfl) (by decide) ?_
        refine WL.nil ?_
        refine WK.nThen ?_
        refine WC.condT rfl ?_
        refine WC.seq ?_
        refine WC.region ?_
        refine WL.x (X.assign rfl) (by decide) ?_
        refine WL.nil ?_
        refine WK.nThen ?_
        refine WC.ret ?_
        refine WK.rThen ?_
        refine WK.ret1 rfl rfl (fun w' hw' => Ret.exact hw' ?_)
        first | exact int_eq (colE_arg (by omega) (by omega)).symm | exact int_eq (colE_bad (by omega)).symm | exact int_eq ((by omega : chkE d m_ = 0).trans (colE_ok (by omega) (by omega)).symm)
    · refine WL.yes rfl rfl ?_
      refine WL.x (X.not rfl) (by decide) ?_
      refine WL.yes rfl rfl ?_
      refine WL.x (X.move rfl) (by decide) ?_
      refine WL.no rfl rfl rfl (by decide) ?_
      refine WL.no rfl rfl rfl (by decide) ?_
      refine WL.no rfl rfl rfl (by decide) ?_
      refine WL.no rfl rfl rfl (by decide) ?_
      refine WL.no rfl rfl rfl (by decide) ?_
      refine WL.no rfl rfl rfl (by decide) ?_
      refine WL.yes rfl rfl ?_
      refine WL.x (X.pickT rfl rfl rfl) (by decide) ?_
      refine WL.x (X.pickT rfl rfl rfl) (by decide) ?_
      refine WL.nil ?_
      refine WK.nThen ?_
      refine WC.condT rfl ?_
      refine WC.seq ?_
      refine WC.region ?_
      refine WL.x (X.assign rfl) (by decide) ?_
      refine WL.nil ?_
      refine WK.nThen ?_
      refine WC.ret ?_
      refine WK.rThen ?_
      refine WK.ret1 rfl rfl (fun w' hw' => Ret.exact hw' ?_)
      first | exact int_eq (colE_arg (by omega) (by omega)).symm | exact int_eq (colE_bad (by omega)).symm | exact int_eq ((by omega : chkE d m_ = 0).trans (colE_ok (by omega) (by omega)).symm)
  · refine WL.x (X.move rfl) (by decide) ?_
    refine WL.no rfl rfl rfl (by decide) ?_
    refine WL.no rfl rfl rfl (by decide) ?_
    refine WL.no rfl rfl rfl (by decide) ?_
    refine WL.no rfl rfl rfl (by decide) ?_
    refine WL.no rfl rfl rfl (by decide) ?_
    refine WL.no rfl rfl rfl (by decide) ?_
    refine WL.no rfl rfl rfl (by decide) ?_
    refine WL.noU rfl rfl (by decide) ?_
    refine WL.noU rfl rfl (by decide) ?_
    refine WL.noU rfl rfl (by decide) ?_
    refine WL.noU rfl rfl (by decide) ?_
    refine WL.noU rfl rfl (by decide) ?_
    refine WL.noU rfl rfl (by decide) ?_
    refine WL.no rfl rfl rfl (by decide) ?_
    refine WL.x (X.pickF rfl rfl rfl) (by decide) ?_
    refine WL.nil ?_
    refine WK.nThen ?_
    refine WC.condF rfl ?_
    refine WC.skip ?_
    refine WK.nThen ?_
    refine WC.seq ?_
    refine WC.region ?_
    refine WL.x (X.move rfl) (by decide) ?_
    refine WL.x (X.assign rfl) (by decide) ?_
    refine WL.nil ?_
    refine WK.nThen ?_
    refine WC.ret ?_
    refine WK.ret1 rfl rfl (fun w' hw' => Ret.exact hw' ?_)
    first | exact int_eq (colE_arg (by omega) (by omega)).symm | exact int_eq (colE_bad (by omega)).symm | exact int_eq ((by omega : chkE d m_ = 0).trans (colE_ok (by omega) (by omega)).symm)

theorem told78 (m : Mem) (cd : List Value) (d : Drum) (hd : Enc.rd m cd d) (vm_ : Value) (m_ : List Mark) (hm_ : Sl m vm_ m_)   : Pure Try.prog 78 #[.agg cd.toArray, vm_] m (fun m' v => ∃ r0, v = .tuple #[r0, .int .i64 ((tolR d m_).2)] ∧ Sl m' r0 ((tolR d m_).1)) := by
  obtain ⟨v1, v3, rfl, hs2, hs4⟩ := hd
  have hl5 := hs2.le
  have hl6 := hs4.le
  have lm_ := hm_.le
  refine Pure.start Try.func78 rfl Try.ntmps78 rfl fun wld => ?_
  refine WC.seq ?_
  refine WC.region ?_
  refine WL.tn (T.boxB rfl rfl) (by decide) fun b7 => ?_
  refine WL.x (X.assign rfl) (by decide) ?_
  refine WL.x (X.assign rfl) (by decide) ?_
  refine WL.nil ?_
  refine WK.nThen ?_
  refine WC.seq ?_
  refine WC.region ?_
  refine WL.x (X.loadBA (k := 0) Try.isAgg25 Try.sizeOf25 rfl rfl rfl) (by decide) ?_
  refine WL.x (X.move rfl) (by decide) ?_
  refine WL.x (X.call Try.call83 rfl (asked83 _ _ d ⟨_, _, rfl, hs2, hs4⟩ _ _ hm_ )) (by decide) ?_
  refine WL.x (X.assign rfl) (by decide) ?_
  refine WL.nil ?_
  refine WK.nThen ?_
  refine WC.seq ?_
  refine WC.seq ?_
  refine WC.region ?_
  refine WL.x (X.move rfl) (by decide) ?_
  refine WL.condn (X.neq rfl rfl) (by decide) (fun h8 => ?_) (fun h8 => ?_)
  · refine WL.nil ?_
    refine WK.nThen ?_
    refine WC.condT rfl ?_
    refine WC.seq ?_
    refine WC.region ?_
    refine WL.x (X.move rfl) (by decide) ?_
    refine WL.x (X.assign rfl) (by decide) ?_
    refine WL.x (X.assign rfl) (by decide) ?_
    refine WL.nil ?_
    refine WK.nThen ?_
    refine WC.ret ?_
    refine WK.rThen ?_
    refine WK.ret2 rfl rfl rfl (fun w' hw' => Ret.mem hw' ?_)
    first | exact ⟨_, tup2 rfl (int_eq (by rw [tolR_bad (by omega)])), by rw [tolR_bad (by omega)]; exact .nil⟩ | exact ⟨_, tup2 rfl (int_eq (by rw [tolR_no (by omega) hno])), by rw [tolR_no (by omega) hno]; exact .nil⟩ | exact ⟨_, tup2 rfl (int_eq (by rw [tolR_yes (by omega) hye.1])), by rw [tolR_yes (by omega) hye.1, ← hye.2]; exact .nil⟩
  · refine WL.nil ?_
    refine WK.nThen ?_
    refine WC.condF rfl ?_
    refine WC.skip ?_
    refine WK.nThen ?_
    refine WC.seq ?_
    have hok := Ok.of (d := d) (m := m_) (by omega)
    have hv := hok.val
    have hn_ := hok.n
    refine WC.region ?_
    refine WL.x (X.loadBA (k := 0) Try.isAgg25 Try.sizeOf25 rfl rfl rfl) (by decide) ?_
    refine WL.x (X.move rfl) (by decide) ?_
    refine WL.tm (T.call Try.call89 rfl (spans89 _ _ d ⟨_, _, rfl, hs2, hs4⟩ _ _ hm_ (by first | assumption | omega) (by first | assumption | omega))) (by decide) fun m9 r10 hle11 hR12 => ?_
    obtain ⟨v13, rfl, hs14⟩ := hR12
    replace hs2 := hs2.mono hle11
    replace hs4 := hs4.mono hle11
    replace hm_ := hm_.mono hle11
    have hl15 := hs14.le
    refine WL.x (X.move rfl) (by decide) ?_
    refine WL.x (X.extract rfl rfl) (by decide) ?_
    refine WL.x (X.extract rfl rfl) (by decide) ?_
    refine WL.x (X.assign rfl) (by decide) ?_
    refine WL.x (X.assign rfl) (by decide) ?_
    refine WL.nil ?_
    refine WK.nThen ?_
    refine WC.seq ?_
    refine WC.seq ?_
    refine WC.region ?_
    refine WL.x (X.move rfl) (by decide) ?_
    refine WL.condb (X.not rfl) (by decide) (fun h16 => ?_) (fun h16 => ?_)
    · refine WL.nil ?_
      refine WK.nThen ?_
      refine WC.condT rfl ?_
      refine WC.seq ?_
      have hno := spR_false (d := d) (m := m_) (by simp_all)
      refine WC.region ?_
      refine WL.x (X.assign rfl) (by decide) ?_
      refine WL.x (X.assign rfl) (by decide) ?_
      refine WL.nil ?_
      refine WK.nThen ?_
      refine WC.ret ?_
      refine WK.rThen ?_
      refine WK.ret2 rfl rfl rfl (fun w' hw' => Ret.mem hw' ?_)
      first | exact ⟨_, tup2 rfl (int_eq (by rw [tolR_bad (by omega)])), by rw [tolR_bad (by omega)]; exact .nil⟩ | exact ⟨_, tup2 rfl (int_eq (by rw [tolR_no (by omega) hno])), by rw [tolR_no (by omega) hno]; exact .nil⟩ | exact ⟨_, tup2 rfl (int_eq (by rw [tolR_yes (by omega) hye.1])), by rw [tolR_yes (by omega) hye.1, ← hye.2]; exact .nil⟩
    · refine WL.nil ?_
      refine WK.nThen ?_
      refine WC.condF rfl ?_
      refine WC.skip ?_
      refine WK.nThen ?_
      refine WC.seq ?_
      have hye := spR_true (d := d) (m := m_) (by simp_all)
      refine WC.region ?_
      refine WL.x (X.move rfl) (by decide) ?_
      refine WL.x (X.assign rfl) (by decide) ?_
      refine WL.x (X.assign rfl) (by decide) ?_
      refine WL.nil ?_
      refine WK.nThen ?_
      refine WC.ret ?_
      refine WK.ret2 rfl rfl rfl (fun w' hw' => Ret.mem hw' ?_)
      first | exact ⟨_, tup2 rfl (int_eq (by rw [tolR_bad (by omega)])), by rw [tolR_bad (by omega)]; exact hs14⟩ | exact ⟨_, tup2 rfl (int_eq (by rw [tolR_no (by omega) hno])), by rw [tolR_no (by omega) hno]; exact hs14⟩ | exact ⟨_, tup2 rfl (int_eq (by rw [tolR_yes (by omega) hye.1])), by rw [tolR_yes (by omega) hye.1, ← hye.2]; exact hs14⟩

end Go.Proofs.C2
