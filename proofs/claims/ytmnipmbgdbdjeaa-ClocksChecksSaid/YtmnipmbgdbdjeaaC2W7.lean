import Derived.Test.YtmnipmbgdbdjeaaC2W6
import Derived.Test.YtmnipmbgdbdjeaaC2Walk5
/- Clocks: walks, seventh part, by program. -/
namespace Go.Proofs.C2
open Go Go.Kx
set_option linter.unusedVariables false

theorem lowest93 (m : Mem) (num : Int) (den : Int)  (hn : -4000000000000000000 ≤ num ∧ num ≤ 4000000000000000000) (hd : 0 < den ∧ den ≤ 4000000000000000000) : Exact Try.prog 93 #[.int .i64 (num), .int .i64 (den)] m (.agg [.int .i64 ((lowR num den).Num), .int .i64 ((lowR num den).Den)].toArray) := by
  refine Exact.start Try.func93 rfl Try.ntmps93 rfl fun wld => ?_
  refine WC.seq ?_
  refine WC.region ?_
  refine WL.tn (T.alloc Try.zeroValue46 rfl) (by decide) fun b1 => ?_
  refine WL.nil ?_
  refine WK.nThen ?_
  refine WC.seq ?_
  refine WC.region ?_
  refine WL.x (X.move rfl) (by decide) ?_
  refine WL.x (X.move rfl) (by decide) ?_
  refine WL.x (X.neg rfl (by omega) (by omega)) (by decide) ?_
  refine WL.x (X.mx rfl rfl) (by decide) ?_
  refine WL.x (X.move rfl) (by decide) ?_
  refine WL.x (X.assign rfl) (by decide) ?_
  refine WL.x (X.assign rfl) (by decide) ?_
  refine WL.nil ?_
  refine WK.nThen ?_
  refine WC.seq ?_
  refine WC.block ?_
  refine WC.loop (G := Int × Int) (fun (x, y) => y.toNat) (fun (x, y) => m) (fun (x, y) => [blk b1 46 [.int .i64 (0), .int .i64 (0)]]) (fun (x, y) => [(0, .int .i64 (num)), (1, .int .i64 (den)), (4, .pointer (some ⟨b1, 0, none⟩)), (5, .int .i64 (x)), (6, .int .i64 (y))]) (fun (x, y) => (0 ≤ x ∧ x ≤ 4000000000000000000 ∧ 0 ≤ y ∧ y ≤ 4000000000000000000 ∧ (y = 0 → 0 < x)) ∧ Int.gcd x y = Int.gcd num den) ((max num (-num), den)) rfl (.refl _) (.cons rfl (.cons rfl (.cons rfl (.cons rfl (.cons rfl .nil))))) ?_ ?_
  · exact ⟨by omega, (by first | exact gcd_max _ _ | (rw [Int.zero_sub]; exact gcd_max _ _))⟩
  · rintro ⟨x, y⟩ hF2
    show WK _ _ m [blk b1 46 [.int .i64 (0), .int .i64 (0)]] [(0, .int .i64 (num)), (1, .int .i64 (den)), (4, .pointer (some ⟨b1, 0, none⟩)), (5, .int .i64 (x)), (6, .int .i64 (y))] _
    replace hF2 : (0 ≤ x ∧ x ≤ 4000000000000000000 ∧ 0 ≤ y ∧ y ≤ 4000000000000000000 ∧ (y = 0 → 0 < x)) ∧ Int.gcd x y = Int.gcd num den := hF2
    obtain ⟨hxy, hgc⟩ := hF2
    have hmod : 0 < y → 0 ≤ x % y ∧ x % y < y := fun h => emod_bd h
    refine WC.seq ?_
    refine WC.seq ?_
    refine WC.region ?_
    refine WL.x (X.move rfl) (by decide) ?_
    refine WL.cond (X.gtr rfl rfl) (by decide) (fun h3 => ?_) (fun h3 => ?_)
    · refine WL.nil ?_
      refine WK.nThen ?_
      refine WC.condT rfl ?_
      refine WC.skip ?_
      refine WK.nThen ?_
      refine WC.block ?_
      refine WC.draw (π := (.cons 0 (.cons 1 (.cons 2 (.cons 3 (.cons 4 (.cons 5 .done))))))) [] [] rfl (by kernel_rfl) ?_
      refine DW.x rfl rfl (X.move rfl) (by decide) ?_
      refine DW.x rfl rfl (X.move rfl) (by decide) ?_
      refine DW.x rfl rfl (X.move rfl) (by decide) ?_
      refine DW.x rfl rfl (X.rem rfl rfl (by omega) (by omega)) (by decide) ?_
      refine DW.x rfl rfl (X.assign rfl) (by decide) ?_
      refine DW.x rfl rfl (X.assign rfl) (by decide) ?_
      refine DW.nil ?_
      refine WK.nBlock ?_
      refine WK.nThen ?_
      refine WK.next ((y, x % y)) rfl (.refl _) (.cons rfl (.cons rfl (.cons rfl (.cons rfl (.cons rfl .nil))))) ?_ ?_
      · exact ⟨by have := hmod (by omega); omega, by rw [gcd_rem]; exact hgc⟩
      · (dsimp only; have := hmod (by omega); omega)
    · refine WL.nil ?_
      refine WK.nThen ?_
      refine WC.condF rfl ?_
      refine WC.exit ?_
      refine WK.eThen ?_
      refine WK.eThen ?_
      refine WK.eHit ?_
      refine WK.nThen ?_
      refine WC.seq ?_
      have hg : x = ↑(Int.gcd num den) := (by rw [← hgc, show y = 0 by omega, gcd_zero (by omega)])
      have hq1 := tdiv_bd (b := x) (B := 4000000000000000000) (show -4000000000000000000 ≤ num ∧ num ≤ 4000000000000000000 by omega)
      have hq2 := tdiv_bd (b := x) (B := 4000000000000000000) (show -4000000000000000000 ≤ den ∧ den ≤ 4000000000000000000 by omega)
      refine WC.draw (π := (.cons 0 (.cons 1 (.cons 2 (.cons 3 (.cons 4 (.cons 5 (.cons 6 (.cons 7 .done))))))))) [7] [7] rfl (by kernel_rfl) ?_
      refine DW.x rfl rfl (X.move rfl) (by decide) ?_
      refine DW.x rfl rfl (X.move rfl) (by decide) ?_
      refine DW.x rfl rfl (X.quoT rfl rfl (by omega) (by omega) (by omega)) (by decide) ?_
      refine DW.x rfl rfl (X.move rfl) (by decide) ?_
      refine DW.x rfl rfl (X.move rfl) (by decide) ?_
      refine DW.x rfl rfl (X.quoT rfl rfl (by omega) (by omega) (by omega)) (by decide) ?_
      refine DW.x (V := Value.agg [.int .i64 (Int.tdiv num x), .int .i64 (Int.tdiv den x)].toArray) rfl rfl (X.build Try.zeroValue46 Try.runUnderlying46 (places46 _ Try.underlying46) rfl rfl) (by decide) ?_
      refine DW.ts rfl rfl rfl rfl (T.storeBA (k := 0) Try.sizeOf46 rfl rfl rfl (one_cons rfl (one_cons rfl one_nil)) rfl rfl) ?_
      refine DW.nil ?_
      refine WK.nThen ?_
      refine WC.ret ?_
      refine WK.retC1 0 rfl rfl rfl Try.isAgg46 Try.sizeOf46 (fun w' hw' => Ret.exact hw' ?_)
      exact agg2i (by unfold lowR; rw [hg]) (by unfold lowR; rw [hg])

theorem drift27 (m : Mem) (cd : List Value) (d : Drum) (hd : Enc.rd m cd d) (vm_ : Value) (m_ : List Mark) (hm_ : Sl m vm_ m_) (a : Int) (b : Int)   : Exact Try.prog 27 #[.agg cd.toArray, vm_, .int .i64 (a), .int .i64 (b)] m (.tuple #[.agg [.int .i64 ((drfR d m_ a b).1.Num), .int .i64 ((drfR d m_ a b).1.Den)].toArray, .agg [.int .i64 ((drfR d m_ a b).2.1.Num), .int .i64 ((drfR d m_ a b).2.1.Den)].toArray, .int .i64 ((drfR d m_ a b).2.2)]) := by
  obtain ⟨v1, v3, rfl, hs2, hs4⟩ := hd
  have hl5 := hs2.le
  have hl6 := hs4.le
  have lm_ := hm_.le
  refine Exact.start Try.func27 rfl Try.ntmps27 rfl fun wld => ?_
  refine WC.seq ?_
  refine WC.region ?_
  refine WL.tn (T.boxB rfl rfl) (by decide) fun b7 => ?_
  refine WL.tn (T.alloc Try.zeroValue46 rfl) (by decide) fun b8 => ?_
  refine WL.tn (T.alloc Try.zeroValue46 rfl) (by decide) fun b9 => ?_
  refine WL.x (X.assign rfl) (by decide) ?_
  refine WL.nil ?_
  refine WK.nThen ?_
  refine WC.seq ?_
  refine WC.seq ?_
  refine WC.region ?_
  refine WL.x (X.loadBA (k := 2) Try.isAgg25 Try.sizeOf25 rfl rfl rfl) (by decide) ?_
  refine WL.x (X.move rfl) (by decide) ?_
  refine WL.x (X.call Try.call91 rfl (checked91 _ _ d ⟨_, _, rfl, hs2, hs4⟩ _ _ hm_ )) (by decide) ?_
  refine WL.x (X.assign rfl) (by decide) ?_
  refine WL.nil ?_
  refine WK.nThen ?_
  refine WC.seq ?_
  refine WC.region ?_
  refine WL.x (X.move rfl) (by decide) ?_
  refine WL.condn (X.neq rfl rfl) (by decide) (fun h10 => ?_) (fun h10 => ?_)
  · refine WL.nil ?_
    refine WK.nThen ?_
    refine WC.condT rfl ?_
    refine WC.cut (G := Mem) (fun m11 => m11) (fun m11 => [blk b9 46 [.int .i64 (0), .int .i64 (0)], blk b8 46 [.int .i64 (0), .int .i64 (0)], blk b7 25 [v1, v3]]) (fun m11 => [(8, .pointer (some ⟨b8, 0, none⟩)), (9, .pointer (some ⟨b9, 0, none⟩)), (10, .int .i64 (chkE d m_))]) (fun m11 => m.le m11 ∧ Sl (α := Span) m11 v1 d.Rates ∧ Sl (α := Stop) m11 v3 d.Stops) ?_ ?_
    · refine WC.draw (π := (.cons 0 (.cons 2 (.fork (.cons 1 (.cons 3 (.cons 4 (.cons 5 .done)))) (.cons 3 (.cons 1 (.cons 4 (.cons 5 .done)))))))) [1, 3, 4] [3, 4] rfl (by kernel_rfl) ?_
      refine DW.x rfl rfl (X.loadBA (k := 1) Try.isAgg46 Try.sizeOf46 rfl rfl rfl) (by decide) ?_
      refine DW.x rfl rfl (X.move rfl) (by decide) ?_
      refine DW.fork (List.cons_ne_nil _ _) ?_ ?_
      · refine DW.xp rfl rfl rfl (fun _ => (X.loadBA (k := 0) Try.isAgg46 Try.sizeOf46 rfl rfl rfl)) (by decide) ?_
        refine DW.ts rfl rfl rfl rfl (T.storeBA (k := 1) Try.sizeOf46 rfl rfl rfl (one_cons rfl (one_cons rfl one_nil)) rfl rfl) ?_
        refine DW.ts rfl rfl rfl rfl (T.storeBA (k := 0) Try.sizeOf46 rfl rfl rfl (one_cons rfl (one_cons rfl one_nil)) rfl rfl) ?_
        refine DW.x rfl rfl (X.assign rfl) (by decide) ?_
        refine DW.nil ?_
        refine WK.nThen ?_
        exact WK.meet m rfl (.refl _) (.cons rfl (.cons rfl (.cons rfl .nil))) ⟨(Mem.le_refl _), hs2, hs4⟩
      · refine DW.ts rfl rfl rfl rfl (T.storeBA (k := 1) Try.sizeOf46 rfl rfl rfl (one_cons rfl (one_cons rfl one_nil)) rfl rfl) ?_
        refine DW.xp rfl rfl rfl (fun _ => (X.loadBA (k := 0) Try.isAgg46 Try.sizeOf46 rfl rfl rfl)) (by decide) ?_
        refine DW.ts rfl rfl rfl rfl (T.storeBA (k := 0) Try.sizeOf46 rfl rfl rfl (one_cons rfl (one_cons rfl one_nil)) rfl rfl) ?_
        refine DW.x rfl rfl (X.assign rfl) (by decide) ?_
        refine DW.nil ?_
        refine WK.nThen ?_
        exact WK.meet m rfl (.refl _) (.cons rfl (.cons rfl (.cons rfl .nil))) ⟨(Mem.le_refl _), hs2, hs4⟩
    · rintro m11 ⟨hle12, hs13, hs14⟩
      show WK _ _ m11 [blk b9 46 [.int .i64 (0), .int .i64 (0)], blk b8 46 [.int .i64 (0), .int .i64 (0)], blk b7 25 [v1, v3]] [(8, .pointer (some ⟨b8, 0, none⟩)), (9, .pointer (some ⟨b9, 0, none⟩)), (10, .int .i64 (chkE d m_))] _
      replace hs2 := hs2.mono hle12
      replace hs4 := hs4.mono hle12
      replace hm_ := hm_.mono hle12
      have hl15 := hs13.le
      have hl16 := hs14.le
      refine WC.ret ?_
      refine WK.rThen ?_
      refine WK.retC3 1 0 rfl rfl rfl rfl rfl rfl Try.isAgg46 Try.sizeOf46 Try.isAgg46 Try.sizeOf46 (fun w' hw' => Ret.exact hw' ?_)
      first | exact tup3 (agg2i (by rw [drfR_bad (by omega)]) (by rw [drfR_bad (by omega)])) (agg2i (by rw [drfR_bad (by omega)]) (by rw [drfR_bad (by omega)])) (int_eq (by rw [drfR_bad (by omega)])) | exact tup3 (agg2i (by rw [drfR_arg (by omega) (by omega)]) (by rw [drfR_arg (by omega) (by omega)])) (agg2i (by rw [drfR_arg (by omega) (by omega)]) (by rw [drfR_arg (by omega) (by omega)])) (int_eq (by rw [drfR_arg (by omega) (by omega)])) | exact tup3 (agg2i (by rw [drfR_bet (by omega) (by omega) (by omega)]) (by rw [drfR_bet (by omega) (by omega) (by omega)])) (agg2i (by rw [drfR_bet (by omega) (by omega) (by omega)]) (by rw [drfR_bet (by omega) (by omega) (by omega)])) (int_eq (by rw [drfR_bet (by omega) (by omega) (by omega)])) | exact tup3 (agg2i (by rw [drfR_ok (by omega) (by omega) (by omega)]) (by rw [drfR_ok (by omega) (by omega) (by omega)])) (agg2i (by rw [drfR_ok (by omega) (by omega) (by omega)]) (by rw [drfR_ok (by omega) (by omega) (by omega)])) (int_eq (by rw [drfR_ok (by omega) (by omega) (by omega)]))
  · refine WL.nil ?_
    refine WK.nThen ?_
    refine WC.condF rfl ?_
    refine WC.skip ?_
    refine WK.nThen ?_
    refine WC.seq ?_
    refine WC.seq ?_
    refine WC.region ?_
    refine WL.x (X.move rfl) (by decide) ?_
    refine WL.x (X.field Try.runUnderlying25 rfl Try.sizeOf22 rfl) (by decide) ?_
    refine WL.x (X.loadB (k := 2) Try.isAgg22 rfl rfl rfl) (by decide) ?_
    refine WL.x (X.len Try.runUnderlying22 rfl hs2) (by decide) ?_
    refine WL.cond (X.call Try.call92 rfl (within92 _ _ _ _ )) (by decide) (fun h17 => ?_) (fun h17 => ?_)
    · refine WL.x (X.not rfl) (by decide) ?_
      refine WL.x (X.move rfl) (by decide) ?_
      refine WL.yes rfl rfl ?_
      refine WL.x (X.move rfl) (by decide) ?_
      refine WL.yes rfl rfl ?_
      refine WL.x (X.field Try.runUnderlying25 rfl Try.sizeOf22 rfl) (by decide) ?_
      refine WL.yes rfl rfl ?_
      refine WL.x (X.loadB (k := 2) Try.isAgg22 rfl rfl rfl) (by decide) ?_
      refine WL.yes rfl rfl ?_
      refine WL.x (X.len Try.runUnderlying22 rfl hs2) (by decide) ?_
      refine WL.yes rfl rfl ?_
      refine WL.cond (X.call Try.call92 rfl (within92 _ _ _ _ )) (by decide) (fun h18 => ?_) (fun h18 => ?_)
      · refine WL.yes rfl rfl ?_
        refine WL.x (X.not rfl) (by decide) ?_
        refine WL.x (X.pickF rfl rfl rfl) (by decide) ?_
        refine WL.x (X.move rfl) (by decide) ?_
        refine WL.yes rfl rfl ?_
        refine WL.x (X.move rfl) (by decide) ?_
        refine WL.yes rfl rfl ?_
        refine WL.x (X.move rfl) (by decide) ?_
        refine WL.yes rfl rfl ?_
        refine WL.cond (X.geq rfl rfl) (by decide) (fun h19 => ?_) (fun h19 => ?_)
        · refine WL.x (X.pickF rfl rfl rfl) (by decide) ?_
          refine WL.nil ?_
          refine WK.nThen ?_
          refine WC.condT rfl ?_
          refine WC.cut (G := Mem) (fun m20 => m20) (fun m20 => [blk b9 46 [.int .i64 (0), .int .i64 (0)], blk b8 46 [.int .i64 (0), .int .i64 (0)], blk b7 25 [v1, v3]]) (fun m20 => [(8, .pointer (some ⟨b8, 0, none⟩)), (9, .pointer (some ⟨b9, 0, none⟩)), (10, .int .i64 (1))]) (fun m20 => m.le m20 ∧ Sl (α := Span) m20 v1 d.Rates ∧ Sl (α := Stop) m20 v3 d.Stops) ?_ ?_
          · refine WC.draw (π := (.cons 0 (.fork (.cons 1 (.cons 2 (.cons 3 (.cons 4 .done)))) (.cons 2 (.cons 1 (.cons 3 (.cons 4 .done))))))) [1, 2, 3] [2, 3] rfl (by kernel_rfl) ?_
            refine DW.x rfl rfl (X.loadBA (k := 1) Try.isAgg46 Try.sizeOf46 rfl rfl rfl) (by decide) ?_
            refine DW.fork (List.cons_ne_nil _ _) ?_ ?_
            · refine DW.xp rfl rfl rfl (fun _ => (X.loadBA (k := 0) Try.isAgg46 Try.sizeOf46 rfl rfl rfl)) (by decide) ?_
              refine DW.ts rfl rfl rfl rfl (T.storeBA (k := 1) Try.sizeOf46 rfl rfl rfl (one_cons rfl (one_cons rfl one_nil)) rfl rfl) ?_
              refine DW.ts rfl rfl rfl rfl (T.storeBA (k := 0) Try.sizeOf46 rfl rfl rfl (one_cons rfl (one_cons rfl one_nil)) rfl rfl) ?_
              refine DW.x rfl rfl (X.assign rfl) (by decide) ?_
              refine DW.nil ?_
              refine WK.nThen ?_
              exact WK.meet m rfl (.refl _) (.cons rfl (.cons rfl (.cons rfl .nil))) ⟨(Mem.le_refl _), hs2, hs4⟩
            · refine DW.ts rfl rfl rfl rfl (T.storeBA (k := 1) Try.sizeOf46 rfl rfl rfl (one_cons rfl (one_cons rfl one_nil)) rfl rfl) ?_
              refine DW.xp rfl rfl rfl (fun _ => (X.loadBA (k := 0) Try.isAgg46 Try.sizeOf46 rfl rfl rfl)) (by decide) ?_
              refine DW.ts rfl rfl rfl rfl (T.storeBA (k := 0) Try.sizeOf46 rfl rfl rfl (one_cons rfl (one_cons rfl one_nil)) rfl rfl) ?_
              refine DW.x rfl rfl (X.assign rfl) (by decide) ?_
              refine DW.nil ?_
              refine WK.nThen ?_
              exact WK.meet m rfl (.refl _) (.cons rfl (.cons rfl (.cons rfl .nil))) ⟨(Mem.le_refl _), hs2, hs4⟩
          · rintro m20 ⟨hle21, hs22, hs23⟩
            show WK _ _ m20 [blk b9 46 [.int .i64 (0), .int .i64 (0)], blk b8 46 [.int .i64 (0), .int .i64 (0)], blk b7 25 [v1, v3]] [(8, .pointer (some ⟨b8, 0, none⟩)), (9, .pointer (some ⟨b9, 0, none⟩)), (10, .int .i64 (1))] _
            replace hs2 := hs2.mono hle21
            replace hs4 := hs4.mono hle21
            replace hm_ := hm_.mono hle21
            have hl24 := hs22.le
            have hl25 := hs23.le
            refine WC.ret ?_
            refine WK.rThen ?_
            refine WK.retC3 1 0 rfl rfl rfl rfl rfl rfl Try.isAgg46 Try.sizeOf46 Try.isAgg46 Try.sizeOf46 (fun w' hw' => Ret.exact hw' ?_)
            first | exact tup3 (agg2i (by rw [drfR_bad (by omega)]) (by rw [drfR_bad (by omega)])) (agg2i (by rw [drfR_bad (by omega)]) (by rw [drfR_bad (by omega)])) (int_eq (by rw [drfR_bad (by omega)])) | exact tup3 (agg2i (by rw [drfR_arg (by omega) (by omega)]) (by rw [drfR_arg (by omega) (by omega)])) (agg2i (by rw [drfR_arg (by omega) (by omega)]) (by rw [drfR_arg (by omega) (by omega)])) (int_eq (by rw [drfR_arg (by omega) (by omega)])) | exact tup3 (agg2i (by rw [drfR_bet (by omega) (by omega) (by omega)]) (by rw [drfR_bet (by omega) (by omega) (by omega)])) (agg2i (by rw [drfR_bet (by omega) (by omega) (by omega)]) (by rw [drfR_bet (by omega) (by omega) (by omega)])) (int_eq (by rw [drfR_bet (by omega) (by omega) (by omega)])) | exact tup3 (agg2i (by rw [drfR_ok (by omega) (by omega) (by omega)]) (by rw [drfR_ok (by omega) (by omega) (by omega)])) (agg2i (by rw [drfR_ok (by omega) (by omega) (by omega)]) (by rw [drfR_ok (by omega) (by omega) (by omega)])) (int_eq (by rw [drfR_ok (by omega) (by omega) (by omega)]))
        · refine WL.x (X.pickF rfl rfl rfl) (by decide) ?_
          refine WL.nil ?_
          refine WK.nThen ?_
          refine WC.condF rfl ?_
          refine WC.skip ?_
          refine WK.nThen ?_
          refine WC.seq ?_
          refine WC.region ?_
          refine WL.x (X.loadBA (k := 2) Try.isAgg25 Try.sizeOf25 rfl rfl rfl) (by decide) ?_
          refine WL.x (X.move rfl) (by decide) ?_
          refine WL.x (X.move rfl) (by decide) ?_
          refine WL.x (X.move rfl) (by decide) ?_
          refine WL.x (X.call Try.call21 rfl (between21 _ _ d ⟨_, _, rfl, hs2, hs4⟩ _ _ hm_ _ _ )) (by decide) ?_
          refine WL.x (X.move rfl) (by decide) ?_
          refine WL.x (X.extract rfl rfl) (by decide) ?_
          refine WL.x (X.extract rfl rfl) (by decide) ?_
          refine WL.tn (T.alloc Try.zeroValue31 rfl) (by decide) fun b26 => ?_
          refine WL.ts (T.storeBA (k := 0) Try.sizeOf31 rfl rfl rfl (one_cons rfl (one_cons rfl one_nil)) rfl rfl) ?_
          refine WL.x (X.assign rfl) (by decide) ?_
          refine WL.nil ?_
          refine WK.nThen ?_
          refine WC.seq ?_
          refine WC.seq ?_
          refine WC.region ?_
          refine WL.x (X.move rfl) (by decide) ?_
          refine WL.condn (X.neq rfl rfl) (by decide) (fun h27 => ?_) (fun h27 => ?_)
          · refine WL.nil ?_
            refine WK.nThen ?_
            refine WC.condT rfl ?_
            refine WC.cut (G := Mem) (fun m28 => m28) (fun m28 => [blk b26 31 [.int .i64 ((betR d m_ a b).1.Lo), .int .i64 ((betR d m_ a b).1.Hi)], blk b9 46 [.int .i64 (0), .int .i64 (0)], blk b8 46 [.int .i64 (0), .int .i64 (0)], blk b7 25 [v1, v3]]) (fun m28 => [(8, .pointer (some ⟨b8, 0, none⟩)), (9, .pointer (some ⟨b9, 0, none⟩)), (10, .int .i64 ((betR d m_ a b).2))]) (fun m28 => m.le m28 ∧ Sl (α := Span) m28 v1 d.Rates ∧ Sl (α := Stop) m28 v3 d.Stops) ?_ ?_
            · refine WC.draw (π := (.cons 0 (.cons 2 (.fork (.cons 1 (.cons 3 (.cons 4 (.cons 5 .done)))) (.cons 3 (.cons 1 (.cons 4 (.cons 5 .done)))))))) [1, 3, 4] [3, 4] rfl (by kernel_rfl) ?_
              refine DW.x rfl rfl (X.loadBA (k := 2) Try.isAgg46 Try.sizeOf46 rfl rfl rfl) (by decide) ?_
              refine DW.x rfl rfl (X.move rfl) (by decide) ?_
              refine DW.fork (List.cons_ne_nil _ _) ?_ ?_
              · refine DW.xp rfl rfl rfl (fun _ => (X.loadBA (k := 1) Try.isAgg46 Try.sizeOf46 rfl rfl rfl)) (by decide) ?_
                refine DW.ts rfl rfl rfl rfl (T.storeBA (k := 2) Try.sizeOf46 rfl rfl rfl (one_cons rfl (one_cons rfl one_nil)) rfl rfl) ?_
                refine DW.ts rfl rfl rfl rfl (T.storeBA (k := 1) Try.sizeOf46 rfl rfl rfl (one_cons rfl (one_cons rfl one_nil)) rfl rfl) ?_
                refine DW.x rfl rfl (X.assign rfl) (by decide) ?_
                refine DW.nil ?_
                refine WK.nThen ?_
                exact WK.meet m rfl (.refl _) (.cons rfl (.cons rfl (.cons rfl .nil))) ⟨(Mem.le_refl _), hs2, hs4⟩
              · refine DW.ts rfl rfl rfl rfl (T.storeBA (k := 2) Try.sizeOf46 rfl rfl rfl (one_cons rfl (one_cons rfl one_nil)) rfl rfl) ?_
                refine DW.xp rfl rfl rfl (fun _ => (X.loadBA (k := 1) Try.isAgg46 Try.sizeOf46 rfl rfl rfl)) (by decide) ?_
                refine DW.ts rfl rfl rfl rfl (T.storeBA (k := 1) Try.sizeOf46 rfl rfl rfl (one_cons rfl (one_cons rfl one_nil)) rfl rfl) ?_
                refine DW.x rfl rfl (X.assign rfl) (by decide) ?_
                refine DW.nil ?_
                refine WK.nThen ?_
                exact WK.meet m rfl (.refl _) (.cons rfl (.cons rfl (.cons rfl .nil))) ⟨(Mem.le_refl _), hs2, hs4⟩
            · rintro m28 ⟨hle29, hs30, hs31⟩
              show WK _ _ m28 [blk b26 31 [.int .i64 ((betR d m_ a b).1.Lo), .int .i64 ((betR d m_ a b).1.Hi)], blk b9 46 [.int .i64 (0), .int .i64 (0)], blk b8 46 [.int .i64 (0), .int .i64 (0)], blk b7 25 [v1, v3]] [(8, .pointer (some ⟨b8, 0, none⟩)), (9, .pointer (some ⟨b9, 0, none⟩)), (10, .int .i64 ((betR d m_ a b).2))] _
              replace hs2 := hs2.mono hle29
              replace hs4 := hs4.mono hle29
              replace hm_ := hm_.mono hle29
              have hl32 := hs30.le
              have hl33 := hs31.le
              refine WC.ret ?_
              refine WK.rThen ?_
              refine WK.retC3 2 1 rfl rfl rfl rfl rfl rfl Try.isAgg46 Try.sizeOf46 Try.isAgg46 Try.sizeOf46 (fun w' hw' => Ret.exact hw' ?_)
              first | exact tup3 (agg2i (by rw [drfR_bad (by omega)]) (by rw [drfR_bad (by omega)])) (agg2i (by rw [drfR_bad (by omega)]) (by rw [drfR_bad (by omega)])) (int_eq (by rw [drfR_bad (by omega)])) | exact tup3 (agg2i (by rw [drfR_arg (by omega) (by omega)]) (by rw [drfR_arg (by omega) (by omega)])) (agg2i (by rw [drfR_arg (by omega) (by omega)]) (by rw [drfR_arg (by omega) (by omega)])) (int_eq (by rw [drfR_arg (by omega) (by omega)])) | exact tup3 (agg2i (by rw [drfR_bet (by omega) (by omega) (by omega)]) (by rw [drfR_bet (by omega) (by omega) (by omega)])) (agg2i (by rw [drfR_bet (by omega) (by omega) (by omega)]) (by rw [drfR_bet (by omega) (by omega) (by omega)])) (int_eq (by rw [drfR_bet (by omega) (by omega) (by omega)])) | exact tup3 (agg2i (by rw [drfR_ok (by omega) (by omega) (by omega)]) (by rw [drfR_ok (by omega) (by omega) (by omega)])) (agg2i (by rw [drfR_ok (by omega) (by omega) (by omega)]) (by rw [drfR_ok (by omega) (by omega) (by omega)])) (int_eq (by rw [drfR_ok (by omega) (by omega) (by omega)]))
          · refine WL.nil ?_
            refine WK.nThen ?_
            refine WC.condF rfl ?_
            refine WC.skip ?_
            refine WK.nThen ?_
            refine WC.seq ?_
            have hbz := betR_zero (d := d) (m := m_) (a := a) (b := b) (by omega)
            have hbz2 := hbz.2.2.2.2.2
            have hbz3 := hbz.2.2.1
            have hbz4 := hbz.2.2.2.1
            have hd1 := hbz.1.dr.1
            refine WC.draw (π := (.cons 0 (.cons 1 (.cons 2 (.cons 3 (.cons 4 (.cons 5 (.cons 6 (.cons 7 (.cons 8 (.cons 9 (.cons 10 (.cons 11 (.cons 12 (.cons 13 (.cons 14 .done)))))))))))))))) [12, 13] [12, 13] rfl (by kernel_rfl) ?_
            refine DW.x rfl rfl (X.field Try.runUnderlying31 rfl Try.sizeOf3 rfl) (by decide) ?_
            refine DW.x rfl rfl (X.loadB (k := 0) Try.isAgg3 rfl rfl rfl) (by decide) ?_
            refine DW.x rfl rfl (X.move rfl) (by decide) ?_
            refine DW.x rfl rfl (X.move rfl) (by decide) ?_
            refine DW.x rfl rfl (X.sub rfl rfl (by omega) (by omega)) (by decide) ?_
            refine DW.x rfl rfl (X.call Try.call93 rfl (lowest93 _ _ _ (by omega) (by omega))) (by decide) ?_
            refine DW.x rfl rfl (X.field Try.runUnderlying31 rfl Try.sizeOf3 rfl) (by decide) ?_
            refine DW.x rfl rfl (X.loadB (k := 0) Try.isAgg3 rfl rfl rfl) (by decide) ?_
            refine DW.x rfl rfl (X.move rfl) (by decide) ?_
            refine DW.x rfl rfl (X.move rfl) (by decide) ?_
            refine DW.x rfl rfl (X.sub rfl rfl (by omega) (by omega)) (by decide) ?_
            refine DW.x rfl rfl (X.call Try.call93 rfl (lowest93 _ _ _ (by omega) (by omega))) (by decide) ?_
            refine DW.ts rfl rfl rfl rfl (T.storeBA (k := 2) Try.sizeOf46 rfl rfl rfl (one_cons rfl (one_cons rfl one_nil)) rfl rfl) ?_
            refine DW.ts rfl rfl rfl rfl (T.storeBA (k := 1) Try.sizeOf46 rfl rfl rfl (one_cons rfl (one_cons rfl one_nil)) rfl rfl) ?_
            refine DW.x rfl rfl (X.assign rfl) (by decide) ?_
            refine DW.nil ?_
            refine WK.nThen ?_
            refine WC.ret ?_
            refine WK.retC3 2 1 rfl rfl rfl rfl rfl rfl Try.isAgg46 Try.sizeOf46 Try.isAgg46 Try.sizeOf46 (fun w' hw' => Ret.exact hw' ?_)
            first | exact tup3 (agg2i (by rw [drfR_bad (by omega)]) (by rw [drfR_bad (by omega)])) (agg2i (by rw [drfR_bad (by omega)]) (by rw [drfR_bad (by omega)])) (int_eq (by rw [drfR_bad (by omega)])) | exact tup3 (agg2i (by rw [drfR_arg (by omega) (by omega)]) (by rw [drfR_arg (by omega) (by omega)])) (agg2i (by rw [drfR_arg (by omega) (by omega)]) (by rw [drfR_arg (by omega) (by omega)])) (int_eq (by rw [drfR_arg (by omega) (by omega)])) | exact tup3 (agg2i (by rw [drfR_bet (by omega) (by omega) (by omega)]) (by rw [drfR_bet (by omega) (by omega) (by omega)])) (agg2i (by rw [drfR_bet (by omega) (by omega) (by omega)]) (by rw [drfR_bet (by omega) (by omega) (by omega)])) (int_eq (by rw [drfR_bet (by omega) (by omega) (by omega)])) | exact tup3 (agg2i (by rw [drfR_ok (by omega) (by omega) (by omega)]) (by rw [drfR_ok (by omega) (by omega) (by omega)])) (agg2i (by rw [drfR_ok (by omega) (by omega) (by omega)]) (by rw [drfR_ok (by omega) (by omega) (by omega)])) (int_eq (by rw [drfR_ok (by omega) (by omega) (by omega)]))
      · refine WL.yes rfl rfl ?_
        refine WL.x (X.not rfl) (by decide) ?_
        refine WL.x (X.pickF rfl rfl rfl) (by decide) ?_
        refine WL.x (X.move rfl) (by decide) ?_
        refine WL.no rfl rfl rfl (by decide) ?_
        refine WL.no rfl rfl rfl (by decide) ?_
        refine WL.no rfl rfl rfl (by decide) ?_
        refine WL.x (X.pickT rfl rfl rfl) (by decide) ?_
        refine WL.nil ?_
        refine WK.nThen ?_
        refine WC.condT rfl ?_
        refine WC.cut (G := Mem) (fun m34 => m34) (fun m34 => [blk b9 46 [.int .i64 (0), .int .i64 (0)], blk b8 46 [.int .i64 (0), .int .i64 (0)], blk b7 25 [v1, v3]]) (fun m34 => [(8, .pointer (some ⟨b8, 0, none⟩)), (9, .pointer (some ⟨b9, 0, none⟩)), (10, .int .i64 (1))]) (fun m34 => m.le m34 ∧ Sl (α := Span) m34 v1 d.Rates ∧ Sl (α := Stop) m34 v3 d.Stops) ?_ ?_
        · refine WC.draw (π := (.cons 0 (.fork (.cons 1 (.cons 2 (.cons 3 (.cons 4 .done)))) (.cons 2 (.cons 1 (.cons 3 (.cons 4 .done))))))) [1, 2, 3] [2, 3] rfl (by kernel_rfl) ?_
          refine DW.x rfl rfl (X.loadBA (k := 1) Try.isAgg46 Try.sizeOf46 rfl rfl rfl) (by decide) ?_
          refine DW.fork (List.cons_ne_nil _ _) ?_ ?_
          · refine DW.xp rfl rfl rfl (fun _ => (X.loadBA (k := 0) Try.isAgg46 Try.sizeOf46 rfl rfl rfl)) (by decide) ?_
            refine DW.ts rfl rfl rfl rfl (T.storeBA (k := 1) Try.sizeOf46 rfl rfl rfl (one_cons rfl (one_cons rfl one_nil)) rfl rfl) ?_
            refine DW.ts rfl rfl rfl rfl (T.storeBA (k := 0) Try.sizeOf46 rfl rfl rfl (one_cons rfl (one_cons rfl one_nil)) rfl rfl) ?_
            refine DW.x rfl rfl (X.assign rfl) (by decide) ?_
            refine DW.nil ?_
            refine WK.nThen ?_
            exact WK.meet m rfl (.refl _) (.cons rfl (.cons rfl (.cons rfl .nil))) ⟨(Mem.le_refl _), hs2, hs4⟩
          · refine DW.ts rfl rfl rfl rfl (T.storeBA (k := 1) Try.sizeOf46 rfl rfl rfl (one_cons rfl (one_cons rfl one_nil)) rfl rfl) ?_
            refine DW.xp rfl rfl rfl (fun _ => (X.loadBA (k := 0) Try.isAgg46 Try.sizeOf46 rfl rfl rfl)) (by decide) ?_
            refine DW.ts rfl rfl rfl rfl (T.storeBA (k := 0) Try.sizeOf46 rfl rfl rfl (one_cons rfl (one_cons rfl one_nil)) rfl rfl) ?_
            refine DW.x rfl rfl (X.assign rfl) (by decide) ?_
            refine DW.nil ?_
            refine WK.nThen ?_
            exact WK.meet m rfl (.refl _) (.cons rfl (.cons rfl (.cons rfl .nil))) ⟨(Mem.le_refl _), hs2, hs4⟩
        · rintro m34 ⟨hle35, hs36, hs37⟩
          show WK _ _ m34 [blk b9 46 [.int .i64 (0), .int .i64 (0)], blk b8 46 [.int .i64 (0), .int .i64 (0)], blk b7 25 [v1, v3]] [(8, .pointer (some ⟨b8, 0, none⟩)), (9, .pointer (some ⟨b9, 0, none⟩)), (10, .int .i64 (1))] _
          replace hs2 := hs2.mono hle35
          replace hs4 := hs4.mono hle35
          replace hm_ := hm_.mono hle35
          have hl38 := hs36.le
          have hl39 := hs37.le
          refine WC.ret ?_
          refine WK.rThen ?_
          refine WK.retC3 1 0 rfl rfl rfl rfl rfl rfl Try.isAgg46 Try.sizeOf46 Try.isAgg46 Try.sizeOf46 (fun w' hw' => Ret.exact hw' ?_)
          first | exact tup3 (agg2i (by rw [drfR_bad (by omega)]) (by rw [drfR_bad (by omega)])) (agg2i (by rw [drfR_bad (by omega)]) (by rw [drfR_bad (by omega)])) (int_eq (by rw [drfR_bad (by omega)])) | exact tup3 (agg2i (by rw [drfR_arg (by omega) (by omega)]) (by rw [drfR_arg (by omega) (by omega)])) (agg2i (by rw [drfR_arg (by omega) (by omega)]) (by rw [drfR_arg (by omega) (by omega)])) (int_eq (by rw [drfR_arg (by omega) (by omega)])) | exact tup3 (agg2i (by rw [drfR_bet (by omega) (by omega) (by omega)]) (by rw [drfR_bet (by omega) (by omega) (by omega)])) (agg2i (by rw [drfR_bet (by omega) (by omega) (by omega)]) (by rw [drfR_bet (by omega) (by omega) (by omega)])) (int_eq (by rw [drfR_bet (by omega) (by omega) (by omega)])) | exact tup3 (agg2i (by rw [drfR_ok (by omega) (by omega) (by omega)]) (by rw [drfR_ok (by omega) (by omega) (by omega)])) (agg2i (by rw [drfR_ok (by omega) (by omega) (by omega)]) (by rw [drfR_ok (by omega) (by omega) (by omega)])) (int_eq (by rw [drfR_ok (by omega) (by omega) (by omega)]))
    · refine WL.x (X.not rfl) (by decide) ?_
      refine WL.x (X.move rfl) (by decide) ?_
      refine WL.no rfl rfl rfl (by decide) ?_
      refine WL.no rfl rfl rfl (by decide) ?_
      refine WL.no rfl rfl rfl (by decide) ?_
      refine WL.no rfl rfl rfl (by decide) ?_
      refine WL.no rfl rfl rfl (by decide) ?_
      refine WL.no rfl rfl rfl (by decide) ?_
      refine WL.x (X.pickT rfl rfl rfl) (by decide) ?_
      refine WL.x (X.move rfl) (by decide) ?_
      refine WL.no rfl rfl rfl (by decide) ?_
      refine WL.no rfl rfl rfl (by decide) ?_
      refine WL.no rfl rfl rfl (by decide) ?_
      refine WL.x (X.pickT rfl rfl rfl) (by decide) ?_
      refine WL.nil ?_
      refine WK.nThen ?_
      refine WC.condT rfl ?_
      refine WC.cut (G := Mem) (fun m40 => m40) (fun m40 => [blk b9 46 [.int .i64 (0), .int .i64 (0)], blk b8 46 [.int .i64 (0), .int .i64 (0)], blk b7 25 [v1, v3]]) (fun m40 => [(8, .pointer (some ⟨b8, 0, none⟩)), (9, .pointer (some ⟨b9, 0, none⟩)), (10, .int .i64 (1))]) (fun m40 => m.le m40 ∧ Sl (α := Span) m40 v1 d.Rates ∧ Sl (α := Stop) m40 v3 d.Stops) ?_ ?_
      · refine WC.draw (π := (.cons 0 (.fork (.cons 1 (.cons 2 (.cons 3 (.cons 4 .done)))) (.cons 2 (.cons 1 (.cons 3 (.cons 4 .done))))))) [1, 2, 3] [2, 3] rfl (by kernel_rfl) ?_
        refine DW.x rfl rfl (X.loadBA (k := 1) Try.isAgg46 Try.sizeOf46 rfl rfl rfl) (by decide) ?_
        refine DW.fork (List.cons_ne_nil _ _) ?_ ?_
        · refine DW.xp rfl rfl rfl (fun _ => (X.loadBA (k := 0) Try.isAgg46 Try.sizeOf46 rfl rfl rfl)) (by decide) ?_
          refine DW.ts rfl rfl rfl rfl (T.storeBA (k := 1) Try.sizeOf46 rfl rfl rfl (one_cons rfl (one_cons rfl one_nil)) rfl rfl) ?_
          refine DW.ts rfl rfl rfl rfl (T.storeBA (k := 0) Try.sizeOf46 rfl rfl rfl (one_cons rfl (one_cons rfl one_nil)) rfl rfl) ?_
          refine DW.x rfl rfl (X.assign rfl) (by decide) ?_
          refine DW.nil ?_
          refine WK.nThen ?_
          exact WK.meet m rfl (.refl _) (.cons rfl (.cons rfl (.cons rfl .nil))) ⟨(Mem.le_refl _), hs2, hs4⟩
        · refine DW.ts rfl rfl rfl rfl (T.storeBA (k := 1) Try.sizeOf46 rfl rfl rfl (one_cons rfl (one_cons rfl one_nil)) rfl rfl) ?_
          refine DW.xp rfl rfl rfl (fun _ => (X.loadBA (k := 0) Try.isAgg46 Try.sizeOf46 rfl rfl rfl)) (by decide) ?_
          refine DW.ts rfl rfl rfl rfl (T.storeBA (k := 0) Try.sizeOf46 rfl rfl rfl (one_cons rfl (one_cons rfl one_nil)) rfl rfl) ?_
          refine DW.x rfl rfl (X.assign rfl) (by decide) ?_
          refine DW.nil ?_
          refine WK.nThen ?_
          exact WK.meet m rfl (.refl _) (.cons rfl (.cons rfl (.cons rfl .nil))) ⟨(Mem.le_refl _), hs2, hs4⟩
      · rintro m40 ⟨hle41, hs42, hs43⟩
        show WK _ _ m40 [blk b9 46 [.int .i64 (0), .int .i64 (0)], blk b8 46 [.int .i64 (0), .int .i64 (0)], blk b7 25 [v1, v3]] [(8, .pointer (some ⟨b8, 0, none⟩)), (9, .pointer (some ⟨b9, 0, none⟩)), (10, .int .i64 (1))] _
        replace hs2 := hs2.mono hle41
        replace hs4 := hs4.mono hle41
        replace hm_ := hm_.mono hle41
        have hl44 := hs42.le
        have hl45 := hs43.le
        refine WC.ret ?_
        refine WK.rThen ?_
        refine WK.retC3 1 0 rfl rfl rfl rfl rfl rfl Try.isAgg46 Try.sizeOf46 Try.isAgg46 Try.sizeOf46 (fun w' hw' => Ret.exact hw' ?_)
        first | exact tup3 (agg2i (by rw [drfR_bad (by omega)]) (by rw [drfR_bad (by omega)])) (agg2i (by rw [drfR_bad (by omega)]) (by rw [drfR_bad (by omega)])) (int_eq (by rw [drfR_bad (by omega)])) | exact tup3 (agg2i (by rw [drfR_arg (by omega) (by omega)]) (by rw [drfR_arg (by omega) (by omega)])) (agg2i (by rw [drfR_arg (by omega) (by omega)]) (by rw [drfR_arg (by omega) (by omega)])) (int_eq (by rw [drfR_arg (by omega) (by omega)])) | exact tup3 (agg2i (by rw [drfR_bet (by omega) (by omega) (by omega)]) (by rw [drfR_bet (by omega) (by omega) (by omega)])) (agg2i (by rw [drfR_bet (by omega) (by omega) (by omega)]) (by rw [drfR_bet (by omega) (by omega) (by omega)])) (int_eq (by rw [drfR_bet (by omega) (by omega) (by omega)])) | exact tup3 (agg2i (by rw [drfR_ok (by omega) (by omega) (by omega)]) (by rw [drfR_ok (by omega) (by omega) (by omega)])) (agg2i (by rw [drfR_ok (by omega) (by omega) (by omega)]) (by rw [drfR_ok (by omega) (by omega) (by omega)])) (int_eq (by rw [drfR_ok (by omega) (by omega) (by omega)]))

theorem gap38 (m : Mem) (cd : List Value) (d : Drum) (hd : Enc.rd m cd d) (column : Int)   : Exact Try.prog 38 #[.agg cd.toArray, .int .i64 (column)] m (.tuple #[.agg [.int .i64 ((gapR d column).1.Lo), .int .i64 ((gapR d column).1.Hi)].toArray, .int .i64 ((gapR d column).2)]) := by
  obtain ⟨v1, v3, rfl, hs2, hs4⟩ := hd
  have hl5 := hs2.le
  have hl6 := hs4.le
  refine Exact.start Try.func38 rfl Try.ntmps38 rfl fun wld => ?_
  refine WC.seq ?_
  refine WC.region ?_
  refine WL.tn (T.boxB rfl rfl) (by decide) fun b7 => ?_
  refine WL.tn (T.alloc Try.zeroValue31 rfl) (by decide) fun b8 => ?_
  refine WL.x (X.assign rfl) (by decide) ?_
  refine WL.nil ?_
  refine WK.nThen ?_
  refine WC.seq ?_
  refine WC.seq ?_
  refine WC.region ?_
  refine WL.x (X.loadBA (k := 1) Try.isAgg25 Try.sizeOf25 rfl rfl rfl) (by decide) ?_
  refine WL.x (X.call Try.call43 rfl (check43 _ _ d ⟨_, _, rfl, hs2, hs4⟩ )) (by decide) ?_
  refine WL.x (X.assign rfl) (by decide) ?_
  refine WL.nil ?_
  refine WK.nThen ?_
  refine WC.seq ?_
  refine WC.region ?_
  refine WL.x (X.move rfl) (by decide) ?_
  refine WL.condn (X.neq rfl rfl) (by decide) (fun h9 => ?_) (fun h9 => ?_)
  · refine WL.nil ?_
    refine WK.nThen ?_
    refine WC.condT rfl ?_
    refine WC.seq ?_
    refine WC.region ?_
    refine WL.x (V := Value.agg [.int .i64 (0), .int .i64 (0)].toArray) (X.build Try.zeroValue31 Try.runUnderlying31 (places31 _ Try.underlying31) rfl rfl) (by decide) ?_
    refine WL.x (X.move rfl) (by decide) ?_
    refine WL.ts (T.storeBA (k := 0) Try.sizeOf31 rfl rfl rfl (one_cons rfl (one_cons rfl one_nil)) rfl rfl) ?_
    refine WL.x (X.assign rfl) (by decide) ?_
    refine WL.nil ?_
    refine WK.nThen ?_
    refine WC.ret ?_
    refine WK.rThen ?_
    refine WK.retC2 0 rfl rfl rfl rfl Try.isAgg31 Try.sizeOf31 (fun w' hw' => Ret.exact hw' ?_)
    first | exact tup2 (agg2i (by rw [gapR_bad (by omega)]) (by rw [gapR_bad (by omega)])) (int_eq (by rw [gapR_bad (by omega)])) | exact tup2 (agg2i (by rw [gapR_arg (by omega) (by omega)]) (by rw [gapR_arg (by omega) (by omega)])) (int_eq (by rw [gapR_arg (by omega) (by omega)])) | exact tup2 (agg2i (by rw [gapR_ok (by omega) (by omega)]) (by rw [gapR_ok (by omega) (by omega)])) (int_eq (by rw [gapR_ok (by omega) (by omega)]))
  · refine WL.nil ?_
    refine WK.nThen ?_
    refine WC.condF rfl ?_
    refine WC.skip ?_
    refine WK.nThen ?_
    refine WC.seq ?_
    refine WC.seq ?_
    refine WC.region ?_
    refine WL.x (X.move rfl) (by decide) ?_
    refine WL.x (X.field Try.runUnderlying25 rfl Try.sizeOf22 rfl) (by decide) ?_
    refine WL.x (X.loadB (k := 1) Try.isAgg22 rfl rfl rfl) (by decide) ?_
    refine WL.x (X.len Try.runUnderlying22 rfl hs2) (by decide) ?_
    refine WL.x (X.sub rfl rfl (by omega) (by omega)) (by decide) ?_
    refine WL.cond (X.call Try.call92 rfl (within92 _ _ _ _ )) (by decide) (fun h10 => ?_) (fun h10 => ?_)
    · refine WL.x (X.not rfl) (by decide) ?_
      refine WL.nil ?_
      refine WK.nThen ?_
      refine WC.condF rfl ?_
      refine WC.skip ?_
      refine WK.nThen ?_
      refine WC.seq ?_
      have hgl := gapL_len d
      refine WC.region ?_
      refine WL.x (X.loadBA (k := 1) Try.isAgg25 Try.sizeOf25 rfl rfl rfl) (by decide) ?_
      refine WL.tm (T.call Try.call105 rfl (gaps105 _ _ d ⟨_, _, rfl, hs2, hs4⟩ (drumP_of (by omega)))) (by decide) fun m11 r12 hle13 hR14 => ?_
      obtain ⟨v15, hv_, hs16⟩ := hR14
      rw [← hv_] at hs16
      clear hv_ v15
      replace hs2 := hs2.mono hle13
      replace hs4 := hs4.mono hle13
      have hl17 := hs16.le
      refine WL.x (X.move rfl) (by decide) ?_
      refine WL.xe (E.idx Try.runUnderlying22 Try.sizeOf31 rfl rfl hs16 (by omega) (by omega)) (by decide) (fun p18 hp19 => ?_)
      refine WL.xe (E.loadAgg Try.isAgg31 Try.sizeOf31 rfl hp19) (by decide) (fun c20 hc21 => ?_)
      obtain rfl := hc21
      refine WL.ts (T.storeBA (k := 0) Try.sizeOf31 rfl rfl rfl (one_cons rfl (one_cons rfl one_nil)) rfl rfl) ?_
      refine WL.x (X.assign rfl) (by decide) ?_
      refine WL.nil ?_
      refine WK.nThen ?_
      refine WC.ret ?_
      refine WK.retC2 0 rfl rfl rfl rfl Try.isAgg31 Try.sizeOf31 (fun w' hw' => Ret.exact hw' ?_)
      first | exact tup2 (agg2i (by rw [gapR_bad (by omega)]) (by rw [gapR_bad (by omega)])) (int_eq (by rw [gapR_bad (by omega)])) | exact tup2 (agg2i (by rw [gapR_arg (by omega) (by omega)]) (by rw [gapR_arg (by omega) (by omega)])) (int_eq (by rw [gapR_arg (by omega) (by omega)])) | exact tup2 (agg2i (by rw [gapR_ok (by omega) (by omega)]) (by rw [gapR_ok (by omega) (by omega)])) (int_eq (by rw [gapR_ok (by omega) (by omega)]))
    · refine WL.x (X.not rfl) (by decide) ?_
      refine WL.nil ?_
      refine WK.nThen ?_
      refine WC.condT rfl ?_
      refine WC.seq ?_
      refine WC.region ?_
      refine WL.x (V := Value.agg [.int .i64 (0), .int .i64 (0)].toArray) (X.build Try.zeroValue31 Try.runUnderlying31 (places31 _ Try.underlying31) rfl rfl) (by decide) ?_
      refine WL.ts (T.storeBA (k := 0) Try.sizeOf31 rfl rfl rfl (one_cons rfl (one_cons rfl one_nil)) rfl rfl) ?_
      refine WL.x (X.assign rfl) (by decide) ?_
      refine WL.nil ?_
      refine WK.nThen ?_
      refine WC.ret ?_
      refine WK.rThen ?_
      refine WK.retC2 0 rfl rfl rfl rfl Try.isAgg31 Try.sizeOf31 (fun w' hw' => Ret.exact hw' ?_)
      first | exact tup2 (agg2i (by rw [gapR_bad (by omega)]) (by rw [gapR_bad (by omega)])) (int_eq (by rw [gapR_bad (by omega)])) | exact tup2 (agg2i (by rw [gapR_arg (by omega) (by omega)]) (by rw [gapR_arg (by omega) (by omega)])) (int_eq (by rw [gapR_arg (by omega) (by omega)])) | exact tup2 (agg2i (by rw [gapR_ok (by omega) (by omega)]) (by rw [gapR_ok (by omega) (by omega)])) (int_eq (by rw [gapR_ok (by omega) (by omega)]))

theorem agree55 (m : Mem) (cd : List Value) (d : Drum) (hd : Enc.rd m cd d) (ca : List Value) (a : Mark) (ha : Enc.rd m ca a) (cb : List Value) (b : Mark) (hb : Enc.rd m cb b)   : Exact Try.prog 55 #[.agg cd.toArray, .agg ca.toArray, .agg cb.toArray] m (.tuple #[.bool ((agrR d a b).1), .int .i64 ((agrR d a b).2)]) := by
  obtain ⟨v1, v3, rfl, hs2, hs4⟩ := hd
  have hl5 := hs2.le
  have hl6 := hs4.le
  obtain rfl := ha
  obtain rfl := hb
  refine Exact.start Try.func55 rfl Try.ntmps55 rfl fun wld => ?_
  refine WC.seq ?_
  refine WC.region ?_
  refine WL.tn (T.boxB rfl rfl) (by decide) fun b7 => ?_
  refine WL.tn (T.boxB rfl rfl) (by decide) fun b8 => ?_
  refine WL.tn (T.boxB rfl rfl) (by decide) fun b9 => ?_
  refine WL.x (X.assign rfl) (by decide) ?_
  refine WL.x (X.assign rfl) (by decide) ?_
  refine WL.nil ?_
  refine WK.nThen ?_
  refine WC.seq ?_
  refine WC.seq ?_
  refine WC.region ?_
  refine WL.x (X.loadBA (k := 2) Try.isAgg25 Try.sizeOf25 rfl rfl rfl) (by decide) ?_
  refine WL.x (X.loadBA (k := 1) Try.isAgg33 Try.sizeOf33 rfl rfl rfl) (by decide) ?_
  refine WL.x (X.loadBA (k := 0) Try.isAgg33 Try.sizeOf33 rfl rfl rfl) (by decide) ?_
  refine WL.tm (T.litM (α := Mark) (vals := [.agg [.int .i64 (a.Column), .int .i64 (a.Ticks.Lo), .int .i64 (a.Ticks.Hi)].toArray, .agg [.int .i64 (b.Column), .int .i64 (b.Ticks.Lo), .int .i64 (b.Ticks.Hi)].toArray]) (L := [a, b]) sl26 rfl (.cons rfl rfl (.cons rfl rfl .nil)) rfl rfl) (by decide) (fun m10 v11 hle12 hs13 => ?_)
  replace hs2 := hs2.mono hle12
  replace hs4 := hs4.mono hle12
  refine WL.x (X.call Try.call91 rfl (checked91 _ _ d ⟨_, _, rfl, hs2, hs4⟩ _ _ hs13 )) (by decide) ?_
  refine WL.x (X.assign rfl) (by decide) ?_
  refine WL.nil ?_
  refine WK.nThen ?_
  refine WC.seq ?_
  refine WC.region ?_
  refine WL.x (X.move rfl) (by decide) ?_
  refine WL.condn (X.neq rfl rfl) (by decide) (fun h14 => ?_) (fun h14 => ?_)
  · refine WL.nil ?_
    refine WK.nThen ?_
    refine WC.condT rfl ?_
    refine WC.seq ?_
    refine WC.region ?_
    refine WL.x (X.move rfl) (by decide) ?_
    refine WL.x (X.assign rfl) (by decide) ?_
    refine WL.x (X.assign rfl) (by decide) ?_
    refine WL.nil ?_
    refine WK.nThen ?_
    refine WC.ret ?_
    refine WK.rThen ?_
    refine WK.ret2 rfl rfl rfl (fun w' hw' => Ret.exact hw' ?_)
    first | exact tup2 (bool_eq (by unfold agrR; rw [feasR_err (by omega)])) (int_eq (by unfold agrR; rw [feasR_err (by omega)])) | exact tup2 (bool_eq (by unfold agrR; rw [feasR_ok (by omega)])) (int_eq (by unfold agrR; rw [feasR_ok (by omega)])) | exact tup2 (by unfold agrR; rw [feasR_ok (by omega)]; first | exact bool_true (by assumption) | exact bool_false (by assumption)) (int_eq (by unfold agrR; rw [feasR_ok (by omega)]))
  · refine WL.nil ?_
    refine WK.nThen ?_
    refine WC.condF rfl ?_
    refine WC.skip ?_
    refine WK.nThen ?_
    refine WC.seq ?_
    refine WC.region ?_
    refine WL.x (X.loadBA (k := 2) Try.isAgg25 Try.sizeOf25 rfl rfl rfl) (by decide) ?_
    refine WL.x (X.loadBA (k := 1) Try.isAgg33 Try.sizeOf33 rfl rfl rfl) (by decide) ?_
    refine WL.x (X.loadBA (k := 0) Try.isAgg33 Try.sizeOf33 rfl rfl rfl) (by decide) ?_
    refine WL.tm (T.litM (α := Mark) (vals := [.agg [.int .i64 (a.Column), .int .i64 (a.Ticks.Lo), .int .i64 (a.Ticks.Hi)].toArray, .agg [.int .i64 (b.Column), .int .i64 (b.Ticks.Lo), .int .i64 (b.Ticks.Hi)].toArray]) (L := [a, b]) sl26 rfl (.cons rfl rfl (.cons rfl rfl .nil)) rfl rfl) (by decide) (fun m15 v16 hle17 hs18 => ?_)
    replace hs2 := hs2.mono hle17
    replace hs4 := hs4.mono hle17
    replace hs13 := hs13.mono hle17
    refine WL.x (X.call Try.call97 rfl (holds97 _ _ d ⟨_, _, rfl, hs2, hs4⟩ _ _ hs18 (Ok.of (by omega)))) (by decide) ?_
    refine WL.x (X.assign rfl) (by decide) ?_
    refine WL.x (X.assign rfl) (by decide) ?_
    refine WL.nil ?_
    refine WK.nThen ?_
    refine WC.ret ?_
    refine WK.ret2 rfl rfl rfl (fun w' hw' => Ret.exact hw' ?_)
    first | exact tup2 (bool_eq (by unfold agrR; rw [feasR_err (by omega)])) (int_eq (by unfold agrR; rw [feasR_err (by omega)])) | exact tup2 (bool_eq (by unfold agrR; rw [feasR_ok (by omega)])) (int_eq (by unfold agrR; rw [feasR_ok (by omega)])) | exact tup2 (by unfold agrR; rw [feasR_ok (by omega)]; first | exact bool_true (by assumption) | exact bool_false (by assumption)) (int_eq (by unfold agrR; rw [feasR_ok (by omega)]))

theorem wind57 (m : Mem) (cd : List Value) (d : Drum) (hd : Enc.rd m cd d) (cs : List Value) (s : Stop) (hs : Enc.rd m cs s)   : Pure Try.prog 57 #[.agg cd.toArray, .agg cs.toArray] m (fun m' v => ∃ r0, v = .tuple #[.agg r0.toArray, .int .i64 ((winR d s).2)] ∧ Enc.rd m' r0 ((winR d s).1)) := by
  obtain ⟨v1, v3, rfl, hs2, hs4⟩ := hd
  have hl5 := hs2.le
  have hl6 := hs4.le
  obtain rfl := hs
  refine Pure.start Try.func57 rfl Try.ntmps57 rfl fun wld => ?_
  refine WC.seq ?_
  refine WC.region ?_
  refine WL.tn (T.boxB rfl rfl) (by decide) fun b7 => ?_
  refine WL.tn (T.boxB rfl rfl) (by decide) fun b8 => ?_
  refine WL.tn (T.alloc Try.zeroValue25 rfl) (by decide) fun b9 => ?_
  refine WL.x (X.assign rfl) (by decide) ?_
  refine WL.nil ?_
  refine WK.nThen ?_
  refine WC.seq ?_
  refine WC.seq ?_
  refine WC.region ?_
  refine WL.x (X.loadBA (k := 2) Try.isAgg25 Try.sizeOf25 rfl rfl rfl) (by decide) ?_
  refine WL.x (X.call Try.call43 rfl (check43 _ _ d ⟨_, _, rfl, hs2, hs4⟩ )) (by decide) ?_
  refine WL.x (X.assign rfl) (by decide) ?_
  refine WL.nil ?_
  refine WK.nThen ?_
  refine WC.seq ?_
  refine WC.region ?_
  refine WL.x (X.move rfl) (by decide) ?_
  refine WL.condn (X.neq rfl rfl) (by decide) (fun h10 => ?_) (fun h10 => ?_)
  · refine WL.nil ?_
    refine WK.nThen ?_
    refine WC.condT rfl ?_
    refine WC.seq ?_
    refine WC.region ?_
    refine WL.x (V := Value.agg [.slice none 0 0, .slice none 0 0].toArray) (X.build Try.zeroValue25 Try.runUnderlying25 (places25 _ Try.underlying25) rfl rfl) (by decide) ?_
    refine WL.x (X.move rfl) (by decide) ?_
    refine WL.ts (T.storeBA (k := 0) Try.sizeOf25 rfl rfl rfl (one_cons rfl (one_cons rfl one_nil)) rfl rfl) ?_
    refine WL.x (X.assign rfl) (by decide) ?_
    refine WL.nil ?_
    refine WK.nThen ?_
    refine WC.ret ?_
    refine WK.rThen ?_
    refine WK.retC2 0 rfl rfl rfl rfl Try.isAgg25 Try.sizeOf25 (fun w' hw' => Ret.mem hw' ?_)
    first | exact ⟨_, tup2 rfl (int_eq (by rw [winR_bad (by omega)])), by rw [winR_bad (by omega)]; exact ⟨_, _, rfl, .nil, .nil⟩⟩ | exact ⟨_, tup2 rfl (int_eq (by rw [winR_big (by omega) (by omega)])), by rw [winR_big (by omega) (by omega)]; exact ⟨_, _, rfl, .nil, .nil⟩⟩ | exact ⟨_, tup2 rfl (int_eq (by rw [winR_arg (by omega) (by omega) (by assumption)])), by rw [winR_arg (by omega) (by omega) (by assumption)]; exact ⟨_, _, rfl, .nil, .nil⟩⟩ | exact ⟨_, tup2 rfl (int_eq (by rw [winR_ok (by omega) (by omega) (by assumption)])), by rw [winR_ok (by omega) (by omega) (by assumption)]; exact ⟨_, _, rfl, .nil, .nil⟩⟩
  · refine WL.nil ?_
    refine WK.nThen ?_
    refine WC.condF rfl ?_
    refine WC.skip ?_
    refine WK.nThen ?_
    refine WC.seq ?_
    refine WC.seq ?_
    refine WC.region ?_
    refine WL.x (X.field Try.runUnderlying25 rfl Try.sizeOf23 rfl) (by decide) ?_
    refine WL.x (X.loadB (k := 2) Try.isAgg23 rfl rfl rfl) (by decide) ?_
    refine WL.x (X.len Try.runUnderlying23 rfl hs4) (by decide) ?_
    refine WL.cond (X.geq rfl rfl) (by decide) (fun h11 => ?_) (fun h11 => ?_)
    · refine WL.nil ?_
      refine WK.nThen ?_
      refine WC.condT rfl ?_
      refine WC.seq ?_
      refine WC.region ?_
      refine WL.x (V := Value.agg [.slice none 0 0, .slice none 0 0].toArray) (X.build Try.zeroValue25 Try.runUnderlying25 (places25 _ Try.underlying25) rfl rfl) (by decide) ?_
      refine WL.ts (T.storeBA (k := 0) Try.sizeOf25 rfl rfl rfl (one_cons rfl (one_cons rfl one_nil)) rfl rfl) ?_
      refine WL.x (X.assign rfl) (by decide) ?_
      refine WL.nil ?_
      refine WK.nThen ?_
      refine WC.ret ?_
      refine WK.rThen ?_
      refine WK.retC2 0 rfl rfl rfl rfl Try.isAgg25 Try.sizeOf25 (fun w' hw' => Ret.mem hw' ?_)
      first | exact ⟨_, tup2 rfl (int_eq (by rw [winR_bad (by omega)])), by rw [winR_bad (by omega)]; exact ⟨_, _, rfl, .nil, .nil⟩⟩ | exact ⟨_, tup2 rfl (int_eq (by rw [winR_big (by omega) (by omega)])), by rw [winR_big (by omega) (by omega)]; exact ⟨_, _, rfl, .nil, .nil⟩⟩ | exact ⟨_, tup2 rfl (int_eq (by rw [winR_arg (by omega) (by omega) (by assumption)])), by rw [winR_arg (by omega) (by omega) (by assumption)]; exact ⟨_, _, rfl, .nil, .nil⟩⟩ | exact ⟨_, tup2 rfl (int_eq (by rw [winR_ok (by omega) (by omega) (by assumption)])), by rw [winR_ok (by omega) (by omega) (by assumption)]; exact ⟨_, _, rfl, .nil, .nil⟩⟩
    · refine WL.nil ?_
      refine WK.nThen ?_
      refine WC.condF rfl ?_
      refine WC.skip ?_
      refine WK.nThen ?_
      have hwl : (winD d s).Stops.length = d.Stops.length + 1 := (by simp [winD])
      have hdp := drumP_of (d := d) (by omega)
      have hd1 := hdp.1
      refine WC.cut (G := Mem × Nat × Value × Value) (fun (m12, b25, v14, v23) => m12) (fun (m12, b25, v14, v23) => [blk b25 25 [v14, v23], rowF (v23) 34 (d.Stops ++ [s]), rowF (v14) 31 (d.Rates), blk b9 25 [.slice none 0 0, .slice none 0 0], blk b8 34 [.int .i64 (s.Column), .int .i64 (s.Ticks.Lo), .int .i64 (s.Ticks.Hi)], blk b7 25 [v1, v3]]) (fun (m12, b25, v14, v23) => [(4, .pointer (some ⟨b9, 0, none⟩)), (7, .pointer (some ⟨b25, 0, none⟩))]) (fun (m12, b25, v14, v23) => m.le m12 ∧ Sl (α := Span) m12 v1 d.Rates ∧ Sl (α := Stop) m12 v3 d.Stops) ?_ ?_
      · refine WC.draw (π := (.cons 0 (.cons 1 (.cons 3 (.cons 4 (.cons 6 (.fork (.cons 2 (.fork (.cons 5 (.fork (.cons 7 (.fork (.cons 8 (.cons 9 (.cons 10 (.cons 11 .done)))) (.cons 10 (.cons 8 (.cons 9 (.cons 11 .done)))))) (.cons 10 (.cons 7 (.cons 8 (.cons 9 (.cons 11 .done))))))) (.fork (.cons 7 (.fork (.cons 5 (.fork (.cons 8 (.cons 9 (.cons 10 (.cons 11 .done)))) (.cons 10 (.cons 8 (.cons 9 (.cons 11 .done)))))) (.cons 10 (.cons 5 (.cons 8 (.cons 9 (.cons 11 .done))))))) (.cons 10 (.fork (.cons 5 (.cons 7 (.cons 8 (.cons 9 (.cons 11 .done))))) (.cons 7 (.cons 5 (.cons 8 (.cons 9 (.cons 11 .done)))))))))) (.fork (.cons 7 (.fork (.cons 2 (.fork (.cons 5 (.fork (.cons 8 (.cons 9 (.cons 10 (.cons 11 .done)))) (.cons 10 (.cons 8 (.cons 9 (.cons 11 .done)))))) (.cons 10 (.cons 5 (.cons 8 (.cons 9 (.cons 11 .done))))))) (.cons 10 (.cons 2 (.cons 5 (.cons 8 (.cons 9 (.cons 11 .done)))))))) (.cons 10 (.fork (.cons 2 (.fork (.cons 5 (.cons 7 (.cons 8 (.cons 9 (.cons 11 .done))))) (.cons 7 (.cons 5 (.cons 8 (.cons 9 (.cons 11 .done))))))) (.cons 7 (.cons 2 (.cons 5 (.cons 8 (.cons 9 (.cons 11 .done)))))))))))))))) [2, 5, 7, 8, 10, 11] [8, 11] rfl (by kernel_rfl) ?_
        refine DW.x rfl rfl (X.field Try.runUnderlying25 rfl Try.sizeOf22 rfl) (by decide) ?_
        refine DW.x rfl rfl (X.loadB (k := 2) Try.isAgg22 rfl rfl rfl) (by decide) ?_
        refine DW.x rfl rfl (X.field Try.runUnderlying25 rfl Try.sizeOf23 rfl) (by decide) ?_
        refine DW.x rfl rfl (X.loadB (k := 2) Try.isAgg23 rfl rfl rfl) (by decide) ?_
        refine DW.x rfl rfl (X.loadBA (k := 1) Try.isAgg34 Try.sizeOf34 rfl rfl rfl) (by decide) ?_
        refine DW.fork (List.cons_ne_nil _ _) ?_ ?_
        · refine DW.tO rfl rfl rfl (T.callO Try.call116 rfl (clone116 _ hs2 (by omega))) (by decide) (fun m13 Es14 v15 hle16 hR_ => ?_)
          obtain ⟨rfl, ho17⟩ := hR_
          replace hs2 := hs2.mono hle16
          replace hs4 := hs4.mono hle16
          refine DW.fork (List.cons_ne_nil _ _) ?_ ?_
          · refine DW.tO rfl rfl rfl (T.callO Try.call117 rfl (clone117 _ hs4 (by omega))) (by decide) (fun m18 Es19 v20 hle21 hR_ => ?_)
            obtain ⟨rfl, ho22⟩ := hR_
            replace hs2 := hs2.mono hle21
            replace hs4 := hs4.mono hle21
            refine DW.fork (List.cons_ne_nil _ _) ?_ ?_
            · refine DW.tl rfl rfl rfl (T.lit1 sl23 rfl rfl rfl (by decide)) (by decide) fun b23 => ?_
              refine DW.fork (List.cons_ne_nil _ _) ?_ ?_
              · refine DW.ta rfl rfl rfl rfl (T.appendF (k := 0) (a := s) sl23 rfl rfl rfl rfl (by first | omega | (simp; omega)) (by decide)) (by decide) (fun v24 => ?_)
                refine DW.x (V := Value.agg [v15, v24].toArray) rfl rfl (OpX.own1 (k := 0) rfl trivial (defdB rfl) fun ho25 => (X.build Try.zeroValue25 Try.runUnderlying25 (places25 _ Try.underlying25) rfl (by simp only [Instr.fill, one_cells ho17, one_cells ho25]; rfl))) (by decide) ?_
                refine DW.tn rfl rfl rfl (T.alloc Try.zeroValue25 rfl) (by decide) fun b26 => ?_
                refine DW.ts rfl rfl rfl rfl (OpTo.own1 (k := 1) rfl trivial (defd2 rfl rfl rfl) fun ho27 => (T.storeBA (k := 0) Try.sizeOf25 rfl rfl rfl (one_cons ho17 (one_cons ho27 one_nil)) rfl rfl)) ?_
                refine DW.nil ?_
                refine WK.nThen ?_
                exact WK.meet (m18, b26, v15, v24) rfl (.refl _) (.cons rfl (.cons rfl .nil)) ⟨(Mem.le_trans hle16 hle21), hs2, hs4⟩
              · refine DW.tn rfl rfl rfl (T.alloc Try.zeroValue25 rfl) (by decide) fun b28 => ?_
                refine DW.ta rfl rfl rfl rfl (OpTo.perm (H' := [blk b23 34 [.int .i64 (s.Column), .int .i64 (s.Ticks.Lo), .int .i64 (s.Ticks.Hi)], blk b28 25 [.slice none 0 0, .slice none 0 0], rowF (v20) 34 (d.Stops), rowF (v15) 31 (d.Rates), blk b9 25 [.slice none 0 0, .slice none 0 0], blk b8 34 [.int .i64 (s.Column), .int .i64 (s.Ticks.Lo), .int .i64 (s.Ticks.Hi)], blk b7 25 [v1, v3]]) (List.perm_middle (l₁ := [blk b28 25 [.slice none 0 0, .slice none 0 0]]) (l₂ := [rowF (v20) 34 (d.Stops), rowF (v15) 31 (d.Rates), blk b9 25 [.slice none 0 0, .slice none 0 0], blk b8 34 [.int .i64 (s.Column), .int .i64 (s.Ticks.Lo), .int .i64 (s.Ticks.Hi)], blk b7 25 [v1, v3]]) (a := blk b23 34 [.int .i64 (s.Column), .int .i64 (s.Ticks.Lo), .int .i64 (s.Ticks.Hi)])).symm (T.appendF (k := 1) (a := s) sl23 rfl rfl rfl rfl (by first | omega | (simp; omega)) (by decide))) (by decide) (fun v29 => ?_)
                refine DW.x (V := Value.agg [v15, v29].toArray) rfl rfl (OpX.own1 (k := 2) rfl trivial (defdB rfl) fun ho30 => (OpX.own1 (k := 1) rfl trivial (defdB rfl) fun ho31 => (X.build Try.zeroValue25 Try.runUnderlying25 (places25 _ Try.underlying25) rfl (by simp only [Instr.fill, one_cells ho30, one_cells ho31]; rfl)))) (by decide) ?_
                refine DW.ts rfl rfl rfl rfl (OpTo.own1 (k := 2) rfl trivial (defd2 rfl rfl rfl) fun ho32 => (OpTo.own1 (k := 1) rfl trivial (defd2 rfl rfl rfl) fun ho33 => (T.storeBA (k := 0) Try.sizeOf25 rfl rfl rfl (one_cons ho32 (one_cons ho33 one_nil)) rfl rfl))) ?_
                refine DW.nil ?_
                refine WK.nThen ?_
                exact WK.meet (m18, b28, v15, v29) rfl (.refl _) (.cons rfl (.cons rfl .nil)) ⟨(Mem.le_trans hle16 hle21), hs2, hs4⟩
            · refine DW.tn rfl rfl rfl (T.alloc Try.zeroValue25 rfl) (by decide) fun b34 => ?_
              refine DW.tl rfl rfl rfl (T.lit1 sl23 rfl rfl rfl (by decide)) (by decide) fun b35 => ?_
              refine DW.ta rfl rfl rfl rfl (T.appendF (k := 1) (a := s) sl23 rfl rfl rfl rfl (by first | omega | (simp; omega)) (by decide)) (by decide) (fun v36 => ?_)
              refine DW.x (V := Value.agg [v15, v36].toArray) rfl rfl (OpX.own1 (k := 2) rfl trivial (defdB rfl) fun ho37 => (OpX.own1 (k := 1) rfl trivial (defdB rfl) fun ho38 => (X.build Try.zeroValue25 Try.runUnderlying25 (places25 _ Try.underlying25) rfl (by simp only [Instr.fill, one_cells ho37, one_cells ho38]; rfl)))) (by decide) ?_
              refine DW.ts rfl rfl rfl rfl (OpTo.own1 (k := 2) rfl trivial (defd2 rfl rfl rfl) fun ho39 => (OpTo.own1 (k := 1) rfl trivial (defd2 rfl rfl rfl) fun ho40 => (T.storeBA (k := 0) Try.sizeOf25 rfl rfl rfl (one_cons ho39 (one_cons ho40 one_nil)) rfl rfl))) ?_
              refine DW.nil ?_
              refine WK.nThen ?_
              exact WK.meet (m18, b34, v15, v36) rfl (.refl _) (.cons rfl (.cons rfl .nil)) ⟨(Mem.le_trans hle16 hle21), hs2, hs4⟩
          · refine DW.fork (List.cons_ne_nil _ _) ?_ ?_
            · refine DW.tl rfl rfl rfl (T.lit1 sl23 rfl rfl rfl (by decide)) (by decide) fun b41 => ?_
              refine DW.fork (List.cons_ne_nil _ _) ?_ ?_
              · refine DW.tO rfl rfl rfl (T.callO Try.call117 rfl (clone117 _ hs4 (by omega))) (by decide) (fun m42 Es43 v44 hle45 hR_ => ?_)
                obtain ⟨rfl, ho46⟩ := hR_
                replace hs2 := hs2.mono hle45
                replace hs4 := hs4.mono hle45
                refine DW.fork (List.cons_ne_nil _ _) ?_ ?_
                · refine DW.ta rfl rfl rfl rfl (OpTo.perm (H' := [blk b41 34 [.int .i64 (s.Column), .int .i64 (s.Ticks.Lo), .int .i64 (s.Ticks.Hi)], rowF (v44) 34 (d.Stops), rowF (v15) 31 (d.Rates), blk b9 25 [.slice none 0 0, .slice none 0 0], blk b8 34 [.int .i64 (s.Column), .int .i64 (s.Ticks.Lo), .int .i64 (s.Ticks.Hi)], blk b7 25 [v1, v3]]) (List.perm_middle (l₁ := [rowF (v44) 34 (d.Stops)]) (l₂ := [rowF (v15) 31 (d.Rates), blk b9 25 [.slice none 0 0, .slice none 0 0], blk b8 34 [.int .i64 (s.Column), .int .i64 (s.Ticks.Lo), .int .i64 (s.Ticks.Hi)], blk b7 25 [v1, v3]]) (a := blk b41 34 [.int .i64 (s.Column), .int .i64 (s.Ticks.Lo), .int .i64 (s.Ticks.Hi)])).symm (T.appendF (k := 0) (a := s) sl23 rfl rfl rfl rfl (by first | omega | (simp; omega)) (by decide))) (by decide) (fun v47 => ?_)
                  refine DW.x (V := Value.agg [v15, v47].toArray) rfl rfl (OpX.own1 (k := 1) rfl trivial (defdB rfl) fun ho48 => (OpX.own1 (k := 0) rfl trivial (defdB rfl) fun ho49 => (X.build Try.zeroValue25 Try.runUnderlying25 (places25 _ Try.underlying25) rfl (by simp only [Instr.fill, one_cells ho48, one_cells ho49]; rfl)))) (by decide) ?_
                  refine DW.tn rfl rfl rfl (T.alloc Try.zeroValue25 rfl) (by decide) fun b50 => ?_
                  refine DW.ts rfl rfl rfl rfl (OpTo.own1 (k := 2) rfl trivial (defd2 rfl rfl rfl) fun ho51 => (OpTo.own1 (k := 1) rfl trivial (defd2 rfl rfl rfl) fun ho52 => (T.storeBA (k := 0) Try.sizeOf25 rfl rfl rfl (one_cons ho51 (one_cons ho52 one_nil)) rfl rfl))) ?_
                  refine DW.nil ?_
                  refine WK.nThen ?_
                  exact WK.meet (m42, b50, v15, v47) rfl (.refl _) (.cons rfl (.cons rfl .nil)) ⟨(Mem.le_trans hle16 hle45), hs2, hs4⟩
                · refine DW.tn rfl rfl rfl (T.alloc Try.zeroValue25 rfl) (by decide) fun b53 => ?_
                  refine DW.ta rfl rfl rfl rfl (OpTo.perm (H' := [blk b41 34 [.int .i64 (s.Column), .int .i64 (s.Ticks.Lo), .int .i64 (s.Ticks.Hi)], blk b53 25 [.slice none 0 0, .slice none 0 0], rowF (v44) 34 (d.Stops), rowF (v15) 31 (d.Rates), blk b9 25 [.slice none 0 0, .slice none 0 0], blk b8 34 [.int .i64 (s.Column), .int .i64 (s.Ticks.Lo), .int .i64 (s.Ticks.Hi)], blk b7 25 [v1, v3]]) (List.perm_middle (l₁ := [blk b53 25 [.slice none 0 0, .slice none 0 0], rowF (v44) 34 (d.Stops)]) (l₂ := [rowF (v15) 31 (d.Rates), blk b9 25 [.slice none 0 0, .slice none 0 0], blk b8 34 [.int .i64 (s.Column), .int .i64 (s.Ticks.Lo), .int .i64 (s.Ticks.Hi)], blk b7 25 [v1, v3]]) (a := blk b41 34 [.int .i64 (s.Column), .int .i64 (s.Ticks.Lo), .int .i64 (s.Ticks.Hi)])).symm (T.appendF (k := 1) (a := s) sl23 rfl rfl rfl rfl (by first | omega | (simp; omega)) (by decide))) (by decide) (fun v54 => ?_)
                  refine DW.x (V := Value.agg [v15, v54].toArray) rfl rfl (OpX.own1 (k := 2) rfl trivial (defdB rfl) fun ho55 => (OpX.own1 (k := 1) rfl trivial (defdB rfl) fun ho56 => (X.build Try.zeroValue25 Try.runUnderlying25 (places25 _ Try.underlying25) rfl (by simp only [Instr.fill, one_cells ho55, one_cells ho56]; rfl)))) (by decide) ?_
                  refine DW.ts rfl rfl rfl rfl (OpTo.own1 (k := 2) rfl trivial (defd2 rfl rfl rfl) fun ho57 => (OpTo.own1 (k := 1) rfl trivial (defd2 rfl rfl rfl) fun ho58 => (T.storeBA (k := 0) Try.sizeOf25 rfl rfl rfl (one_cons ho57 (one_cons ho58 one_nil)) rfl rfl))) ?_
                  refine DW.nil ?_
                  refine WK.nThen ?_
                  exact WK.meet (m42, b53, v15, v54) rfl (.refl _) (.cons rfl (.cons rfl .nil)) ⟨(Mem.le_trans hle16 hle45), hs2, hs4⟩
              · refine DW.tn rfl rfl rfl (T.alloc Try.zeroValue25 rfl) (by decide) fun b59 => ?_
                refine DW.tO rfl rfl rfl (T.callO Try.call117 rfl (clone117 _ hs4 (by omega))) (by decide) (fun m60 Es61 v62 hle63 hR_ => ?_)
                obtain ⟨rfl, ho64⟩ := hR_
                replace hs2 := hs2.mono hle63
                replace hs4 := hs4.mono hle63
                refine DW.ta rfl rfl rfl rfl (OpTo.perm (H' := [blk b41 34 [.int .i64 (s.Column), .int .i64 (s.Ticks.Lo), .int .i64 (s.Ticks.Hi)], rowF (v62) 34 (d.Stops), blk b59 25 [.slice none 0 0, .slice none 0 0], rowF (v15) 31 (d.Rates), blk b9 25 [.slice none 0 0, .slice none 0 0], blk b8 34 [.int .i64 (s.Column), .int .i64 (s.Ticks.Lo), .int .i64 (s.Ticks.Hi)], blk b7 25 [v1, v3]]) (List.perm_middle (l₁ := [rowF (v62) 34 (d.Stops), blk b59 25 [.slice none 0 0, .slice none 0 0]]) (l₂ := [rowF (v15) 31 (d.Rates), blk b9 25 [.slice none 0 0, .slice none 0 0], blk b8 34 [.int .i64 (s.Column), .int .i64 (s.Ticks.Lo), .int .i64 (s.Ticks.Hi)], blk b7 25 [v1, v3]]) (a := blk b41 34 [.int .i64 (s.Column), .int .i64 (s.Ticks.Lo), .int .i64 (s.Ticks.Hi)])).symm (T.appendF (k := 0) (a := s) sl23 rfl rfl rfl rfl (by first | omega | (simp; omega)) (by decide))) (by decide) (fun v65 => ?_)
                refine DW.x (V := Value.agg [v15, v65].toArray) rfl rfl (OpX.own1 (k := 2) rfl trivial (defdB rfl) fun ho66 => (OpX.own1 (k := 0) rfl trivial (defdB rfl) fun ho67 => (X.build Try.zeroValue25 Try.runUnderlying25 (places25 _ Try.underlying25) rfl (by simp only [Instr.fill, one_cells ho66, one_cells ho67]; rfl)))) (by decide) ?_
                refine DW.ts rfl rfl rfl rfl (OpTo.own1 (k := 2) rfl trivial (defd2 rfl rfl rfl) fun ho68 => (OpTo.own1 (k := 0) rfl trivial (defd2 rfl rfl rfl) fun ho69 => (T.storeBA (k := 1) Try.sizeOf25 rfl rfl rfl (one_cons ho68 (one_cons ho69 one_nil)) rfl rfl))) ?_
                refine DW.nil ?_
                refine WK.nThen ?_
                refine WK.perm [blk b59 25 [v15, v65], rowF (v65) 34 (d.Stops ++ [s]), rowF (v15) 31 (d.Rates), blk b9 25 [.slice none 0 0, .slice none 0 0], blk b8 34 [.int .i64 (s.Column), .int .i64 (s.Ticks.Lo), .int .i64 (s.Ticks.Hi)], blk b7 25 [v1, v3]] ((List.Perm.cons _ (.refl _)).trans (List.perm_middle (l₁ := [rowF (v65) 34 (d.Stops ++ [s])]) (l₂ := [rowF (v15) 31 (d.Rates), blk b9 25 [.slice none 0 0, .slice none 0 0], blk b8 34 [.int .i64 (s.Column), .int .i64 (s.Ticks.Lo), .int .i64 (s.Ticks.Hi)], blk b7 25 [v1, v3]]) (a := blk b59 25 [v15, v65])).symm) ?_
                exact WK.meet (m60, b59, v15, v65) rfl (.refl _) (.cons rfl (.cons rfl .nil)) ⟨(Mem.le_trans hle16 hle63), hs2, hs4⟩
            · refine DW.tn rfl rfl rfl (T.alloc Try.zeroValue25 rfl) (by decide) fun b70 => ?_
              refine DW.fork (List.cons_ne_nil _ _) ?_ ?_
              · refine DW.tO rfl rfl rfl (T.callO Try.call117 rfl (clone117 _ hs4 (by omega))) (by decide) (fun m71 Es72 v73 hle74 hR_ => ?_)
                obtain ⟨rfl, ho75⟩ := hR_
                replace hs2 := hs2.mono hle74
                replace hs4 := hs4.mono hle74
                refine DW.tl rfl rfl rfl (T.lit1 sl23 rfl rfl rfl (by decide)) (by decide) fun b76 => ?_
                refine DW.ta rfl rfl rfl rfl (T.appendF (k := 0) (a := s) sl23 rfl rfl rfl rfl (by first | omega | (simp; omega)) (by decide)) (by decide) (fun v77 => ?_)
                refine DW.x (V := Value.agg [v15, v77].toArray) rfl rfl (OpX.own1 (k := 2) rfl trivial (defdB rfl) fun ho78 => (OpX.own1 (k := 0) rfl trivial (defdB rfl) fun ho79 => (X.build Try.zeroValue25 Try.runUnderlying25 (places25 _ Try.underlying25) rfl (by simp only [Instr.fill, one_cells ho78, one_cells ho79]; rfl)))) (by decide) ?_
                refine DW.ts rfl rfl rfl rfl (OpTo.own1 (k := 2) rfl trivial (defd2 rfl rfl rfl) fun ho80 => (OpTo.own1 (k := 0) rfl trivial (defd2 rfl rfl rfl) fun ho81 => (T.storeBA (k := 1) Try.sizeOf25 rfl rfl rfl (one_cons ho80 (one_cons ho81 one_nil)) rfl rfl))) ?_
                refine DW.nil ?_
                refine WK.nThen ?_
                refine WK.perm [blk b70 25 [v15, v77], rowF (v77) 34 (d.Stops ++ [s]), rowF (v15) 31 (d.Rates), blk b9 25 [.slice none 0 0, .slice none 0 0], blk b8 34 [.int .i64 (s.Column), .int .i64 (s.Ticks.Lo), .int .i64 (s.Ticks.Hi)], blk b7 25 [v1, v3]] ((List.Perm.cons _ (.refl _)).trans (List.perm_middle (l₁ := [rowF (v77) 34 (d.Stops ++ [s])]) (l₂ := [rowF (v15) 31 (d.Rates), blk b9 25 [.slice none 0 0, .slice none 0 0], blk b8 34 [.int .i64 (s.Column), .int .i64 (s.Ticks.Lo), .int .i64 (s.Ticks.Hi)], blk b7 25 [v1, v3]]) (a := blk b70 25 [v15, v77])).symm) ?_
                exact WK.meet (m71, b70, v15, v77) rfl (.refl _) (.cons rfl (.cons rfl .nil)) ⟨(Mem.le_trans hle16 hle74), hs2, hs4⟩
              · refine DW.tl rfl rfl rfl (T.lit1 sl23 rfl rfl rfl (by decide)) (by decide) fun b82 => ?_
                refine DW.tO rfl rfl rfl (T.callO Try.call117 rfl (clone117 _ hs4 (by omega))) (by decide) (fun m83 Es84 v85 hle86 hR_ => ?_)
                obtain ⟨rfl, ho87⟩ := hR_
                replace hs2 := hs2.mono hle86
                replace hs4 := hs4.mono hle86
                refine DW.ta rfl rfl rfl rfl (OpTo.perm (H' := [blk b82 34 [.int .i64 (s.Column), .int .i64 (s.Ticks.Lo), .int .i64 (s.Ticks.Hi)], rowF (v85) 34 (d.Stops), blk b70 25 [.slice none 0 0, .slice none 0 0], rowF (v15) 31 (d.Rates), blk b9 25 [.slice none 0 0, .slice none 0 0], blk b8 34 [.int .i64 (s.Column), .int .i64 (s.Ticks.Lo), .int .i64 (s.Ticks.Hi)], blk b7 25 [v1, v3]]) (List.perm_middle (l₁ := [rowF (v85) 34 (d.Stops)]) (l₂ := [blk b70 25 [.slice none 0 0, .slice none 0 0], rowF (v15) 31 (d.Rates), blk b9 25 [.slice none 0 0, .slice none 0 0], blk b8 34 [.int .i64 (s.Column), .int .i64 (s.Ticks.Lo), .int .i64 (s.Ticks.Hi)], blk b7 25 [v1, v3]]) (a := blk b82 34 [.int .i64 (s.Column), .int .i64 (s.Ticks.Lo), .int .i64 (s.Ticks.Hi)])).symm (T.appendF (k := 0) (a := s) sl23 rfl rfl rfl rfl (by first | omega | (simp; omega)) (by decide))) (by decide) (fun v88 => ?_)
                refine DW.x (V := Value.agg [v15, v88].toArray) rfl rfl (OpX.own1 (k := 2) rfl trivial (defdB rfl) fun ho89 => (OpX.own1 (k := 0) rfl trivial (defdB rfl) fun ho90 => (X.build Try.zeroValue25 Try.runUnderlying25 (places25 _ Try.underlying25) rfl (by simp only [Instr.fill, one_cells ho89, one_cells ho90]; rfl)))) (by decide) ?_
                refine DW.ts rfl rfl rfl rfl (OpTo.own1 (k := 2) rfl trivial (defd2 rfl rfl rfl) fun ho91 => (OpTo.own1 (k := 0) rfl trivial (defd2 rfl rfl rfl) fun ho92 => (T.storeBA (k := 1) Try.sizeOf25 rfl rfl rfl (one_cons ho91 (one_cons ho92 one_nil)) rfl rfl))) ?_
                refine DW.nil ?_
                refine WK.nThen ?_
                refine WK.perm [blk b70 25 [v15, v88], rowF (v88) 34 (d.Stops ++ [s]), rowF (v15) 31 (d.Rates), blk b9 25 [.slice none 0 0, .slice none 0 0], blk b8 34 [.int .i64 (s.Column), .int .i64 (s.Ticks.Lo), .int .i64 (s.Ticks.Hi)], blk b7 25 [v1, v3]] ((List.Perm.cons _ (.refl _)).trans (List.perm_middle (l₁ := [rowF (v88) 34 (d.Stops ++ [s])]) (l₂ := [rowF (v15) 31 (d.Rates), blk b9 25 [.slice none 0 0, .slice none 0 0], blk b8 34 [.int .i64 (s.Column), .int .i64 (s.Ticks.Lo), .int .i64 (s.Ticks.Hi)], blk b7 25 [v1, v3]]) (a := blk b70 25 [v15, v88])).symm) ?_
                exact WK.meet (m83, b70, v15, v88) rfl (.refl _) (.cons rfl (.cons rfl .nil)) ⟨(Mem.le_trans hle16 hle86), hs2, hs4⟩
        · refine DW.fork (List.cons_ne_nil _ _) ?_ ?_
          · refine DW.tl rfl rfl rfl (T.lit1 sl23 rfl rfl rfl (by decide)) (by decide) fun b93 => ?_
            refine DW.fork (List.cons_ne_nil _ _) ?_ ?_
            · refine DW.tO rfl rfl rfl (T.callO Try.call116 rfl (clone116 _ hs2 (by omega))) (by decide) (fun m94 Es95 v96 hle97 hR_ => ?_)
              obtain ⟨rfl, ho98⟩ := hR_
              replace hs2 := hs2.mono hle97
              replace hs4 := hs4.mono hle97
              refine DW.fork (List.cons_ne_nil _ _) ?_ ?_
              · refine DW.tO rfl rfl rfl (T.callO Try.call117 rfl (clone117 _ hs4 (by omega))) (by decide) (fun m99 Es100 v101 hle102 hR_ => ?_)
                obtain ⟨rfl, ho103⟩ := hR_
                replace hs2 := hs2.mono hle102
                replace hs4 := hs4.mono hle102
                refine DW.fork (List.cons_ne_nil _ _) ?_ ?_
                · refine DW.ta rfl rfl rfl rfl (OpTo.perm (H' := [blk b93 34 [.int .i64 (s.Column), .int .i64 (s.Ticks.Lo), .int .i64 (s.Ticks.Hi)], rowF (v101) 34 (d.Stops), rowF (v96) 31 (d.Rates), blk b9 25 [.slice none 0 0, .slice none 0 0], blk b8 34 [.int .i64 (s.Column), .int .i64 (s.Ticks.Lo), .int .i64 (s.Ticks.Hi)], blk b7 25 [v1, v3]]) (List.perm_middle (l₁ := [rowF (v101) 34 (d.Stops), rowF (v96) 31 (d.Rates)]) (l₂ := [blk b9 25 [.slice none 0 0, .slice none 0 0], blk b8 34 [.int .i64 (s.Column), .int .i64 (s.Ticks.Lo), .int .i64 (s.Ticks.Hi)], blk b7 25 [v1, v3]]) (a := blk b93 34 [.int .i64 (s.Column), .int .i64 (s.Ticks.Lo), .int .i64 (s.Ticks.Hi)])).symm (T.appendF (k := 0) (a := s) sl23 rfl rfl rfl rfl (by first | omega | (simp; omega)) (by decide))) (by decide) (fun v104 => ?_)
                  refine DW.x (V := Value.agg [v96, v104].toArray) rfl rfl (OpX.own1 (k := 0) rfl trivial (defdB rfl) fun ho105 => (X.build Try.zeroValue25 Try.runUnderlying25 (places25 _ Try.underlying25) rfl (by simp only [Instr.fill, one_cells ho98, one_cells ho105]; rfl))) (by decide) ?_
                  refine DW.tn rfl rfl rfl (T.alloc Try.zeroValue25 rfl) (by decide) fun b106 => ?_
                  refine DW.ts rfl rfl rfl rfl (OpTo.own1 (k := 1) rfl trivial (defd2 rfl rfl rfl) fun ho107 => (T.storeBA (k := 0) Try.sizeOf25 rfl rfl rfl (one_cons ho98 (one_cons ho107 one_nil)) rfl rfl)) ?_
                  refine DW.nil ?_
                  refine WK.nThen ?_
                  exact WK.meet (m99, b106, v96, v104) rfl (.refl _) (.cons rfl (.cons rfl .nil)) ⟨(Mem.le_trans hle97 hle102), hs2, hs4⟩
                · refine DW.tn rfl rfl rfl (T.alloc Try.zeroValue25 rfl) (by decide) fun b108 => ?_
                  refine DW.ta rfl rfl rfl rfl (OpTo.perm (H' := [blk b93 34 [.int .i64 (s.Column), .int .i64 (s.Ticks.Lo), .int .i64 (s.Ticks.Hi)], blk b108 25 [.slice none 0 0, .slice none 0 0], rowF (v101) 34 (d.Stops), rowF (v96) 31 (d.Rates), blk b9 25 [.slice none 0 0, .slice none 0 0], blk b8 34 [.int .i64 (s.Column), .int .i64 (s.Ticks.Lo), .int .i64 (s.Ticks.Hi)], blk b7 25 [v1, v3]]) (List.perm_middle (l₁ := [blk b108 25 [.slice none 0 0, .slice none 0 0], rowF (v101) 34 (d.Stops), rowF (v96) 31 (d.Rates)]) (l₂ := [blk b9 25 [.slice none 0 0, .slice none 0 0], blk b8 34 [.int .i64 (s.Column), .int .i64 (s.Ticks.Lo), .int .i64 (s.Ticks.Hi)], blk b7 25 [v1, v3]]) (a := blk b93 34 [.int .i64 (s.Column), .int .i64 (s.Ticks.Lo), .int .i64 (s.Ticks.Hi)])).symm (T.appendF (k := 1) (a := s) sl23 rfl rfl rfl rfl (by first | omega | (simp; omega)) (by decide))) (by decide) (fun v109 => ?_)
                  refine DW.x (V := Value.agg [v96, v109].toArray) rfl rfl (OpX.own1 (k := 2) rfl trivial (defdB rfl) fun ho110 => (OpX.own1 (k := 1) rfl trivial (defdB rfl) fun ho111 => (X.build Try.zeroValue25 Try.runUnderlying25 (places25 _ Try.underlying25) rfl (by simp only [Instr.fill, one_cells ho110, one_cells ho111]; rfl)))) (by decide) ?_
                  refine DW.ts rfl rfl rfl rfl (OpTo.own1 (k := 2) rfl trivial (defd2 rfl rfl rfl) fun ho112 => (OpTo.own1 (k := 1) rfl trivial (defd2 rfl rfl rfl) fun ho113 => (T.storeBA (k := 0) Try.sizeOf25 rfl rfl rfl (one_cons ho112 (one_cons ho113 one_nil)) rfl rfl))) ?_
                  refine DW.nil ?_
                  refine WK.nThen ?_
                  exact WK.meet (m99, b108, v96, v109) rfl (.refl _) (.cons rfl (.cons rfl .nil)) ⟨(Mem.le_trans hle97 hle102), hs2, hs4⟩
              · refine DW.tn rfl rfl rfl (T.alloc Try.zeroValue25 rfl) (by decide) fun b114 => ?_
                refine DW.tO rfl rfl rfl (T.callO Try.call117 rfl (clone117 _ hs4 (by omega))) (by decide) (fun m115 Es116 v117 hle118 hR_ => ?_)
                obtain ⟨rfl, ho119⟩ := hR_
                replace hs2 := hs2.mono hle118
                replace hs4 := hs4.mono hle118
                refine DW.ta rfl rfl rfl rfl (OpTo.perm (H' := [blk b93 34 [.int .i64 (s.Column), .int .i64 (s.Ticks.Lo), .int .i64 (s.Ticks.Hi)], rowF (v117) 34 (d.Stops), blk b114 25 [.slice none 0 0, .slice none 0 0], rowF (v96) 31 (d.Rates), blk b9 25 [.slice none 0 0, .slice none 0 0], blk b8 34 [.int .i64 (s.Column), .int .i64 (s.Ticks.Lo), .int .i64 (s.Ticks.Hi)], blk b7 25 [v1, v3]]) (List.perm_middle (l₁ := [rowF (v117) 34 (d.Stops), blk b114 25 [.slice none 0 0, .slice none 0 0], rowF (v96) 31 (d.Rates)]) (l₂ := [blk b9 25 [.slice none 0 0, .slice none 0 0], blk b8 34 [.int .i64 (s.Column), .int .i64 (s.Ticks.Lo), .int .i64 (s.Ticks.Hi)], blk b7 25 [v1, v3]]) (a := blk b93 34 [.int .i64 (s.Column), .int .i64 (s.Ticks.Lo), .int .i64 (s.Ticks.Hi)])).symm (T.appendF (k := 0) (a := s) sl23 rfl rfl rfl rfl (by first | omega | (simp; omega)) (by decide))) (by decide) (fun v120 => ?_)
                refine DW.x (V := Value.agg [v96, v120].toArray) rfl rfl (OpX.own1 (k := 2) rfl trivial (defdB rfl) fun ho121 => (OpX.own1 (k := 0) rfl trivial (defdB rfl) fun ho122 => (X.build Try.zeroValue25 Try.runUnderlying25 (places25 _ Try.underlying25) rfl (by simp only [Instr.fill, one_cells ho121, one_cells ho122]; rfl)))) (by decide) ?_
                refine DW.ts rfl rfl rfl rfl (OpTo.own1 (k := 2) rfl trivial (defd2 rfl rfl rfl) fun ho123 => (OpTo.own1 (k := 0) rfl trivial (defd2 rfl rfl rfl) fun ho124 => (T.storeBA (k := 1) Try.sizeOf25 rfl rfl rfl (one_cons ho123 (one_cons ho124 one_nil)) rfl rfl))) ?_
                refine DW.nil ?_
                refine WK.nThen ?_
                refine WK.perm [blk b114 25 [v96, v120], rowF (v120) 34 (d.Stops ++ [s]), rowF (v96) 31 (d.Rates), blk b9 25 [.slice none 0 0, .slice none 0 0], blk b8 34 [.int .i64 (s.Column), .int .i64 (s.Ticks.Lo), .int .i64 (s.Ticks.Hi)], blk b7 25 [v1, v3]] ((List.Perm.cons _ (.refl _)).trans (List.perm_middle (l₁ := [rowF (v120) 34 (d.Stops ++ [s])]) (l₂ := [rowF (v96) 31 (d.Rates), blk b9 25 [.slice none 0 0, .slice none 0 0], blk b8 34 [.int .i64 (s.Column), .int .i64 (s.Ticks.Lo), .int .i64 (s.Ticks.Hi)], blk b7 25 [v1, v3]]) (a := blk b114 25 [v96, v120])).symm) ?_
                exact WK.meet (m115, b114, v96, v120) rfl (.refl _) (.cons rfl (.cons rfl .nil)) ⟨(Mem.le_trans hle97 hle118), hs2, hs4⟩
            · refine DW.tn rfl rfl rfl (T.alloc Try.zeroValue25 rfl) (by decide) fun b125 => ?_
              refine DW.tO rfl rfl rfl (T.callO Try.call116 rfl (clone116 _ hs2 (by omega))) (by decide) (fun m126 Es127 v128 hle129 hR_ => ?_)
              obtain ⟨rfl, ho130⟩ := hR_
              replace hs2 := hs2.mono hle129
              replace hs4 := hs4.mono hle129
              refine DW.tO rfl rfl rfl (T.callO Try.call117 rfl (clone117 _ hs4 (by omega))) (by decide) (fun m131 Es132 v133 hle134 hR_ => ?_)
              obtain ⟨rfl, ho135⟩ := hR_
              replace hs2 := hs2.mono hle134
              replace hs4 := hs4.mono hle134
              refine DW.ta rfl rfl rfl rfl (OpTo.perm (H' := [blk b93 34 [.int .i64 (s.Column), .int .i64 (s.Ticks.Lo), .int .i64 (s.Ticks.Hi)], rowF (v133) 34 (d.Stops), rowF (v128) 31 (d.Rates), blk b125 25 [.slice none 0 0, .slice none 0 0], blk b9 25 [.slice none 0 0, .slice none 0 0], blk b8 34 [.int .i64 (s.Column), .int .i64 (s.Ticks.Lo), .int .i64 (s.Ticks.Hi)], blk b7 25 [v1, v3]]) (List.perm_middle (l₁ := [rowF (v133) 34 (d.Stops), rowF (v128) 31 (d.Rates), blk b125 25 [.slice none 0 0, .slice none 0 0]]) (l₂ := [blk b9 25 [.slice none 0 0, .slice none 0 0], blk b8 34 [.int .i64 (s.Column), .int .i64 (s.Ticks.Lo), .int .i64 (s.Ticks.Hi)], blk b7 25 [v1, v3]]) (a := blk b93 34 [.int .i64 (s.Column), .int .i64 (s.Ticks.Lo), .int .i64 (s.Ticks.Hi)])).symm (T.appendF (k := 0) (a := s) sl23 rfl rfl rfl rfl (by first | omega | (simp; omega)) (by decide))) (by decide) (fun v136 => ?_)
              refine DW.x (V := Value.agg [v128, v136].toArray) rfl rfl (OpX.own1 (k := 0) rfl trivial (defdB rfl) fun ho137 => (X.build Try.zeroValue25 Try.runUnderlying25 (places25 _ Try.underlying25) rfl (by simp only [Instr.fill, one_cells ho130, one_cells ho137]; rfl))) (by decide) ?_
              refine DW.ts rfl rfl rfl rfl (OpTo.own1 (k := 0) rfl trivial (defd2 rfl rfl rfl) fun ho138 => (T.storeBA (k := 2) Try.sizeOf25 rfl rfl rfl (one_cons ho130 (one_cons ho138 one_nil)) rfl rfl)) ?_
              refine DW.nil ?_
              refine WK.nThen ?_
              refine WK.perm [blk b125 25 [v128, v136], rowF (v136) 34 (d.Stops ++ [s]), rowF (v128) 31 (d.Rates), blk b9 25 [.slice none 0 0, .slice none 0 0], blk b8 34 [.int .i64 (s.Column), .int .i64 (s.Ticks.Lo), .int .i64 (s.Ticks.Hi)], blk b7 25 [v1, v3]] ((List.Perm.cons _ (.refl _)).trans (List.perm_middle (l₁ := [rowF (v136) 34 (d.Stops ++ [s]), rowF (v128) 31 (d.Rates)]) (l₂ := [blk b9 25 [.slice none 0 0, .slice none 0 0], blk b8 34 [.int .i64 (s.Column), .int .i64 (s.Ticks.Lo), .int .i64 (s.Ticks.Hi)], blk b7 25 [v1, v3]]) (a := blk b125 25 [v128, v136])).symm) ?_
              exact WK.meet (m131, b125, v128, v136) rfl (.refl _) (.cons rfl (.cons rfl .nil)) ⟨(Mem.le_trans hle129 hle134), hs2, hs4⟩
          · refine DW.tn rfl rfl rfl (T.alloc Try.zeroValue25 rfl) (by decide) fun b139 => ?_
            refine DW.fork (List.cons_ne_nil _ _) ?_ ?_
            · refine DW.tO rfl rfl rfl (T.callO Try.call116 rfl (clone116 _ hs2 (by omega))) (by decide) (fun m140 Es141 v142 hle143 hR_ => ?_)
              obtain ⟨rfl, ho144⟩ := hR_
              replace hs2 := hs2.mono hle143
              replace hs4 := hs4.mono hle143
              refine DW.fork (List.cons_ne_nil _ _) ?_ ?_
              · refine DW.tO rfl rfl rfl (T.callO Try.call117 rfl (clone117 _ hs4 (by omega))) (by decide) (fun m145 Es146 v147 hle148 hR_ => ?_)
                obtain ⟨rfl, ho149⟩ := hR_
                replace hs2 := hs2.mono hle148
                replace hs4 := hs4.mono hle148
                refine DW.tl rfl rfl rfl (T.lit1 sl23 rfl rfl rfl (by decide)) (by decide) fun b150 => ?_
                refine DW.ta rfl rfl rfl rfl (T.appendF (k := 0) (a := s) sl23 rfl rfl rfl rfl (by first | omega | (simp; omega)) (by decide)) (by decide) (fun v151 => ?_)
                refine DW.x (V := Value.agg [v142, v151].toArray) rfl rfl (OpX.own1 (k := 0) rfl trivial (defdB rfl) fun ho152 => (X.build Try.zeroValue25 Try.runUnderlying25 (places25 _ Try.underlying25) rfl (by simp only [Instr.fill, one_cells ho144, one_cells ho152]; rfl))) (by decide) ?_
                refine DW.ts rfl rfl rfl rfl (OpTo.own1 (k := 0) rfl trivial (defd2 rfl rfl rfl) fun ho153 => (T.storeBA (k := 2) Try.sizeOf25 rfl rfl rfl (one_cons ho144 (one_cons ho153 one_nil)) rfl rfl)) ?_
                refine DW.nil ?_
                refine WK.nThen ?_
                refine WK.perm [blk b139 25 [v142, v151], rowF (v151) 34 (d.Stops ++ [s]), rowF (v142) 31 (d.Rates), blk b9 25 [.slice none 0 0, .slice none 0 0], blk b8 34 [.int .i64 (s.Column), .int .i64 (s.Ticks.Lo), .int .i64 (s.Ticks.Hi)], blk b7 25 [v1, v3]] ((List.Perm.cons _ (.refl _)).trans (List.perm_middle (l₁ := [rowF (v151) 34 (d.Stops ++ [s]), rowF (v142) 31 (d.Rates)]) (l₂ := [blk b9 25 [.slice none 0 0, .slice none 0 0], blk b8 34 [.int .i64 (s.Column), .int .i64 (s.Ticks.Lo), .int .i64 (s.Ticks.Hi)], blk b7 25 [v1, v3]]) (a := blk b139 25 [v142, v151])).symm) ?_
                exact WK.meet (m145, b139, v142, v151) rfl (.refl _) (.cons rfl (.cons rfl .nil)) ⟨(Mem.le_trans hle143 hle148), hs2, hs4⟩
              · refine DW.tl rfl rfl rfl (T.lit1 sl23 rfl rfl rfl (by decide)) (by decide) fun b154 => ?_
                refine DW.tO rfl rfl rfl (T.callO Try.call117 rfl (clone117 _ hs4 (by omega))) (by decide) (fun m155 Es156 v157 hle158 hR_ => ?_)
                obtain ⟨rfl, ho159⟩ := hR_
                replace hs2 := hs2.mono hle158
                replace hs4 := hs4.mono hle158
                refine DW.ta rfl rfl rfl rfl (OpTo.perm (H' := [blk b154 34 [.int .i64 (s.Column), .int .i64 (s.Ticks.Lo), .int .i64 (s.Ticks.Hi)], rowF (v157) 34 (d.Stops), rowF (v142) 31 (d.Rates), blk b139 25 [.slice none 0 0, .slice none 0 0], blk b9 25 [.slice none 0 0, .slice none 0 0], blk b8 34 [.int .i64 (s.Column), .int .i64 (s.Ticks.Lo), .int .i64 (s.Ticks.Hi)], blk b7 25 [v1, v3]]) (List.perm_middle (l₁ := [rowF (v157) 34 (d.Stops)]) (l₂ := [rowF (v142) 31 (d.Rates), blk b139 25 [.slice none 0 0, .slice none 0 0], blk b9 25 [.slice none 0 0, .slice none 0 0], blk b8 34 [.int .i64 (s.Column), .int .i64 (s.Ticks.Lo), .int .i64 (s.Ticks.Hi)], blk b7 25 [v1, v3]]) (a := blk b154 34 [.int .i64 (s.Column), .int .i64 (s.Ticks.Lo), .int .i64 (s.Ticks.Hi)])).symm (T.appendF (k := 0) (a := s) sl23 rfl rfl rfl rfl (by first | omega | (simp; omega)) (by decide))) (by decide) (fun v160 => ?_)
                refine DW.x (V := Value.agg [v142, v160].toArray) rfl rfl (OpX.own1 (k := 1) rfl trivial (defdB rfl) fun ho161 => (OpX.own1 (k := 0) rfl trivial (defdB rfl) fun ho162 => (X.build Try.zeroValue25 Try.runUnderlying25 (places25 _ Try.underlying25) rfl (by simp only [Instr.fill, one_cells ho161, one_cells ho162]; rfl)))) (by decide) ?_
                refine DW.ts rfl rfl rfl rfl (OpTo.own1 (k := 1) rfl trivial (defd2 rfl rfl rfl) fun ho163 => (OpTo.own1 (k := 0) rfl trivial (defd2 rfl rfl rfl) fun ho164 => (T.storeBA (k := 2) Try.sizeOf25 rfl rfl rfl (one_cons ho163 (one_cons ho164 one_nil)) rfl rfl))) ?_
                refine DW.nil ?_
                refine WK.nThen ?_
                refine WK.perm [blk b139 25 [v142, v160], rowF (v160) 34 (d.Stops ++ [s]), rowF (v142) 31 (d.Rates), blk b9 25 [.slice none 0 0, .slice none 0 0], blk b8 34 [.int .i64 (s.Column), .int .i64 (s.Ticks.Lo), .int .i64 (s.Ticks.Hi)], blk b7 25 [v1, v3]] ((List.Perm.cons _ (.refl _)).trans (List.perm_middle (l₁ := [rowF (v160) 34 (d.Stops ++ [s]), rowF (v142) 31 (d.Rates)]) (l₂ := [blk b9 25 [.slice none 0 0, .slice none 0 0], blk b8 34 [.int .i64 (s.Column), .int .i64 (s.Ticks.Lo), .int .i64 (s.Ticks.Hi)], blk b7 25 [v1, v3]]) (a := blk b139 25 [v142, v160])).symm) ?_
                exact WK.meet (m155, b139, v142, v160) rfl (.refl _) (.cons rfl (.cons rfl .nil)) ⟨(Mem.le_trans hle143 hle158), hs2, hs4⟩
            · refine DW.tl rfl rfl rfl (T.lit1 sl23 rfl rfl rfl (by decide)) (by decide) fun b165 => ?_
              refine DW.tO rfl rfl rfl (T.callO Try.call116 rfl (clone116 _ hs2 (by omega))) (by decide) (fun m166 Es167 v168 hle169 hR_ => ?_)
              obtain ⟨rfl, ho170⟩ := hR_
              replace hs2 := hs2.mono hle169
              replace hs4 := hs4.mono hle169
              refine DW.tO rfl rfl rfl (T.callO Try.call117 rfl (clone117 _ hs4 (by omega))) (by decide) (fun m171 Es172 v173 hle174 hR_ => ?_)
              obtain ⟨rfl, ho175⟩ := hR_
              replace hs2 := hs2.mono hle174
              replace hs4 := hs4.mono hle174
              refine DW.ta rfl rfl rfl rfl (OpTo.perm (H' := [blk b165 34 [.int .i64 (s.Column), .int .i64 (s.Ticks.Lo), .int .i64 (s.Ticks.Hi)], rowF (v173) 34 (d.Stops), rowF (v168) 31 (d.Rates), blk b139 25 [.slice none 0 0, .slice none 0 0], blk b9 25 [.slice none 0 0, .slice none 0 0], blk b8 34 [.int .i64 (s.Column), .int .i64 (s.Ticks.Lo), .int .i64 (s.Ticks.Hi)], blk b7 25 [v1, v3]]) (List.perm_middle (l₁ := [rowF (v173) 34 (d.Stops), rowF (v168) 31 (d.Rates)]) (l₂ := [blk b139 25 [.slice none 0 0, .slice none 0 0], blk b9 25 [.slice none 0 0, .slice none 0 0], blk b8 34 [.int .i64 (s.Column), .int .i64 (s.Ticks.Lo), .int .i64 (s.Ticks.Hi)], blk b7 25 [v1, v3]]) (a := blk b165 34 [.int .i64 (s.Column), .int .i64 (s.Ticks.Lo), .int .i64 (s.Ticks.Hi)])).symm (T.appendF (k := 0) (a := s) sl23 rfl rfl rfl rfl (by first | omega | (simp; omega)) (by decide))) (by decide) (fun v176 => ?_)
              refine DW.x (V := Value.agg [v168, v176].toArray) rfl rfl (OpX.own1 (k := 0) rfl trivial (defdB rfl) fun ho177 => (X.build Try.zeroValue25 Try.runUnderlying25 (places25 _ Try.underlying25) rfl (by simp only [Instr.fill, one_cells ho170, one_cells ho177]; rfl))) (by decide) ?_
              refine DW.ts rfl rfl rfl rfl (OpTo.own1 (k := 0) rfl trivial (defd2 rfl rfl rfl) fun ho178 => (T.storeBA (k := 2) Try.sizeOf25 rfl rfl rfl (one_cons ho170 (one_cons ho178 one_nil)) rfl rfl)) ?_
              refine DW.nil ?_
              refine WK.nThen ?_
              refine WK.perm [blk b139 25 [v168, v176], rowF (v176) 34 (d.Stops ++ [s]), rowF (v168) 31 (d.Rates), blk b9 25 [.slice none 0 0, .slice none 0 0], blk b8 34 [.int .i64 (s.Column), .int .i64 (s.Ticks.Lo), .int .i64 (s.Ticks.Hi)], blk b7 25 [v1, v3]] ((List.Perm.cons _ (.refl _)).trans (List.perm_middle (l₁ := [rowF (v176) 34 (d.Stops ++ [s]), rowF (v168) 31 (d.Rates)]) (l₂ := [blk b9 25 [.slice none 0 0, .slice none 0 0], blk b8 34 [.int .i64 (s.Column), .int .i64 (s.Ticks.Lo), .int .i64 (s.Ticks.Hi)], blk b7 25 [v1, v3]]) (a := blk b139 25 [v168, v176])).symm) ?_
              exact WK.meet (m171, b139, v168, v176) rfl (.refl _) (.cons rfl (.cons rfl .nil)) ⟨(Mem.le_trans hle169 hle174), hs2, hs4⟩
      · rintro ⟨m12, b25, v14, v23⟩ ⟨hle179, hs180, hs181⟩
        show WK _ _ m12 [blk b25 25 [v14, v23], rowF (v23) 34 (d.Stops ++ [s]), rowF (v14) 31 (d.Rates), blk b9 25 [.slice none 0 0, .slice none 0 0], blk b8 34 [.int .i64 (s.Column), .int .i64 (s.Ticks.Lo), .int .i64 (s.Ticks.Hi)], blk b7 25 [v1, v3]] [(4, .pointer (some ⟨b9, 0, none⟩)), (7, .pointer (some ⟨b25, 0, none⟩))] _
        replace hs2 := hs2.mono hle179
        replace hs4 := hs4.mono hle179
        have hl182 := hs180.le
        have hl183 := hs181.le
        refine WC.seq ?_
        refine WC.seq ?_
        have he184 : d.Rates = d.Rates := rfl
        rw [he184]
        have he185 : (d.Stops ++ [s]) = ((winD d s).Stops) := rfl
        rw [he185]
        refine WC.region ?_
        refine WL.x (X.loadBA (k := 0) Try.isAgg25 Try.sizeOf25 rfl rfl rfl) (by decide) ?_
        refine WL.freezeF 2 rfl rfl (by unfold lenB; omega) (fun m186 hle187 hs188 => ?_)
        replace hs2 := hs2.mono hle187
        replace hs4 := hs4.mono hle187
        replace hs180 := hs180.mono hle187
        replace hs181 := hs181.mono hle187
        refine WL.freezeF 1 rfl rfl (by unfold lenB; omega) (fun m189 hle190 hs191 => ?_)
        replace hs2 := hs2.mono hle190
        replace hs4 := hs4.mono hle190
        replace hs180 := hs180.mono hle190
        replace hs181 := hs181.mono hle190
        replace hs188 := hs188.mono hle190
        refine WL.x (X.call Try.call43 rfl (check43 _ _ ((Drum.mk (d.Rates) ((winD d s).Stops))) ⟨_, _, rfl, hs188, hs191⟩ )) (by decide) ?_
        refine WL.condn (X.neq rfl rfl) (by decide) (fun h192 => ?_) (fun h192 => ?_)
        · refine WL.nil ?_
          refine WK.nThen ?_
          refine WC.condT rfl ?_
          refine WC.seq ?_
          refine WC.region ?_
          refine WL.x (V := Value.agg [.slice none 0 0, .slice none 0 0].toArray) (X.build Try.zeroValue25 Try.runUnderlying25 (places25 _ Try.underlying25) rfl rfl) (by decide) ?_
          refine WL.ts (T.storeBA (k := 1) Try.sizeOf25 rfl rfl rfl (one_cons rfl (one_cons rfl one_nil)) rfl rfl) ?_
          refine WL.x (X.assign rfl) (by decide) ?_
          refine WL.nil ?_
          refine WK.nThen ?_
          refine WC.ret ?_
          refine WK.rThen ?_
          refine WK.retC2 1 rfl rfl rfl rfl Try.isAgg25 Try.sizeOf25 (fun w' hw' => Ret.mem hw' ?_)
          first | exact ⟨_, tup2 rfl (int_eq (by rw [winR_bad (by omega)])), by rw [winR_bad (by omega)]; exact ⟨_, _, rfl, .nil, .nil⟩⟩ | exact ⟨_, tup2 rfl (int_eq (by rw [winR_big (by omega) (by omega)])), by rw [winR_big (by omega) (by omega)]; exact ⟨_, _, rfl, .nil, .nil⟩⟩ | exact ⟨_, tup2 rfl (int_eq (by rw [winR_arg (by omega) (by omega) (by assumption)])), by rw [winR_arg (by omega) (by omega) (by assumption)]; exact ⟨_, _, rfl, .nil, .nil⟩⟩ | exact ⟨_, tup2 rfl (int_eq (by rw [winR_ok (by omega) (by omega) (by assumption)])), by rw [winR_ok (by omega) (by omega) (by assumption)]; exact ⟨_, _, rfl, .nil, .nil⟩⟩
        · refine WL.nil ?_
          refine WK.nThen ?_
          refine WC.condF rfl ?_
          refine WC.skip ?_
          refine WK.nThen ?_
          refine WC.seq ?_
          refine WC.region ?_
          refine WL.x (X.loadBA (k := 0) Try.isAgg25 Try.sizeOf25 rfl rfl rfl) (by decide) ?_
          refine WL.ts (T.storeBA (k := 1) Try.sizeOf25 rfl rfl rfl (one_cons hs188.one (one_cons hs191.one one_nil)) rfl rfl) ?_
          refine WL.x (X.assign rfl) (by decide) ?_
          refine WL.nil ?_
          refine WK.nThen ?_
          refine WC.ret ?_
          refine WK.retC2 1 rfl rfl rfl rfl Try.isAgg25 Try.sizeOf25 (fun w' hw' => Ret.mem hw' ?_)
          first | exact ⟨_, tup2 rfl (int_eq (by rw [winR_bad (by omega)])), by rw [winR_bad (by omega)]; exact ⟨_, _, rfl, hs188, hs191⟩⟩ | exact ⟨_, tup2 rfl (int_eq (by rw [winR_big (by omega) (by omega)])), by rw [winR_big (by omega) (by omega)]; exact ⟨_, _, rfl, hs188, hs191⟩⟩ | exact ⟨_, tup2 rfl (int_eq (by rw [winR_arg (by omega) (by omega) (by assumption)])), by rw [winR_arg (by omega) (by omega) (by assumption)]; exact ⟨_, _, rfl, hs188, hs191⟩⟩ | exact ⟨_, tup2 rfl (int_eq (by rw [winR_ok (by omega) (by omega) (by assumption)])), by rw [winR_ok (by omega) (by omega) (by assumption)]; exact ⟨_, _, rfl, hs188, hs191⟩⟩

set_option maxHeartbeats 1000000 in
theorem pairs95 (m : Mem) (cd : List Value) (d : Drum) (hd : Enc.rd m cd d) (vm_ : Value) (m_ : List Mark) (hm_ : Sl m vm_ m_)  (hok : Ok d m_) : Pure Try.prog 95 #[.agg cd.toArray, vm_] m (fun m' v => ∃ r0, v = r0 ∧ Sl m' r0 (pairL d m_)) := by
  obtain ⟨v1, v3, rfl, hs2, hs4⟩ := hd
  have hl5 := hs2.le
  have hl6 := hs4.le
  have lm_ := hm_.le
  have hn_ := hok.n
  have hsgl := fun n => sngl_len d m_ n
  refine Pure.start Try.func95 rfl Try.ntmps95 rfl fun wld => ?_
  refine WC.seq ?_
  refine WC.region ?_
  refine WL.tn (T.boxB rfl rfl) (by decide) fun b7 => ?_
  refine WL.x (X.assign rfl) (by decide) ?_
  refine WL.nil ?_
  refine WK.nThen ?_
  refine WC.seq ?_
  refine WC.seq ?_
  refine WC.region ?_
  refine WL.x (X.loadBA (k := 0) Try.isAgg25 Try.sizeOf25 rfl rfl rfl) (by decide) ?_
  refine WL.cond (X.call Try.call97 rfl (holds97 _ _ d ⟨_, _, rfl, hs2, hs4⟩ _ _ .nil (by first | exact okm0 hok | exact okm1 hok (by omega) | exact okm2 hok (by omega) (by omega)))) (by decide) (fun h8 => ?_) (fun h8 => ?_)
  · refine WL.x (X.not rfl) (by decide) ?_
    refine WL.nil ?_
    refine WK.nThen ?_
    refine WC.condF rfl ?_
    refine WC.skip ?_
    refine WK.nThen ?_
    refine WC.seq ?_
    refine WK.own0 29 1 ?_
    refine WC.region ?_
    refine WL.x (X.assign rfl) (by decide) ?_
    refine WL.nil ?_
    refine WK.nThen ?_
    refine WC.seq ?_
    refine WC.region ?_
    refine WL.x (X.move rfl) (by decide) ?_
    refine WL.x (X.len Try.runUnderlying26 rfl hm_) (by decide) ?_
    refine WL.ta (T.makeN m_.length (a := false) sl136 rfl rfl rfl (by omega) (by decide)) (by decide) (fun v9 => ?_)
    refine WL.x (X.assign rfl) (by decide) ?_
    refine WL.nil ?_
    refine WK.nThen ?_
    refine WC.seq ?_
    refine WC.seq ?_
    refine WC.region ?_
    refine WL.x (X.move rfl) (by decide) ?_
    refine WL.x (X.len Try.runUnderlying26 rfl hm_) (by decide) ?_
    refine WL.x (X.move rfl) (by decide) ?_
    refine WL.nil ?_
    refine WK.nThen ?_
    refine WC.block ?_
    have he10 : (List.replicate m_.length false) = (alnL d m_ 0) := (alnL_zero d m_)
    rw [he10]
    refine WC.loop (G := Nat × Mem × Value × List Value) (fun (i, mm, vo, xs) => m_.length - i) (fun (i, mm, vo, xs) => mm) (fun (i, mm, vo, xs) => [rowF (v9) 4 (alnL d m_ i), row (vo) 29 1 (snglN d m_ i).length (xs), blk b7 25 [v1, v3]]) (fun (i, mm, vo, xs) => [(1, vm_), (2, .pointer (some ⟨b7, 0, none⟩)), (5, vo), (6, v9), (19, vm_), (20, .int .i64 (↑m_.length)), (21, .int .i64 (↑i))]) (fun (i, mm, vo, xs) => m.le mm ∧ RdL mm xs (snglN d m_ i) ∧ i ≤ m_.length) ((0, m, Value.slice none 0 0, [])) rfl (.refl _) (.cons rfl (.cons rfl (.cons rfl (.cons rfl (.cons rfl (.cons rfl (.cons rfl .nil))))))) ?_ ?_
    · exact ⟨Mem.le_refl _, RdL.nil, by omega⟩
    · rintro ⟨i, mm, vo, xs⟩ hF11
      show WK _ _ mm [rowF (v9) 4 (alnL d m_ i), row (vo) 29 1 (snglN d m_ i).length (xs), blk b7 25 [v1, v3]] [(1, vm_), (2, .pointer (some ⟨b7, 0, none⟩)), (5, vo), (6, v9), (19, vm_), (20, .int .i64 (↑m_.length)), (21, .int .i64 (↑i))] _
      replace hF11 : m.le mm ∧ RdL mm xs (snglN d m_ i) ∧ i ≤ m_.length := hF11
      obtain ⟨hmm, hx, hi⟩ := hF11
      replace hs2 := hs2.mono hmm
      replace hs4 := hs4.mono hmm
      replace hm_ := hm_.mono hmm
      have hal := alnL_len d m_ i
      have hsg1 := hsgl i
      refine WC.seq ?_
      refine WC.region ?_
      refine WL.cond (X.lss rfl rfl) (by decide) (fun h12 => ?_) (fun h12 => ?_)
      · refine WL.nil ?_
        refine WK.nThen ?_
        refine WC.seq ?_
        refine WC.condT rfl ?_
        refine WC.skip ?_
        refine WK.nThen ?_
        refine WC.seq ?_
        refine WC.block ?_
        refine WC.seq ?_
        refine WC.region ?_
        refine WL.x (X.move rfl) (by decide) ?_
        refine WL.xe (E.idxN i Try.runUnderlying26 Try.sizeOf33 rfl rfl hm_ (by omega)) (by decide) (fun p13 hp14 => ?_)
        refine WL.xe (E.loadAgg Try.isAgg33 Try.sizeOf33 rfl hp14) (by decide) (fun c15 hc16 => ?_)
        obtain rfl := hc16
        refine WL.tn (T.alloc Try.zeroValue33 rfl) (by decide) fun b17 => ?_
        refine WL.x (X.assign rfl) (by decide) ?_
        refine WL.ts (T.storeBA (k := 0) Try.sizeOf33 rfl rfl rfl (one_cons rfl (one_cons rfl (one_cons rfl one_nil))) rfl rfl) ?_
        refine WL.nil ?_
        refine WK.nThen ?_
        refine WC.seq ?_
        refine WC.region ?_
        refine WL.x (X.move rfl) (by decide) ?_
        refine WL.x (X.move rfl) (by decide) ?_
        refine WL.x (X.loadBA (k := 3) Try.isAgg25 Try.sizeOf25 rfl rfl rfl) (by decide) ?_
        refine WL.x (X.loadBA (k := 0) Try.isAgg33 Try.sizeOf33 rfl rfl rfl) (by decide) ?_
        refine WL.tm (T.litM (α := Mark) (vals := [.agg [.int .i64 ((gt m_ i).Column), .int .i64 (((gt m_ i).Ticks).Lo), .int .i64 (((gt m_ i).Ticks).Hi)].toArray]) (L := [gt m_ i]) sl26 rfl (.cons rfl rfl .nil) rfl rfl) (by decide) (fun m18 v19 hle20 hs21 => ?_)
        replace hs2 := hs2.mono hle20
        replace hs4 := hs4.mono hle20
        replace hm_ := hm_.mono hle20
        replace hx := hx.mono hle20
        replace hp14 := hp14.mono hle20
        refine WL.x (X.call Try.call97 rfl (holds97 _ _ d ⟨_, _, rfl, hs2, hs4⟩ _ _ hs21 (by first | exact okm0 hok | exact okm1 hok (by omega) | exact okm2 hok (by omega) (by omega)))) (by decide) ?_
        refine WL.x (X.notp rfl) (by decide) ?_
        refine WL.x (X.idxBo (k := 1) Try.runUnderlying136 Try.sizeOf4 rfl rfl rfl (by first | omega | (simp; omega) | simp) (by first | omega | (simp; omega) | simp)) (by decide) ?_
        refine WL.ts (T.storeBo (k := 1) (i := i) Try.sizeOf4 rfl rfl rfl (by first | omega | (simp; omega) | simp)) ?_
        refine WL.nil ?_
        refine WK.nThen ?_
        refine WC.seq ?_
        have he22 : ((alnL d m_ i).set i (decide (¬ (okD d (([gt m_ i])))))) = (alnL d m_ (i + 1)) := alnL_step
        rw [he22]
        have hy1 := alnL_yes (d := d) (m := m_) (k := i + 1) (j := i) (by omega) (by omega)
        have hn1 := alnL_no (d := d) (m := m_) (k := i + 1) (j := i) (by omega) (by omega)
        have hal2 := alnL_len d m_ (i + 1)
        refine WC.region ?_
        refine WL.x (X.move rfl) (by decide) ?_
        refine WL.x (X.move rfl) (by decide) ?_
        refine WL.x (X.idxBo (k := 1) Try.runUnderlying136 Try.sizeOf4 rfl rfl rfl (by first | omega | (simp; omega) | simp) (by first | omega | (simp; omega) | simp)) (by decide) ?_
        refine WL.condb (X.loadBo (k := 1) (i := i) Try.isAgg4 rfl rfl (by first | omega | (simp; omega) | simp)) (by decide) (fun h23 => ?_) (fun h23 => ?_)
        · refine WL.nil ?_
          refine WK.nThen ?_
          refine WC.condT rfl ?_
          refine WC.region ?_
          refine WL.x (X.move rfl) (by decide) ?_
          refine WL.x (X.move rfl) (by decide) ?_
          refine WL.tm (T.litM (α := Int) (vals := [.int .i64 (↑i)]) (L := [(↑i : Int)]) sl29 rfl (.cons rfl rfl .nil) rfl rfl) (by decide) (fun m24 v25 hle26 hs27 => ?_)
          replace hs2 := hs2.mono hle26
          replace hs4 := hs4.mono hle26
          replace hm_ := hm_.mono hle26
          replace hx := hx.mono hle26
          replace hp14 := hp14.mono hle26
          replace hs21 := hs21.mono hle26
          refine WL.tl (T.lit1 sl52 rfl (one_cells hs27.one) rfl (by decide)) (by decide) fun b28 => ?_
          refine WL.ta (T.appendN (k := 2) (n' := ((snglN d m_ i) ++ [[(↑i : Int)]]).length) sl52 rfl rfl rfl rfl rfl (one_cons hs27.one one_nil) (by simp) (by first | omega | (simp; omega)) (by first | omega | (simp; omega))) (by decide) (fun v29 => ?_)
          have hx30 := RdL.snoc (a := [(↑i : Int)]) hx ⟨_, rfl, hs27⟩
          refine WL.x (X.assign rfl) (by decide) ?_
          refine WL.nil ?_
          refine WK.nBlock ?_
          refine WK.nThen ?_
          refine WC.region ?_
          refine WL.x (X.add rfl rfl (by omega) (by omega)) (by decide) ?_
          refine WL.x (X.move rfl) (by decide) ?_
          refine WL.nil ?_
          refine WK.nThen ?_
          have he31 : ((snglN d m_ i) ++ [[(↑i : Int)]]) = (snglN d m_ (i + 1)) := (sngl_yes (hy1 (by assumption)))
          rw [he31]
          rw [he31] at hx30
          refine WK.next ((i + 1, m24, v29, xs ++ [v25])) rfl (.cons _ (.refl _)) (.cons rfl (.cons rfl (.cons rfl (.cons rfl (.cons rfl (.cons rfl (.cons rfl .nil))))))) ?_ ?_
          · exact ⟨Mem.le_trans hmm (Mem.le_trans hle20 hle26), hx30, by omega⟩
          · (dsimp only; omega)
        · refine WL.nil ?_
          refine WK.nThen ?_
          refine WC.condF rfl ?_
          refine WC.skip ?_
          refine WK.nBlock ?_
          refine WK.nThen ?_
          refine WC.region ?_
          refine WL.x (X.add rfl rfl (by omega) (by omega)) (by decide) ?_
          refine WL.x (X.move rfl) (by decide) ?_
          refine WL.nil ?_
          refine WK.nThen ?_
          have he32 : (snglN d m_ i) = (snglN d m_ (i + 1)) := (sngl_no (hn1 (by assumption)))
          rw [he32]
          rw [he32] at hx
          refine WK.next ((i + 1, m18, vo, xs)) rfl (.cons _ (.cons_cons _ (.cons_cons _ (.cons_cons _ .slnil)))) (.cons rfl (.cons rfl (.cons rfl (.cons rfl (.cons rfl (.cons rfl (.cons rfl .nil))))))) ?_ ?_
          · exact ⟨Mem.le_trans hmm hle20, hx, by omega⟩
          · (dsimp only; omega)
      · refine WL.nil ?_
        refine WK.nThen ?_
        refine WC.seq ?_
        refine WC.condF rfl ?_
        refine WC.exit ?_
        refine WK.eThen ?_
        refine WK.eThen ?_
        refine WK.eHit ?_
        refine WK.nThen ?_
        refine WC.seq ?_
        refine WC.seq ?_
        have he33 : (snglN d m_ i) = (snglN d m_ m_.length ++ dblN d m_ 0) := (by rw [show i = m_.length by omega]; simp [dblN])
        rw [he33]
        rw [he33] at hx
        have he34 : (alnL d m_ i) = (alnL d m_ m_.length) := (by rw [show i = m_.length by omega])
        rw [he34]
        refine WC.region ?_
        refine WL.x (X.move rfl) (by decide) ?_
        refine WL.x (X.len Try.runUnderlying26 rfl hm_) (by decide) ?_
        refine WL.x (X.move rfl) (by decide) ?_
        refine WL.nil ?_
        refine WK.nThen ?_
        refine WC.block ?_
        refine WC.loop (G := Nat × Mem × Value × List Value) (fun (a, mn, vq, zs) => m_.length - a) (fun (a, mn, vq, zs) => mn) (fun (a, mn, vq, zs) => [rowF (v9) 4 (alnL d m_ m_.length), row (vq) 29 1 (snglN d m_ m_.length ++ dblN d m_ a).length (zs), blk b7 25 [v1, v3]]) (fun (a, mn, vq, zs) => [(1, vm_), (2, .pointer (some ⟨b7, 0, none⟩)), (5, vq), (6, v9), (44, vm_), (45, .int .i64 (↑m_.length)), (46, .int .i64 (↑a))]) (fun (a, mn, vq, zs) => mm.le mn ∧ RdL mn zs (snglN d m_ m_.length ++ dblN d m_ a) ∧ a ≤ m_.length) ((0, mm, vo, xs)) rfl (.refl _) (.cons rfl (.cons rfl (.cons rfl (.cons rfl (.cons rfl (.cons rfl (.cons rfl .nil))))))) ?_ ?_
        · exact ⟨Mem.le_refl _, hx, by omega⟩
        · rintro ⟨a, mn, vq, zs⟩ hF35
          show WK _ _ mn [rowF (v9) 4 (alnL d m_ m_.length), row (vq) 29 1 (snglN d m_ m_.length ++ dblN d m_ a).length (zs), blk b7 25 [v1, v3]] [(1, vm_), (2, .pointer (some ⟨b7, 0, none⟩)), (5, vq), (6, v9), (44, vm_), (45, .int .i64 (↑m_.length)), (46, .int .i64 (↑a))] _
          replace hF35 : mm.le mn ∧ RdL mn zs (snglN d m_ m_.length ++ dblN d m_ a) ∧ a ≤ m_.length := hF35
          obtain ⟨hmn, hz, ha⟩ := hF35
          replace hs2 := hs2.mono hmn
          replace hs4 := hs4.mono hmn
          replace hm_ := hm_.mono hmn
          replace hx := hx.mono hmn
          have hal := alnL_len d m_ m_.length
          refine WC.seq ?_
          refine WC.region ?_
          refine WL.cond (X.lss rfl rfl) (by decide) (fun h36 => ?_) (fun h36 => ?_)
          · refine WL.nil ?_
            refine WK.nThen ?_
            refine WC.seq ?_
            refine WC.condT rfl ?_
            refine WC.skip ?_
            refine WK.nThen ?_
            refine WC.seq ?_
            refine WC.block ?_
            refine WC.seq ?_
            refine WC.region ?_
            refine WL.x (X.move rfl) (by decide) ?_
            refine WL.xe (E.idxN a Try.runUnderlying26 Try.sizeOf33 rfl rfl hm_ (by omega)) (by decide) (fun p37 hp38 => ?_)
            refine WL.xe (E.loadAgg Try.isAgg33 Try.sizeOf33 rfl hp38) (by decide) (fun c39 hc40 => ?_)
            obtain rfl := hc40
            refine WL.tn (T.alloc Try.zeroValue33 rfl) (by decide) fun b41 => ?_
            refine WL.x (X.assign rfl) (by decide) ?_
            refine WL.ts (T.storeBA (k := 0) Try.sizeOf33 rfl rfl rfl (one_cons rfl (one_cons rfl (one_cons rfl one_nil))) rfl rfl) ?_
            refine WL.nil ?_
            refine WK.nThen ?_
            refine WC.seq ?_
            refine WC.region ?_
            refine WL.x (X.move rfl) (by decide) ?_
            refine WL.x (X.add rfl rfl (by omega) (by omega)) (by decide) ?_
            refine WL.x (X.assign rfl) (by decide) ?_
            refine WL.nil ?_
            refine WK.nThen ?_
            refine WC.block ?_
            have he42 : (snglN d m_ m_.length ++ dblN d m_ a) = (prsL d m_ a (a + 1)) := (prs_enter d m_ a)
            rw [he42]
            rw [he42] at hz
            refine WC.loop (G := Nat × Mem × Value × List Value) (fun (k, nn, vp, ys) => m_.length - k) (fun (k, nn, vp, ys) => nn) (fun (k, nn, vp, ys) => [blk b41 33 [.int .i64 ((gt m_ a).Column), .int .i64 (((gt m_ a).Ticks).Lo), .int .i64 (((gt m_ a).Ticks).Hi)], rowF (v9) 4 (alnL d m_ m_.length), row (vp) 29 1 (prsL d m_ a k).length (ys), blk b7 25 [v1, v3]]) (fun (k, nn, vp, ys) => [(1, vm_), (2, .pointer (some ⟨b7, 0, none⟩)), (5, vp), (6, v9), (9, .int .i64 (↑a)), (10, .pointer (some ⟨b41, 0, none⟩)), (11, .int .i64 (↑k)), (44, vm_), (45, .int .i64 (↑m_.length)), (46, .int .i64 (↑a))]) (fun (k, nn, vp, ys) => mn.le nn ∧ RdL nn ys (prsL d m_ a k) ∧ k ≤ m_.length ∧ a < k) (((a + 1), mn, vq, zs)) rfl (.refl _) (.cons rfl (.cons rfl (.cons rfl (.cons rfl (.cons rfl (.cons rfl (.cons rfl (.cons rfl (.cons rfl (.cons rfl .nil)))))))))) ?_ ?_
            · exact ⟨Mem.le_refl _, hz, by omega, by omega⟩
            · rintro ⟨k, nn, vp, ys⟩ hF43
              show WK _ _ nn [blk b41 33 [.int .i64 ((gt m_ a).Column), .int .i64 (((gt m_ a).Ticks).Lo), .int .i64 (((gt m_ a).Ticks).Hi)], rowF (v9) 4 (alnL d m_ m_.length), row (vp) 29 1 (prsL d m_ a k).length (ys), blk b7 25 [v1, v3]] [(1, vm_), (2, .pointer (some ⟨b7, 0, none⟩)), (5, vp), (6, v9), (9, .int .i64 (↑a)), (10, .pointer (some ⟨b41, 0, none⟩)), (11, .int .i64 (↑k)), (44, vm_), (45, .int .i64 (↑m_.length)), (46, .int .i64 (↑a))] _
              replace hF43 : mn.le nn ∧ RdL nn ys (prsL d m_ a k) ∧ k ≤ m_.length ∧ a < k := hF43
              obtain ⟨hnn, hy, hk, hak⟩ := hF43
              replace hs2 := hs2.mono hnn
              replace hs4 := hs4.mono hnn
              replace hm_ := hm_.mono hnn
              replace hx := hx.mono hnn
              replace hz := hz.mono hnn
              replace hp38 := hp38.mono hnn
              have hpr1 := prs_len (d := d) hn_ (i := a) (k := k) (by omega) (by omega)
              refine WC.seq ?_
              refine WC.seq ?_
              have hy3 := alnL_yes (d := d) (m := m_) (k := m_.length) (j := a) (by omega) (by omega)
              have hn3 := alnL_no (d := d) (m := m_) (k := m_.length) (j := a) (by omega) (by omega)
              refine WC.region ?_
              refine WL.x (X.move rfl) (by decide) ?_
              refine WL.x (X.move rfl) (by decide) ?_
              refine WL.x (X.len Try.runUnderlying26 rfl hm_) (by decide) ?_
              refine WL.cond (X.lss rfl rfl) (by decide) (fun h44 => ?_) (fun h44 => ?_)
              · refine WL.x (X.move rfl) (by decide) ?_
                refine WL.yes rfl rfl ?_
                refine WL.x (X.move rfl) (by decide) ?_
                refine WL.yes rfl rfl ?_
                refine WL.x (X.move rfl) (by decide) ?_
                refine WL.yes rfl rfl ?_
                refine WL.x (X.idxBo (k := 1) Try.runUnderlying136 Try.sizeOf4 rfl rfl rfl (by first | omega | (simp; omega) | simp) (by first | omega | (simp; omega) | simp)) (by decide) ?_
                refine WL.yes rfl rfl ?_
                refine WL.condb (X.loadBo (k := 1) (i := a) Try.isAgg4 rfl rfl (by first | omega | (simp; omega) | simp)) (by decide) (fun h45 => ?_) (fun h45 => ?_)
                · refine WL.yes rfl rfl ?_
                  refine WL.x (X.not rfl) (by decide) ?_
                  refine WL.x (X.pickT rfl rfl rfl) (by decide) ?_
                  refine WL.nil ?_
                  refine WK.nThen ?_
                  refine WC.condF rfl ?_
                  refine WC.exit ?_
                  refine WK.eThen ?_
                  refine WK.eThen ?_
                  refine WK.eHit ?_
                  refine WK.nBlock ?_
                  refine WK.nThen ?_
                  have he46 : (prsL d m_ a k) = (snglN d m_ m_.length ++ dblN d m_ (a + 1)) := (prs_end (by first | exact .inl (by omega) | exact .inr (hy3 (by assumption))))
                  rw [he46]
                  rw [he46] at hy
                  refine WC.region ?_
                  refine WL.x (X.add rfl rfl (by omega) (by omega)) (by decide) ?_
                  refine WL.x (X.move rfl) (by decide) ?_
                  refine WL.nil ?_
                  refine WK.nThen ?_
                  refine WK.next ((a + 1, nn, vp, ys)) rfl (.cons _ (.cons_cons _ (.cons_cons _ (.cons_cons _ .slnil)))) (.cons rfl (.cons rfl (.cons rfl (.cons rfl (.cons rfl (.cons rfl (.cons rfl .nil))))))) ?_ ?_
                  · exact ⟨Mem.le_trans hmn hnn, hy, by omega⟩
                  · (dsimp only; omega)
                · refine WL.yes rfl rfl ?_
                  refine WL.x (X.not rfl) (by decide) ?_
                  refine WL.x (X.pickT rfl rfl rfl) (by decide) ?_
                  refine WL.nil ?_
                  refine WK.nThen ?_
                  refine WC.condT rfl ?_
                  refine WC.skip ?_
                  refine WK.nThen ?_
                  refine WC.seq ?_
                  refine WC.block ?_
                  refine WC.seq ?_
                  have hoa_ := hn3 (by assumption)
                  have hy2 := alnL_yes (d := d) (m := m_) (k := m_.length) (j := k) (by omega) (by omega)
                  have hn2 := alnL_no (d := d) (m := m_) (k := m_.length) (j := k) (by omega) (by omega)
                  refine WC.draw (π := (.cons 0 (.cons 1 (.cons 2 (.cons 3 (.cons 4 (.cons 5 (.cons 6 (.cons 7 (.cons 8 (.cons 9 (.cons 10 (.cons 11 (.cons 12 (.cons 13 (.cons 14 (.cons 15 .done))))))))))))))))) [12] [] rfl (by kernel_rfl) ?_
                  refine DW.x rfl rfl (X.move rfl) (by decide) ?_
                  refine DW.x rfl rfl (X.move rfl) (by decide) ?_
                  refine DW.x rfl rfl (X.idxBo (k := 1) Try.runUnderlying136 Try.sizeOf4 rfl rfl rfl (by first | omega | (simp; omega) | simp) (by first | omega | (simp; omega) | simp)) (by decide) ?_
                  refine DW.condb rfl rfl (X.loadBo (k := 1) (i := k) Try.isAgg4 rfl rfl (by first | omega | (simp; omega) | simp)) (by decide) (fun h47 => ?_) (fun h47 => ?_)
                  · refine DW.x rfl rfl (X.not rfl) (by decide) ?_
                    refine DW.x rfl rfl (X.move rfl) (by decide) ?_
                    refine DW.no rfl rfl (by decide) ?_
                    refine DW.no rfl rfl (by decide) ?_
                    refine DW.no rfl rfl (by decide) ?_
                    refine DW.no rfl rfl (by decide) ?_
                    refine DW.no rfl rfl (by decide) ?_
                    refine DW.no rfl rfl (by decide) ?_
                    refine DW.no rfl rfl (by decide) ?_
                    refine DW.no rfl rfl (by decide) ?_
                    refine DW.no rfl rfl (by decide) ?_
                    refine DW.x rfl rfl (X.pickF rfl rfl rfl) (by decide) ?_
                    refine DW.nil ?_
                    refine WK.nThen ?_
                    refine WC.condF rfl ?_
                    refine WC.skip ?_
                    refine WK.nBlock ?_
                    refine WK.nThen ?_
                    refine WC.region ?_
                    refine WL.x (X.move rfl) (by decide) ?_
                    refine WL.x (X.add rfl rfl (by omega) (by omega)) (by decide) ?_
                    refine WL.x (X.assign rfl) (by decide) ?_
                    refine WL.nil ?_
                    refine WK.nThen ?_
                    have he48 : (prsL d m_ a k) = (prsL d m_ a (k + 1)) := (prs_no (fun hp_ => by first | exact hy2 (by assumption) hp_.2.1 | exact hp_.2.2 (by assumption)))
                    rw [he48]
                    rw [he48] at hy
                    refine WK.next ((k + 1, nn, vp, ys)) rfl (.refl _) (.cons rfl (.cons rfl (.cons rfl (.cons rfl (.cons rfl (.cons rfl (.cons rfl (.cons rfl (.cons rfl (.cons rfl .nil)))))))))) ?_ ?_
                    · exact ⟨Mem.le_trans hnn (Mem.le_refl _), hy, by omega, by omega⟩
                    · (dsimp only; omega)
                  · refine DW.x rfl rfl (X.not rfl) (by decide) ?_
                    refine DW.x rfl rfl (X.move rfl) (by decide) ?_
                    refine DW.x rfl rfl (X.loadBA (k := 3) Try.isAgg25 Try.sizeOf25 rfl rfl rfl) (by decide) ?_
                    refine DW.x rfl rfl (X.loadBA (k := 0) Try.isAgg33 Try.sizeOf33 rfl rfl rfl) (by decide) ?_
                    refine DW.x rfl rfl (X.move rfl) (by decide) ?_
                    refine DW.x rfl rfl (X.move rfl) (by decide) ?_
                    refine DW.xe rfl rfl (E.idxN k Try.runUnderlying26 Try.sizeOf33 rfl rfl hm_ (by omega)) (by decide) (fun p49 hp50 => ?_)
                    refine DW.xe rfl rfl (E.loadAgg Try.isAgg33 Try.sizeOf33 rfl hp50) (by decide) (fun c51 hc52 => ?_)
                    obtain rfl := hc52
                    refine DW.tm rfl rfl rfl (T.litM (α := Mark) (vals := [.agg [.int .i64 ((gt m_ a).Column), .int .i64 (((gt m_ a).Ticks).Lo), .int .i64 (((gt m_ a).Ticks).Hi)].toArray, .agg [.int .i64 ((gt m_ k).Column), .int .i64 (((gt m_ k).Ticks).Lo), .int .i64 (((gt m_ k).Ticks).Hi)].toArray]) (L := [gt m_ a, gt m_ k]) sl26 rfl (.cons rfl rfl (.cons rfl rfl .nil)) rfl rfl) (by decide) (fun m53 v54 hle55 hs56 => ?_)
                    replace hs2 := hs2.mono hle55
                    replace hs4 := hs4.mono hle55
                    replace hm_ := hm_.mono hle55
                    replace hx := hx.mono hle55
                    replace hz := hz.mono hle55
                    replace hp38 := hp38.mono hle55
                    replace hy := hy.mono hle55
                    replace hp50 := hp50.mono hle55
                    refine DW.cond rfl rfl (X.call Try.call97 rfl (holds97 _ _ d ⟨_, _, rfl, hs2, hs4⟩ _ _ hs56 (by first | exact okm0 hok | exact okm1 hok (by omega) | exact okm2 hok (by omega) (by omega)))) (by decide) (fun h57 => ?_) (fun h57 => ?_)
                    · refine DW.x rfl rfl (X.not rfl) (by decide) ?_
                      refine DW.x rfl rfl (X.pickT rfl rfl rfl) (by decide) ?_
                      refine DW.nil ?_
                      refine WK.nThen ?_
                      refine WC.condF rfl ?_
                      refine WC.skip ?_
                      refine WK.nBlock ?_
                      refine WK.nThen ?_
                      refine WC.region ?_
                      refine WL.x (X.move rfl) (by decide) ?_
                      refine WL.x (X.add rfl rfl (by omega) (by omega)) (by decide) ?_
                      refine WL.x (X.assign rfl) (by decide) ?_
                      refine WL.nil ?_
                      refine WK.nThen ?_
                      have he58 : (prsL d m_ a k) = (prsL d m_ a (k + 1)) := (prs_no (fun hp_ => by first | exact hy2 (by assumption) hp_.2.1 | exact hp_.2.2 (by assumption)))
                      rw [he58]
                      rw [he58] at hy
                      refine WK.next ((k + 1, m53, vp, ys)) rfl (.refl _) (.cons rfl (.cons rfl (.cons rfl (.cons rfl (.cons rfl (.cons rfl (.cons rfl (.cons rfl (.cons rfl (.cons rfl .nil)))))))))) ?_ ?_
                      · exact ⟨Mem.le_trans hnn hle55, hy, by omega, by omega⟩
                      · (dsimp only; omega)
                    · refine DW.x rfl rfl (X.not rfl) (by decide) ?_
                      refine DW.x rfl rfl (X.pickT rfl rfl rfl) (by decide) ?_
                      refine DW.nil ?_
                      refine WK.nThen ?_
                      refine WC.condT rfl ?_
                      refine WC.region ?_
                      refine WL.x (X.move rfl) (by decide) ?_
                      refine WL.x (X.move rfl) (by decide) ?_
                      refine WL.x (X.move rfl) (by decide) ?_
                      refine WL.tm (T.litM (α := Int) (vals := [.int .i64 (↑a), .int .i64 (↑k)]) (L := [(↑a : Int), (↑k : Int)]) sl29 rfl (.cons rfl rfl (.cons rfl rfl .nil)) rfl rfl) (by decide) (fun m59 v60 hle61 hs62 => ?_)
                      replace hs2 := hs2.mono hle61
                      replace hs4 := hs4.mono hle61
                      replace hm_ := hm_.mono hle61
                      replace hx := hx.mono hle61
                      replace hz := hz.mono hle61
                      replace hp38 := hp38.mono hle61
                      replace hy := hy.mono hle61
                      replace hp50 := hp50.mono hle61
                      replace hs56 := hs56.mono hle61
                      refine WL.tl (T.lit1 sl52 rfl (one_cells hs62.one) rfl (by decide)) (by decide) fun b63 => ?_
                      refine WL.ta (T.appendN (k := 2) (n' := ((prsL d m_ a k) ++ [[(↑a : Int), (↑k : Int)]]).length) sl52 rfl rfl rfl rfl rfl (one_cons hs62.one one_nil) (by simp) (by first | omega | (simp; omega)) (by first | omega | (simp; omega))) (by decide) (fun v64 => ?_)
                      have hx65 := RdL.snoc (a := [(↑a : Int), (↑k : Int)]) hy ⟨_, rfl, hs62⟩
                      refine WL.x (X.assign rfl) (by decide) ?_
                      refine WL.nil ?_
                      refine WK.nBlock ?_
                      refine WK.nThen ?_
                      refine WC.region ?_
                      refine WL.x (X.move rfl) (by decide) ?_
                      refine WL.x (X.add rfl rfl (by omega) (by omega)) (by decide) ?_
                      refine WL.x (X.assign rfl) (by decide) ?_
                      refine WL.nil ?_
                      refine WK.nThen ?_
                      have he66 : ((prsL d m_ a k) ++ [[(↑a : Int), (↑k : Int)]]) = (prsL d m_ a (k + 1)) := (prs_yes (by omega) ⟨hoa_, hn2 (by assumption), by assumption⟩)
                      rw [he66]
                      rw [he66] at hx65
                      refine WK.next ((k + 1, m59, v64, ys ++ [v60])) rfl (.refl _) (.cons rfl (.cons rfl (.cons rfl (.cons rfl (.cons rfl (.cons rfl (.cons rfl (.cons rfl (.cons rfl (.cons rfl .nil)))))))))) ?_ ?_
                      · exact ⟨Mem.le_trans hnn (Mem.le_trans hle55 hle61), hx65, by omega, by omega⟩
                      · (dsimp only; omega)
              · refine WL.x (X.move rfl) (by decide) ?_
                refine WL.no rfl rfl rfl (by decide) ?_
                refine WL.no rfl rfl rfl (by decide) ?_
                refine WL.no rfl rfl rfl (by decide) ?_
                refine WL.no rfl rfl rfl (by decide) ?_
                refine WL.no rfl rfl rfl (by decide) ?_
                refine WL.x (X.pickF rfl rfl rfl) (by decide) ?_
                refine WL.nil ?_
                refine WK.nThen ?_
                refine WC.condF rfl ?_
                refine WC.exit ?_
                refine WK.eThen ?_
                refine WK.eThen ?_
                refine WK.eHit ?_
                refine WK.nBlock ?_
                refine WK.nThen ?_
                have he67 : (prsL d m_ a k) = (snglN d m_ m_.length ++ dblN d m_ (a + 1)) := (prs_end (by first | exact .inl (by omega) | exact .inr (hy3 (by assumption))))
                rw [he67]
                rw [he67] at hy
                refine WC.region ?_
                refine WL.x (X.add rfl rfl (by omega) (by omega)) (by decide) ?_
                refine WL.x (X.move rfl) (by decide) ?_
                refine WL.nil ?_
                refine WK.nThen ?_
                refine WK.next ((a + 1, nn, vp, ys)) rfl (.cons _ (.cons_cons _ (.cons_cons _ (.cons_cons _ .slnil)))) (.cons rfl (.cons rfl (.cons rfl (.cons rfl (.cons rfl (.cons rfl (.cons rfl .nil))))))) ?_ ?_
                · exact ⟨Mem.le_trans hmn hnn, hy, by omega⟩
                · (dsimp only; omega)
          · refine WL.nil ?_
            refine WK.nThen ?_
            refine WC.seq ?_
            refine WC.condF rfl ?_
            refine WC.exit ?_
            refine WK.eThen ?_
            refine WK.eThen ?_
            refine WK.eHit ?_
            refine WK.nThen ?_
            refine WC.seq ?_
            have he68 : (snglN d m_ m_.length ++ dblN d m_ a) = (pairL d m_) := (by rw [show a = m_.length by omega]; exact (pair_some (by assumption)).symm)
            rw [he68]
            rw [he68] at hz
            refine WC.region ?_
            refine WL.x (X.move rfl) (by decide) ?_
            refine WL.x (X.assign rfl) (by decide) ?_
            refine WL.nil ?_
            refine WK.nThen ?_
            refine WC.ret ?_
            refine WK.freezeL 1 rfl rfl hz (by have := pair_len (d := d) hn_; unfold lenB; omega) (fun m69 hle70 hs71 => ?_)
            replace hs2 := hs2.mono hle70
            replace hs4 := hs4.mono hle70
            replace hm_ := hm_.mono hle70
            replace hx := hx.mono hle70
            replace hz := hz.mono hle70
            refine WK.ret1 rfl rfl (fun w' hw' => Ret.mem hw' ?_)
            first | exact ⟨_, rfl, hs71⟩ | exact ⟨_, rfl, by rw [pair_none (by assumption)]; exact hs71⟩
  · refine WL.x (X.not rfl) (by decide) ?_
    refine WL.nil ?_
    refine WK.nThen ?_
    refine WC.condT rfl ?_
    refine WC.seq ?_
    refine WC.region ?_
    refine WL.tm (T.litM (α := List Int) (vals := [.slice none 0 0]) (L := [[]]) sl52 rfl (.cons rfl ⟨_, rfl, .nil⟩ .nil) rfl rfl) (by decide) (fun m72 v73 hle74 hs75 => ?_)
    replace hs2 := hs2.mono hle74
    replace hs4 := hs4.mono hle74
    replace hm_ := hm_.mono hle74
    refine WL.x (X.assign rfl) (by decide) ?_
    refine WL.nil ?_
    refine WK.nThen ?_
    refine WC.ret ?_
    refine WK.rThen ?_
    refine WK.ret1 rfl rfl (fun w' hw' => Ret.mem hw' ?_)
    first | exact ⟨_, rfl, hs75⟩ | exact ⟨_, rfl, by rw [pair_none (by assumption)]; exact hs75⟩

end Go.Proofs.C2
