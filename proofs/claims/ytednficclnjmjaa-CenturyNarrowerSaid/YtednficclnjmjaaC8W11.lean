/- Century: walks, eleventh part, by program. -/
import Derived.Test.YtednficclnjmjaaC8Know
import Derived.Test.YtednficclnjmjaaC8W10
namespace Go.Proofs.C8
open Go Go.Kx
set_option linter.unusedSimpArgs false

theorem floor130 (m : Mem) (a : Int) (b : Int)  (hpa : -4000000000000000000 ≤ a ∧ a ≤ 4000000000000000000) (hpb : 0 < b) : Exact Try.prog 130 #[.int .i64 (a), .int .i64 (b)] m (.int .i64 (a / b)) := by
 have hq := tdiv_bd (b := b) (B := 4000000000000000000) hpa
 refine Exact.start Try.func130 rfl Try.ntmps130 rfl fun wld => ?_
 refine WC.seq ?_
 refine WC.region ?_
 refine WL.x (X.assign rfl) (by decide) ?_
 refine WL.nil ?_
 refine WK.nThen ?_
 refine WC.seq ?_
 refine WC.region ?_
 refine WL.x (X.move rfl) (by decide) ?_
 refine WL.x (X.move rfl) (by decide) ?_
 refine WL.x (X.quoT rfl rfl (by omega) (by omega) (by omega)) (by decide) ?_
 refine WL.x (X.assign rfl) (by decide) ?_
 refine WL.nil ?_
 refine WK.nThen ?_
 refine WC.seq ?_
 refine WC.seq ?_
 refine WC.region ?_
 refine WL.x (X.move rfl) (by decide) ?_
 refine WL.x (X.move rfl) (by decide) ?_
 refine WL.x (X.remT rfl rfl (by omega)) (by decide) ?_
 refine WL.condn (X.neq rfl rfl) (by decide) (fun h1 => ?_) (fun h1 => ?_)
 ·refine WL.x (X.move rfl) (by decide) ?_
  refine WL.yes rfl rfl ?_
  refine WL.x (X.move rfl) (by decide) ?_
  refine WL.yes rfl rfl ?_
  refine WL.cond (X.lss rfl rfl) (by decide) (fun h2 => ?_) (fun h2 => ?_)
  ·refine WL.x (X.pickT rfl rfl rfl) (by decide) ?_
   refine WL.nil ?_
   refine WK.nThen ?_
   refine WC.condT rfl ?_
   refine WC.region ?_
   refine WL.x (X.move rfl) (by decide) ?_
   refine WL.x (X.sub rfl rfl (by omega) (by omega)) (by decide) ?_
   refine WL.x (X.assign rfl) (by decide) ?_
   refine WL.nil ?_
   refine WK.nThen ?_
   refine WC.seq ?_
   refine WC.region ?_
   refine WL.x (X.move rfl) (by decide) ?_
   refine WL.x (X.assign rfl) (by decide) ?_
   refine WL.nil ?_
   refine WK.nThen ?_
   refine WC.ret ?_
   refine WK.ret1 rfl rfl (fun w' hw' => Ret.exact hw' ?_)
   first | exact int_eq (floor_yes hpb (by assumption) (by assumption)) | exact int_eq (floor_no (by first | exact .inl (by assumption) | exact .inl (by omega) | exact .inr (by omega)))
  ·refine WL.x (X.pickT rfl rfl rfl) (by decide) ?_
   refine WL.nil ?_
   refine WK.nThen ?_
   refine WC.condF rfl ?_
   refine WC.skip ?_
   refine WK.nThen ?_
   refine WC.seq ?_
   refine WC.region ?_
   refine WL.x (X.move rfl) (by decide) ?_
   refine WL.x (X.assign rfl) (by decide) ?_
   refine WL.nil ?_
   refine WK.nThen ?_
   refine WC.ret ?_
   refine WK.ret1 rfl rfl (fun w' hw' => Ret.exact hw' ?_)
   first | exact int_eq (floor_yes hpb (by assumption) (by assumption)) | exact int_eq (floor_no (by first | exact .inl (by assumption) | exact .inl (by omega) | exact .inr (by omega)))
 ·refine WL.x (X.move rfl) (by decide) ?_
  refine WL.no rfl rfl rfl (by decide) ?_
  refine WL.no rfl rfl rfl (by decide) ?_
  refine WL.x (X.pickF rfl rfl rfl) (by decide) ?_
  refine WL.nil ?_
  refine WK.nThen ?_
  refine WC.condF rfl ?_
  refine WC.skip ?_
  refine WK.nThen ?_
  refine WC.seq ?_
  refine WC.region ?_
  refine WL.x (X.move rfl) (by decide) ?_
  refine WL.x (X.assign rfl) (by decide) ?_
  refine WL.nil ?_
  refine WK.nThen ?_
  refine WC.ret ?_
  refine WK.ret1 rfl rfl (fun w' hw' => Ret.exact hw' ?_)
  first | exact int_eq (floor_yes hpb (by assumption) (by assumption)) | exact int_eq (floor_no (by first | exact .inl (by assumption) | exact .inl (by omega) | exact .inr (by omega)))

set_option maxHeartbeats 2000000 in
theorem less67 (m : Mem) (ca : List Value) (a : Ratio) (ha : Enc.rd m ca a) (cb : List Value) (b : Ratio) (hb : Enc.rd m cb b)  (hpa : (0 < a.Den ∧ a.Den ≤ 4000000000000000000) ∧ (-4000000000000000000 ≤ a.Num ∧ a.Num ≤ 4000000000000000000)) (hpb : (0 < b.Den ∧ b.Den ≤ 4000000000000000000) ∧ (-4000000000000000000 ≤ b.Num ∧ b.Num ≤ 4000000000000000000)) : Exact Try.prog 67 #[.agg ca.toArray, .agg cb.toArray] m (.bool (decide (lessP a b))) := by
 obtain rfl := ha
 obtain rfl := hb
 refine Exact.start Try.func67 rfl Try.ntmps67 rfl fun wld => ?_
 refine WC.seq ?_
 refine WC.region ?_
 refine WL.tn (T.boxB rfl rfl) (by decide) fun b1 => ?_
 refine WL.tn (T.boxB rfl rfl) (by decide) fun b2 => ?_
 refine WL.x (X.assign rfl) (by decide) ?_
 refine WL.nil ?_
 refine WK.nThen ?_
 refine WC.seq ?_
 refine WC.seq ?_
 refine WC.region ?_
 refine WL.x (X.assign rfl) (by decide) ?_
 refine WL.nil ?_
 refine WK.nThen ?_
 refine WC.block ?_
 refine WC.loop (G := Nat × Ratio × Ratio) (fun (k, A, C) => 200 - k) (fun (k, A, C) => m) (fun (k, A, C) => [blk b2 45 [.int .i64 (C.Num), .int .i64 (C.Den)], blk b1 45 [.int .i64 (A.Num), .int .i64 (A.Den)]]) (fun (k, A, C) => [(2, .pointer (some ⟨b1, 0, none⟩)), (3, .pointer (some ⟨b2, 0, none⟩)), (5, .int .i64 (↑k))]) (fun (k, A, C) => k ≤ 200 ∧ LI a b k A C) ((0, a, b)) rfl (.refl _) (.cons rfl (.cons rfl (.cons rfl .nil))) ?_ ?_
 ·exact ⟨by omega, less_start hpa hpb⟩
 ·rintro ⟨k, A, C⟩ hF3
  show WK _ _ m [blk b2 45 [.int .i64 (C.Num), .int .i64 (C.Den)], blk b1 45 [.int .i64 (A.Num), .int .i64 (A.Den)]] [(2, .pointer (some ⟨b1, 0, none⟩)), (3, .pointer (some ⟨b2, 0, none⟩)), (5, .int .i64 (↑k))] _
  replace hF3 : k ≤ 200 ∧ LI a b k A C := hF3
  obtain ⟨hk, hL⟩ := hF3
  have g2 := hL.2.1
  have g3 := hL.2.2.1
  have g4 := hL.2.2.2.1
  have g5 := hL.2.2.2.2.1
  have ra := rest_bd (a := A.Num) g2.1
  have rc := rest_bd (a := C.Num) g3.1
  have da := div_bds (a := A.Num) g2.1
  have dc := div_bds (a := C.Num) g3.1
  refine WC.seq ?_
  refine WC.seq ?_
  refine WC.region ?_
  refine WL.x (X.move rfl) (by decide) ?_
  refine WL.cond (X.lss rfl rfl) (by decide) (fun h4 => ?_) (fun h4 => ?_)
  ·refine WL.nil ?_
   refine WK.nThen ?_
   refine WC.condT rfl ?_
   refine WC.skip ?_
   refine WK.nThen ?_
   refine WC.seq ?_
   refine WC.block ?_
   refine WC.seq ?_
   refine WC.region ?_
   refine WL.x (X.field Try.runUnderlying45 rfl Try.sizeOf3 rfl) (by decide) ?_
   refine WL.x (X.loadB (k := 1) Try.isAgg3 rfl rfl rfl) (by decide) ?_
   refine WL.x (X.field Try.runUnderlying45 rfl Try.sizeOf3 rfl) (by decide) ?_
   refine WL.x (X.loadB (k := 1) Try.isAgg3 rfl rfl rfl) (by decide) ?_
   refine WL.x (X.call Try.call130 rfl (floor130 _ _ _ (by omega) (by omega))) (by decide) ?_
   refine WL.x (X.assign rfl) (by decide) ?_
   refine WL.nil ?_
   refine WK.nThen ?_
   refine WC.seq ?_
   refine WC.region ?_
   refine WL.x (X.field Try.runUnderlying45 rfl Try.sizeOf3 rfl) (by decide) ?_
   refine WL.x (X.loadB (k := 0) Try.isAgg3 rfl rfl rfl) (by decide) ?_
   refine WL.x (X.field Try.runUnderlying45 rfl Try.sizeOf3 rfl) (by decide) ?_
   refine WL.x (X.loadB (k := 0) Try.isAgg3 rfl rfl rfl) (by decide) ?_
   refine WL.x (X.call Try.call130 rfl (floor130 _ _ _ (by omega) (by omega))) (by decide) ?_
   refine WL.x (X.assign rfl) (by decide) ?_
   refine WL.nil ?_
   refine WK.nThen ?_
   refine WC.seq ?_
   refine WC.seq ?_
   refine WC.region ?_
   refine WL.x (X.move rfl) (by decide) ?_
   refine WL.x (X.move rfl) (by decide) ?_
   refine WL.condn (X.neq rfl rfl) (by decide) (fun h5 => ?_) (fun h5 => ?_)
   ·refine WL.nil ?_
    refine WK.nThen ?_
    refine WC.condT rfl ?_
    refine WC.seq ?_
    refine WC.region ?_
    refine WL.x (X.move rfl) (by decide) ?_
    refine WL.x (X.move rfl) (by decide) ?_
    refine WL.x (X.lss rfl rfl) (by decide) ?_
    refine WL.x (X.assign rfl) (by decide) ?_
    refine WL.nil ?_
    refine WK.nThen ?_
    refine WC.ret ?_
    refine WK.rThen ?_
    refine WK.rBlock ?_
    refine WK.rThen ?_
    refine WK.rThen ?_
    refine WK.rBlock ?_
    refine WK.rThen ?_
    refine WK.ret1 rfl rfl (fun w' hw' => Ret.exact hw' ?_)
    first | exact (dec_eq (less_ret1 hL (by assumption)).symm) | exact bool_true ((less_ret1 hL (by assumption)).2 (by assumption)) | exact bool_false (fun h_ => absurd ((less_ret1 hL (by assumption)).1 h_) (by assumption)) | exact bool_false (less_ret2 hL (by omega) (by omega)) | exact bool_true (less_ret3 hL (by omega) (by omega) (by omega)) | exact (less_steps hL (by omega)).elim
   ·refine WL.nil ?_
    refine WK.nThen ?_
    refine WC.condF rfl ?_
    refine WC.skip ?_
    refine WK.nThen ?_
    refine WC.seq ?_
    refine WC.region ?_
    refine WL.x (X.field Try.runUnderlying45 rfl Try.sizeOf3 rfl) (by decide) ?_
    refine WL.x (X.loadB (k := 1) Try.isAgg3 rfl rfl rfl) (by decide) ?_
    refine WL.x (X.move rfl) (by decide) ?_
    refine WL.x (X.field Try.runUnderlying45 rfl Try.sizeOf3 rfl) (by decide) ?_
    refine WL.x (X.loadB (k := 1) Try.isAgg3 rfl rfl rfl) (by decide) ?_
    refine WL.x (X.mul rfl rfl (by omega) (by omega)) (by decide) ?_
    refine WL.x (X.sub rfl rfl (by omega) (by omega)) (by decide) ?_
    refine WL.x (X.assign rfl) (by decide) ?_
    refine WL.nil ?_
    refine WK.nThen ?_
    refine WC.seq ?_
    refine WC.region ?_
    refine WL.x (X.field Try.runUnderlying45 rfl Try.sizeOf3 rfl) (by decide) ?_
    refine WL.x (X.loadB (k := 0) Try.isAgg3 rfl rfl rfl) (by decide) ?_
    refine WL.x (X.move rfl) (by decide) ?_
    refine WL.x (X.field Try.runUnderlying45 rfl Try.sizeOf3 rfl) (by decide) ?_
    refine WL.x (X.loadB (k := 0) Try.isAgg3 rfl rfl rfl) (by decide) ?_
    refine WL.x (X.mul rfl rfl (by omega) (by omega)) (by decide) ?_
    refine WL.x (X.sub rfl rfl (by omega) (by omega)) (by decide) ?_
    refine WL.x (X.assign rfl) (by decide) ?_
    refine WL.nil ?_
    refine WK.nThen ?_
    refine WC.seq ?_
    refine WC.seq ?_
    refine WC.region ?_
    refine WL.x (X.move rfl) (by decide) ?_
    refine WL.cond (X.eql rfl rfl) (by decide) (fun h6 => ?_) (fun h6 => ?_)
    ·refine WL.nil ?_
     refine WK.nThen ?_
     refine WC.condT rfl ?_
     refine WC.seq ?_
     refine WC.region ?_
     refine WL.x (X.assign rfl) (by decide) ?_
     refine WL.nil ?_
     refine WK.nThen ?_
     refine WC.ret ?_
     refine WK.rThen ?_
     refine WK.rBlock ?_
     refine WK.rThen ?_
     refine WK.rThen ?_
     refine WK.rBlock ?_
     refine WK.rThen ?_
     refine WK.ret1 rfl rfl (fun w' hw' => Ret.exact hw' ?_)
     first | exact (dec_eq (less_ret1 hL (by assumption)).symm) | exact bool_true ((less_ret1 hL (by assumption)).2 (by assumption)) | exact bool_false (fun h_ => absurd ((less_ret1 hL (by assumption)).1 h_) (by assumption)) | exact bool_false (less_ret2 hL (by omega) (by omega)) | exact bool_true (less_ret3 hL (by omega) (by omega) (by omega)) | exact (less_steps hL (by omega)).elim
    ·refine WL.nil ?_
     refine WK.nThen ?_
     refine WC.condF rfl ?_
     refine WC.skip ?_
     refine WK.nThen ?_
     refine WC.seq ?_
     refine WC.seq ?_
     refine WC.region ?_
     refine WL.x (X.move rfl) (by decide) ?_
     refine WL.cond (X.eql rfl rfl) (by decide) (fun h7 => ?_) (fun h7 => ?_)
     ·refine WL.nil ?_
      refine WK.nThen ?_
      refine WC.condT rfl ?_
      refine WC.seq ?_
      refine WC.region ?_
      refine WL.x (X.assign rfl) (by decide) ?_
      refine WL.nil ?_
      refine WK.nThen ?_
      refine WC.ret ?_
      refine WK.rThen ?_
      refine WK.rBlock ?_
      refine WK.rThen ?_
      refine WK.rThen ?_
      refine WK.rBlock ?_
      refine WK.rThen ?_
      refine WK.ret1 rfl rfl (fun w' hw' => Ret.exact hw' ?_)
      first | exact (dec_eq (less_ret1 hL (by assumption)).symm) | exact bool_true ((less_ret1 hL (by assumption)).2 (by assumption)) | exact bool_false (fun h_ => absurd ((less_ret1 hL (by assumption)).1 h_) (by assumption)) | exact bool_false (less_ret2 hL (by omega) (by omega)) | exact bool_true (less_ret3 hL (by omega) (by omega) (by omega)) | exact (less_steps hL (by omega)).elim
     ·refine WL.nil ?_
      refine WK.nThen ?_
      refine WC.condF rfl ?_
      refine WC.skip ?_
      refine WK.nThen ?_
      refine WC.seq ?_
      refine WC.region ?_
      refine WL.x (X.field Try.runUnderlying45 rfl Try.sizeOf3 rfl) (by decide) ?_
      refine WL.x (X.loadB (k := 0) Try.isAgg3 rfl rfl rfl) (by decide) ?_
      refine WL.x (X.move rfl) (by decide) ?_
      refine WL.x (V := Value.agg [.int .i64 (C.Den), .int .i64 (C.Num - ((C.Num / C.Den) * C.Den))].toArray) (X.build Try.zeroValue45 Try.runUnderlying45 (places45 _ Try.underlying45) rfl rfl) (by decide) ?_
      refine WL.tn (T.alloc Try.zeroValue45 rfl) (by decide) fun b8 => ?_
      refine WL.ts (T.storeBA (k := 0) Try.sizeOf45 rfl rfl rfl (one_cons rfl (one_cons rfl one_nil)) rfl rfl) ?_
      refine WL.nil ?_
      refine WK.nThen ?_
      refine WC.seq ?_
      refine WC.region ?_
      refine WL.x (X.field Try.runUnderlying45 rfl Try.sizeOf3 rfl) (by decide) ?_
      refine WL.x (X.loadB (k := 2) Try.isAgg3 rfl rfl rfl) (by decide) ?_
      refine WL.x (X.move rfl) (by decide) ?_
      refine WL.x (V := Value.agg [.int .i64 (A.Den), .int .i64 (A.Num - ((A.Num / A.Den) * A.Den))].toArray) (X.build Try.zeroValue45 Try.runUnderlying45 (places45 _ Try.underlying45) rfl rfl) (by decide) ?_
      refine WL.ts (T.storeBA (k := 1) Try.sizeOf45 rfl rfl rfl (one_cons rfl (one_cons rfl one_nil)) rfl rfl) ?_
      refine WL.nil ?_
      refine WK.nThen ?_
      refine WC.region ?_
      refine WL.x (X.loadBA (k := 0) Try.isAgg45 Try.sizeOf45 rfl rfl rfl) (by decide) ?_
      refine WL.ts (T.storeBA (k := 2) Try.sizeOf45 rfl rfl rfl (one_cons rfl (one_cons rfl one_nil)) rfl rfl) ?_
      refine WL.nil ?_
      refine WK.nBlock ?_
      refine WK.nThen ?_
      refine WC.region ?_
      refine WL.x (X.move rfl) (by decide) ?_
      refine WL.x (X.add rfl rfl (by omega) (by omega)) (by decide) ?_
      refine WL.x (X.assign rfl) (by decide) ?_
      refine WL.nil ?_
      refine WK.nThen ?_
      refine WK.next ((k + 1, (Ratio.mk (C.Den) (C.Num - ((C.Num / C.Den) * C.Den))), (Ratio.mk (A.Den) (A.Num - ((A.Num / A.Den) * A.Den))))) rfl (.cons _ (.refl _)) (.cons rfl (.cons rfl (.cons rfl .nil))) ?_ ?_
      ·exact ⟨by omega, less_next hL (by omega) (by omega) (by omega)⟩
      ·(dsimp only; omega)
  ·refine WL.nil ?_
   refine WK.nThen ?_
   refine WC.condF rfl ?_
   refine WC.exit ?_
   refine WK.eThen ?_
   refine WK.eThen ?_
   refine WK.eHit ?_
   refine WK.nThen ?_
   refine WC.seq ?_
   refine WC.region ?_
   refine WL.x (X.assign rfl) (by decide) ?_
   refine WL.nil ?_
   refine WK.nThen ?_
   refine WC.ret ?_
   refine WK.ret1 rfl rfl (fun w' hw' => Ret.exact hw' ?_)
   first | exact (dec_eq (less_ret1 hL (by assumption)).symm) | exact bool_true ((less_ret1 hL (by assumption)).2 (by assumption)) | exact bool_false (fun h_ => absurd ((less_ret1 hL (by assumption)).1 h_) (by assumption)) | exact bool_false (less_ret2 hL (by omega) (by omega)) | exact bool_true (less_ret3 hL (by omega) (by omega) (by omega)) | exact (less_steps hL (by omega)).elim

theorem inside74 (m : Mem) (ca : List Value) (a : Span) (ha : Enc.rd m ca a) (cb : List Value) (b : Span) (hb : Enc.rd m cb b)   : Exact Try.prog 74 #[.agg ca.toArray, .agg cb.toArray] m (.bool (decide (b.Lo ≤ a.Lo ∧ a.Hi ≤ b.Hi))) := by
 obtain rfl := ha
 obtain rfl := hb
 refine Exact.start Try.func74 rfl Try.ntmps74 rfl fun wld => ?_
 refine WC.seq ?_
 refine WC.region ?_
 refine WL.tn (T.boxB rfl rfl) (by decide) fun b1 => ?_
 refine WL.tn (T.boxB rfl rfl) (by decide) fun b2 => ?_
 refine WL.x (X.assign rfl) (by decide) ?_
 refine WL.nil ?_
 refine WK.nThen ?_
 refine WC.seq ?_
 refine WC.region ?_
 refine WL.x (X.field Try.runUnderlying33 rfl Try.sizeOf3 rfl) (by decide) ?_
 refine WL.x (X.loadB (k := 0) Try.isAgg3 rfl rfl rfl) (by decide) ?_
 refine WL.x (X.field Try.runUnderlying33 rfl Try.sizeOf3 rfl) (by decide) ?_
 refine WL.x (X.loadB (k := 1) Try.isAgg3 rfl rfl rfl) (by decide) ?_
 refine WL.cond (X.leq rfl rfl) (by decide) (fun h3 => ?_) (fun h3 => ?_)
 ·refine WL.x (X.move rfl) (by decide) ?_
  refine WL.yes rfl rfl ?_
  refine WL.x (X.field Try.runUnderlying33 rfl Try.sizeOf3 rfl) (by decide) ?_
  refine WL.yes rfl rfl ?_
  refine WL.x (X.loadB (k := 1) Try.isAgg3 rfl rfl rfl) (by decide) ?_
  refine WL.yes rfl rfl ?_
  refine WL.x (X.field Try.runUnderlying33 rfl Try.sizeOf3 rfl) (by decide) ?_
  refine WL.yes rfl rfl ?_
  refine WL.x (X.loadB (k := 0) Try.isAgg3 rfl rfl rfl) (by decide) ?_
  refine WL.yes rfl rfl ?_
  refine WL.x (X.leq rfl rfl) (by decide) ?_
  refine WL.x (X.pickT rfl rfl rfl) (by decide) ?_
  refine WL.x (X.assign rfl) (by decide) ?_
  refine WL.nil ?_
  refine WK.nThen ?_
  refine WC.ret ?_
  refine WK.ret1 rfl rfl (fun w' hw' => Ret.exact hw' ?_)
  first | exact bool_true (by omega) | exact bool_false (by omega) | exact dec_eq (by omega)
 ·refine WL.x (X.move rfl) (by decide) ?_
  refine WL.no rfl rfl rfl (by decide) ?_
  refine WL.no rfl rfl rfl (by decide) ?_
  refine WL.no rfl rfl rfl (by decide) ?_
  refine WL.no rfl rfl rfl (by decide) ?_
  refine WL.no rfl rfl rfl (by decide) ?_
  refine WL.x (X.pickF rfl rfl rfl) (by decide) ?_
  refine WL.x (X.assign rfl) (by decide) ?_
  refine WL.nil ?_
  refine WK.nThen ?_
  refine WC.ret ?_
  refine WK.ret1 rfl rfl (fun w' hw' => Ret.exact hw' ?_)
  first | exact bool_true (by omega) | exact bool_false (by omega) | exact dec_eq (by omega)

theorem cut134 (m : Mem) (cs : List Value) (s : Span) (hs : Enc.rd m cs s) (cx : List Value) (x : Mor) (hx : Enc.rd m cx x)   : Exact Try.prog 134 #[.agg cs.toArray, .agg cx.toArray] m (.agg [.int .i64 ((cutW s x).Lo), .int .i64 ((cutW s x).Hi)].toArray) := by
 obtain rfl := hs
 obtain rfl := hx
 refine Exact.start Try.func134 rfl Try.ntmps134 rfl fun wld => ?_
 refine WC.seq ?_
 refine WC.region ?_
 refine WL.tn (T.boxB rfl rfl) (by decide) fun b1 => ?_
 refine WL.tn (T.boxB rfl rfl) (by decide) fun b2 => ?_
 refine WL.tn (T.alloc Try.zeroValue33 rfl) (by decide) fun b3 => ?_
 refine WL.nil ?_
 refine WK.nThen ?_
 refine WC.seq ?_
 refine WC.region ?_
 refine WL.x (X.field Try.runUnderlying33 rfl Try.sizeOf3 rfl) (by decide) ?_
 refine WL.x (X.loadB (k := 2) Try.isAgg3 rfl rfl rfl) (by decide) ?_
 refine WL.x (X.field Try.runUnderlying33 rfl Try.sizeOf3 rfl) (by decide) ?_
 refine WL.x (X.loadB (k := 2) Try.isAgg3 rfl rfl rfl) (by decide) ?_
 refine WL.x (X.subW rfl rfl) (by decide) ?_
 refine WL.x (X.mx rfl rfl) (by decide) ?_
 refine WL.x (X.assign rfl) (by decide) ?_
 refine WL.nil ?_
 refine WK.nThen ?_
 refine WC.seq ?_
 refine WC.region ?_
 refine WL.x (X.field Try.runUnderlying97 rfl Try.sizeOf3 rfl) (by decide) ?_
 refine WL.x (X.loadB (k := 1) Try.isAgg3 rfl rfl rfl) (by decide) ?_
 refine WL.x (X.mx rfl rfl) (by decide) ?_
 refine WL.x (X.move rfl) (by decide) ?_
 refine WL.x (X.mn rfl rfl) (by decide) ?_
 refine WL.x (X.assign rfl) (by decide) ?_
 refine WL.nil ?_
 refine WK.nThen ?_
 refine WC.seq ?_
 refine WC.region ?_
 refine WL.x (X.field Try.runUnderlying33 rfl Try.sizeOf3 rfl) (by decide) ?_
 refine WL.x (X.loadB (k := 2) Try.isAgg3 rfl rfl rfl) (by decide) ?_
 refine WL.x (X.move rfl) (by decide) ?_
 refine WL.x (X.addW rfl rfl) (by decide) ?_
 refine WL.x (X.field Try.runUnderlying33 rfl Try.sizeOf3 rfl) (by decide) ?_
 refine WL.x (X.loadB (k := 2) Try.isAgg3 rfl rfl rfl) (by decide) ?_
 refine WL.x (X.field Try.runUnderlying97 rfl Try.sizeOf3 rfl) (by decide) ?_
 refine WL.x (X.loadB (k := 1) Try.isAgg3 rfl rfl rfl) (by decide) ?_
 refine WL.x (X.mx rfl rfl) (by decide) ?_
 refine WL.x (X.move rfl) (by decide) ?_
 refine WL.x (X.move rfl) (by decide) ?_
 refine WL.x (X.subW rfl rfl) (by decide) ?_
 refine WL.x (X.mn rfl rfl) (by decide) ?_
 refine WL.x (X.subW rfl rfl) (by decide) ?_
 refine WL.x (V := Value.agg [.int .i64 (wr (s.Lo + (min (max x.Lo 0) (max 0 (wr (s.Hi - s.Lo)))))), .int .i64 (wr (s.Hi - (min (max x.Hi 0) (wr ((max 0 (wr (s.Hi - s.Lo))) - (min (max x.Lo 0) (max 0 (wr (s.Hi - s.Lo)))))))))].toArray) (X.build Try.zeroValue33 Try.runUnderlying33 (places33 _ Try.underlying33) rfl rfl) (by decide) ?_
 refine WL.ts (T.storeBA (k := 0) Try.sizeOf33 rfl rfl rfl (one_cons rfl (one_cons rfl one_nil)) rfl rfl) ?_
 refine WL.nil ?_
 refine WK.nThen ?_
 refine WC.ret ?_
 refine WK.retC1 0 rfl rfl rfl Try.isAgg33 Try.sizeOf33 (fun w' hw' => Ret.exact hw' ?_)
 exact agg2i (cutW_eq s x).1.symm (cutW_eq s x).2.symm

set_option maxRecDepth 20000 in
set_option maxHeartbeats 400000 in
theorem known73 (m : Mem) (cs : List Value) (s : Ser) (hs : Enc.rd m cs s) (cx : List Value) (x : Mor) (hx : Enc.rd m cx x)  (hn1 : s.Values.length ≤ 1000) (hn2 : s.Shifts.length ≤ 1000) : Pure Try.prog 73 #[.agg cs.toArray, .agg cx.toArray] m (fun m' v => ∃ r0, v = .tuple #[.agg r0.toArray, .bool ((knownR s x).2)] ∧ Enc.rd m' r0 ((knownR s x).1)) := by
 obtain ⟨v1, v3, rfl, hs2, hs4⟩ := hs
 have hl5 := hs2.le
 have hl6 := hs4.le
 obtain rfl := hx
 refine Pure.start Try.func73 rfl Try.ntmps73 rfl fun wld => ?_
 refine WC.seq ?_
 refine WC.region ?_
 refine WL.tn (T.boxB rfl rfl) (by decide) fun b7 => ?_
 refine WL.tn (T.boxB rfl rfl) (by decide) fun b8 => ?_
 refine WL.tn (T.alloc Try.zeroValue25 rfl) (by decide) fun b9 => ?_
 refine WL.x (X.assign rfl) (by decide) ?_
 refine WL.nil ?_
 refine WK.nThen ?_
 refine WC.cut (G := Mem × Nat × Value × Value) (fun (m10, b20, v13, v17) => m10) (fun (m10, b20, v13, v17) => [blk b20 25 [v13, v17], rowF (v17) 72 ([] ++ s.Shifts), rowF (v13) 62 ([] ++ s.Values), blk b9 25 [.slice none 0 0, .slice none 0 0], blk b8 97 [.bool (x.Shift), .int .i64 (x.At), .int .i64 (x.Lo), .int .i64 (x.Hi)], blk b7 25 [v1, v3]]) (fun (m10, b20, v13, v17) => [(2, .pointer (some ⟨b7, 0, none⟩)), (3, .pointer (some ⟨b8, 0, none⟩)), (4, .pointer (some ⟨b9, 0, none⟩)), (6, .pointer (some ⟨b20, 0, none⟩))]) (fun (m10, b20, v13, v17) => m.le m10 ∧ Sl (α := Val) m10 v1 s.Values ∧ Sl (α := Shf) m10 v3 s.Shifts) ?_ ?_
 ·refine WC.draw (π := (.cons 1 (.cons 2 (.cons 5 (.fork (.cons 0 (.fork (.cons 3 (.fork (.cons 4 (.fork (.cons 6 (.fork (.cons 7 (.cons 8 (.cons 9 (.cons 10 .done)))) (.cons 9 (.cons 7 (.cons 8 (.cons 10 .done)))))) (.cons 9 (.cons 6 (.cons 7 (.cons 8 (.cons 10 .done))))))) (.fork (.cons 6 (.fork (.cons 4 (.fork (.cons 7 (.cons 8 (.cons 9 (.cons 10 .done)))) (.cons 9 (.cons 7 (.cons 8 (.cons 10 .done)))))) (.cons 9 (.cons 4 (.cons 7 (.cons 8 (.cons 10 .done))))))) (.cons 9 (.fork (.cons 4 (.cons 6 (.cons 7 (.cons 8 (.cons 10 .done))))) (.cons 6 (.cons 4 (.cons 7 (.cons 8 (.cons 10 .done)))))))))) (.fork (.cons 4 (.fork (.cons 3 (.fork (.cons 6 (.fork (.cons 7 (.cons 8 (.cons 9 (.cons 10 .done)))) (.cons 9 (.cons 7 (.cons 8 (.cons 10 .done)))))) (.cons 9 (.cons 6 (.cons 7 (.cons 8 (.cons 10 .done))))))) (.fork (.cons 6 (.fork (.cons 3 (.fork (.cons 7 (.cons 8 (.cons 9 (.cons 10 .done)))) (.cons 9 (.cons 7 (.cons 8 (.cons 10 .done)))))) (.cons 9 (.cons 3 (.cons 7 (.cons 8 (.cons 10 .done))))))) (.cons 9 (.fork (.cons 3 (.cons 6 (.cons 7 (.cons 8 (.cons 10 .done))))) (.cons 6 (.cons 3 (.cons 7 (.cons 8 (.cons 10 .done)))))))))) (.fork (.cons 6 (.fork (.cons 3 (.fork (.cons 4 (.fork (.cons 7 (.cons 8 (.cons 9 (.cons 10 .done)))) (.cons 9 (.cons 7 (.cons 8 (.cons 10 .done)))))) (.cons 9 (.cons 4 (.cons 7 (.cons 8 (.cons 10 .done))))))) (.fork (.cons 4 (.fork (.cons 3 (.fork (.cons 7 (.cons 8 (.cons 9 (.cons 10 .done)))) (.cons 9 (.cons 7 (.cons 8 (.cons 10 .done)))))) (.cons 9 (.cons 3 (.cons 7 (.cons 8 (.cons 10 .done))))))) (.cons 9 (.fork (.cons 3 (.cons 4 (.cons 7 (.cons 8 (.cons 10 .done))))) (.cons 4 (.cons 3 (.cons 7 (.cons 8 (.cons 10 .done)))))))))) (.cons 9 (.fork (.cons 3 (.fork (.cons 4 (.cons 6 (.cons 7 (.cons 8 (.cons 10 .done))))) (.cons 6 (.cons 4 (.cons 7 (.cons 8 (.cons 10 .done))))))) (.fork (.cons 4 (.fork (.cons 3 (.cons 6 (.cons 7 (.cons 8 (.cons 10 .done))))) (.cons 6 (.cons 3 (.cons 7 (.cons 8 (.cons 10 .done))))))) (.cons 6 (.fork (.cons 3 (.cons 4 (.cons 7 (.cons 8 (.cons 10 .done))))) (.cons 4 (.cons 3 (.cons 7 (.cons 8 (.cons 10 .done)))))))))))))) (.fork (.cons 4 (.fork (.cons 0 (.fork (.cons 3 (.fork (.cons 6 (.fork (.cons 7 (.cons 8 (.cons 9 (.cons 10 .done)))) (.cons 9 (.cons 7 (.cons 8 (.cons 10 .done)))))) (.cons 9 (.cons 6 (.cons 7 (.cons 8 (.cons 10 .done))))))) (.fork (.cons 6 (.fork (.cons 3 (.fork (.cons 7 (.cons 8 (.cons 9 (.cons 10 .done)))) (.cons 9 (.cons 7 (.cons 8 (.cons 10 .done)))))) (.cons 9 (.cons 3 (.cons 7 (.cons 8 (.cons 10 .done))))))) (.cons 9 (.fork (.cons 3 (.cons 6 (.cons 7 (.cons 8 (.cons 10 .done))))) (.cons 6 (.cons 3 (.cons 7 (.cons 8 (.cons 10 .done)))))))))) (.fork (.cons 6 (.fork (.cons 0 (.fork (.cons 3 (.fork (.cons 7 (.cons 8 (.cons 9 (.cons 10 .done)))) (.cons 9 (.cons 7 (.cons 8 (.cons 10 .done)))))) (.cons 9 (.cons 3 (.cons 7 (.cons 8 (.cons 10 .done))))))) (.cons 9 (.cons 0 (.cons 3 (.cons 7 (.cons 8 (.cons 10 .done)))))))) (.cons 9 (.fork (.cons 0 (.fork (.cons 3 (.cons 6 (.cons 7 (.cons 8 (.cons 10 .done))))) (.cons 6 (.cons 3 (.cons 7 (.cons 8 (.cons 10 .done))))))) (.cons 6 (.cons 0 (.cons 3 (.cons 7 (.cons 8 (.cons 10 .done))))))))))) (.fork (.cons 6 (.fork (.cons 0 (.fork (.cons 3 (.fork (.cons 4 (.fork (.cons 7 (.cons 8 (.cons 9 (.cons 10 .done)))) (.cons 9 (.cons 7 (.cons 8 (.cons 10 .done)))))) (.cons 9 (.cons 4 (.cons 7 (.cons 8 (.cons 10 .done))))))) (.fork (.cons 4 (.fork (.cons 3 (.fork (.cons 7 (.cons 8 (.cons 9 (.cons 10 .done)))) (.cons 9 (.cons 7 (.cons 8 (.cons 10 .done)))))) (.cons 9 (.cons 3 (.cons 7 (.cons 8 (.cons 10 .done))))))) (.cons 9 (.fork (.cons 3 (.cons 4 (.cons 7 (.cons 8 (.cons 10 .done))))) (.cons 4 (.cons 3 (.cons 7 (.cons 8 (.cons 10 .done)))))))))) (.fork (.cons 4 (.fork (.cons 0 (.fork (.cons 3 (.fork (.cons 7 (.cons 8 (.cons 9 (.cons 10 .done)))) (.cons 9 (.cons 7 (.cons 8 (.cons 10 .done)))))) (.cons 9 (.cons 3 (.cons 7 (.cons 8 (.cons 10 .done))))))) (.cons 9 (.cons 0 (.cons 3 (.cons 7 (.cons 8 (.cons 10 .done)))))))) (.cons 9 (.fork (.cons 0 (.fork (.cons 3 (.cons 4 (.cons 7 (.cons 8 (.cons 10 .done))))) (.cons 4 (.cons 3 (.cons 7 (.cons 8 (.cons 10 .done))))))) (.cons 4 (.cons 0 (.cons 3 (.cons 7 (.cons 8 (.cons 10 .done))))))))))) (.cons 9 (.fork (.cons 0 (.fork (.cons 3 (.fork (.cons 4 (.cons 6 (.cons 7 (.cons 8 (.cons 10 .done))))) (.cons 6 (.cons 4 (.cons 7 (.cons 8 (.cons 10 .done))))))) (.fork (.cons 4 (.fork (.cons 3 (.cons 6 (.cons 7 (.cons 8 (.cons 10 .done))))) (.cons 6 (.cons 3 (.cons 7 (.cons 8 (.cons 10 .done))))))) (.cons 6 (.fork (.cons 3 (.cons 4 (.cons 7 (.cons 8 (.cons 10 .done))))) (.cons 4 (.cons 3 (.cons 7 (.cons 8 (.cons 10 .done)))))))))) (.fork (.cons 4 (.fork (.cons 0 (.fork (.cons 3 (.cons 6 (.cons 7 (.cons 8 (.cons 10 .done))))) (.cons 6 (.cons 3 (.cons 7 (.cons 8 (.cons 10 .done))))))) (.cons 6 (.cons 0 (.cons 3 (.cons 7 (.cons 8 (.cons 10 .done)))))))) (.cons 6 (.fork (.cons 0 (.fork (.cons 3 (.cons 4 (.cons 7 (.cons 8 (.cons 10 .done))))) (.cons 4 (.cons 3 (.cons 7 (.cons 8 (.cons 10 .done))))))) (.cons 4 (.cons 0 (.cons 3 (.cons 7 (.cons 8 (.cons 10 .done)))))))))))))))))) [0, 3, 4, 6, 7, 9, 10] [3, 7, 10, 100005] rfl (by kernel_rfl) ?_
  refine DW.x rfl rfl (X.field Try.runUnderlying25 rfl Try.sizeOf22 rfl) (by decide) ?_
  refine DW.x rfl rfl (X.loadB (k := 2) Try.isAgg22 rfl rfl rfl) (by decide) ?_
  refine DW.xf rfl rfl rfl (fun _ _ hle_ => (X.field Try.runUnderlying25 rfl Try.sizeOf23 rfl)) (by decide) ?_
  refine DW.fork (List.cons_ne_nil _ _) ?_ ?_
  ·refine DW.tO rfl rfl rfl (OpTo.taO (T.lit0 (α := Val) sl22 rfl)) (by decide) (fun m12 Es_ v11 hle13 hR_ => ?_)
   subst hR_
   replace hs2 := hs2.mono hle13
   replace hs4 := hs4.mono hle13
   refine DW.fork (List.cons_ne_nil _ _) ?_ ?_
   ·refine DW.ta rfl rfl rfl rfl (T.appendFl (α := Val) (fun _ _ _ h => h) (k := 0) sl22 rfl rfl hs2 rfl (by simp; omega) (by simp; omega)) (by decide) (fun v14 => ?_)
    refine DW.fork (List.cons_ne_nil _ _) ?_ ?_
    ·refine DW.tO rfl rfl rfl (OpTo.taO (T.lit0 (α := Shf) sl23 rfl)) (by decide) (fun m16 Es_ v15 hle17 hR_ => ?_)
     subst hR_
     replace hs2 := hs2.mono hle17
     replace hs4 := hs4.mono hle17
     refine DW.fork (List.cons_ne_nil _ _) ?_ ?_
     ·refine DW.xp rfl rfl rfl (fun _ => (X.loadB (k := 4) Try.isAgg23 rfl rfl rfl)) (by decide) ?_
      refine DW.fork (List.cons_ne_nil _ _) ?_ ?_
      ·refine DW.ta rfl rfl rfl rfl (T.appendFl (α := Shf) (fun _ _ _ h => h) (k := 0) sl23 rfl rfl hs4 rfl (by simp; omega) (by simp; omega)) (by decide) (fun v18 => ?_)
       refine DW.x (V := Value.agg [v14, v18].toArray) rfl rfl (OpX.own1 (k := 1) rfl trivial (defdB rfl) fun ho19 => (OpX.own1 (k := 0) rfl trivial (defdB rfl) fun ho20 => (X.build Try.zeroValue25 Try.runUnderlying25 (places25 _ Try.underlying25) rfl (by simp only [Instr.fill, one_cells ho19, one_cells ho20]; rfl)))) (by decide) ?_
       refine DW.tn rfl rfl rfl (T.alloc Try.zeroValue25 rfl) (by decide) fun b21 => ?_
       refine DW.ts rfl rfl rfl rfl (OpTo.own1 (k := 2) rfl trivial (defd2 rfl rfl rfl) fun ho22 => (OpTo.own1 (k := 1) rfl trivial (defd2 rfl rfl rfl) fun ho23 => (T.storeBA (k := 0) Try.sizeOf25 rfl rfl rfl (one_cons ho22 (one_cons ho23 one_nil)) rfl rfl))) ?_
       refine DW.nil ?_
       refine WK.nThen ?_
       exact WK.meet (m16, b21, v14, v18) rfl (.refl _) (.cons rfl (.cons rfl (.cons rfl (.cons rfl .nil)))) ⟨(Mem.le_trans hle13 hle17), hs2, hs4⟩
      ·refine DW.tn rfl rfl rfl (T.alloc Try.zeroValue25 rfl) (by decide) fun b24 => ?_
       refine DW.ta rfl rfl rfl rfl (T.appendFl (α := Shf) (fun _ _ _ h => h) (k := 1) sl23 rfl rfl hs4 rfl (by simp; omega) (by simp; omega)) (by decide) (fun v25 => ?_)
       refine DW.x (V := Value.agg [v14, v25].toArray) rfl rfl (OpX.own1 (k := 2) rfl trivial (defdB rfl) fun ho26 => (OpX.own1 (k := 1) rfl trivial (defdB rfl) fun ho27 => (X.build Try.zeroValue25 Try.runUnderlying25 (places25 _ Try.underlying25) rfl (by simp only [Instr.fill, one_cells ho26, one_cells ho27]; rfl)))) (by decide) ?_
       refine DW.ts rfl rfl rfl rfl (OpTo.own1 (k := 2) rfl trivial (defd2 rfl rfl rfl) fun ho28 => (OpTo.own1 (k := 1) rfl trivial (defd2 rfl rfl rfl) fun ho29 => (T.storeBA (k := 0) Try.sizeOf25 rfl rfl rfl (one_cons ho28 (one_cons ho29 one_nil)) rfl rfl))) ?_
       refine DW.nil ?_
       refine WK.nThen ?_
       exact WK.meet (m16, b24, v14, v25) rfl (.refl _) (.cons rfl (.cons rfl (.cons rfl (.cons rfl .nil)))) ⟨(Mem.le_trans hle13 hle17), hs2, hs4⟩
     ·refine DW.tn rfl rfl rfl (T.alloc Try.zeroValue25 rfl) (by decide) fun b30 => ?_
      refine DW.xp rfl rfl rfl (fun _ => (X.loadB (k := 5) Try.isAgg23 rfl rfl rfl)) (by decide) ?_
      refine DW.ta rfl rfl rfl rfl (T.appendFl (α := Shf) (fun _ _ _ h => h) (k := 1) sl23 rfl rfl hs4 rfl (by simp; omega) (by simp; omega)) (by decide) (fun v31 => ?_)
      refine DW.x (V := Value.agg [v14, v31].toArray) rfl rfl (OpX.own1 (k := 2) rfl trivial (defdB rfl) fun ho32 => (OpX.own1 (k := 1) rfl trivial (defdB rfl) fun ho33 => (X.build Try.zeroValue25 Try.runUnderlying25 (places25 _ Try.underlying25) rfl (by simp only [Instr.fill, one_cells ho32, one_cells ho33]; rfl)))) (by decide) ?_
      refine DW.ts rfl rfl rfl rfl (OpTo.own1 (k := 2) rfl trivial (defd2 rfl rfl rfl) fun ho34 => (OpTo.own1 (k := 1) rfl trivial (defd2 rfl rfl rfl) fun ho35 => (T.storeBA (k := 0) Try.sizeOf25 rfl rfl rfl (one_cons ho34 (one_cons ho35 one_nil)) rfl rfl))) ?_
      refine DW.nil ?_
      refine WK.nThen ?_
      exact WK.meet (m16, b30, v14, v31) rfl (.refl _) (.cons rfl (.cons rfl (.cons rfl (.cons rfl .nil)))) ⟨(Mem.le_trans hle13 hle17), hs2, hs4⟩
    ·refine DW.fork (List.cons_ne_nil _ _) ?_ ?_
     ·refine DW.xp rfl rfl rfl (fun _ => (X.loadB (k := 3) Try.isAgg23 rfl rfl rfl)) (by decide) ?_
      refine DW.fork (List.cons_ne_nil _ _) ?_ ?_
      ·refine DW.tO rfl rfl rfl (OpTo.taO (T.lit0 (α := Shf) sl23 rfl)) (by decide) (fun m37 Es_ v36 hle38 hR_ => ?_)
       subst hR_
       replace hs2 := hs2.mono hle38
       replace hs4 := hs4.mono hle38
       refine DW.fork (List.cons_ne_nil _ _) ?_ ?_
       ·refine DW.ta rfl rfl rfl rfl (T.appendFl (α := Shf) (fun _ _ _ h => h) (k := 0) sl23 rfl rfl hs4 rfl (by simp; omega) (by simp; omega)) (by decide) (fun v39 => ?_)
        refine DW.x (V := Value.agg [v14, v39].toArray) rfl rfl (OpX.own1 (k := 1) rfl trivial (defdB rfl) fun ho40 => (OpX.own1 (k := 0) rfl trivial (defdB rfl) fun ho41 => (X.build Try.zeroValue25 Try.runUnderlying25 (places25 _ Try.underlying25) rfl (by simp only [Instr.fill, one_cells ho40, one_cells ho41]; rfl)))) (by decide) ?_
        refine DW.tn rfl rfl rfl (T.alloc Try.zeroValue25 rfl) (by decide) fun b42 => ?_
        refine DW.ts rfl rfl rfl rfl (OpTo.own1 (k := 2) rfl trivial (defd2 rfl rfl rfl) fun ho43 => (OpTo.own1 (k := 1) rfl trivial (defd2 rfl rfl rfl) fun ho44 => (T.storeBA (k := 0) Try.sizeOf25 rfl rfl rfl (one_cons ho43 (one_cons ho44 one_nil)) rfl rfl))) ?_
        refine DW.nil ?_
        refine WK.nThen ?_
        exact WK.meet (m37, b42, v14, v39) rfl (.refl _) (.cons rfl (.cons rfl (.cons rfl (.cons rfl .nil)))) ⟨(Mem.le_trans hle13 hle38), hs2, hs4⟩
       ·refine DW.tn rfl rfl rfl (T.alloc Try.zeroValue25 rfl) (by decide) fun b45 => ?_
        refine DW.ta rfl rfl rfl rfl (T.appendFl (α := Shf) (fun _ _ _ h => h) (k := 1) sl23 rfl rfl hs4 rfl (by simp; omega) (by simp; omega)) (by decide) (fun v46 => ?_)
        refine DW.x (V := Value.agg [v14, v46].toArray) rfl rfl (OpX.own1 (k := 2) rfl trivial (defdB rfl) fun ho47 => (OpX.own1 (k := 1) rfl trivial (defdB rfl) fun ho48 => (X.build Try.zeroValue25 Try.runUnderlying25 (places25 _ Try.underlying25) rfl (by simp only [Instr.fill, one_cells ho47, one_cells ho48]; rfl)))) (by decide) ?_
        refine DW.ts rfl rfl rfl rfl (OpTo.own1 (k := 2) rfl trivial (defd2 rfl rfl rfl) fun ho49 => (OpTo.own1 (k := 1) rfl trivial (defd2 rfl rfl rfl) fun ho50 => (T.storeBA (k := 0) Try.sizeOf25 rfl rfl rfl (one_cons ho49 (one_cons ho50 one_nil)) rfl rfl))) ?_
        refine DW.nil ?_
        refine WK.nThen ?_
        exact WK.meet (m37, b45, v14, v46) rfl (.refl _) (.cons rfl (.cons rfl (.cons rfl (.cons rfl .nil)))) ⟨(Mem.le_trans hle13 hle38), hs2, hs4⟩
      ·refine DW.tn rfl rfl rfl (T.alloc Try.zeroValue25 rfl) (by decide) fun b51 => ?_
       refine DW.tO rfl rfl rfl (OpTo.taO (T.lit0 (α := Shf) sl23 rfl)) (by decide) (fun m53 Es_ v52 hle54 hR_ => ?_)
       subst hR_
       replace hs2 := hs2.mono hle54
       replace hs4 := hs4.mono hle54
       refine DW.ta rfl rfl rfl rfl (T.appendFl (α := Shf) (fun _ _ _ h => h) (k := 0) sl23 rfl rfl hs4 rfl (by simp; omega) (by simp; omega)) (by decide) (fun v55 => ?_)
       refine DW.x (V := Value.agg [v14, v55].toArray) rfl rfl (OpX.own1 (k := 2) rfl trivial (defdB rfl) fun ho56 => (OpX.own1 (k := 0) rfl trivial (defdB rfl) fun ho57 => (X.build Try.zeroValue25 Try.runUnderlying25 (places25 _ Try.underlying25) rfl (by simp only [Instr.fill, one_cells ho56, one_cells ho57]; rfl)))) (by decide) ?_
       refine DW.ts rfl rfl rfl rfl (OpTo.own1 (k := 2) rfl trivial (defd2 rfl rfl rfl) fun ho58 => (OpTo.own1 (k := 0) rfl trivial (defd2 rfl rfl rfl) fun ho59 => (T.storeBA (k := 1) Try.sizeOf25 rfl rfl rfl (one_cons ho58 (one_cons ho59 one_nil)) rfl rfl))) ?_
       refine DW.nil ?_
       refine WK.nThen ?_
       refine WK.perm [blk b51 25 [v14, v55], rowF (v55) 72 ([] ++ s.Shifts), rowF (v14) 62 ([] ++ s.Values), blk b9 25 [.slice none 0 0, .slice none 0 0], blk b8 97 [.bool (x.Shift), .int .i64 (x.At), .int .i64 (x.Lo), .int .i64 (x.Hi)], blk b7 25 [v1, v3]] ((List.Perm.cons _ (.refl _)).trans (List.perm_middle (l₁ := [rowF (v55) 72 ([] ++ s.Shifts)]) (l₂ := [rowF (v14) 62 ([] ++ s.Values), blk b9 25 [.slice none 0 0, .slice none 0 0], blk b8 97 [.bool (x.Shift), .int .i64 (x.At), .int .i64 (x.Lo), .int .i64 (x.Hi)], blk b7 25 [v1, v3]]) (a := blk b51 25 [v14, v55])).symm) ?_
       exact WK.meet (m53, b51, v14, v55) rfl (.refl _) (.cons rfl (.cons rfl (.cons rfl (.cons rfl .nil)))) ⟨(Mem.le_trans hle13 hle54), hs2, hs4⟩
     ·refine DW.tn rfl rfl rfl (T.alloc Try.zeroValue25 rfl) (by decide) fun b60 => ?_
      refine DW.fork (List.cons_ne_nil _ _) ?_ ?_
      ·refine DW.tO rfl rfl rfl (OpTo.taO (T.lit0 (α := Shf) sl23 rfl)) (by decide) (fun m62 Es_ v61 hle63 hR_ => ?_)
       subst hR_
       replace hs2 := hs2.mono hle63
       replace hs4 := hs4.mono hle63
       refine DW.xp rfl rfl rfl (fun _ => (X.loadB (k := 5) Try.isAgg23 rfl rfl rfl)) (by decide) ?_
       refine DW.ta rfl rfl rfl rfl (T.appendFl (α := Shf) (fun _ _ _ h => h) (k := 0) sl23 rfl rfl hs4 rfl (by simp; omega) (by simp; omega)) (by decide) (fun v64 => ?_)
       refine DW.x (V := Value.agg [v14, v64].toArray) rfl rfl (OpX.own1 (k := 2) rfl trivial (defdB rfl) fun ho65 => (OpX.own1 (k := 0) rfl trivial (defdB rfl) fun ho66 => (X.build Try.zeroValue25 Try.runUnderlying25 (places25 _ Try.underlying25) rfl (by simp only [Instr.fill, one_cells ho65, one_cells ho66]; rfl)))) (by decide) ?_
       refine DW.ts rfl rfl rfl rfl (OpTo.own1 (k := 2) rfl trivial (defd2 rfl rfl rfl) fun ho67 => (OpTo.own1 (k := 0) rfl trivial (defd2 rfl rfl rfl) fun ho68 => (T.storeBA (k := 1) Try.sizeOf25 rfl rfl rfl (one_cons ho67 (one_cons ho68 one_nil)) rfl rfl))) ?_
       refine DW.nil ?_
       refine WK.nThen ?_
       refine WK.perm [blk b60 25 [v14, v64], rowF (v64) 72 ([] ++ s.Shifts), rowF (v14) 62 ([] ++ s.Values), blk b9 25 [.slice none 0 0, .slice none 0 0], blk b8 97 [.bool (x.Shift), .int .i64 (x.At), .int .i64 (x.Lo), .int .i64 (x.Hi)], blk b7 25 [v1, v3]] ((List.Perm.cons _ (.refl _)).trans (List.perm_middle (l₁ := [rowF (v64) 72 ([] ++ s.Shifts)]) (l₂ := [rowF (v14) 62 ([] ++ s.Values), blk b9 25 [.slice none 0 0, .slice none 0 0], blk b8 97 [.bool (x.Shift), .int .i64 (x.At), .int .i64 (x.Lo), .int .i64 (x.Hi)], blk b7 25 [v1, v3]]) (a := blk b60 25 [v14, v64])).symm) ?_
       exact WK.meet (m62, b60, v14, v64) rfl (.refl _) (.cons rfl (.cons rfl (.cons rfl (.cons rfl .nil)))) ⟨(Mem.le_trans hle13 hle63), hs2, hs4⟩
      ·refine DW.xp rfl rfl rfl (fun _ => (X.loadB (k := 4) Try.isAgg23 rfl rfl rfl)) (by decide) ?_
       refine DW.tO rfl rfl rfl (OpTo.taO (T.lit0 (α := Shf) sl23 rfl)) (by decide) (fun m70 Es_ v69 hle71 hR_ => ?_)
       subst hR_
       replace hs2 := hs2.mono hle71
       replace hs4 := hs4.mono hle71
       refine DW.ta rfl rfl rfl rfl (T.appendFl (α := Shf) (fun _ _ _ h => h) (k := 0) sl23 rfl rfl hs4 rfl (by simp; omega) (by simp; omega)) (by decide) (fun v72 => ?_)
       refine DW.x (V := Value.agg [v14, v72].toArray) rfl rfl (OpX.own1 (k := 2) rfl trivial (defdB rfl) fun ho73 => (OpX.own1 (k := 0) rfl trivial (defdB rfl) fun ho74 => (X.build Try.zeroValue25 Try.runUnderlying25 (places25 _ Try.underlying25) rfl (by simp only [Instr.fill, one_cells ho73, one_cells ho74]; rfl)))) (by decide) ?_
       refine DW.ts rfl rfl rfl rfl (OpTo.own1 (k := 2) rfl trivial (defd2 rfl rfl rfl) fun ho75 => (OpTo.own1 (k := 0) rfl trivial (defd2 rfl rfl rfl) fun ho76 => (T.storeBA (k := 1) Try.sizeOf25 rfl rfl rfl (one_cons ho75 (one_cons ho76 one_nil)) rfl rfl))) ?_
       refine DW.nil ?_
       refine WK.nThen ?_
       refine WK.perm [blk b60 25 [v14, v72], rowF (v72) 72 ([] ++ s.Shifts), rowF (v14) 62 ([] ++ s.Values), blk b9 25 [.slice none 0 0, .slice none 0 0], blk b8 97 [.bool (x.Shift), .int .i64 (x.At), .int .i64 (x.Lo), .int .i64 (x.Hi)], blk b7 25 [v1, v3]] ((List.Perm.cons _ (.refl _)).trans (List.perm_middle (l₁ := [rowF (v72) 72 ([] ++ s.Shifts)]) (l₂ := [rowF (v14) 62 ([] ++ s.Values), blk b9 25 [.slice none 0 0, .slice none 0 0], blk b8 97 [.bool (x.Shift), .int .i64 (x.At), .int .i64 (x.Lo), .int .i64 (x.Hi)], blk b7 25 [v1, v3]]) (a := blk b60 25 [v14, v72])).symm) ?_
       exact WK.meet (m70, b60, v14, v72) rfl (.refl _) (.cons rfl (.cons rfl (.cons rfl (.cons rfl .nil)))) ⟨(Mem.le_trans hle13 hle71), hs2, hs4⟩
   ·refine DW.fork (List.cons_ne_nil _ _) ?_ ?_
    ·refine DW.tO rfl rfl rfl (OpTo.taO (T.lit0 (α := Shf) sl23 rfl)) (by decide) (fun m78 Es_ v77 hle79 hR_ => ?_)
     subst hR_
     replace hs2 := hs2.mono hle79
     replace hs4 := hs4.mono hle79
     refine DW.fork (List.cons_ne_nil _ _) ?_ ?_
     ·refine DW.ta rfl rfl rfl rfl (T.appendFl (α := Val) (fun _ _ _ h => h) (k := 1) sl22 rfl rfl hs2 rfl (by simp; omega) (by simp; omega)) (by decide) (fun v80 => ?_)
      refine DW.fork (List.cons_ne_nil _ _) ?_ ?_
      ·refine DW.xp rfl rfl rfl (fun _ => (X.loadB (k := 4) Try.isAgg23 rfl rfl rfl)) (by decide) ?_
       refine DW.fork (List.cons_ne_nil _ _) ?_ ?_
       ·refine DW.ta rfl rfl rfl rfl (T.appendFl (α := Shf) (fun _ _ _ h => h) (k := 0) sl23 rfl rfl hs4 rfl (by simp; omega) (by simp; omega)) (by decide) (fun v81 => ?_)
        refine DW.x (V := Value.agg [v80, v81].toArray) rfl rfl (OpX.own1 (k := 1) rfl trivial (defdB rfl) fun ho82 => (OpX.own1 (k := 0) rfl trivial (defdB rfl) fun ho83 => (X.build Try.zeroValue25 Try.runUnderlying25 (places25 _ Try.underlying25) rfl (by simp only [Instr.fill, one_cells ho82, one_cells ho83]; rfl)))) (by decide) ?_
        refine DW.tn rfl rfl rfl (T.alloc Try.zeroValue25 rfl) (by decide) fun b84 => ?_
        refine DW.ts rfl rfl rfl rfl (OpTo.own1 (k := 2) rfl trivial (defd2 rfl rfl rfl) fun ho85 => (OpTo.own1 (k := 1) rfl trivial (defd2 rfl rfl rfl) fun ho86 => (T.storeBA (k := 0) Try.sizeOf25 rfl rfl rfl (one_cons ho85 (one_cons ho86 one_nil)) rfl rfl))) ?_
        refine DW.nil ?_
        refine WK.nThen ?_
        exact WK.meet (m78, b84, v80, v81) rfl (.refl _) (.cons rfl (.cons rfl (.cons rfl (.cons rfl .nil)))) ⟨(Mem.le_trans hle13 hle79), hs2, hs4⟩
       ·refine DW.tn rfl rfl rfl (T.alloc Try.zeroValue25 rfl) (by decide) fun b87 => ?_
        refine DW.ta rfl rfl rfl rfl (T.appendFl (α := Shf) (fun _ _ _ h => h) (k := 1) sl23 rfl rfl hs4 rfl (by simp; omega) (by simp; omega)) (by decide) (fun v88 => ?_)
        refine DW.x (V := Value.agg [v80, v88].toArray) rfl rfl (OpX.own1 (k := 2) rfl trivial (defdB rfl) fun ho89 => (OpX.own1 (k := 1) rfl trivial (defdB rfl) fun ho90 => (X.build Try.zeroValue25 Try.runUnderlying25 (places25 _ Try.underlying25) rfl (by simp only [Instr.fill, one_cells ho89, one_cells ho90]; rfl)))) (by decide) ?_
        refine DW.ts rfl rfl rfl rfl (OpTo.own1 (k := 2) rfl trivial (defd2 rfl rfl rfl) fun ho91 => (OpTo.own1 (k := 1) rfl trivial (defd2 rfl rfl rfl) fun ho92 => (T.storeBA (k := 0) Try.sizeOf25 rfl rfl rfl (one_cons ho91 (one_cons ho92 one_nil)) rfl rfl))) ?_
        refine DW.nil ?_
        refine WK.nThen ?_
        exact WK.meet (m78, b87, v80, v88) rfl (.refl _) (.cons rfl (.cons rfl (.cons rfl (.cons rfl .nil)))) ⟨(Mem.le_trans hle13 hle79), hs2, hs4⟩
      ·refine DW.tn rfl rfl rfl (T.alloc Try.zeroValue25 rfl) (by decide) fun b93 => ?_
       refine DW.xp rfl rfl rfl (fun _ => (X.loadB (k := 5) Try.isAgg23 rfl rfl rfl)) (by decide) ?_
       refine DW.ta rfl rfl rfl rfl (T.appendFl (α := Shf) (fun _ _ _ h => h) (k := 1) sl23 rfl rfl hs4 rfl (by simp; omega) (by simp; omega)) (by decide) (fun v94 => ?_)
       refine DW.x (V := Value.agg [v80, v94].toArray) rfl rfl (OpX.own1 (k := 2) rfl trivial (defdB rfl) fun ho95 => (OpX.own1 (k := 1) rfl trivial (defdB rfl) fun ho96 => (X.build Try.zeroValue25 Try.runUnderlying25 (places25 _ Try.underlying25) rfl (by simp only [Instr.fill, one_cells ho95, one_cells ho96]; rfl)))) (by decide) ?_
       refine DW.ts rfl rfl rfl rfl (OpTo.own1 (k := 2) rfl trivial (defd2 rfl rfl rfl) fun ho97 => (OpTo.own1 (k := 1) rfl trivial (defd2 rfl rfl rfl) fun ho98 => (T.storeBA (k := 0) Try.sizeOf25 rfl rfl rfl (one_cons ho97 (one_cons ho98 one_nil)) rfl rfl))) ?_
       refine DW.nil ?_
       refine WK.nThen ?_
       exact WK.meet (m78, b93, v80, v94) rfl (.refl _) (.cons rfl (.cons rfl (.cons rfl (.cons rfl .nil)))) ⟨(Mem.le_trans hle13 hle79), hs2, hs4⟩
     ·refine DW.fork (List.cons_ne_nil _ _) ?_ ?_
      ·refine DW.xp rfl rfl rfl (fun _ => (X.loadB (k := 4) Try.isAgg23 rfl rfl rfl)) (by decide) ?_
       refine DW.fork (List.cons_ne_nil _ _) ?_ ?_
       ·refine DW.ta rfl rfl rfl rfl (T.appendFl (α := Val) (fun _ _ _ h => h) (k := 1) sl22 rfl rfl hs2 rfl (by simp; omega) (by simp; omega)) (by decide) (fun v99 => ?_)
        refine DW.fork (List.cons_ne_nil _ _) ?_ ?_
        ·refine DW.ta rfl rfl rfl rfl (T.appendFl (α := Shf) (fun _ _ _ h => h) (k := 0) sl23 rfl rfl hs4 rfl (by simp; omega) (by simp; omega)) (by decide) (fun v100 => ?_)
         refine DW.x (V := Value.agg [v99, v100].toArray) rfl rfl (OpX.own1 (k := 1) rfl trivial (defdB rfl) fun ho101 => (OpX.own1 (k := 0) rfl trivial (defdB rfl) fun ho102 => (X.build Try.zeroValue25 Try.runUnderlying25 (places25 _ Try.underlying25) rfl (by simp only [Instr.fill, one_cells ho101, one_cells ho102]; rfl)))) (by decide) ?_
         refine DW.tn rfl rfl rfl (T.alloc Try.zeroValue25 rfl) (by decide) fun b103 => ?_
         refine DW.ts rfl rfl rfl rfl (OpTo.own1 (k := 2) rfl trivial (defd2 rfl rfl rfl) fun ho104 => (OpTo.own1 (k := 1) rfl trivial (defd2 rfl rfl rfl) fun ho105 => (T.storeBA (k := 0) Try.sizeOf25 rfl rfl rfl (one_cons ho104 (one_cons ho105 one_nil)) rfl rfl))) ?_
         refine DW.nil ?_
         refine WK.nThen ?_
         exact WK.meet (m78, b103, v99, v100) rfl (.refl _) (.cons rfl (.cons rfl (.cons rfl (.cons rfl .nil)))) ⟨(Mem.le_trans hle13 hle79), hs2, hs4⟩
        ·refine DW.tn rfl rfl rfl (T.alloc Try.zeroValue25 rfl) (by decide) fun b106 => ?_
         refine DW.ta rfl rfl rfl rfl (T.appendFl (α := Shf) (fun _ _ _ h => h) (k := 1) sl23 rfl rfl hs4 rfl (by simp; omega) (by simp; omega)) (by decide) (fun v107 => ?_)
         refine DW.x (V := Value.agg [v99, v107].toArray) rfl rfl (OpX.own1 (k := 2) rfl trivial (defdB rfl) fun ho108 => (OpX.own1 (k := 1) rfl trivial (defdB rfl) fun ho109 => (X.build Try.zeroValue25 Try.runUnderlying25 (places25 _ Try.underlying25) rfl (by simp only [Instr.fill, one_cells ho108, one_cells ho109]; rfl)))) (by decide) ?_
         refine DW.ts rfl rfl rfl rfl (OpTo.own1 (k := 2) rfl trivial (defd2 rfl rfl rfl) fun ho110 => (OpTo.own1 (k := 1) rfl trivial (defd2 rfl rfl rfl) fun ho111 => (T.storeBA (k := 0) Try.sizeOf25 rfl rfl rfl (one_cons ho110 (one_cons ho111 one_nil)) rfl rfl))) ?_
         refine DW.nil ?_
         refine WK.nThen ?_
         exact WK.meet (m78, b106, v99, v107) rfl (.refl _) (.cons rfl (.cons rfl (.cons rfl (.cons rfl .nil)))) ⟨(Mem.le_trans hle13 hle79), hs2, hs4⟩
       ·refine DW.tn rfl rfl rfl (T.alloc Try.zeroValue25 rfl) (by decide) fun b112 => ?_
        refine DW.ta rfl rfl rfl rfl (T.appendFl (α := Val) (fun _ _ _ h => h) (k := 2) sl22 rfl rfl hs2 rfl (by simp; omega) (by simp; omega)) (by decide) (fun v113 => ?_)
        refine DW.ta rfl rfl rfl rfl (T.appendFl (α := Shf) (fun _ _ _ h => h) (k := 1) sl23 rfl rfl hs4 rfl (by simp; omega) (by simp; omega)) (by decide) (fun v114 => ?_)
        refine DW.x (V := Value.agg [v113, v114].toArray) rfl rfl (OpX.own1 (k := 2) rfl trivial (defdB rfl) fun ho115 => (OpX.own1 (k := 1) rfl trivial (defdB rfl) fun ho116 => (X.build Try.zeroValue25 Try.runUnderlying25 (places25 _ Try.underlying25) rfl (by simp only [Instr.fill, one_cells ho115, one_cells ho116]; rfl)))) (by decide) ?_
        refine DW.ts rfl rfl rfl rfl (OpTo.own1 (k := 2) rfl trivial (defd2 rfl rfl rfl) fun ho117 => (OpTo.own1 (k := 1) rfl trivial (defd2 rfl rfl rfl) fun ho118 => (T.storeBA (k := 0) Try.sizeOf25 rfl rfl rfl (one_cons ho117 (one_cons ho118 one_nil)) rfl rfl))) ?_
        refine DW.nil ?_
        refine WK.nThen ?_
        exact WK.meet (m78, b112, v113, v114) rfl (.refl _) (.cons rfl (.cons rfl (.cons rfl (.cons rfl .nil)))) ⟨(Mem.le_trans hle13 hle79), hs2, hs4⟩
      ·refine DW.tn rfl rfl rfl (T.alloc Try.zeroValue25 rfl) (by decide) fun b119 => ?_
       refine DW.fork (List.cons_ne_nil _ _) ?_ ?_
       ·refine DW.ta rfl rfl rfl rfl (T.appendFl (α := Val) (fun _ _ _ h => h) (k := 2) sl22 rfl rfl hs2 rfl (by simp; omega) (by simp; omega)) (by decide) (fun v120 => ?_)
        refine DW.xp rfl rfl rfl (fun _ => (X.loadB (k := 5) Try.isAgg23 rfl rfl rfl)) (by decide) ?_
        refine DW.ta rfl rfl rfl rfl (T.appendFl (α := Shf) (fun _ _ _ h => h) (k := 1) sl23 rfl rfl hs4 rfl (by simp; omega) (by simp; omega)) (by decide) (fun v121 => ?_)
        refine DW.x (V := Value.agg [v120, v121].toArray) rfl rfl (OpX.own1 (k := 2) rfl trivial (defdB rfl) fun ho122 => (OpX.own1 (k := 1) rfl trivial (defdB rfl) fun ho123 => (X.build Try.zeroValue25 Try.runUnderlying25 (places25 _ Try.underlying25) rfl (by simp only [Instr.fill, one_cells ho122, one_cells ho123]; rfl)))) (by decide) ?_
        refine DW.ts rfl rfl rfl rfl (OpTo.own1 (k := 2) rfl trivial (defd2 rfl rfl rfl) fun ho124 => (OpTo.own1 (k := 1) rfl trivial (defd2 rfl rfl rfl) fun ho125 => (T.storeBA (k := 0) Try.sizeOf25 rfl rfl rfl (one_cons ho124 (one_cons ho125 one_nil)) rfl rfl))) ?_
        refine DW.nil ?_
        refine WK.nThen ?_
        exact WK.meet (m78, b119, v120, v121) rfl (.refl _) (.cons rfl (.cons rfl (.cons rfl (.cons rfl .nil)))) ⟨(Mem.le_trans hle13 hle79), hs2, hs4⟩
       ·refine DW.xp rfl rfl rfl (fun _ => (X.loadB (k := 5) Try.isAgg23 rfl rfl rfl)) (by decide) ?_
        refine DW.ta rfl rfl rfl rfl (T.appendFl (α := Val) (fun _ _ _ h => h) (k := 2) sl22 rfl rfl hs2 rfl (by simp; omega) (by simp; omega)) (by decide) (fun v126 => ?_)
        refine DW.ta rfl rfl rfl rfl (T.appendFl (α := Shf) (fun _ _ _ h => h) (k := 1) sl23 rfl rfl hs4 rfl (by simp; omega) (by simp; omega)) (by decide) (fun v127 => ?_)
        refine DW.x (V := Value.agg [v126, v127].toArray) rfl rfl (OpX.own1 (k := 2) rfl trivial (defdB rfl) fun ho128 => (OpX.own1 (k := 1) rfl trivial (defdB rfl) fun ho129 => (X.build Try.zeroValue25 Try.runUnderlying25 (places25 _ Try.underlying25) rfl (by simp only [Instr.fill, one_cells ho128, one_cells ho129]; rfl)))) (by decide) ?_
        refine DW.ts rfl rfl rfl rfl (OpTo.own1 (k := 2) rfl trivial (defd2 rfl rfl rfl) fun ho130 => (OpTo.own1 (k := 1) rfl trivial (defd2 rfl rfl rfl) fun ho131 => (T.storeBA (k := 0) Try.sizeOf25 rfl rfl rfl (one_cons ho130 (one_cons ho131 one_nil)) rfl rfl))) ?_
        refine DW.nil ?_
        refine WK.nThen ?_
        exact WK.meet (m78, b119, v126, v127) rfl (.refl _) (.cons rfl (.cons rfl (.cons rfl (.cons rfl .nil)))) ⟨(Mem.le_trans hle13 hle79), hs2, hs4⟩
    ·refine DW.fork (List.cons_ne_nil _ _) ?_ ?_
     ·refine DW.xp rfl rfl rfl (fun _ => (X.loadB (k := 3) Try.isAgg23 rfl rfl rfl)) (by decide) ?_
      refine DW.fork (List.cons_ne_nil _ _) ?_ ?_
      ·refine DW.ta rfl rfl rfl rfl (T.appendFl (α := Val) (fun _ _ _ h => h) (k := 0) sl22 rfl rfl hs2 rfl (by simp; omega) (by simp; omega)) (by decide) (fun v132 => ?_)
       refine DW.fork (List.cons_ne_nil _ _) ?_ ?_
       ·refine DW.tO rfl rfl rfl (OpTo.taO (T.lit0 (α := Shf) sl23 rfl)) (by decide) (fun m134 Es_ v133 hle135 hR_ => ?_)
        subst hR_
        replace hs2 := hs2.mono hle135
        replace hs4 := hs4.mono hle135
        refine DW.fork (List.cons_ne_nil _ _) ?_ ?_
        ·refine DW.ta rfl rfl rfl rfl (T.appendFl (α := Shf) (fun _ _ _ h => h) (k := 0) sl23 rfl rfl hs4 rfl (by simp; omega) (by simp; omega)) (by decide) (fun v136 => ?_)
         refine DW.x (V := Value.agg [v132, v136].toArray) rfl rfl (OpX.own1 (k := 1) rfl trivial (defdB rfl) fun ho137 => (OpX.own1 (k := 0) rfl trivial (defdB rfl) fun ho138 => (X.build Try.zeroValue25 Try.runUnderlying25 (places25 _ Try.underlying25) rfl (by simp only [Instr.fill, one_cells ho137, one_cells ho138]; rfl)))) (by decide) ?_
         refine DW.tn rfl rfl rfl (T.alloc Try.zeroValue25 rfl) (by decide) fun b139 => ?_
         refine DW.ts rfl rfl rfl rfl (OpTo.own1 (k := 2) rfl trivial (defd2 rfl rfl rfl) fun ho140 => (OpTo.own1 (k := 1) rfl trivial (defd2 rfl rfl rfl) fun ho141 => (T.storeBA (k := 0) Try.sizeOf25 rfl rfl rfl (one_cons ho140 (one_cons ho141 one_nil)) rfl rfl))) ?_
         refine DW.nil ?_
         refine WK.nThen ?_
         exact WK.meet (m134, b139, v132, v136) rfl (.refl _) (.cons rfl (.cons rfl (.cons rfl (.cons rfl .nil)))) ⟨(Mem.le_trans hle13 hle135), hs2, hs4⟩
        ·refine DW.tn rfl rfl rfl (T.alloc Try.zeroValue25 rfl) (by decide) fun b142 => ?_
         refine DW.ta rfl rfl rfl rfl (T.appendFl (α := Shf) (fun _ _ _ h => h) (k := 1) sl23 rfl rfl hs4 rfl (by simp; omega) (by simp; omega)) (by decide) (fun v143 => ?_)
         refine DW.x (V := Value.agg [v132, v143].toArray) rfl rfl (OpX.own1 (k := 2) rfl trivial (defdB rfl) fun ho144 => (OpX.own1 (k := 1) rfl trivial (defdB rfl) fun ho145 => (X.build Try.zeroValue25 Try.runUnderlying25 (places25 _ Try.underlying25) rfl (by simp only [Instr.fill, one_cells ho144, one_cells ho145]; rfl)))) (by decide) ?_
         refine DW.ts rfl rfl rfl rfl (OpTo.own1 (k := 2) rfl trivial (defd2 rfl rfl rfl) fun ho146 => (OpTo.own1 (k := 1) rfl trivial (defd2 rfl rfl rfl) fun ho147 => (T.storeBA (k := 0) Try.sizeOf25 rfl rfl rfl (one_cons ho146 (one_cons ho147 one_nil)) rfl rfl))) ?_
         refine DW.nil ?_
         refine WK.nThen ?_
         exact WK.meet (m134, b142, v132, v143) rfl (.refl _) (.cons rfl (.cons rfl (.cons rfl (.cons rfl .nil)))) ⟨(Mem.le_trans hle13 hle135), hs2, hs4⟩
       ·refine DW.tn rfl rfl rfl (T.alloc Try.zeroValue25 rfl) (by decide) fun b148 => ?_
        refine DW.tO rfl rfl rfl (OpTo.taO (T.lit0 (α := Shf) sl23 rfl)) (by decide) (fun m150 Es_ v149 hle151 hR_ => ?_)
        subst hR_
        replace hs2 := hs2.mono hle151
        replace hs4 := hs4.mono hle151
        refine DW.ta rfl rfl rfl rfl (T.appendFl (α := Shf) (fun _ _ _ h => h) (k := 0) sl23 rfl rfl hs4 rfl (by simp; omega) (by simp; omega)) (by decide) (fun v152 => ?_)
        refine DW.x (V := Value.agg [v132, v152].toArray) rfl rfl (OpX.own1 (k := 2) rfl trivial (defdB rfl) fun ho153 => (OpX.own1 (k := 0) rfl trivial (defdB rfl) fun ho154 => (X.build Try.zeroValue25 Try.runUnderlying25 (places25 _ Try.underlying25) rfl (by simp only [Instr.fill, one_cells ho153, one_cells ho154]; rfl)))) (by decide) ?_
        refine DW.ts rfl rfl rfl rfl (OpTo.own1 (k := 2) rfl trivial (defd2 rfl rfl rfl) fun ho155 => (OpTo.own1 (k := 0) rfl trivial (defd2 rfl rfl rfl) fun ho156 => (T.storeBA (k := 1) Try.sizeOf25 rfl rfl rfl (one_cons ho155 (one_cons ho156 one_nil)) rfl rfl))) ?_
        refine DW.nil ?_
        refine WK.nThen ?_
        refine WK.perm [blk b148 25 [v132, v152], rowF (v152) 72 ([] ++ s.Shifts), rowF (v132) 62 ([] ++ s.Values), blk b9 25 [.slice none 0 0, .slice none 0 0], blk b8 97 [.bool (x.Shift), .int .i64 (x.At), .int .i64 (x.Lo), .int .i64 (x.Hi)], blk b7 25 [v1, v3]] ((List.Perm.cons _ (.refl _)).trans (List.perm_middle (l₁ := [rowF (v152) 72 ([] ++ s.Shifts)]) (l₂ := [rowF (v132) 62 ([] ++ s.Values), blk b9 25 [.slice none 0 0, .slice none 0 0], blk b8 97 [.bool (x.Shift), .int .i64 (x.At), .int .i64 (x.Lo), .int .i64 (x.Hi)], blk b7 25 [v1, v3]]) (a := blk b148 25 [v132, v152])).symm) ?_
        exact WK.meet (m150, b148, v132, v152) rfl (.refl _) (.cons rfl (.cons rfl (.cons rfl (.cons rfl .nil)))) ⟨(Mem.le_trans hle13 hle151), hs2, hs4⟩
      ·refine DW.fork (List.cons_ne_nil _ _) ?_ ?_
       ·refine DW.tO rfl rfl rfl (OpTo.taO (T.lit0 (α := Shf) sl23 rfl)) (by decide) (fun m158 Es_ v157 hle159 hR_ => ?_)
        subst hR_
        replace hs2 := hs2.mono hle159
        replace hs4 := hs4.mono hle159
        refine DW.fork (List.cons_ne_nil _ _) ?_ ?_
        ·refine DW.ta rfl rfl rfl rfl (T.appendFl (α := Val) (fun _ _ _ h => h) (k := 1) sl22 rfl rfl hs2 rfl (by simp; omega) (by simp; omega)) (by decide) (fun v160 => ?_)
         refine DW.fork (List.cons_ne_nil _ _) ?_ ?_
         ·refine DW.ta rfl rfl rfl rfl (T.appendFl (α := Shf) (fun _ _ _ h => h) (k := 0) sl23 rfl rfl hs4 rfl (by simp; omega) (by simp; omega)) (by decide) (fun v161 => ?_)
          refine DW.x (V := Value.agg [v160, v161].toArray) rfl rfl (OpX.own1 (k := 1) rfl trivial (defdB rfl) fun ho162 => (OpX.own1 (k := 0) rfl trivial (defdB rfl) fun ho163 => (X.build Try.zeroValue25 Try.runUnderlying25 (places25 _ Try.underlying25) rfl (by simp only [Instr.fill, one_cells ho162, one_cells ho163]; rfl)))) (by decide) ?_
          refine DW.tn rfl rfl rfl (T.alloc Try.zeroValue25 rfl) (by decide) fun b164 => ?_
          refine DW.ts rfl rfl rfl rfl (OpTo.own1 (k := 2) rfl trivial (defd2 rfl rfl rfl) fun ho165 => (OpTo.own1 (k := 1) rfl trivial (defd2 rfl rfl rfl) fun ho166 => (T.storeBA (k := 0) Try.sizeOf25 rfl rfl rfl (one_cons ho165 (one_cons ho166 one_nil)) rfl rfl))) ?_
          refine DW.nil ?_
          refine WK.nThen ?_
          exact WK.meet (m158, b164, v160, v161) rfl (.refl _) (.cons rfl (.cons rfl (.cons rfl (.cons rfl .nil)))) ⟨(Mem.le_trans hle13 hle159), hs2, hs4⟩
         ·refine DW.tn rfl rfl rfl (T.alloc Try.zeroValue25 rfl) (by decide) fun b167 => ?_
          refine DW.ta rfl rfl rfl rfl (T.appendFl (α := Shf) (fun _ _ _ h => h) (k := 1) sl23 rfl rfl hs4 rfl (by simp; omega) (by simp; omega)) (by decide) (fun v168 => ?_)
          refine DW.x (V := Value.agg [v160, v168].toArray) rfl rfl (OpX.own1 (k := 2) rfl trivial (defdB rfl) fun ho169 => (OpX.own1 (k := 1) rfl trivial (defdB rfl) fun ho170 => (X.build Try.zeroValue25 Try.runUnderlying25 (places25 _ Try.underlying25) rfl (by simp only [Instr.fill, one_cells ho169, one_cells ho170]; rfl)))) (by decide) ?_
          refine DW.ts rfl rfl rfl rfl (OpTo.own1 (k := 2) rfl trivial (defd2 rfl rfl rfl) fun ho171 => (OpTo.own1 (k := 1) rfl trivial (defd2 rfl rfl rfl) fun ho172 => (T.storeBA (k := 0) Try.sizeOf25 rfl rfl rfl (one_cons ho171 (one_cons ho172 one_nil)) rfl rfl))) ?_
          refine DW.nil ?_
          refine WK.nThen ?_
          exact WK.meet (m158, b167, v160, v168) rfl (.refl _) (.cons rfl (.cons rfl (.cons rfl (.cons rfl .nil)))) ⟨(Mem.le_trans hle13 hle159), hs2, hs4⟩
        ·refine DW.tn rfl rfl rfl (T.alloc Try.zeroValue25 rfl) (by decide) fun b173 => ?_
         refine DW.ta rfl rfl rfl rfl (T.appendFl (α := Val) (fun _ _ _ h => h) (k := 2) sl22 rfl rfl hs2 rfl (by simp; omega) (by simp; omega)) (by decide) (fun v174 => ?_)
         refine DW.ta rfl rfl rfl rfl (T.appendFl (α := Shf) (fun _ _ _ h => h) (k := 1) sl23 rfl rfl hs4 rfl (by simp; omega) (by simp; omega)) (by decide) (fun v175 => ?_)
         refine DW.x (V := Value.agg [v174, v175].toArray) rfl rfl (OpX.own1 (k := 2) rfl trivial (defdB rfl) fun ho176 => (OpX.own1 (k := 1) rfl trivial (defdB rfl) fun ho177 => (X.build Try.zeroValue25 Try.runUnderlying25 (places25 _ Try.underlying25) rfl (by simp only [Instr.fill, one_cells ho176, one_cells ho177]; rfl)))) (by decide) ?_
         refine DW.ts rfl rfl rfl rfl (OpTo.own1 (k := 2) rfl trivial (defd2 rfl rfl rfl) fun ho178 => (OpTo.own1 (k := 1) rfl trivial (defd2 rfl rfl rfl) fun ho179 => (T.storeBA (k := 0) Try.sizeOf25 rfl rfl rfl (one_cons ho178 (one_cons ho179 one_nil)) rfl rfl))) ?_
         refine DW.nil ?_
         refine WK.nThen ?_
         exact WK.meet (m158, b173, v174, v175) rfl (.refl _) (.cons rfl (.cons rfl (.cons rfl (.cons rfl .nil)))) ⟨(Mem.le_trans hle13 hle159), hs2, hs4⟩
       ·refine DW.tn rfl rfl rfl (T.alloc Try.zeroValue25 rfl) (by decide) fun b180 => ?_
        refine DW.fork (List.cons_ne_nil _ _) ?_ ?_
        ·refine DW.ta rfl rfl rfl rfl (T.appendFl (α := Val) (fun _ _ _ h => h) (k := 1) sl22 rfl rfl hs2 rfl (by simp; omega) (by simp; omega)) (by decide) (fun v181 => ?_)
         refine DW.tO rfl rfl rfl (OpTo.taO (T.lit0 (α := Shf) sl23 rfl)) (by decide) (fun m183 Es_ v182 hle184 hR_ => ?_)
         subst hR_
         replace hs2 := hs2.mono hle184
         replace hs4 := hs4.mono hle184
         refine DW.ta rfl rfl rfl rfl (T.appendFl (α := Shf) (fun _ _ _ h => h) (k := 0) sl23 rfl rfl hs4 rfl (by simp; omega) (by simp; omega)) (by decide) (fun v185 => ?_)
         refine DW.x (V := Value.agg [v181, v185].toArray) rfl rfl (OpX.own1 (k := 2) rfl trivial (defdB rfl) fun ho186 => (OpX.own1 (k := 0) rfl trivial (defdB rfl) fun ho187 => (X.build Try.zeroValue25 Try.runUnderlying25 (places25 _ Try.underlying25) rfl (by simp only [Instr.fill, one_cells ho186, one_cells ho187]; rfl)))) (by decide) ?_
         refine DW.ts rfl rfl rfl rfl (OpTo.own1 (k := 2) rfl trivial (defd2 rfl rfl rfl) fun ho188 => (OpTo.own1 (k := 0) rfl trivial (defd2 rfl rfl rfl) fun ho189 => (T.storeBA (k := 1) Try.sizeOf25 rfl rfl rfl (one_cons ho188 (one_cons ho189 one_nil)) rfl rfl))) ?_
         refine DW.nil ?_
         refine WK.nThen ?_
         refine WK.perm [blk b180 25 [v181, v185], rowF (v185) 72 ([] ++ s.Shifts), rowF (v181) 62 ([] ++ s.Values), blk b9 25 [.slice none 0 0, .slice none 0 0], blk b8 97 [.bool (x.Shift), .int .i64 (x.At), .int .i64 (x.Lo), .int .i64 (x.Hi)], blk b7 25 [v1, v3]] ((List.Perm.cons _ (.refl _)).trans (List.perm_middle (l₁ := [rowF (v185) 72 ([] ++ s.Shifts)]) (l₂ := [rowF (v181) 62 ([] ++ s.Values), blk b9 25 [.slice none 0 0, .slice none 0 0], blk b8 97 [.bool (x.Shift), .int .i64 (x.At), .int .i64 (x.Lo), .int .i64 (x.Hi)], blk b7 25 [v1, v3]]) (a := blk b180 25 [v181, v185])).symm) ?_
         exact WK.meet (m183, b180, v181, v185) rfl (.refl _) (.cons rfl (.cons rfl (.cons rfl (.cons rfl .nil)))) ⟨(Mem.le_trans hle13 hle184), hs2, hs4⟩
        ·refine DW.tO rfl rfl rfl (OpTo.taO (T.lit0 (α := Shf) sl23 rfl)) (by decide) (fun m191 Es_ v190 hle192 hR_ => ?_)
         subst hR_
         replace hs2 := hs2.mono hle192
         replace hs4 := hs4.mono hle192
         refine DW.ta rfl rfl rfl rfl (T.appendFl (α := Val) (fun _ _ _ h => h) (k := 2) sl22 rfl rfl hs2 rfl (by simp; omega) (by simp; omega)) (by decide) (fun v193 => ?_)
         refine DW.ta rfl rfl rfl rfl (T.appendFl (α := Shf) (fun _ _ _ h => h) (k := 0) sl23 rfl rfl hs4 rfl (by simp; omega) (by simp; omega)) (by decide) (fun v194 => ?_)
         refine DW.x (V := Value.agg [v193, v194].toArray) rfl rfl (OpX.own1 (k := 2) rfl trivial (defdB rfl) fun ho195 => (OpX.own1 (k := 0) rfl trivial (defdB rfl) fun ho196 => (X.build Try.zeroValue25 Try.runUnderlying25 (places25 _ Try.underlying25) rfl (by simp only [Instr.fill, one_cells ho195, one_cells ho196]; rfl)))) (by decide) ?_
         refine DW.ts rfl rfl rfl rfl (OpTo.own1 (k := 2) rfl trivial (defd2 rfl rfl rfl) fun ho197 => (OpTo.own1 (k := 0) rfl trivial (defd2 rfl rfl rfl) fun ho198 => (T.storeBA (k := 1) Try.sizeOf25 rfl rfl rfl (one_cons ho197 (one_cons ho198 one_nil)) rfl rfl))) ?_
         refine DW.nil ?_
         refine WK.nThen ?_
         refine WK.perm [blk b180 25 [v193, v194], rowF (v194) 72 ([] ++ s.Shifts), rowF (v193) 62 ([] ++ s.Values), blk b9 25 [.slice none 0 0, .slice none 0 0], blk b8 97 [.bool (x.Shift), .int .i64 (x.At), .int .i64 (x.Lo), .int .i64 (x.Hi)], blk b7 25 [v1, v3]] ((List.Perm.cons _ (.refl _)).trans (List.perm_middle (l₁ := [rowF (v194) 72 ([] ++ s.Shifts)]) (l₂ := [rowF (v193) 62 ([] ++ s.Values), blk b9 25 [.slice none 0 0, .slice none 0 0], blk b8 97 [.bool (x.Shift), .int .i64 (x.At), .int .i64 (x.Lo), .int .i64 (x.Hi)], blk b7 25 [v1, v3]]) (a := blk b180 25 [v193, v194])).symm) ?_
         exact WK.meet (m191, b180, v193, v194) rfl (.refl _) (.cons rfl (.cons rfl (.cons rfl (.cons rfl .nil)))) ⟨(Mem.le_trans hle13 hle192), hs2, hs4⟩
     ·refine DW.tn rfl rfl rfl (T.alloc Try.zeroValue25 rfl) (by decide) fun b199 => ?_
      refine DW.fork (List.cons_ne_nil _ _) ?_ ?_
      ·refine DW.ta rfl rfl rfl rfl (T.appendFl (α := Val) (fun _ _ _ h => h) (k := 1) sl22 rfl rfl hs2 rfl (by simp; omega) (by simp; omega)) (by decide) (fun v200 => ?_)
       refine DW.fork (List.cons_ne_nil _ _) ?_ ?_
       ·refine DW.tO rfl rfl rfl (OpTo.taO (T.lit0 (α := Shf) sl23 rfl)) (by decide) (fun m202 Es_ v201 hle203 hR_ => ?_)
        subst hR_
        replace hs2 := hs2.mono hle203
        replace hs4 := hs4.mono hle203
        refine DW.xp rfl rfl rfl (fun _ => (X.loadB (k := 5) Try.isAgg23 rfl rfl rfl)) (by decide) ?_
        refine DW.ta rfl rfl rfl rfl (T.appendFl (α := Shf) (fun _ _ _ h => h) (k := 0) sl23 rfl rfl hs4 rfl (by simp; omega) (by simp; omega)) (by decide) (fun v204 => ?_)
        refine DW.x (V := Value.agg [v200, v204].toArray) rfl rfl (OpX.own1 (k := 2) rfl trivial (defdB rfl) fun ho205 => (OpX.own1 (k := 0) rfl trivial (defdB rfl) fun ho206 => (X.build Try.zeroValue25 Try.runUnderlying25 (places25 _ Try.underlying25) rfl (by simp only [Instr.fill, one_cells ho205, one_cells ho206]; rfl)))) (by decide) ?_
        refine DW.ts rfl rfl rfl rfl (OpTo.own1 (k := 2) rfl trivial (defd2 rfl rfl rfl) fun ho207 => (OpTo.own1 (k := 0) rfl trivial (defd2 rfl rfl rfl) fun ho208 => (T.storeBA (k := 1) Try.sizeOf25 rfl rfl rfl (one_cons ho207 (one_cons ho208 one_nil)) rfl rfl))) ?_
        refine DW.nil ?_
        refine WK.nThen ?_
        refine WK.perm [blk b199 25 [v200, v204], rowF (v204) 72 ([] ++ s.Shifts), rowF (v200) 62 ([] ++ s.Values), blk b9 25 [.slice none 0 0, .slice none 0 0], blk b8 97 [.bool (x.Shift), .int .i64 (x.At), .int .i64 (x.Lo), .int .i64 (x.Hi)], blk b7 25 [v1, v3]] ((List.Perm.cons _ (.refl _)).trans (List.perm_middle (l₁ := [rowF (v204) 72 ([] ++ s.Shifts)]) (l₂ := [rowF (v200) 62 ([] ++ s.Values), blk b9 25 [.slice none 0 0, .slice none 0 0], blk b8 97 [.bool (x.Shift), .int .i64 (x.At), .int .i64 (x.Lo), .int .i64 (x.Hi)], blk b7 25 [v1, v3]]) (a := blk b199 25 [v200, v204])).symm) ?_
        exact WK.meet (m202, b199, v200, v204) rfl (.refl _) (.cons rfl (.cons rfl (.cons rfl (.cons rfl .nil)))) ⟨(Mem.le_trans hle13 hle203), hs2, hs4⟩
       ·refine DW.xp rfl rfl rfl (fun _ => (X.loadB (k := 4) Try.isAgg23 rfl rfl rfl)) (by decide) ?_
        refine DW.tO rfl rfl rfl (OpTo.taO (T.lit0 (α := Shf) sl23 rfl)) (by decide) (fun m210 Es_ v209 hle211 hR_ => ?_)
        subst hR_
        replace hs2 := hs2.mono hle211
        replace hs4 := hs4.mono hle211
        refine DW.ta rfl rfl rfl rfl (T.appendFl (α := Shf) (fun _ _ _ h => h) (k := 0) sl23 rfl rfl hs4 rfl (by simp; omega) (by simp; omega)) (by decide) (fun v212 => ?_)
        refine DW.x (V := Value.agg [v200, v212].toArray) rfl rfl (OpX.own1 (k := 2) rfl trivial (defdB rfl) fun ho213 => (OpX.own1 (k := 0) rfl trivial (defdB rfl) fun ho214 => (X.build Try.zeroValue25 Try.runUnderlying25 (places25 _ Try.underlying25) rfl (by simp only [Instr.fill, one_cells ho213, one_cells ho214]; rfl)))) (by decide) ?_
        refine DW.ts rfl rfl rfl rfl (OpTo.own1 (k := 2) rfl trivial (defd2 rfl rfl rfl) fun ho215 => (OpTo.own1 (k := 0) rfl trivial (defd2 rfl rfl rfl) fun ho216 => (T.storeBA (k := 1) Try.sizeOf25 rfl rfl rfl (one_cons ho215 (one_cons ho216 one_nil)) rfl rfl))) ?_
        refine DW.nil ?_
        refine WK.nThen ?_
        refine WK.perm [blk b199 25 [v200, v212], rowF (v212) 72 ([] ++ s.Shifts), rowF (v200) 62 ([] ++ s.Values), blk b9 25 [.slice none 0 0, .slice none 0 0], blk b8 97 [.bool (x.Shift), .int .i64 (x.At), .int .i64 (x.Lo), .int .i64 (x.Hi)], blk b7 25 [v1, v3]] ((List.Perm.cons _ (.refl _)).trans (List.perm_middle (l₁ := [rowF (v212) 72 ([] ++ s.Shifts)]) (l₂ := [rowF (v200) 62 ([] ++ s.Values), blk b9 25 [.slice none 0 0, .slice none 0 0], blk b8 97 [.bool (x.Shift), .int .i64 (x.At), .int .i64 (x.Lo), .int .i64 (x.Hi)], blk b7 25 [v1, v3]]) (a := blk b199 25 [v200, v212])).symm) ?_
        exact WK.meet (m210, b199, v200, v212) rfl (.refl _) (.cons rfl (.cons rfl (.cons rfl (.cons rfl .nil)))) ⟨(Mem.le_trans hle13 hle211), hs2, hs4⟩
      ·refine DW.fork (List.cons_ne_nil _ _) ?_ ?_
       ·refine DW.tO rfl rfl rfl (OpTo.taO (T.lit0 (α := Shf) sl23 rfl)) (by decide) (fun m218 Es_ v217 hle219 hR_ => ?_)
        subst hR_
        replace hs2 := hs2.mono hle219
        replace hs4 := hs4.mono hle219
        refine DW.fork (List.cons_ne_nil _ _) ?_ ?_
        ·refine DW.ta rfl rfl rfl rfl (T.appendFl (α := Val) (fun _ _ _ h => h) (k := 2) sl22 rfl rfl hs2 rfl (by simp; omega) (by simp; omega)) (by decide) (fun v220 => ?_)
         refine DW.xp rfl rfl rfl (fun _ => (X.loadB (k := 5) Try.isAgg23 rfl rfl rfl)) (by decide) ?_
         refine DW.ta rfl rfl rfl rfl (T.appendFl (α := Shf) (fun _ _ _ h => h) (k := 0) sl23 rfl rfl hs4 rfl (by simp; omega) (by simp; omega)) (by decide) (fun v221 => ?_)
         refine DW.x (V := Value.agg [v220, v221].toArray) rfl rfl (OpX.own1 (k := 2) rfl trivial (defdB rfl) fun ho222 => (OpX.own1 (k := 0) rfl trivial (defdB rfl) fun ho223 => (X.build Try.zeroValue25 Try.runUnderlying25 (places25 _ Try.underlying25) rfl (by simp only [Instr.fill, one_cells ho222, one_cells ho223]; rfl)))) (by decide) ?_
         refine DW.ts rfl rfl rfl rfl (OpTo.own1 (k := 2) rfl trivial (defd2 rfl rfl rfl) fun ho224 => (OpTo.own1 (k := 0) rfl trivial (defd2 rfl rfl rfl) fun ho225 => (T.storeBA (k := 1) Try.sizeOf25 rfl rfl rfl (one_cons ho224 (one_cons ho225 one_nil)) rfl rfl))) ?_
         refine DW.nil ?_
         refine WK.nThen ?_
         refine WK.perm [blk b199 25 [v220, v221], rowF (v221) 72 ([] ++ s.Shifts), rowF (v220) 62 ([] ++ s.Values), blk b9 25 [.slice none 0 0, .slice none 0 0], blk b8 97 [.bool (x.Shift), .int .i64 (x.At), .int .i64 (x.Lo), .int .i64 (x.Hi)], blk b7 25 [v1, v3]] ((List.Perm.cons _ (.refl _)).trans (List.perm_middle (l₁ := [rowF (v221) 72 ([] ++ s.Shifts)]) (l₂ := [rowF (v220) 62 ([] ++ s.Values), blk b9 25 [.slice none 0 0, .slice none 0 0], blk b8 97 [.bool (x.Shift), .int .i64 (x.At), .int .i64 (x.Lo), .int .i64 (x.Hi)], blk b7 25 [v1, v3]]) (a := blk b199 25 [v220, v221])).symm) ?_
         exact WK.meet (m218, b199, v220, v221) rfl (.refl _) (.cons rfl (.cons rfl (.cons rfl (.cons rfl .nil)))) ⟨(Mem.le_trans hle13 hle219), hs2, hs4⟩
        ·refine DW.xp rfl rfl rfl (fun _ => (X.loadB (k := 5) Try.isAgg23 rfl rfl rfl)) (by decide) ?_
         refine DW.ta rfl rfl rfl rfl (T.appendFl (α := Val) (fun _ _ _ h => h) (k := 2) sl22 rfl rfl hs2 rfl (by simp; omega) (by simp; omega)) (by decide) (fun v226 => ?_)
         refine DW.ta rfl rfl rfl rfl (T.appendFl (α := Shf) (fun _ _ _ h => h) (k := 0) sl23 rfl rfl hs4 rfl (by simp; omega) (by simp; omega)) (by decide) (fun v227 => ?_)
         refine DW.x (V := Value.agg [v226, v227].toArray) rfl rfl (OpX.own1 (k := 2) rfl trivial (defdB rfl) fun ho228 => (OpX.own1 (k := 0) rfl trivial (defdB rfl) fun ho229 => (X.build Try.zeroValue25 Try.runUnderlying25 (places25 _ Try.underlying25) rfl (by simp only [Instr.fill, one_cells ho228, one_cells ho229]; rfl)))) (by decide) ?_
         refine DW.ts rfl rfl rfl rfl (OpTo.own1 (k := 2) rfl trivial (defd2 rfl rfl rfl) fun ho230 => (OpTo.own1 (k := 0) rfl trivial (defd2 rfl rfl rfl) fun ho231 => (T.storeBA (k := 1) Try.sizeOf25 rfl rfl rfl (one_cons ho230 (one_cons ho231 one_nil)) rfl rfl))) ?_
         refine DW.nil ?_
         refine WK.nThen ?_
         refine WK.perm [blk b199 25 [v226, v227], rowF (v227) 72 ([] ++ s.Shifts), rowF (v226) 62 ([] ++ s.Values), blk b9 25 [.slice none 0 0, .slice none 0 0], blk b8 97 [.bool (x.Shift), .int .i64 (x.At), .int .i64 (x.Lo), .int .i64 (x.Hi)], blk b7 25 [v1, v3]] ((List.Perm.cons _ (.refl _)).trans (List.perm_middle (l₁ := [rowF (v227) 72 ([] ++ s.Shifts)]) (l₂ := [rowF (v226) 62 ([] ++ s.Values), blk b9 25 [.slice none 0 0, .slice none 0 0], blk b8 97 [.bool (x.Shift), .int .i64 (x.At), .int .i64 (x.Lo), .int .i64 (x.Hi)], blk b7 25 [v1, v3]]) (a := blk b199 25 [v226, v227])).symm) ?_
         exact WK.meet (m218, b199, v226, v227) rfl (.refl _) (.cons rfl (.cons rfl (.cons rfl (.cons rfl .nil)))) ⟨(Mem.le_trans hle13 hle219), hs2, hs4⟩
       ·refine DW.xp rfl rfl rfl (fun _ => (X.loadB (k := 4) Try.isAgg23 rfl rfl rfl)) (by decide) ?_
        refine DW.fork (List.cons_ne_nil _ _) ?_ ?_
        ·refine DW.ta rfl rfl rfl rfl (T.appendFl (α := Val) (fun _ _ _ h => h) (k := 1) sl22 rfl rfl hs2 rfl (by simp; omega) (by simp; omega)) (by decide) (fun v232 => ?_)
         refine DW.tO rfl rfl rfl (OpTo.taO (T.lit0 (α := Shf) sl23 rfl)) (by decide) (fun m234 Es_ v233 hle235 hR_ => ?_)
         subst hR_
         replace hs2 := hs2.mono hle235
         replace hs4 := hs4.mono hle235
         refine DW.ta rfl rfl rfl rfl (T.appendFl (α := Shf) (fun _ _ _ h => h) (k := 0) sl23 rfl rfl hs4 rfl (by simp; omega) (by simp; omega)) (by decide) (fun v236 => ?_)
         refine DW.x (V := Value.agg [v232, v236].toArray) rfl rfl (OpX.own1 (k := 2) rfl trivial (defdB rfl) fun ho237 => (OpX.own1 (k := 0) rfl trivial (defdB rfl) fun ho238 => (X.build Try.zeroValue25 Try.runUnderlying25 (places25 _ Try.underlying25) rfl (by simp only [Instr.fill, one_cells ho237, one_cells ho238]; rfl)))) (by decide) ?_
         refine DW.ts rfl rfl rfl rfl (OpTo.own1 (k := 2) rfl trivial (defd2 rfl rfl rfl) fun ho239 => (OpTo.own1 (k := 0) rfl trivial (defd2 rfl rfl rfl) fun ho240 => (T.storeBA (k := 1) Try.sizeOf25 rfl rfl rfl (one_cons ho239 (one_cons ho240 one_nil)) rfl rfl))) ?_
         refine DW.nil ?_
         refine WK.nThen ?_
         refine WK.perm [blk b199 25 [v232, v236], rowF (v236) 72 ([] ++ s.Shifts), rowF (v232) 62 ([] ++ s.Values), blk b9 25 [.slice none 0 0, .slice none 0 0], blk b8 97 [.bool (x.Shift), .int .i64 (x.At), .int .i64 (x.Lo), .int .i64 (x.Hi)], blk b7 25 [v1, v3]] ((List.Perm.cons _ (.refl _)).trans (List.perm_middle (l₁ := [rowF (v236) 72 ([] ++ s.Shifts)]) (l₂ := [rowF (v232) 62 ([] ++ s.Values), blk b9 25 [.slice none 0 0, .slice none 0 0], blk b8 97 [.bool (x.Shift), .int .i64 (x.At), .int .i64 (x.Lo), .int .i64 (x.Hi)], blk b7 25 [v1, v3]]) (a := blk b199 25 [v232, v236])).symm) ?_
         exact WK.meet (m234, b199, v232, v236) rfl (.refl _) (.cons rfl (.cons rfl (.cons rfl (.cons rfl .nil)))) ⟨(Mem.le_trans hle13 hle235), hs2, hs4⟩
        ·refine DW.tO rfl rfl rfl (OpTo.taO (T.lit0 (α := Shf) sl23 rfl)) (by decide) (fun m242 Es_ v241 hle243 hR_ => ?_)
         subst hR_
         replace hs2 := hs2.mono hle243
         replace hs4 := hs4.mono hle243
         refine DW.ta rfl rfl rfl rfl (T.appendFl (α := Val) (fun _ _ _ h => h) (k := 2) sl22 rfl rfl hs2 rfl (by simp; omega) (by simp; omega)) (by decide) (fun v244 => ?_)
         refine DW.ta rfl rfl rfl rfl (T.appendFl (α := Shf) (fun _ _ _ h => h) (k := 0) sl23 rfl rfl hs4 rfl (by simp; omega) (by simp; omega)) (by decide) (fun v245 => ?_)
         refine DW.x (V := Value.agg [v244, v245].toArray) rfl rfl (OpX.own1 (k := 2) rfl trivial (defdB rfl) fun ho246 => (OpX.own1 (k := 0) rfl trivial (defdB rfl) fun ho247 => (X.build Try.zeroValue25 Try.runUnderlying25 (places25 _ Try.underlying25) rfl (by simp only [Instr.fill, one_cells ho246, one_cells ho247]; rfl)))) (by decide) ?_
         refine DW.ts rfl rfl rfl rfl (OpTo.own1 (k := 2) rfl trivial (defd2 rfl rfl rfl) fun ho248 => (OpTo.own1 (k := 0) rfl trivial (defd2 rfl rfl rfl) fun ho249 => (T.storeBA (k := 1) Try.sizeOf25 rfl rfl rfl (one_cons ho248 (one_cons ho249 one_nil)) rfl rfl))) ?_
         refine DW.nil ?_
         refine WK.nThen ?_
         refine WK.perm [blk b199 25 [v244, v245], rowF (v245) 72 ([] ++ s.Shifts), rowF (v244) 62 ([] ++ s.Values), blk b9 25 [.slice none 0 0, .slice none 0 0], blk b8 97 [.bool (x.Shift), .int .i64 (x.At), .int .i64 (x.Lo), .int .i64 (x.Hi)], blk b7 25 [v1, v3]] ((List.Perm.cons _ (.refl _)).trans (List.perm_middle (l₁ := [rowF (v245) 72 ([] ++ s.Shifts)]) (l₂ := [rowF (v244) 62 ([] ++ s.Values), blk b9 25 [.slice none 0 0, .slice none 0 0], blk b8 97 [.bool (x.Shift), .int .i64 (x.At), .int .i64 (x.Lo), .int .i64 (x.Hi)], blk b7 25 [v1, v3]]) (a := blk b199 25 [v244, v245])).symm) ?_
         exact WK.meet (m242, b199, v244, v245) rfl (.refl _) (.cons rfl (.cons rfl (.cons rfl (.cons rfl .nil)))) ⟨(Mem.le_trans hle13 hle243), hs2, hs4⟩
  ·refine DW.fork (List.cons_ne_nil _ _) ?_ ?_
   ·refine DW.tO rfl rfl rfl (OpTo.taO (T.lit0 (α := Shf) sl23 rfl)) (by decide) (fun m251 Es_ v250 hle252 hR_ => ?_)
    subst hR_
    replace hs2 := hs2.mono hle252
    replace hs4 := hs4.mono hle252
    refine DW.fork (List.cons_ne_nil _ _) ?_ ?_
    ·refine DW.tO rfl rfl rfl (OpTo.taO (T.lit0 (α := Val) sl22 rfl)) (by decide) (fun m254 Es_ v253 hle255 hR_ => ?_)
     subst hR_
     replace hs2 := hs2.mono hle255
     replace hs4 := hs4.mono hle255
     refine DW.fork (List.cons_ne_nil _ _) ?_ ?_
     ·refine DW.ta rfl rfl rfl rfl (T.appendFl (α := Val) (fun _ _ _ h => h) (k := 0) sl22 rfl rfl hs2 rfl (by simp; omega) (by simp; omega)) (by decide) (fun v256 => ?_)
      refine DW.fork (List.cons_ne_nil _ _) ?_ ?_
      ·refine DW.xp rfl rfl rfl (fun _ => (X.loadB (k := 4) Try.isAgg23 rfl rfl rfl)) (by decide) ?_
       refine DW.fork (List.cons_ne_nil _ _) ?_ ?_
       ·refine DW.ta rfl rfl rfl rfl (T.appendFl (α := Shf) (fun _ _ _ h => h) (k := 1) sl23 rfl rfl hs4 rfl (by simp; omega) (by simp; omega)) (by decide) (fun v257 => ?_)
        refine DW.x (V := Value.agg [v256, v257].toArray) rfl rfl (OpX.own1 (k := 0) rfl trivial (defdB rfl) fun ho258 => (OpX.own1 (k := 1) rfl trivial (defdB rfl) fun ho259 => (X.build Try.zeroValue25 Try.runUnderlying25 (places25 _ Try.underlying25) rfl (by simp only [Instr.fill, one_cells ho258, one_cells ho259]; rfl)))) (by decide) ?_
        refine DW.tn rfl rfl rfl (T.alloc Try.zeroValue25 rfl) (by decide) fun b260 => ?_
        refine DW.ts rfl rfl rfl rfl (OpTo.own1 (k := 1) rfl trivial (defd2 rfl rfl rfl) fun ho261 => (OpTo.own1 (k := 2) rfl trivial (defd2 rfl rfl rfl) fun ho262 => (T.storeBA (k := 0) Try.sizeOf25 rfl rfl rfl (one_cons ho261 (one_cons ho262 one_nil)) rfl rfl))) ?_
        refine DW.nil ?_
        refine WK.nThen ?_
        refine WK.perm [blk b260 25 [v256, v257], rowF (v257) 72 ([] ++ s.Shifts), rowF (v256) 62 ([] ++ s.Values), blk b9 25 [.slice none 0 0, .slice none 0 0], blk b8 97 [.bool (x.Shift), .int .i64 (x.At), .int .i64 (x.Lo), .int .i64 (x.Hi)], blk b7 25 [v1, v3]] (List.Perm.cons _ ((List.Perm.cons _ (.refl _)).trans (List.perm_middle (l₁ := [rowF (v256) 62 ([] ++ s.Values)]) (l₂ := [blk b9 25 [.slice none 0 0, .slice none 0 0], blk b8 97 [.bool (x.Shift), .int .i64 (x.At), .int .i64 (x.Lo), .int .i64 (x.Hi)], blk b7 25 [v1, v3]]) (a := rowF (v257) 72 ([] ++ s.Shifts))).symm)) ?_
        exact WK.meet (m254, b260, v256, v257) rfl (.refl _) (.cons rfl (.cons rfl (.cons rfl (.cons rfl .nil)))) ⟨(Mem.le_trans hle252 hle255), hs2, hs4⟩
       ·refine DW.tn rfl rfl rfl (T.alloc Try.zeroValue25 rfl) (by decide) fun b263 => ?_
        refine DW.ta rfl rfl rfl rfl (T.appendFl (α := Shf) (fun _ _ _ h => h) (k := 2) sl23 rfl rfl hs4 rfl (by simp; omega) (by simp; omega)) (by decide) (fun v264 => ?_)
        refine DW.x (V := Value.agg [v256, v264].toArray) rfl rfl (OpX.own1 (k := 1) rfl trivial (defdB rfl) fun ho265 => (OpX.own1 (k := 2) rfl trivial (defdB rfl) fun ho266 => (X.build Try.zeroValue25 Try.runUnderlying25 (places25 _ Try.underlying25) rfl (by simp only [Instr.fill, one_cells ho265, one_cells ho266]; rfl)))) (by decide) ?_
        refine DW.ts rfl rfl rfl rfl (OpTo.own1 (k := 1) rfl trivial (defd2 rfl rfl rfl) fun ho267 => (OpTo.own1 (k := 2) rfl trivial (defd2 rfl rfl rfl) fun ho268 => (T.storeBA (k := 0) Try.sizeOf25 rfl rfl rfl (one_cons ho267 (one_cons ho268 one_nil)) rfl rfl))) ?_
        refine DW.nil ?_
        refine WK.nThen ?_
        refine WK.perm [blk b263 25 [v256, v264], rowF (v264) 72 ([] ++ s.Shifts), rowF (v256) 62 ([] ++ s.Values), blk b9 25 [.slice none 0 0, .slice none 0 0], blk b8 97 [.bool (x.Shift), .int .i64 (x.At), .int .i64 (x.Lo), .int .i64 (x.Hi)], blk b7 25 [v1, v3]] (List.Perm.cons _ ((List.Perm.cons _ (.refl _)).trans (List.perm_middle (l₁ := [rowF (v256) 62 ([] ++ s.Values)]) (l₂ := [blk b9 25 [.slice none 0 0, .slice none 0 0], blk b8 97 [.bool (x.Shift), .int .i64 (x.At), .int .i64 (x.Lo), .int .i64 (x.Hi)], blk b7 25 [v1, v3]]) (a := rowF (v264) 72 ([] ++ s.Shifts))).symm)) ?_
        exact WK.meet (m254, b263, v256, v264) rfl (.refl _) (.cons rfl (.cons rfl (.cons rfl (.cons rfl .nil)))) ⟨(Mem.le_trans hle252 hle255), hs2, hs4⟩
      ·refine DW.tn rfl rfl rfl (T.alloc Try.zeroValue25 rfl) (by decide) fun b269 => ?_
       refine DW.xp rfl rfl rfl (fun _ => (X.loadB (k := 5) Try.isAgg23 rfl rfl rfl)) (by decide) ?_
       refine DW.ta rfl rfl rfl rfl (T.appendFl (α := Shf) (fun _ _ _ h => h) (k := 2) sl23 rfl rfl hs4 rfl (by simp; omega) (by simp; omega)) (by decide) (fun v270 => ?_)
       refine DW.x (V := Value.agg [v256, v270].toArray) rfl rfl (OpX.own1 (k := 1) rfl trivial (defdB rfl) fun ho271 => (OpX.own1 (k := 2) rfl trivial (defdB rfl) fun ho272 => (X.build Try.zeroValue25 Try.runUnderlying25 (places25 _ Try.underlying25) rfl (by simp only [Instr.fill, one_cells ho271, one_cells ho272]; rfl)))) (by decide) ?_
       refine DW.ts rfl rfl rfl rfl (OpTo.own1 (k := 1) rfl trivial (defd2 rfl rfl rfl) fun ho273 => (OpTo.own1 (k := 2) rfl trivial (defd2 rfl rfl rfl) fun ho274 => (T.storeBA (k := 0) Try.sizeOf25 rfl rfl rfl (one_cons ho273 (one_cons ho274 one_nil)) rfl rfl))) ?_
       refine DW.nil ?_
       refine WK.nThen ?_
       refine WK.perm [blk b269 25 [v256, v270], rowF (v270) 72 ([] ++ s.Shifts), rowF (v256) 62 ([] ++ s.Values), blk b9 25 [.slice none 0 0, .slice none 0 0], blk b8 97 [.bool (x.Shift), .int .i64 (x.At), .int .i64 (x.Lo), .int .i64 (x.Hi)], blk b7 25 [v1, v3]] (List.Perm.cons _ ((List.Perm.cons _ (.refl _)).trans (List.perm_middle (l₁ := [rowF (v256) 62 ([] ++ s.Values)]) (l₂ := [blk b9 25 [.slice none 0 0, .slice none 0 0], blk b8 97 [.bool (x.Shift), .int .i64 (x.At), .int .i64 (x.Lo), .int .i64 (x.Hi)], blk b7 25 [v1, v3]]) (a := rowF (v270) 72 ([] ++ s.Shifts))).symm)) ?_
       exact WK.meet (m254, b269, v256, v270) rfl (.refl _) (.cons rfl (.cons rfl (.cons rfl (.cons rfl .nil)))) ⟨(Mem.le_trans hle252 hle255), hs2, hs4⟩
     ·refine DW.fork (List.cons_ne_nil _ _) ?_ ?_
      ·refine DW.xp rfl rfl rfl (fun _ => (X.loadB (k := 4) Try.isAgg23 rfl rfl rfl)) (by decide) ?_
       refine DW.fork (List.cons_ne_nil _ _) ?_ ?_
       ·refine DW.ta rfl rfl rfl rfl (T.appendFl (α := Val) (fun _ _ _ h => h) (k := 0) sl22 rfl rfl hs2 rfl (by simp; omega) (by simp; omega)) (by decide) (fun v275 => ?_)
        refine DW.fork (List.cons_ne_nil _ _) ?_ ?_
        ·refine DW.ta rfl rfl rfl rfl (T.appendFl (α := Shf) (fun _ _ _ h => h) (k := 1) sl23 rfl rfl hs4 rfl (by simp; omega) (by simp; omega)) (by decide) (fun v276 => ?_)
         refine DW.x (V := Value.agg [v275, v276].toArray) rfl rfl (OpX.own1 (k := 0) rfl trivial (defdB rfl) fun ho277 => (OpX.own1 (k := 1) rfl trivial (defdB rfl) fun ho278 => (X.build Try.zeroValue25 Try.runUnderlying25 (places25 _ Try.underlying25) rfl (by simp only [Instr.fill, one_cells ho277, one_cells ho278]; rfl)))) (by decide) ?_
         refine DW.tn rfl rfl rfl (T.alloc Try.zeroValue25 rfl) (by decide) fun b279 => ?_
         refine DW.ts rfl rfl rfl rfl (OpTo.own1 (k := 1) rfl trivial (defd2 rfl rfl rfl) fun ho280 => (OpTo.own1 (k := 2) rfl trivial (defd2 rfl rfl rfl) fun ho281 => (T.storeBA (k := 0) Try.sizeOf25 rfl rfl rfl (one_cons ho280 (one_cons ho281 one_nil)) rfl rfl))) ?_
         refine DW.nil ?_
         refine WK.nThen ?_
         refine WK.perm [blk b279 25 [v275, v276], rowF (v276) 72 ([] ++ s.Shifts), rowF (v275) 62 ([] ++ s.Values), blk b9 25 [.slice none 0 0, .slice none 0 0], blk b8 97 [.bool (x.Shift), .int .i64 (x.At), .int .i64 (x.Lo), .int .i64 (x.Hi)], blk b7 25 [v1, v3]] (List.Perm.cons _ ((List.Perm.cons _ (.refl _)).trans (List.perm_middle (l₁ := [rowF (v275) 62 ([] ++ s.Values)]) (l₂ := [blk b9 25 [.slice none 0 0, .slice none 0 0], blk b8 97 [.bool (x.Shift), .int .i64 (x.At), .int .i64 (x.Lo), .int .i64 (x.Hi)], blk b7 25 [v1, v3]]) (a := rowF (v276) 72 ([] ++ s.Shifts))).symm)) ?_
         exact WK.meet (m254, b279, v275, v276) rfl (.refl _) (.cons rfl (.cons rfl (.cons rfl (.cons rfl .nil)))) ⟨(Mem.le_trans hle252 hle255), hs2, hs4⟩
        ·refine DW.tn rfl rfl rfl (T.alloc Try.zeroValue25 rfl) (by decide) fun b282 => ?_
         refine DW.ta rfl rfl rfl rfl (T.appendFl (α := Shf) (fun _ _ _ h => h) (k := 2) sl23 rfl rfl hs4 rfl (by simp; omega) (by simp; omega)) (by decide) (fun v283 => ?_)
         refine DW.x (V := Value.agg [v275, v283].toArray) rfl rfl (OpX.own1 (k := 1) rfl trivial (defdB rfl) fun ho284 => (OpX.own1 (k := 2) rfl trivial (defdB rfl) fun ho285 => (X.build Try.zeroValue25 Try.runUnderlying25 (places25 _ Try.underlying25) rfl (by simp only [Instr.fill, one_cells ho284, one_cells ho285]; rfl)))) (by decide) ?_
         refine DW.ts rfl rfl rfl rfl (OpTo.own1 (k := 1) rfl trivial (defd2 rfl rfl rfl) fun ho286 => (OpTo.own1 (k := 2) rfl trivial (defd2 rfl rfl rfl) fun ho287 => (T.storeBA (k := 0) Try.sizeOf25 rfl rfl rfl (one_cons ho286 (one_cons ho287 one_nil)) rfl rfl))) ?_
         refine DW.nil ?_
         refine WK.nThen ?_
         refine WK.perm [blk b282 25 [v275, v283], rowF (v283) 72 ([] ++ s.Shifts), rowF (v275) 62 ([] ++ s.Values), blk b9 25 [.slice none 0 0, .slice none 0 0], blk b8 97 [.bool (x.Shift), .int .i64 (x.At), .int .i64 (x.Lo), .int .i64 (x.Hi)], blk b7 25 [v1, v3]] (List.Perm.cons _ ((List.Perm.cons _ (.refl _)).trans (List.perm_middle (l₁ := [rowF (v275) 62 ([] ++ s.Values)]) (l₂ := [blk b9 25 [.slice none 0 0, .slice none 0 0], blk b8 97 [.bool (x.Shift), .int .i64 (x.At), .int .i64 (x.Lo), .int .i64 (x.Hi)], blk b7 25 [v1, v3]]) (a := rowF (v283) 72 ([] ++ s.Shifts))).symm)) ?_
         exact WK.meet (m254, b282, v275, v283) rfl (.refl _) (.cons rfl (.cons rfl (.cons rfl (.cons rfl .nil)))) ⟨(Mem.le_trans hle252 hle255), hs2, hs4⟩
       ·refine DW.tn rfl rfl rfl (T.alloc Try.zeroValue25 rfl) (by decide) fun b288 => ?_
        refine DW.ta rfl rfl rfl rfl (T.appendFl (α := Val) (fun _ _ _ h => h) (k := 1) sl22 rfl rfl hs2 rfl (by simp; omega) (by simp; omega)) (by decide) (fun v289 => ?_)
        refine DW.ta rfl rfl rfl rfl (T.appendFl (α := Shf) (fun _ _ _ h => h) (k := 2) sl23 rfl rfl hs4 rfl (by simp; omega) (by simp; omega)) (by decide) (fun v290 => ?_)
        refine DW.x (V := Value.agg [v289, v290].toArray) rfl rfl (OpX.own1 (k := 1) rfl trivial (defdB rfl) fun ho291 => (OpX.own1 (k := 2) rfl trivial (defdB rfl) fun ho292 => (X.build Try.zeroValue25 Try.runUnderlying25 (places25 _ Try.underlying25) rfl (by simp only [Instr.fill, one_cells ho291, one_cells ho292]; rfl)))) (by decide) ?_
        refine DW.ts rfl rfl rfl rfl (OpTo.own1 (k := 1) rfl trivial (defd2 rfl rfl rfl) fun ho293 => (OpTo.own1 (k := 2) rfl trivial (defd2 rfl rfl rfl) fun ho294 => (T.storeBA (k := 0) Try.sizeOf25 rfl rfl rfl (one_cons ho293 (one_cons ho294 one_nil)) rfl rfl))) ?_
        refine DW.nil ?_
        refine WK.nThen ?_
        refine WK.perm [blk b288 25 [v289, v290], rowF (v290) 72 ([] ++ s.Shifts), rowF (v289) 62 ([] ++ s.Values), blk b9 25 [.slice none 0 0, .slice none 0 0], blk b8 97 [.bool (x.Shift), .int .i64 (x.At), .int .i64 (x.Lo), .int .i64 (x.Hi)], blk b7 25 [v1, v3]] (List.Perm.cons _ ((List.Perm.cons _ (.refl _)).trans (List.perm_middle (l₁ := [rowF (v289) 62 ([] ++ s.Values)]) (l₂ := [blk b9 25 [.slice none 0 0, .slice none 0 0], blk b8 97 [.bool (x.Shift), .int .i64 (x.At), .int .i64 (x.Lo), .int .i64 (x.Hi)], blk b7 25 [v1, v3]]) (a := rowF (v290) 72 ([] ++ s.Shifts))).symm)) ?_
        exact WK.meet (m254, b288, v289, v290) rfl (.refl _) (.cons rfl (.cons rfl (.cons rfl (.cons rfl .nil)))) ⟨(Mem.le_trans hle252 hle255), hs2, hs4⟩
      ·refine DW.tn rfl rfl rfl (T.alloc Try.zeroValue25 rfl) (by decide) fun b295 => ?_
       refine DW.fork (List.cons_ne_nil _ _) ?_ ?_
       ·refine DW.ta rfl rfl rfl rfl (T.appendFl (α := Val) (fun _ _ _ h => h) (k := 1) sl22 rfl rfl hs2 rfl (by simp; omega) (by simp; omega)) (by decide) (fun v296 => ?_)
        refine DW.xp rfl rfl rfl (fun _ => (X.loadB (k := 5) Try.isAgg23 rfl rfl rfl)) (by decide) ?_
        refine DW.ta rfl rfl rfl rfl (T.appendFl (α := Shf) (fun _ _ _ h => h) (k := 2) sl23 rfl rfl hs4 rfl (by simp; omega) (by simp; omega)) (by decide) (fun v297 => ?_)
        refine DW.x (V := Value.agg [v296, v297].toArray) rfl rfl (OpX.own1 (k := 1) rfl trivial (defdB rfl) fun ho298 => (OpX.own1 (k := 2) rfl trivial (defdB rfl) fun ho299 => (X.build Try.zeroValue25 Try.runUnderlying25 (places25 _ Try.underlying25) rfl (by simp only [Instr.fill, one_cells ho298, one_cells ho299]; rfl)))) (by decide) ?_
        refine DW.ts rfl rfl rfl rfl (OpTo.own1 (k := 1) rfl trivial (defd2 rfl rfl rfl) fun ho300 => (OpTo.own1 (k := 2) rfl trivial (defd2 rfl rfl rfl) fun ho301 => (T.storeBA (k := 0) Try.sizeOf25 rfl rfl rfl (one_cons ho300 (one_cons ho301 one_nil)) rfl rfl))) ?_
        refine DW.nil ?_
        refine WK.nThen ?_
        refine WK.perm [blk b295 25 [v296, v297], rowF (v297) 72 ([] ++ s.Shifts), rowF (v296) 62 ([] ++ s.Values), blk b9 25 [.slice none 0 0, .slice none 0 0], blk b8 97 [.bool (x.Shift), .int .i64 (x.At), .int .i64 (x.Lo), .int .i64 (x.Hi)], blk b7 25 [v1, v3]] (List.Perm.cons _ ((List.Perm.cons _ (.refl _)).trans (List.perm_middle (l₁ := [rowF (v296) 62 ([] ++ s.Values)]) (l₂ := [blk b9 25 [.slice none 0 0, .slice none 0 0], blk b8 97 [.bool (x.Shift), .int .i64 (x.At), .int .i64 (x.Lo), .int .i64 (x.Hi)], blk b7 25 [v1, v3]]) (a := rowF (v297) 72 ([] ++ s.Shifts))).symm)) ?_
        exact WK.meet (m254, b295, v296, v297) rfl (.refl _) (.cons rfl (.cons rfl (.cons rfl (.cons rfl .nil)))) ⟨(Mem.le_trans hle252 hle255), hs2, hs4⟩
       ·refine DW.xp rfl rfl rfl (fun _ => (X.loadB (k := 5) Try.isAgg23 rfl rfl rfl)) (by decide) ?_
        refine DW.ta rfl rfl rfl rfl (T.appendFl (α := Val) (fun _ _ _ h => h) (k := 1) sl22 rfl rfl hs2 rfl (by simp; omega) (by simp; omega)) (by decide) (fun v302 => ?_)
        refine DW.ta rfl rfl rfl rfl (T.appendFl (α := Shf) (fun _ _ _ h => h) (k := 2) sl23 rfl rfl hs4 rfl (by simp; omega) (by simp; omega)) (by decide) (fun v303 => ?_)
        refine DW.x (V := Value.agg [v302, v303].toArray) rfl rfl (OpX.own1 (k := 1) rfl trivial (defdB rfl) fun ho304 => (OpX.own1 (k := 2) rfl trivial (defdB rfl) fun ho305 => (X.build Try.zeroValue25 Try.runUnderlying25 (places25 _ Try.underlying25) rfl (by simp only [Instr.fill, one_cells ho304, one_cells ho305]; rfl)))) (by decide) ?_
        refine DW.ts rfl rfl rfl rfl (OpTo.own1 (k := 1) rfl trivial (defd2 rfl rfl rfl) fun ho306 => (OpTo.own1 (k := 2) rfl trivial (defd2 rfl rfl rfl) fun ho307 => (T.storeBA (k := 0) Try.sizeOf25 rfl rfl rfl (one_cons ho306 (one_cons ho307 one_nil)) rfl rfl))) ?_
        refine DW.nil ?_
        refine WK.nThen ?_
        refine WK.perm [blk b295 25 [v302, v303], rowF (v303) 72 ([] ++ s.Shifts), rowF (v302) 62 ([] ++ s.Values), blk b9 25 [.slice none 0 0, .slice none 0 0], blk b8 97 [.bool (x.Shift), .int .i64 (x.At), .int .i64 (x.Lo), .int .i64 (x.Hi)], blk b7 25 [v1, v3]] (List.Perm.cons _ ((List.Perm.cons _ (.refl _)).trans (List.perm_middle (l₁ := [rowF (v302) 62 ([] ++ s.Values)]) (l₂ := [blk b9 25 [.slice none 0 0, .slice none 0 0], blk b8 97 [.bool (x.Shift), .int .i64 (x.At), .int .i64 (x.Lo), .int .i64 (x.Hi)], blk b7 25 [v1, v3]]) (a := rowF (v303) 72 ([] ++ s.Shifts))).symm)) ?_
        exact WK.meet (m254, b295, v302, v303) rfl (.refl _) (.cons rfl (.cons rfl (.cons rfl (.cons rfl .nil)))) ⟨(Mem.le_trans hle252 hle255), hs2, hs4⟩
    ·refine DW.fork (List.cons_ne_nil _ _) ?_ ?_
     ·refine DW.xp rfl rfl rfl (fun _ => (X.loadB (k := 3) Try.isAgg23 rfl rfl rfl)) (by decide) ?_
      refine DW.fork (List.cons_ne_nil _ _) ?_ ?_
      ·refine DW.tO rfl rfl rfl (OpTo.taO (T.lit0 (α := Val) sl22 rfl)) (by decide) (fun m309 Es_ v308 hle310 hR_ => ?_)
       subst hR_
       replace hs2 := hs2.mono hle310
       replace hs4 := hs4.mono hle310
       refine DW.fork (List.cons_ne_nil _ _) ?_ ?_
       ·refine DW.ta rfl rfl rfl rfl (T.appendFl (α := Val) (fun _ _ _ h => h) (k := 0) sl22 rfl rfl hs2 rfl (by simp; omega) (by simp; omega)) (by decide) (fun v311 => ?_)
        refine DW.fork (List.cons_ne_nil _ _) ?_ ?_
        ·refine DW.ta rfl rfl rfl rfl (T.appendFl (α := Shf) (fun _ _ _ h => h) (k := 1) sl23 rfl rfl hs4 rfl (by simp; omega) (by simp; omega)) (by decide) (fun v312 => ?_)
         refine DW.x (V := Value.agg [v311, v312].toArray) rfl rfl (OpX.own1 (k := 0) rfl trivial (defdB rfl) fun ho313 => (OpX.own1 (k := 1) rfl trivial (defdB rfl) fun ho314 => (X.build Try.zeroValue25 Try.runUnderlying25 (places25 _ Try.underlying25) rfl (by simp only [Instr.fill, one_cells ho313, one_cells ho314]; rfl)))) (by decide) ?_
         refine DW.tn rfl rfl rfl (T.alloc Try.zeroValue25 rfl) (by decide) fun b315 => ?_
         refine DW.ts rfl rfl rfl rfl (OpTo.own1 (k := 1) rfl trivial (defd2 rfl rfl rfl) fun ho316 => (OpTo.own1 (k := 2) rfl trivial (defd2 rfl rfl rfl) fun ho317 => (T.storeBA (k := 0) Try.sizeOf25 rfl rfl rfl (one_cons ho316 (one_cons ho317 one_nil)) rfl rfl))) ?_
         refine DW.nil ?_
         refine WK.nThen ?_
         refine WK.perm [blk b315 25 [v311, v312], rowF (v312) 72 ([] ++ s.Shifts), rowF (v311) 62 ([] ++ s.Values), blk b9 25 [.slice none 0 0, .slice none 0 0], blk b8 97 [.bool (x.Shift), .int .i64 (x.At), .int .i64 (x.Lo), .int .i64 (x.Hi)], blk b7 25 [v1, v3]] (List.Perm.cons _ ((List.Perm.cons _ (.refl _)).trans (List.perm_middle (l₁ := [rowF (v311) 62 ([] ++ s.Values)]) (l₂ := [blk b9 25 [.slice none 0 0, .slice none 0 0], blk b8 97 [.bool (x.Shift), .int .i64 (x.At), .int .i64 (x.Lo), .int .i64 (x.Hi)], blk b7 25 [v1, v3]]) (a := rowF (v312) 72 ([] ++ s.Shifts))).symm)) ?_
         exact WK.meet (m309, b315, v311, v312) rfl (.refl _) (.cons rfl (.cons rfl (.cons rfl (.cons rfl .nil)))) ⟨(Mem.le_trans hle252 hle310), hs2, hs4⟩
        ·refine DW.tn rfl rfl rfl (T.alloc Try.zeroValue25 rfl) (by decide) fun b318 => ?_
         refine DW.ta rfl rfl rfl rfl (T.appendFl (α := Shf) (fun _ _ _ h => h) (k := 2) sl23 rfl rfl hs4 rfl (by simp; omega) (by simp; omega)) (by decide) (fun v319 => ?_)
         refine DW.x (V := Value.agg [v311, v319].toArray) rfl rfl (OpX.own1 (k := 1) rfl trivial (defdB rfl) fun ho320 => (OpX.own1 (k := 2) rfl trivial (defdB rfl) fun ho321 => (X.build Try.zeroValue25 Try.runUnderlying25 (places25 _ Try.underlying25) rfl (by simp only [Instr.fill, one_cells ho320, one_cells ho321]; rfl)))) (by decide) ?_
         refine DW.ts rfl rfl rfl rfl (OpTo.own1 (k := 1) rfl trivial (defd2 rfl rfl rfl) fun ho322 => (OpTo.own1 (k := 2) rfl trivial (defd2 rfl rfl rfl) fun ho323 => (T.storeBA (k := 0) Try.sizeOf25 rfl rfl rfl (one_cons ho322 (one_cons ho323 one_nil)) rfl rfl))) ?_
         refine DW.nil ?_
         refine WK.nThen ?_
         refine WK.perm [blk b318 25 [v311, v319], rowF (v319) 72 ([] ++ s.Shifts), rowF (v311) 62 ([] ++ s.Values), blk b9 25 [.slice none 0 0, .slice none 0 0], blk b8 97 [.bool (x.Shift), .int .i64 (x.At), .int .i64 (x.Lo), .int .i64 (x.Hi)], blk b7 25 [v1, v3]] (List.Perm.cons _ ((List.Perm.cons _ (.refl _)).trans (List.perm_middle (l₁ := [rowF (v311) 62 ([] ++ s.Values)]) (l₂ := [blk b9 25 [.slice none 0 0, .slice none 0 0], blk b8 97 [.bool (x.Shift), .int .i64 (x.At), .int .i64 (x.Lo), .int .i64 (x.Hi)], blk b7 25 [v1, v3]]) (a := rowF (v319) 72 ([] ++ s.Shifts))).symm)) ?_
         exact WK.meet (m309, b318, v311, v319) rfl (.refl _) (.cons rfl (.cons rfl (.cons rfl (.cons rfl .nil)))) ⟨(Mem.le_trans hle252 hle310), hs2, hs4⟩
       ·refine DW.tn rfl rfl rfl (T.alloc Try.zeroValue25 rfl) (by decide) fun b324 => ?_
        refine DW.ta rfl rfl rfl rfl (T.appendFl (α := Val) (fun _ _ _ h => h) (k := 1) sl22 rfl rfl hs2 rfl (by simp; omega) (by simp; omega)) (by decide) (fun v325 => ?_)
        refine DW.ta rfl rfl rfl rfl (T.appendFl (α := Shf) (fun _ _ _ h => h) (k := 2) sl23 rfl rfl hs4 rfl (by simp; omega) (by simp; omega)) (by decide) (fun v326 => ?_)
        refine DW.x (V := Value.agg [v325, v326].toArray) rfl rfl (OpX.own1 (k := 1) rfl trivial (defdB rfl) fun ho327 => (OpX.own1 (k := 2) rfl trivial (defdB rfl) fun ho328 => (X.build Try.zeroValue25 Try.runUnderlying25 (places25 _ Try.underlying25) rfl (by simp only [Instr.fill, one_cells ho327, one_cells ho328]; rfl)))) (by decide) ?_
        refine DW.ts rfl rfl rfl rfl (OpTo.own1 (k := 1) rfl trivial (defd2 rfl rfl rfl) fun ho329 => (OpTo.own1 (k := 2) rfl trivial (defd2 rfl rfl rfl) fun ho330 => (T.storeBA (k := 0) Try.sizeOf25 rfl rfl rfl (one_cons ho329 (one_cons ho330 one_nil)) rfl rfl))) ?_
        refine DW.nil ?_
        refine WK.nThen ?_
        refine WK.perm [blk b324 25 [v325, v326], rowF (v326) 72 ([] ++ s.Shifts), rowF (v325) 62 ([] ++ s.Values), blk b9 25 [.slice none 0 0, .slice none 0 0], blk b8 97 [.bool (x.Shift), .int .i64 (x.At), .int .i64 (x.Lo), .int .i64 (x.Hi)], blk b7 25 [v1, v3]] (List.Perm.cons _ ((List.Perm.cons _ (.refl _)).trans (List.perm_middle (l₁ := [rowF (v325) 62 ([] ++ s.Values)]) (l₂ := [blk b9 25 [.slice none 0 0, .slice none 0 0], blk b8 97 [.bool (x.Shift), .int .i64 (x.At), .int .i64 (x.Lo), .int .i64 (x.Hi)], blk b7 25 [v1, v3]]) (a := rowF (v326) 72 ([] ++ s.Shifts))).symm)) ?_
        exact WK.meet (m309, b324, v325, v326) rfl (.refl _) (.cons rfl (.cons rfl (.cons rfl (.cons rfl .nil)))) ⟨(Mem.le_trans hle252 hle310), hs2, hs4⟩
      ·refine DW.tn rfl rfl rfl (T.alloc Try.zeroValue25 rfl) (by decide) fun b331 => ?_
       refine DW.tO rfl rfl rfl (OpTo.taO (T.lit0 (α := Val) sl22 rfl)) (by decide) (fun m333 Es_ v332 hle334 hR_ => ?_)
       subst hR_
       replace hs2 := hs2.mono hle334
       replace hs4 := hs4.mono hle334
       refine DW.ta rfl rfl rfl rfl (T.appendFl (α := Val) (fun _ _ _ h => h) (k := 0) sl22 rfl rfl hs2 rfl (by simp; omega) (by simp; omega)) (by decide) (fun v335 => ?_)
       refine DW.ta rfl rfl rfl rfl (T.appendFl (α := Shf) (fun _ _ _ h => h) (k := 2) sl23 rfl rfl hs4 rfl (by simp; omega) (by simp; omega)) (by decide) (fun v336 => ?_)
       refine DW.x (V := Value.agg [v335, v336].toArray) rfl rfl (OpX.own1 (k := 0) rfl trivial (defdB rfl) fun ho337 => (OpX.own1 (k := 2) rfl trivial (defdB rfl) fun ho338 => (X.build Try.zeroValue25 Try.runUnderlying25 (places25 _ Try.underlying25) rfl (by simp only [Instr.fill, one_cells ho337, one_cells ho338]; rfl)))) (by decide) ?_
       refine DW.ts rfl rfl rfl rfl (OpTo.own1 (k := 0) rfl trivial (defd2 rfl rfl rfl) fun ho339 => (OpTo.own1 (k := 2) rfl trivial (defd2 rfl rfl rfl) fun ho340 => (T.storeBA (k := 1) Try.sizeOf25 rfl rfl rfl (one_cons ho339 (one_cons ho340 one_nil)) rfl rfl))) ?_
       refine DW.nil ?_
       refine WK.nThen ?_
       refine WK.perm [blk b331 25 [v335, v336], rowF (v336) 72 ([] ++ s.Shifts), rowF (v335) 62 ([] ++ s.Values), blk b9 25 [.slice none 0 0, .slice none 0 0], blk b8 97 [.bool (x.Shift), .int .i64 (x.At), .int .i64 (x.Lo), .int .i64 (x.Hi)], blk b7 25 [v1, v3]] ((List.Perm.cons _ ((List.Perm.cons _ (.refl _)).trans (List.perm_middle (l₁ := [rowF (v335) 62 ([] ++ s.Values)]) (l₂ := [blk b9 25 [.slice none 0 0, .slice none 0 0], blk b8 97 [.bool (x.Shift), .int .i64 (x.At), .int .i64 (x.Lo), .int .i64 (x.Hi)], blk b7 25 [v1, v3]]) (a := rowF (v336) 72 ([] ++ s.Shifts))).symm)).trans (List.perm_middle (l₁ := [rowF (v335) 62 ([] ++ s.Values)]) (l₂ := [rowF (v336) 72 ([] ++ s.Shifts), blk b9 25 [.slice none 0 0, .slice none 0 0], blk b8 97 [.bool (x.Shift), .int .i64 (x.At), .int .i64 (x.Lo), .int .i64 (x.Hi)], blk b7 25 [v1, v3]]) (a := blk b331 25 [v335, v336])).symm) ?_
       exact WK.meet (m333, b331, v335, v336) rfl (.refl _) (.cons rfl (.cons rfl (.cons rfl (.cons rfl .nil)))) ⟨(Mem.le_trans hle252 hle334), hs2, hs4⟩
     ·refine DW.tn rfl rfl rfl (T.alloc Try.zeroValue25 rfl) (by decide) fun b341 => ?_
      refine DW.fork (List.cons_ne_nil _ _) ?_ ?_
      ·refine DW.tO rfl rfl rfl (OpTo.taO (T.lit0 (α := Val) sl22 rfl)) (by decide) (fun m343 Es_ v342 hle344 hR_ => ?_)
       subst hR_
       replace hs2 := hs2.mono hle344
       replace hs4 := hs4.mono hle344
       refine DW.fork (List.cons_ne_nil _ _) ?_ ?_
       ·refine DW.ta rfl rfl rfl rfl (T.appendFl (α := Val) (fun _ _ _ h => h) (k := 0) sl22 rfl rfl hs2 rfl (by simp; omega) (by simp; omega)) (by decide) (fun v345 => ?_)
        refine DW.xp rfl rfl rfl (fun _ => (X.loadB (k := 5) Try.isAgg23 rfl rfl rfl)) (by decide) ?_
        refine DW.ta rfl rfl rfl rfl (T.appendFl (α := Shf) (fun _ _ _ h => h) (k := 2) sl23 rfl rfl hs4 rfl (by simp; omega) (by simp; omega)) (by decide) (fun v346 => ?_)
        refine DW.x (V := Value.agg [v345, v346].toArray) rfl rfl (OpX.own1 (k := 0) rfl trivial (defdB rfl) fun ho347 => (OpX.own1 (k := 2) rfl trivial (defdB rfl) fun ho348 => (X.build Try.zeroValue25 Try.runUnderlying25 (places25 _ Try.underlying25) rfl (by simp only [Instr.fill, one_cells ho347, one_cells ho348]; rfl)))) (by decide) ?_
        refine DW.ts rfl rfl rfl rfl (OpTo.own1 (k := 0) rfl trivial (defd2 rfl rfl rfl) fun ho349 => (OpTo.own1 (k := 2) rfl trivial (defd2 rfl rfl rfl) fun ho350 => (T.storeBA (k := 1) Try.sizeOf25 rfl rfl rfl (one_cons ho349 (one_cons ho350 one_nil)) rfl rfl))) ?_
        refine DW.nil ?_
        refine WK.nThen ?_
        refine WK.perm [blk b341 25 [v345, v346], rowF (v346) 72 ([] ++ s.Shifts), rowF (v345) 62 ([] ++ s.Values), blk b9 25 [.slice none 0 0, .slice none 0 0], blk b8 97 [.bool (x.Shift), .int .i64 (x.At), .int .i64 (x.Lo), .int .i64 (x.Hi)], blk b7 25 [v1, v3]] ((List.Perm.cons _ ((List.Perm.cons _ (.refl _)).trans (List.perm_middle (l₁ := [rowF (v345) 62 ([] ++ s.Values)]) (l₂ := [blk b9 25 [.slice none 0 0, .slice none 0 0], blk b8 97 [.bool (x.Shift), .int .i64 (x.At), .int .i64 (x.Lo), .int .i64 (x.Hi)], blk b7 25 [v1, v3]]) (a := rowF (v346) 72 ([] ++ s.Shifts))).symm)).trans (List.perm_middle (l₁ := [rowF (v345) 62 ([] ++ s.Values)]) (l₂ := [rowF (v346) 72 ([] ++ s.Shifts), blk b9 25 [.slice none 0 0, .slice none 0 0], blk b8 97 [.bool (x.Shift), .int .i64 (x.At), .int .i64 (x.Lo), .int .i64 (x.Hi)], blk b7 25 [v1, v3]]) (a := blk b341 25 [v345, v346])).symm) ?_
        exact WK.meet (m343, b341, v345, v346) rfl (.refl _) (.cons rfl (.cons rfl (.cons rfl (.cons rfl .nil)))) ⟨(Mem.le_trans hle252 hle344), hs2, hs4⟩
       ·refine DW.xp rfl rfl rfl (fun _ => (X.loadB (k := 5) Try.isAgg23 rfl rfl rfl)) (by decide) ?_
        refine DW.ta rfl rfl rfl rfl (T.appendFl (α := Val) (fun _ _ _ h => h) (k := 0) sl22 rfl rfl hs2 rfl (by simp; omega) (by simp; omega)) (by decide) (fun v351 => ?_)
        refine DW.ta rfl rfl rfl rfl (T.appendFl (α := Shf) (fun _ _ _ h => h) (k := 2) sl23 rfl rfl hs4 rfl (by simp; omega) (by simp; omega)) (by decide) (fun v352 => ?_)
        refine DW.x (V := Value.agg [v351, v352].toArray) rfl rfl (OpX.own1 (k := 0) rfl trivial (defdB rfl) fun ho353 => (OpX.own1 (k := 2) rfl trivial (defdB rfl) fun ho354 => (X.build Try.zeroValue25 Try.runUnderlying25 (places25 _ Try.underlying25) rfl (by simp only [Instr.fill, one_cells ho353, one_cells ho354]; rfl)))) (by decide) ?_
        refine DW.ts rfl rfl rfl rfl (OpTo.own1 (k := 0) rfl trivial (defd2 rfl rfl rfl) fun ho355 => (OpTo.own1 (k := 2) rfl trivial (defd2 rfl rfl rfl) fun ho356 => (T.storeBA (k := 1) Try.sizeOf25 rfl rfl rfl (one_cons ho355 (one_cons ho356 one_nil)) rfl rfl))) ?_
        refine DW.nil ?_
        refine WK.nThen ?_
        refine WK.perm [blk b341 25 [v351, v352], rowF (v352) 72 ([] ++ s.Shifts), rowF (v351) 62 ([] ++ s.Values), blk b9 25 [.slice none 0 0, .slice none 0 0], blk b8 97 [.bool (x.Shift), .int .i64 (x.At), .int .i64 (x.Lo), .int .i64 (x.Hi)], blk b7 25 [v1, v3]] ((List.Perm.cons _ ((List.Perm.cons _ (.refl _)).trans (List.perm_middle (l₁ := [rowF (v351) 62 ([] ++ s.Values)]) (l₂ := [blk b9 25 [.slice none 0 0, .slice none 0 0], blk b8 97 [.bool (x.Shift), .int .i64 (x.At), .int .i64 (x.Lo), .int .i64 (x.Hi)], blk b7 25 [v1, v3]]) (a := rowF (v352) 72 ([] ++ s.Shifts))).symm)).trans (List.perm_middle (l₁ := [rowF (v351) 62 ([] ++ s.Values)]) (l₂ := [rowF (v352) 72 ([] ++ s.Shifts), blk b9 25 [.slice none 0 0, .slice none 0 0], blk b8 97 [.bool (x.Shift), .int .i64 (x.At), .int .i64 (x.Lo), .int .i64 (x.Hi)], blk b7 25 [v1, v3]]) (a := blk b341 25 [v351, v352])).symm) ?_
        exact WK.meet (m343, b341, v351, v352) rfl (.refl _) (.cons rfl (.cons rfl (.cons rfl (.cons rfl .nil)))) ⟨(Mem.le_trans hle252 hle344), hs2, hs4⟩
      ·refine DW.xp rfl rfl rfl (fun _ => (X.loadB (k := 4) Try.isAgg23 rfl rfl rfl)) (by decide) ?_
       refine DW.tO rfl rfl rfl (OpTo.taO (T.lit0 (α := Val) sl22 rfl)) (by decide) (fun m358 Es_ v357 hle359 hR_ => ?_)
       subst hR_
       replace hs2 := hs2.mono hle359
       replace hs4 := hs4.mono hle359
       refine DW.ta rfl rfl rfl rfl (T.appendFl (α := Val) (fun _ _ _ h => h) (k := 0) sl22 rfl rfl hs2 rfl (by simp; omega) (by simp; omega)) (by decide) (fun v360 => ?_)
       refine DW.ta rfl rfl rfl rfl (T.appendFl (α := Shf) (fun _ _ _ h => h) (k := 2) sl23 rfl rfl hs4 rfl (by simp; omega) (by simp; omega)) (by decide) (fun v361 => ?_)
       refine DW.x (V := Value.agg [v360, v361].toArray) rfl rfl (OpX.own1 (k := 0) rfl trivial (defdB rfl) fun ho362 => (OpX.own1 (k := 2) rfl trivial (defdB rfl) fun ho363 => (X.build Try.zeroValue25 Try.runUnderlying25 (places25 _ Try.underlying25) rfl (by simp only [Instr.fill, one_cells ho362, one_cells ho363]; rfl)))) (by decide) ?_
       refine DW.ts rfl rfl rfl rfl (OpTo.own1 (k := 0) rfl trivial (defd2 rfl rfl rfl) fun ho364 => (OpTo.own1 (k := 2) rfl trivial (defd2 rfl rfl rfl) fun ho365 => (T.storeBA (k := 1) Try.sizeOf25 rfl rfl rfl (one_cons ho364 (one_cons ho365 one_nil)) rfl rfl))) ?_
       refine DW.nil ?_
       refine WK.nThen ?_
       refine WK.perm [blk b341 25 [v360, v361], rowF (v361) 72 ([] ++ s.Shifts), rowF (v360) 62 ([] ++ s.Values), blk b9 25 [.slice none 0 0, .slice none 0 0], blk b8 97 [.bool (x.Shift), .int .i64 (x.At), .int .i64 (x.Lo), .int .i64 (x.Hi)], blk b7 25 [v1, v3]] ((List.Perm.cons _ ((List.Perm.cons _ (.refl _)).trans (List.perm_middle (l₁ := [rowF (v360) 62 ([] ++ s.Values)]) (l₂ := [blk b9 25 [.slice none 0 0, .slice none 0 0], blk b8 97 [.bool (x.Shift), .int .i64 (x.At), .int .i64 (x.Lo), .int .i64 (x.Hi)], blk b7 25 [v1, v3]]) (a := rowF (v361) 72 ([] ++ s.Shifts))).symm)).trans (List.perm_middle (l₁ := [rowF (v360) 62 ([] ++ s.Values)]) (l₂ := [rowF (v361) 72 ([] ++ s.Shifts), blk b9 25 [.slice none 0 0, .slice none 0 0], blk b8 97 [.bool (x.Shift), .int .i64 (x.At), .int .i64 (x.Lo), .int .i64 (x.Hi)], blk b7 25 [v1, v3]]) (a := blk b341 25 [v360, v361])).symm) ?_
       exact WK.meet (m358, b341, v360, v361) rfl (.refl _) (.cons rfl (.cons rfl (.cons rfl (.cons rfl .nil)))) ⟨(Mem.le_trans hle252 hle359), hs2, hs4⟩
   ·refine DW.fork (List.cons_ne_nil _ _) ?_ ?_
    ·refine DW.xp rfl rfl rfl (fun _ => (X.loadB (k := 2) Try.isAgg23 rfl rfl rfl)) (by decide) ?_
     refine DW.fork (List.cons_ne_nil _ _) ?_ ?_
     ·refine DW.tO rfl rfl rfl (OpTo.taO (T.lit0 (α := Val) sl22 rfl)) (by decide) (fun m367 Es_ v366 hle368 hR_ => ?_)
      subst hR_
      replace hs2 := hs2.mono hle368
      replace hs4 := hs4.mono hle368
      refine DW.fork (List.cons_ne_nil _ _) ?_ ?_
      ·refine DW.ta rfl rfl rfl rfl (T.appendFl (α := Val) (fun _ _ _ h => h) (k := 0) sl22 rfl rfl hs2 rfl (by simp; omega) (by simp; omega)) (by decide) (fun v369 => ?_)
       refine DW.fork (List.cons_ne_nil _ _) ?_ ?_
       ·refine DW.tO rfl rfl rfl (OpTo.taO (T.lit0 (α := Shf) sl23 rfl)) (by decide) (fun m371 Es_ v370 hle372 hR_ => ?_)
        subst hR_
        replace hs2 := hs2.mono hle372
        replace hs4 := hs4.mono hle372
        refine DW.fork (List.cons_ne_nil _ _) ?_ ?_
        ·refine DW.ta rfl rfl rfl rfl (T.appendFl (α := Shf) (fun _ _ _ h => h) (k := 0) sl23 rfl rfl hs4 rfl (by simp; omega) (by simp; omega)) (by decide) (fun v373 => ?_)
         refine DW.x (V := Value.agg [v369, v373].toArray) rfl rfl (OpX.own1 (k := 1) rfl trivial (defdB rfl) fun ho374 => (OpX.own1 (k := 0) rfl trivial (defdB rfl) fun ho375 => (X.build Try.zeroValue25 Try.runUnderlying25 (places25 _ Try.underlying25) rfl (by simp only [Instr.fill, one_cells ho374, one_cells ho375]; rfl)))) (by decide) ?_
         refine DW.tn rfl rfl rfl (T.alloc Try.zeroValue25 rfl) (by decide) fun b376 => ?_
         refine DW.ts rfl rfl rfl rfl (OpTo.own1 (k := 2) rfl trivial (defd2 rfl rfl rfl) fun ho377 => (OpTo.own1 (k := 1) rfl trivial (defd2 rfl rfl rfl) fun ho378 => (T.storeBA (k := 0) Try.sizeOf25 rfl rfl rfl (one_cons ho377 (one_cons ho378 one_nil)) rfl rfl))) ?_
         refine DW.nil ?_
         refine WK.nThen ?_
         exact WK.meet (m371, b376, v369, v373) rfl (.refl _) (.cons rfl (.cons rfl (.cons rfl (.cons rfl .nil)))) ⟨(Mem.le_trans hle368 hle372), hs2, hs4⟩
        ·refine DW.tn rfl rfl rfl (T.alloc Try.zeroValue25 rfl) (by decide) fun b379 => ?_
         refine DW.ta rfl rfl rfl rfl (T.appendFl (α := Shf) (fun _ _ _ h => h) (k := 1) sl23 rfl rfl hs4 rfl (by simp; omega) (by simp; omega)) (by decide) (fun v380 => ?_)
         refine DW.x (V := Value.agg [v369, v380].toArray) rfl rfl (OpX.own1 (k := 2) rfl trivial (defdB rfl) fun ho381 => (OpX.own1 (k := 1) rfl trivial (defdB rfl) fun ho382 => (X.build Try.zeroValue25 Try.runUnderlying25 (places25 _ Try.underlying25) rfl (by simp only [Instr.fill, one_cells ho381, one_cells ho382]; rfl)))) (by decide) ?_
         refine DW.ts rfl rfl rfl rfl (OpTo.own1 (k := 2) rfl trivial (defd2 rfl rfl rfl) fun ho383 => (OpTo.own1 (k := 1) rfl trivial (defd2 rfl rfl rfl) fun ho384 => (T.storeBA (k := 0) Try.sizeOf25 rfl rfl rfl (one_cons ho383 (one_cons ho384 one_nil)) rfl rfl))) ?_
         refine DW.nil ?_
         refine WK.nThen ?_
         exact WK.meet (m371, b379, v369, v380) rfl (.refl _) (.cons rfl (.cons rfl (.cons rfl (.cons rfl .nil)))) ⟨(Mem.le_trans hle368 hle372), hs2, hs4⟩
       ·refine DW.tn rfl rfl rfl (T.alloc Try.zeroValue25 rfl) (by decide) fun b385 => ?_
        refine DW.tO rfl rfl rfl (OpTo.taO (T.lit0 (α := Shf) sl23 rfl)) (by decide) (fun m387 Es_ v386 hle388 hR_ => ?_)
        subst hR_
        replace hs2 := hs2.mono hle388
        replace hs4 := hs4.mono hle388
        refine DW.ta rfl rfl rfl rfl (T.appendFl (α := Shf) (fun _ _ _ h => h) (k := 0) sl23 rfl rfl hs4 rfl (by simp; omega) (by simp; omega)) (by decide) (fun v389 => ?_)
        refine DW.x (V := Value.agg [v369, v389].toArray) rfl rfl (OpX.own1 (k := 2) rfl trivial (defdB rfl) fun ho390 => (OpX.own1 (k := 0) rfl trivial (defdB rfl) fun ho391 => (X.build Try.zeroValue25 Try.runUnderlying25 (places25 _ Try.underlying25) rfl (by simp only [Instr.fill, one_cells ho390, one_cells ho391]; rfl)))) (by decide) ?_
        refine DW.ts rfl rfl rfl rfl (OpTo.own1 (k := 2) rfl trivial (defd2 rfl rfl rfl) fun ho392 => (OpTo.own1 (k := 0) rfl trivial (defd2 rfl rfl rfl) fun ho393 => (T.storeBA (k := 1) Try.sizeOf25 rfl rfl rfl (one_cons ho392 (one_cons ho393 one_nil)) rfl rfl))) ?_
        refine DW.nil ?_
        refine WK.nThen ?_
        refine WK.perm [blk b385 25 [v369, v389], rowF (v389) 72 ([] ++ s.Shifts), rowF (v369) 62 ([] ++ s.Values), blk b9 25 [.slice none 0 0, .slice none 0 0], blk b8 97 [.bool (x.Shift), .int .i64 (x.At), .int .i64 (x.Lo), .int .i64 (x.Hi)], blk b7 25 [v1, v3]] ((List.Perm.cons _ (.refl _)).trans (List.perm_middle (l₁ := [rowF (v389) 72 ([] ++ s.Shifts)]) (l₂ := [rowF (v369) 62 ([] ++ s.Values), blk b9 25 [.slice none 0 0, .slice none 0 0], blk b8 97 [.bool (x.Shift), .int .i64 (x.At), .int .i64 (x.Lo), .int .i64 (x.Hi)], blk b7 25 [v1, v3]]) (a := blk b385 25 [v369, v389])).symm) ?_
        exact WK.meet (m387, b385, v369, v389) rfl (.refl _) (.cons rfl (.cons rfl (.cons rfl (.cons rfl .nil)))) ⟨(Mem.le_trans hle368 hle388), hs2, hs4⟩
      ·refine DW.fork (List.cons_ne_nil _ _) ?_ ?_
       ·refine DW.tO rfl rfl rfl (OpTo.taO (T.lit0 (α := Shf) sl23 rfl)) (by decide) (fun m395 Es_ v394 hle396 hR_ => ?_)
        subst hR_
        replace hs2 := hs2.mono hle396
        replace hs4 := hs4.mono hle396
        refine DW.fork (List.cons_ne_nil _ _) ?_ ?_
        ·refine DW.ta rfl rfl rfl rfl (T.appendFl (α := Val) (fun _ _ _ h => h) (k := 1) sl22 rfl rfl hs2 rfl (by simp; omega) (by simp; omega)) (by decide) (fun v397 => ?_)
         refine DW.fork (List.cons_ne_nil _ _) ?_ ?_
         ·refine DW.ta rfl rfl rfl rfl (T.appendFl (α := Shf) (fun _ _ _ h => h) (k := 0) sl23 rfl rfl hs4 rfl (by simp; omega) (by simp; omega)) (by decide) (fun v398 => ?_)
          refine DW.x (V := Value.agg [v397, v398].toArray) rfl rfl (OpX.own1 (k := 1) rfl trivial (defdB rfl) fun ho399 => (OpX.own1 (k := 0) rfl trivial (defdB rfl) fun ho400 => (X.build Try.zeroValue25 Try.runUnderlying25 (places25 _ Try.underlying25) rfl (by simp only [Instr.fill, one_cells ho399, one_cells ho400]; rfl)))) (by decide) ?_
          refine DW.tn rfl rfl rfl (T.alloc Try.zeroValue25 rfl) (by decide) fun b401 => ?_
          refine DW.ts rfl rfl rfl rfl (OpTo.own1 (k := 2) rfl trivial (defd2 rfl rfl rfl) fun ho402 => (OpTo.own1 (k := 1) rfl trivial (defd2 rfl rfl rfl) fun ho403 => (T.storeBA (k := 0) Try.sizeOf25 rfl rfl rfl (one_cons ho402 (one_cons ho403 one_nil)) rfl rfl))) ?_
          refine DW.nil ?_
          refine WK.nThen ?_
          exact WK.meet (m395, b401, v397, v398) rfl (.refl _) (.cons rfl (.cons rfl (.cons rfl (.cons rfl .nil)))) ⟨(Mem.le_trans hle368 hle396), hs2, hs4⟩
         ·refine DW.tn rfl rfl rfl (T.alloc Try.zeroValue25 rfl) (by decide) fun b404 => ?_
          refine DW.ta rfl rfl rfl rfl (T.appendFl (α := Shf) (fun _ _ _ h => h) (k := 1) sl23 rfl rfl hs4 rfl (by simp; omega) (by simp; omega)) (by decide) (fun v405 => ?_)
          refine DW.x (V := Value.agg [v397, v405].toArray) rfl rfl (OpX.own1 (k := 2) rfl trivial (defdB rfl) fun ho406 => (OpX.own1 (k := 1) rfl trivial (defdB rfl) fun ho407 => (X.build Try.zeroValue25 Try.runUnderlying25 (places25 _ Try.underlying25) rfl (by simp only [Instr.fill, one_cells ho406, one_cells ho407]; rfl)))) (by decide) ?_
          refine DW.ts rfl rfl rfl rfl (OpTo.own1 (k := 2) rfl trivial (defd2 rfl rfl rfl) fun ho408 => (OpTo.own1 (k := 1) rfl trivial (defd2 rfl rfl rfl) fun ho409 => (T.storeBA (k := 0) Try.sizeOf25 rfl rfl rfl (one_cons ho408 (one_cons ho409 one_nil)) rfl rfl))) ?_
          refine DW.nil ?_
          refine WK.nThen ?_
          exact WK.meet (m395, b404, v397, v405) rfl (.refl _) (.cons rfl (.cons rfl (.cons rfl (.cons rfl .nil)))) ⟨(Mem.le_trans hle368 hle396), hs2, hs4⟩
        ·refine DW.tn rfl rfl rfl (T.alloc Try.zeroValue25 rfl) (by decide) fun b410 => ?_
         refine DW.ta rfl rfl rfl rfl (T.appendFl (α := Val) (fun _ _ _ h => h) (k := 2) sl22 rfl rfl hs2 rfl (by simp; omega) (by simp; omega)) (by decide) (fun v411 => ?_)
         refine DW.ta rfl rfl rfl rfl (T.appendFl (α := Shf) (fun _ _ _ h => h) (k := 1) sl23 rfl rfl hs4 rfl (by simp; omega) (by simp; omega)) (by decide) (fun v412 => ?_)
         refine DW.x (V := Value.agg [v411, v412].toArray) rfl rfl (OpX.own1 (k := 2) rfl trivial (defdB rfl) fun ho413 => (OpX.own1 (k := 1) rfl trivial (defdB rfl) fun ho414 => (X.build Try.zeroValue25 Try.runUnderlying25 (places25 _ Try.underlying25) rfl (by simp only [Instr.fill, one_cells ho413, one_cells ho414]; rfl)))) (by decide) ?_
         refine DW.ts rfl rfl rfl rfl (OpTo.own1 (k := 2) rfl trivial (defd2 rfl rfl rfl) fun ho415 => (OpTo.own1 (k := 1) rfl trivial (defd2 rfl rfl rfl) fun ho416 => (T.storeBA (k := 0) Try.sizeOf25 rfl rfl rfl (one_cons ho415 (one_cons ho416 one_nil)) rfl rfl))) ?_
         refine DW.nil ?_
         refine WK.nThen ?_
         exact WK.meet (m395, b410, v411, v412) rfl (.refl _) (.cons rfl (.cons rfl (.cons rfl (.cons rfl .nil)))) ⟨(Mem.le_trans hle368 hle396), hs2, hs4⟩
       ·refine DW.tn rfl rfl rfl (T.alloc Try.zeroValue25 rfl) (by decide) fun b417 => ?_
        refine DW.fork (List.cons_ne_nil _ _) ?_ ?_
        ·refine DW.ta rfl rfl rfl rfl (T.appendFl (α := Val) (fun _ _ _ h => h) (k := 1) sl22 rfl rfl hs2 rfl (by simp; omega) (by simp; omega)) (by decide) (fun v418 => ?_)
         refine DW.tO rfl rfl rfl (OpTo.taO (T.lit0 (α := Shf) sl23 rfl)) (by decide) (fun m420 Es_ v419 hle421 hR_ => ?_)
         subst hR_
         replace hs2 := hs2.mono hle421
         replace hs4 := hs4.mono hle421
         refine DW.ta rfl rfl rfl rfl (T.appendFl (α := Shf) (fun _ _ _ h => h) (k := 0) sl23 rfl rfl hs4 rfl (by simp; omega) (by simp; omega)) (by decide) (fun v422 => ?_)
         refine DW.x (V := Value.agg [v418, v422].toArray) rfl rfl (OpX.own1 (k := 2) rfl trivial (defdB rfl) fun ho423 => (OpX.own1 (k := 0) rfl trivial (defdB rfl) fun ho424 => (X.build Try.zeroValue25 Try.runUnderlying25 (places25 _ Try.underlying25) rfl (by simp only [Instr.fill, one_cells ho423, one_cells ho424]; rfl)))) (by decide) ?_
         refine DW.ts rfl rfl rfl rfl (OpTo.own1 (k := 2) rfl trivial (defd2 rfl rfl rfl) fun ho425 => (OpTo.own1 (k := 0) rfl trivial (defd2 rfl rfl rfl) fun ho426 => (T.storeBA (k := 1) Try.sizeOf25 rfl rfl rfl (one_cons ho425 (one_cons ho426 one_nil)) rfl rfl))) ?_
         refine DW.nil ?_
         refine WK.nThen ?_
         refine WK.perm [blk b417 25 [v418, v422], rowF (v422) 72 ([] ++ s.Shifts), rowF (v418) 62 ([] ++ s.Values), blk b9 25 [.slice none 0 0, .slice none 0 0], blk b8 97 [.bool (x.Shift), .int .i64 (x.At), .int .i64 (x.Lo), .int .i64 (x.Hi)], blk b7 25 [v1, v3]] ((List.Perm.cons _ (.refl _)).trans (List.perm_middle (l₁ := [rowF (v422) 72 ([] ++ s.Shifts)]) (l₂ := [rowF (v418) 62 ([] ++ s.Values), blk b9 25 [.slice none 0 0, .slice none 0 0], blk b8 97 [.bool (x.Shift), .int .i64 (x.At), .int .i64 (x.Lo), .int .i64 (x.Hi)], blk b7 25 [v1, v3]]) (a := blk b417 25 [v418, v422])).symm) ?_
         exact WK.meet (m420, b417, v418, v422) rfl (.refl _) (.cons rfl (.cons rfl (.cons rfl (.cons rfl .nil)))) ⟨(Mem.le_trans hle368 hle421), hs2, hs4⟩
        ·refine DW.tO rfl rfl rfl (OpTo.taO (T.lit0 (α := Shf) sl23 rfl)) (by decide) (fun m428 Es_ v427 hle429 hR_ => ?_)
         subst hR_
         replace hs2 := hs2.mono hle429
         replace hs4 := hs4.mono hle429
         refine DW.ta rfl rfl rfl rfl (T.appendFl (α := Val) (fun _ _ _ h => h) (k := 2) sl22 rfl rfl hs2 rfl (by simp; omega) (by simp; omega)) (by decide) (fun v430 => ?_)
         refine DW.ta rfl rfl rfl rfl (T.appendFl (α := Shf) (fun _ _ _ h => h) (k := 0) sl23 rfl rfl hs4 rfl (by simp; omega) (by simp; omega)) (by decide) (fun v431 => ?_)
         refine DW.x (V := Value.agg [v430, v431].toArray) rfl rfl (OpX.own1 (k := 2) rfl trivial (defdB rfl) fun ho432 => (OpX.own1 (k := 0) rfl trivial (defdB rfl) fun ho433 => (X.build Try.zeroValue25 Try.runUnderlying25 (places25 _ Try.underlying25) rfl (by simp only [Instr.fill, one_cells ho432, one_cells ho433]; rfl)))) (by decide) ?_
         refine DW.ts rfl rfl rfl rfl (OpTo.own1 (k := 2) rfl trivial (defd2 rfl rfl rfl) fun ho434 => (OpTo.own1 (k := 0) rfl trivial (defd2 rfl rfl rfl) fun ho435 => (T.storeBA (k := 1) Try.sizeOf25 rfl rfl rfl (one_cons ho434 (one_cons ho435 one_nil)) rfl rfl))) ?_
         refine DW.nil ?_
         refine WK.nThen ?_
         refine WK.perm [blk b417 25 [v430, v431], rowF (v431) 72 ([] ++ s.Shifts), rowF (v430) 62 ([] ++ s.Values), blk b9 25 [.slice none 0 0, .slice none 0 0], blk b8 97 [.bool (x.Shift), .int .i64 (x.At), .int .i64 (x.Lo), .int .i64 (x.Hi)], blk b7 25 [v1, v3]] ((List.Perm.cons _ (.refl _)).trans (List.perm_middle (l₁ := [rowF (v431) 72 ([] ++ s.Shifts)]) (l₂ := [rowF (v430) 62 ([] ++ s.Values), blk b9 25 [.slice none 0 0, .slice none 0 0], blk b8 97 [.bool (x.Shift), .int .i64 (x.At), .int .i64 (x.Lo), .int .i64 (x.Hi)], blk b7 25 [v1, v3]]) (a := blk b417 25 [v430, v431])).symm) ?_
         exact WK.meet (m428, b417, v430, v431) rfl (.refl _) (.cons rfl (.cons rfl (.cons rfl (.cons rfl .nil)))) ⟨(Mem.le_trans hle368 hle429), hs2, hs4⟩
     ·refine DW.fork (List.cons_ne_nil _ _) ?_ ?_
      ·refine DW.tO rfl rfl rfl (OpTo.taO (T.lit0 (α := Shf) sl23 rfl)) (by decide) (fun m437 Es_ v436 hle438 hR_ => ?_)
       subst hR_
       replace hs2 := hs2.mono hle438
       replace hs4 := hs4.mono hle438
       refine DW.fork (List.cons_ne_nil _ _) ?_ ?_
       ·refine DW.tO rfl rfl rfl (OpTo.taO (T.lit0 (α := Val) sl22 rfl)) (by decide) (fun m440 Es_ v439 hle441 hR_ => ?_)
        subst hR_
        replace hs2 := hs2.mono hle441
        replace hs4 := hs4.mono hle441
        refine DW.fork (List.cons_ne_nil _ _) ?_ ?_
        ·refine DW.ta rfl rfl rfl rfl (T.appendFl (α := Val) (fun _ _ _ h => h) (k := 0) sl22 rfl rfl hs2 rfl (by simp; omega) (by simp; omega)) (by decide) (fun v442 => ?_)
         refine DW.fork (List.cons_ne_nil _ _) ?_ ?_
         ·refine DW.ta rfl rfl rfl rfl (T.appendFl (α := Shf) (fun _ _ _ h => h) (k := 1) sl23 rfl rfl hs4 rfl (by simp; omega) (by simp; omega)) (by decide) (fun v443 => ?_)
          refine DW.x (V := Value.agg [v442, v443].toArray) rfl rfl (OpX.own1 (k := 0) rfl trivial (defdB rfl) fun ho444 => (OpX.own1 (k := 1) rfl trivial (defdB rfl) fun ho445 => (X.build Try.zeroValue25 Try.runUnderlying25 (places25 _ Try.underlying25) rfl (by simp only [Instr.fill, one_cells ho444, one_cells ho445]; rfl)))) (by decide) ?_
          refine DW.tn rfl rfl rfl (T.alloc Try.zeroValue25 rfl) (by decide) fun b446 => ?_
          refine DW.ts rfl rfl rfl rfl (OpTo.own1 (k := 1) rfl trivial (defd2 rfl rfl rfl) fun ho447 => (OpTo.own1 (k := 2) rfl trivial (defd2 rfl rfl rfl) fun ho448 => (T.storeBA (k := 0) Try.sizeOf25 rfl rfl rfl (one_cons ho447 (one_cons ho448 one_nil)) rfl rfl))) ?_
          refine DW.nil ?_
          refine WK.nThen ?_
          refine WK.perm [blk b446 25 [v442, v443], rowF (v443) 72 ([] ++ s.Shifts), rowF (v442) 62 ([] ++ s.Values), blk b9 25 [.slice none 0 0, .slice none 0 0], blk b8 97 [.bool (x.Shift), .int .i64 (x.At), .int .i64 (x.Lo), .int .i64 (x.Hi)], blk b7 25 [v1, v3]] (List.Perm.cons _ ((List.Perm.cons _ (.refl _)).trans (List.perm_middle (l₁ := [rowF (v442) 62 ([] ++ s.Values)]) (l₂ := [blk b9 25 [.slice none 0 0, .slice none 0 0], blk b8 97 [.bool (x.Shift), .int .i64 (x.At), .int .i64 (x.Lo), .int .i64 (x.Hi)], blk b7 25 [v1, v3]]) (a := rowF (v443) 72 ([] ++ s.Shifts))).symm)) ?_
          exact WK.meet (m440, b446, v442, v443) rfl (.refl _) (.cons rfl (.cons rfl (.cons rfl (.cons rfl .nil)))) ⟨(Mem.le_trans hle438 hle441), hs2, hs4⟩
         ·refine DW.tn rfl rfl rfl (T.alloc Try.zeroValue25 rfl) (by decide) fun b449 => ?_
          refine DW.ta rfl rfl rfl rfl (T.appendFl (α := Shf) (fun _ _ _ h => h) (k := 2) sl23 rfl rfl hs4 rfl (by simp; omega) (by simp; omega)) (by decide) (fun v450 => ?_)
          refine DW.x (V := Value.agg [v442, v450].toArray) rfl rfl (OpX.own1 (k := 1) rfl trivial (defdB rfl) fun ho451 => (OpX.own1 (k := 2) rfl trivial (defdB rfl) fun ho452 => (X.build Try.zeroValue25 Try.runUnderlying25 (places25 _ Try.underlying25) rfl (by simp only [Instr.fill, one_cells ho451, one_cells ho452]; rfl)))) (by decide) ?_
          refine DW.ts rfl rfl rfl rfl (OpTo.own1 (k := 1) rfl trivial (defd2 rfl rfl rfl) fun ho453 => (OpTo.own1 (k := 2) rfl trivial (defd2 rfl rfl rfl) fun ho454 => (T.storeBA (k := 0) Try.sizeOf25 rfl rfl rfl (one_cons ho453 (one_cons ho454 one_nil)) rfl rfl))) ?_
          refine DW.nil ?_
          refine WK.nThen ?_
          refine WK.perm [blk b449 25 [v442, v450], rowF (v450) 72 ([] ++ s.Shifts), rowF (v442) 62 ([] ++ s.Values), blk b9 25 [.slice none 0 0, .slice none 0 0], blk b8 97 [.bool (x.Shift), .int .i64 (x.At), .int .i64 (x.Lo), .int .i64 (x.Hi)], blk b7 25 [v1, v3]] (List.Perm.cons _ ((List.Perm.cons _ (.refl _)).trans (List.perm_middle (l₁ := [rowF (v442) 62 ([] ++ s.Values)]) (l₂ := [blk b9 25 [.slice none 0 0, .slice none 0 0], blk b8 97 [.bool (x.Shift), .int .i64 (x.At), .int .i64 (x.Lo), .int .i64 (x.Hi)], blk b7 25 [v1, v3]]) (a := rowF (v450) 72 ([] ++ s.Shifts))).symm)) ?_
          exact WK.meet (m440, b449, v442, v450) rfl (.refl _) (.cons rfl (.cons rfl (.cons rfl (.cons rfl .nil)))) ⟨(Mem.le_trans hle438 hle441), hs2, hs4⟩
        ·refine DW.tn rfl rfl rfl (T.alloc Try.zeroValue25 rfl) (by decide) fun b455 => ?_
         refine DW.ta rfl rfl rfl rfl (T.appendFl (α := Val) (fun _ _ _ h => h) (k := 1) sl22 rfl rfl hs2 rfl (by simp; omega) (by simp; omega)) (by decide) (fun v456 => ?_)
         refine DW.ta rfl rfl rfl rfl (T.appendFl (α := Shf) (fun _ _ _ h => h) (k := 2) sl23 rfl rfl hs4 rfl (by simp; omega) (by simp; omega)) (by decide) (fun v457 => ?_)
         refine DW.x (V := Value.agg [v456, v457].toArray) rfl rfl (OpX.own1 (k := 1) rfl trivial (defdB rfl) fun ho458 => (OpX.own1 (k := 2) rfl trivial (defdB rfl) fun ho459 => (X.build Try.zeroValue25 Try.runUnderlying25 (places25 _ Try.underlying25) rfl (by simp only [Instr.fill, one_cells ho458, one_cells ho459]; rfl)))) (by decide) ?_
         refine DW.ts rfl rfl rfl rfl (OpTo.own1 (k := 1) rfl trivial (defd2 rfl rfl rfl) fun ho460 => (OpTo.own1 (k := 2) rfl trivial (defd2 rfl rfl rfl) fun ho461 => (T.storeBA (k := 0) Try.sizeOf25 rfl rfl rfl (one_cons ho460 (one_cons ho461 one_nil)) rfl rfl))) ?_
         refine DW.nil ?_
         refine WK.nThen ?_
         refine WK.perm [blk b455 25 [v456, v457], rowF (v457) 72 ([] ++ s.Shifts), rowF (v456) 62 ([] ++ s.Values), blk b9 25 [.slice none 0 0, .slice none 0 0], blk b8 97 [.bool (x.Shift), .int .i64 (x.At), .int .i64 (x.Lo), .int .i64 (x.Hi)], blk b7 25 [v1, v3]] (List.Perm.cons _ ((List.Perm.cons _ (.refl _)).trans (List.perm_middle (l₁ := [rowF (v456) 62 ([] ++ s.Values)]) (l₂ := [blk b9 25 [.slice none 0 0, .slice none 0 0], blk b8 97 [.bool (x.Shift), .int .i64 (x.At), .int .i64 (x.Lo), .int .i64 (x.Hi)], blk b7 25 [v1, v3]]) (a := rowF (v457) 72 ([] ++ s.Shifts))).symm)) ?_
         exact WK.meet (m440, b455, v456, v457) rfl (.refl _) (.cons rfl (.cons rfl (.cons rfl (.cons rfl .nil)))) ⟨(Mem.le_trans hle438 hle441), hs2, hs4⟩
       ·refine DW.tn rfl rfl rfl (T.alloc Try.zeroValue25 rfl) (by decide) fun b462 => ?_
        refine DW.tO rfl rfl rfl (OpTo.taO (T.lit0 (α := Val) sl22 rfl)) (by decide) (fun m464 Es_ v463 hle465 hR_ => ?_)
        subst hR_
        replace hs2 := hs2.mono hle465
        replace hs4 := hs4.mono hle465
        refine DW.ta rfl rfl rfl rfl (T.appendFl (α := Val) (fun _ _ _ h => h) (k := 0) sl22 rfl rfl hs2 rfl (by simp; omega) (by simp; omega)) (by decide) (fun v466 => ?_)
        refine DW.ta rfl rfl rfl rfl (T.appendFl (α := Shf) (fun _ _ _ h => h) (k := 2) sl23 rfl rfl hs4 rfl (by simp; omega) (by simp; omega)) (by decide) (fun v467 => ?_)
        refine DW.x (V := Value.agg [v466, v467].toArray) rfl rfl (OpX.own1 (k := 0) rfl trivial (defdB rfl) fun ho468 => (OpX.own1 (k := 2) rfl trivial (defdB rfl) fun ho469 => (X.build Try.zeroValue25 Try.runUnderlying25 (places25 _ Try.underlying25) rfl (by simp only [Instr.fill, one_cells ho468, one_cells ho469]; rfl)))) (by decide) ?_
        refine DW.ts rfl rfl rfl rfl (OpTo.own1 (k := 0) rfl trivial (defd2 rfl rfl rfl) fun ho470 => (OpTo.own1 (k := 2) rfl trivial (defd2 rfl rfl rfl) fun ho471 => (T.storeBA (k := 1) Try.sizeOf25 rfl rfl rfl (one_cons ho470 (one_cons ho471 one_nil)) rfl rfl))) ?_
        refine DW.nil ?_
        refine WK.nThen ?_
        refine WK.perm [blk b462 25 [v466, v467], rowF (v467) 72 ([] ++ s.Shifts), rowF (v466) 62 ([] ++ s.Values), blk b9 25 [.slice none 0 0, .slice none 0 0], blk b8 97 [.bool (x.Shift), .int .i64 (x.At), .int .i64 (x.Lo), .int .i64 (x.Hi)], blk b7 25 [v1, v3]] ((List.Perm.cons _ ((List.Perm.cons _ (.refl _)).trans (List.perm_middle (l₁ := [rowF (v466) 62 ([] ++ s.Values)]) (l₂ := [blk b9 25 [.slice none 0 0, .slice none 0 0], blk b8 97 [.bool (x.Shift), .int .i64 (x.At), .int .i64 (x.Lo), .int .i64 (x.Hi)], blk b7 25 [v1, v3]]) (a := rowF (v467) 72 ([] ++ s.Shifts))).symm)).trans (List.perm_middle (l₁ := [rowF (v466) 62 ([] ++ s.Values)]) (l₂ := [rowF (v467) 72 ([] ++ s.Shifts), blk b9 25 [.slice none 0 0, .slice none 0 0], blk b8 97 [.bool (x.Shift), .int .i64 (x.At), .int .i64 (x.Lo), .int .i64 (x.Hi)], blk b7 25 [v1, v3]]) (a := blk b462 25 [v466, v467])).symm) ?_
        exact WK.meet (m464, b462, v466, v467) rfl (.refl _) (.cons rfl (.cons rfl (.cons rfl (.cons rfl .nil)))) ⟨(Mem.le_trans hle438 hle465), hs2, hs4⟩
      ·refine DW.tn rfl rfl rfl (T.alloc Try.zeroValue25 rfl) (by decide) fun b472 => ?_
       refine DW.fork (List.cons_ne_nil _ _) ?_ ?_
       ·refine DW.tO rfl rfl rfl (OpTo.taO (T.lit0 (α := Val) sl22 rfl)) (by decide) (fun m474 Es_ v473 hle475 hR_ => ?_)
        subst hR_
        replace hs2 := hs2.mono hle475
        replace hs4 := hs4.mono hle475
        refine DW.fork (List.cons_ne_nil _ _) ?_ ?_
        ·refine DW.ta rfl rfl rfl rfl (T.appendFl (α := Val) (fun _ _ _ h => h) (k := 0) sl22 rfl rfl hs2 rfl (by simp; omega) (by simp; omega)) (by decide) (fun v476 => ?_)
         refine DW.tO rfl rfl rfl (OpTo.taO (T.lit0 (α := Shf) sl23 rfl)) (by decide) (fun m478 Es_ v477 hle479 hR_ => ?_)
         subst hR_
         replace hs2 := hs2.mono hle479
         replace hs4 := hs4.mono hle479
         refine DW.ta rfl rfl rfl rfl (T.appendFl (α := Shf) (fun _ _ _ h => h) (k := 0) sl23 rfl rfl hs4 rfl (by simp; omega) (by simp; omega)) (by decide) (fun v480 => ?_)
         refine DW.x (V := Value.agg [v476, v480].toArray) rfl rfl (OpX.own1 (k := 1) rfl trivial (defdB rfl) fun ho481 => (OpX.own1 (k := 0) rfl trivial (defdB rfl) fun ho482 => (X.build Try.zeroValue25 Try.runUnderlying25 (places25 _ Try.underlying25) rfl (by simp only [Instr.fill, one_cells ho481, one_cells ho482]; rfl)))) (by decide) ?_
         refine DW.ts rfl rfl rfl rfl (OpTo.own1 (k := 1) rfl trivial (defd2 rfl rfl rfl) fun ho483 => (OpTo.own1 (k := 0) rfl trivial (defd2 rfl rfl rfl) fun ho484 => (T.storeBA (k := 2) Try.sizeOf25 rfl rfl rfl (one_cons ho483 (one_cons ho484 one_nil)) rfl rfl))) ?_
         refine DW.nil ?_
         refine WK.nThen ?_
         refine WK.perm [blk b472 25 [v476, v480], rowF (v480) 72 ([] ++ s.Shifts), rowF (v476) 62 ([] ++ s.Values), blk b9 25 [.slice none 0 0, .slice none 0 0], blk b8 97 [.bool (x.Shift), .int .i64 (x.At), .int .i64 (x.Lo), .int .i64 (x.Hi)], blk b7 25 [v1, v3]] ((List.Perm.cons _ (.refl _)).trans (List.perm_middle (l₁ := [rowF (v480) 72 ([] ++ s.Shifts), rowF (v476) 62 ([] ++ s.Values)]) (l₂ := [blk b9 25 [.slice none 0 0, .slice none 0 0], blk b8 97 [.bool (x.Shift), .int .i64 (x.At), .int .i64 (x.Lo), .int .i64 (x.Hi)], blk b7 25 [v1, v3]]) (a := blk b472 25 [v476, v480])).symm) ?_
         exact WK.meet (m478, b472, v476, v480) rfl (.refl _) (.cons rfl (.cons rfl (.cons rfl (.cons rfl .nil)))) ⟨(Mem.le_trans hle475 hle479), hs2, hs4⟩
        ·refine DW.tO rfl rfl rfl (OpTo.taO (T.lit0 (α := Shf) sl23 rfl)) (by decide) (fun m486 Es_ v485 hle487 hR_ => ?_)
         subst hR_
         replace hs2 := hs2.mono hle487
         replace hs4 := hs4.mono hle487
         refine DW.ta rfl rfl rfl rfl (T.appendFl (α := Val) (fun _ _ _ h => h) (k := 1) sl22 rfl rfl hs2 rfl (by simp; omega) (by simp; omega)) (by decide) (fun v488 => ?_)
         refine DW.ta rfl rfl rfl rfl (T.appendFl (α := Shf) (fun _ _ _ h => h) (k := 0) sl23 rfl rfl hs4 rfl (by simp; omega) (by simp; omega)) (by decide) (fun v489 => ?_)
         refine DW.x (V := Value.agg [v488, v489].toArray) rfl rfl (OpX.own1 (k := 1) rfl trivial (defdB rfl) fun ho490 => (OpX.own1 (k := 0) rfl trivial (defdB rfl) fun ho491 => (X.build Try.zeroValue25 Try.runUnderlying25 (places25 _ Try.underlying25) rfl (by simp only [Instr.fill, one_cells ho490, one_cells ho491]; rfl)))) (by decide) ?_
         refine DW.ts rfl rfl rfl rfl (OpTo.own1 (k := 1) rfl trivial (defd2 rfl rfl rfl) fun ho492 => (OpTo.own1 (k := 0) rfl trivial (defd2 rfl rfl rfl) fun ho493 => (T.storeBA (k := 2) Try.sizeOf25 rfl rfl rfl (one_cons ho492 (one_cons ho493 one_nil)) rfl rfl))) ?_
         refine DW.nil ?_
         refine WK.nThen ?_
         refine WK.perm [blk b472 25 [v488, v489], rowF (v489) 72 ([] ++ s.Shifts), rowF (v488) 62 ([] ++ s.Values), blk b9 25 [.slice none 0 0, .slice none 0 0], blk b8 97 [.bool (x.Shift), .int .i64 (x.At), .int .i64 (x.Lo), .int .i64 (x.Hi)], blk b7 25 [v1, v3]] ((List.Perm.cons _ (.refl _)).trans (List.perm_middle (l₁ := [rowF (v489) 72 ([] ++ s.Shifts), rowF (v488) 62 ([] ++ s.Values)]) (l₂ := [blk b9 25 [.slice none 0 0, .slice none 0 0], blk b8 97 [.bool (x.Shift), .int .i64 (x.At), .int .i64 (x.Lo), .int .i64 (x.Hi)], blk b7 25 [v1, v3]]) (a := blk b472 25 [v488, v489])).symm) ?_
         exact WK.meet (m486, b472, v488, v489) rfl (.refl _) (.cons rfl (.cons rfl (.cons rfl (.cons rfl .nil)))) ⟨(Mem.le_trans hle475 hle487), hs2, hs4⟩
       ·refine DW.tO rfl rfl rfl (OpTo.taO (T.lit0 (α := Shf) sl23 rfl)) (by decide) (fun m495 Es_ v494 hle496 hR_ => ?_)
        subst hR_
        replace hs2 := hs2.mono hle496
        replace hs4 := hs4.mono hle496
        refine DW.tO rfl rfl rfl (OpTo.taO (T.lit0 (α := Val) sl22 rfl)) (by decide) (fun m498 Es_ v497 hle499 hR_ => ?_)
        subst hR_
        replace hs2 := hs2.mono hle499
        replace hs4 := hs4.mono hle499
        refine DW.ta rfl rfl rfl rfl (T.appendFl (α := Val) (fun _ _ _ h => h) (k := 0) sl22 rfl rfl hs2 rfl (by simp; omega) (by simp; omega)) (by decide) (fun v500 => ?_)
        refine DW.ta rfl rfl rfl rfl (T.appendFl (α := Shf) (fun _ _ _ h => h) (k := 1) sl23 rfl rfl hs4 rfl (by simp; omega) (by simp; omega)) (by decide) (fun v501 => ?_)
        refine DW.x (V := Value.agg [v500, v501].toArray) rfl rfl (OpX.own1 (k := 0) rfl trivial (defdB rfl) fun ho502 => (OpX.own1 (k := 1) rfl trivial (defdB rfl) fun ho503 => (X.build Try.zeroValue25 Try.runUnderlying25 (places25 _ Try.underlying25) rfl (by simp only [Instr.fill, one_cells ho502, one_cells ho503]; rfl)))) (by decide) ?_
        refine DW.ts rfl rfl rfl rfl (OpTo.own1 (k := 0) rfl trivial (defd2 rfl rfl rfl) fun ho504 => (OpTo.own1 (k := 1) rfl trivial (defd2 rfl rfl rfl) fun ho505 => (T.storeBA (k := 2) Try.sizeOf25 rfl rfl rfl (one_cons ho504 (one_cons ho505 one_nil)) rfl rfl))) ?_
        refine DW.nil ?_
        refine WK.nThen ?_
        refine WK.perm [blk b472 25 [v500, v501], rowF (v501) 72 ([] ++ s.Shifts), rowF (v500) 62 ([] ++ s.Values), blk b9 25 [.slice none 0 0, .slice none 0 0], blk b8 97 [.bool (x.Shift), .int .i64 (x.At), .int .i64 (x.Lo), .int .i64 (x.Hi)], blk b7 25 [v1, v3]] ((List.Perm.cons _ ((List.Perm.cons _ (.refl _)).trans (List.perm_middle (l₁ := [rowF (v500) 62 ([] ++ s.Values)]) (l₂ := [blk b9 25 [.slice none 0 0, .slice none 0 0], blk b8 97 [.bool (x.Shift), .int .i64 (x.At), .int .i64 (x.Lo), .int .i64 (x.Hi)], blk b7 25 [v1, v3]]) (a := rowF (v501) 72 ([] ++ s.Shifts))).symm)).trans (List.perm_middle (l₁ := [rowF (v500) 62 ([] ++ s.Values), rowF (v501) 72 ([] ++ s.Shifts)]) (l₂ := [blk b9 25 [.slice none 0 0, .slice none 0 0], blk b8 97 [.bool (x.Shift), .int .i64 (x.At), .int .i64 (x.Lo), .int .i64 (x.Hi)], blk b7 25 [v1, v3]]) (a := blk b472 25 [v500, v501])).symm) ?_
        exact WK.meet (m498, b472, v500, v501) rfl (.refl _) (.cons rfl (.cons rfl (.cons rfl (.cons rfl .nil)))) ⟨(Mem.le_trans hle496 hle499), hs2, hs4⟩
    ·refine DW.tn rfl rfl rfl (T.alloc Try.zeroValue25 rfl) (by decide) fun b506 => ?_
     refine DW.fork (List.cons_ne_nil _ _) ?_ ?_
     ·refine DW.tO rfl rfl rfl (OpTo.taO (T.lit0 (α := Val) sl22 rfl)) (by decide) (fun m508 Es_ v507 hle509 hR_ => ?_)
      subst hR_
      replace hs2 := hs2.mono hle509
      replace hs4 := hs4.mono hle509
      refine DW.fork (List.cons_ne_nil _ _) ?_ ?_
      ·refine DW.ta rfl rfl rfl rfl (T.appendFl (α := Val) (fun _ _ _ h => h) (k := 0) sl22 rfl rfl hs2 rfl (by simp; omega) (by simp; omega)) (by decide) (fun v510 => ?_)
       refine DW.fork (List.cons_ne_nil _ _) ?_ ?_
       ·refine DW.tO rfl rfl rfl (OpTo.taO (T.lit0 (α := Shf) sl23 rfl)) (by decide) (fun m512 Es_ v511 hle513 hR_ => ?_)
        subst hR_
        replace hs2 := hs2.mono hle513
        replace hs4 := hs4.mono hle513
        refine DW.xp rfl rfl rfl (fun _ => (X.loadB (k := 5) Try.isAgg23 rfl rfl rfl)) (by decide) ?_
        refine DW.ta rfl rfl rfl rfl (T.appendFl (α := Shf) (fun _ _ _ h => h) (k := 0) sl23 rfl rfl hs4 rfl (by simp; omega) (by simp; omega)) (by decide) (fun v514 => ?_)
        refine DW.x (V := Value.agg [v510, v514].toArray) rfl rfl (OpX.own1 (k := 1) rfl trivial (defdB rfl) fun ho515 => (OpX.own1 (k := 0) rfl trivial (defdB rfl) fun ho516 => (X.build Try.zeroValue25 Try.runUnderlying25 (places25 _ Try.underlying25) rfl (by simp only [Instr.fill, one_cells ho515, one_cells ho516]; rfl)))) (by decide) ?_
        refine DW.ts rfl rfl rfl rfl (OpTo.own1 (k := 1) rfl trivial (defd2 rfl rfl rfl) fun ho517 => (OpTo.own1 (k := 0) rfl trivial (defd2 rfl rfl rfl) fun ho518 => (T.storeBA (k := 2) Try.sizeOf25 rfl rfl rfl (one_cons ho517 (one_cons ho518 one_nil)) rfl rfl))) ?_
        refine DW.nil ?_
        refine WK.nThen ?_
        refine WK.perm [blk b506 25 [v510, v514], rowF (v514) 72 ([] ++ s.Shifts), rowF (v510) 62 ([] ++ s.Values), blk b9 25 [.slice none 0 0, .slice none 0 0], blk b8 97 [.bool (x.Shift), .int .i64 (x.At), .int .i64 (x.Lo), .int .i64 (x.Hi)], blk b7 25 [v1, v3]] ((List.Perm.cons _ (.refl _)).trans (List.perm_middle (l₁ := [rowF (v514) 72 ([] ++ s.Shifts), rowF (v510) 62 ([] ++ s.Values)]) (l₂ := [blk b9 25 [.slice none 0 0, .slice none 0 0], blk b8 97 [.bool (x.Shift), .int .i64 (x.At), .int .i64 (x.Lo), .int .i64 (x.Hi)], blk b7 25 [v1, v3]]) (a := blk b506 25 [v510, v514])).symm) ?_
        exact WK.meet (m512, b506, v510, v514) rfl (.refl _) (.cons rfl (.cons rfl (.cons rfl (.cons rfl .nil)))) ⟨(Mem.le_trans hle509 hle513), hs2, hs4⟩
       ·refine DW.xp rfl rfl rfl (fun _ => (X.loadB (k := 4) Try.isAgg23 rfl rfl rfl)) (by decide) ?_
        refine DW.tO rfl rfl rfl (OpTo.taO (T.lit0 (α := Shf) sl23 rfl)) (by decide) (fun m520 Es_ v519 hle521 hR_ => ?_)
        subst hR_
        replace hs2 := hs2.mono hle521
        replace hs4 := hs4.mono hle521
        refine DW.ta rfl rfl rfl rfl (T.appendFl (α := Shf) (fun _ _ _ h => h) (k := 0) sl23 rfl rfl hs4 rfl (by simp; omega) (by simp; omega)) (by decide) (fun v522 => ?_)
        refine DW.x (V := Value.agg [v510, v522].toArray) rfl rfl (OpX.own1 (k := 1) rfl trivial (defdB rfl) fun ho523 => (OpX.own1 (k := 0) rfl trivial (defdB rfl) fun ho524 => (X.build Try.zeroValue25 Try.runUnderlying25 (places25 _ Try.underlying25) rfl (by simp only [Instr.fill, one_cells ho523, one_cells ho524]; rfl)))) (by decide) ?_
        refine DW.ts rfl rfl rfl rfl (OpTo.own1 (k := 1) rfl trivial (defd2 rfl rfl rfl) fun ho525 => (OpTo.own1 (k := 0) rfl trivial (defd2 rfl rfl rfl) fun ho526 => (T.storeBA (k := 2) Try.sizeOf25 rfl rfl rfl (one_cons ho525 (one_cons ho526 one_nil)) rfl rfl))) ?_
        refine DW.nil ?_
        refine WK.nThen ?_
        refine WK.perm [blk b506 25 [v510, v522], rowF (v522) 72 ([] ++ s.Shifts), rowF (v510) 62 ([] ++ s.Values), blk b9 25 [.slice none 0 0, .slice none 0 0], blk b8 97 [.bool (x.Shift), .int .i64 (x.At), .int .i64 (x.Lo), .int .i64 (x.Hi)], blk b7 25 [v1, v3]] ((List.Perm.cons _ (.refl _)).trans (List.perm_middle (l₁ := [rowF (v522) 72 ([] ++ s.Shifts), rowF (v510) 62 ([] ++ s.Values)]) (l₂ := [blk b9 25 [.slice none 0 0, .slice none 0 0], blk b8 97 [.bool (x.Shift), .int .i64 (x.At), .int .i64 (x.Lo), .int .i64 (x.Hi)], blk b7 25 [v1, v3]]) (a := blk b506 25 [v510, v522])).symm) ?_
        exact WK.meet (m520, b506, v510, v522) rfl (.refl _) (.cons rfl (.cons rfl (.cons rfl (.cons rfl .nil)))) ⟨(Mem.le_trans hle509 hle521), hs2, hs4⟩
      ·refine DW.fork (List.cons_ne_nil _ _) ?_ ?_
       ·refine DW.tO rfl rfl rfl (OpTo.taO (T.lit0 (α := Shf) sl23 rfl)) (by decide) (fun m528 Es_ v527 hle529 hR_ => ?_)
        subst hR_
        replace hs2 := hs2.mono hle529
        replace hs4 := hs4.mono hle529
        refine DW.fork (List.cons_ne_nil _ _) ?_ ?_
        ·refine DW.ta rfl rfl rfl rfl (T.appendFl (α := Val) (fun _ _ _ h => h) (k := 1) sl22 rfl rfl hs2 rfl (by simp; omega) (by simp; omega)) (by decide) (fun v530 => ?_)
         refine DW.xp rfl rfl rfl (fun _ => (X.loadB (k := 5) Try.isAgg23 rfl rfl rfl)) (by decide) ?_
         refine DW.ta rfl rfl rfl rfl (T.appendFl (α := Shf) (fun _ _ _ h => h) (k := 0) sl23 rfl rfl hs4 rfl (by simp; omega) (by simp; omega)) (by decide) (fun v531 => ?_)
         refine DW.x (V := Value.agg [v530, v531].toArray) rfl rfl (OpX.own1 (k := 1) rfl trivial (defdB rfl) fun ho532 => (OpX.own1 (k := 0) rfl trivial (defdB rfl) fun ho533 => (X.build Try.zeroValue25 Try.runUnderlying25 (places25 _ Try.underlying25) rfl (by simp only [Instr.fill, one_cells ho532, one_cells ho533]; rfl)))) (by decide) ?_
         refine DW.ts rfl rfl rfl rfl (OpTo.own1 (k := 1) rfl trivial (defd2 rfl rfl rfl) fun ho534 => (OpTo.own1 (k := 0) rfl trivial (defd2 rfl rfl rfl) fun ho535 => (T.storeBA (k := 2) Try.sizeOf25 rfl rfl rfl (one_cons ho534 (one_cons ho535 one_nil)) rfl rfl))) ?_
         refine DW.nil ?_
         refine WK.nThen ?_
         refine WK.perm [blk b506 25 [v530, v531], rowF (v531) 72 ([] ++ s.Shifts), rowF (v530) 62 ([] ++ s.Values), blk b9 25 [.slice none 0 0, .slice none 0 0], blk b8 97 [.bool (x.Shift), .int .i64 (x.At), .int .i64 (x.Lo), .int .i64 (x.Hi)], blk b7 25 [v1, v3]] ((List.Perm.cons _ (.refl _)).trans (List.perm_middle (l₁ := [rowF (v531) 72 ([] ++ s.Shifts), rowF (v530) 62 ([] ++ s.Values)]) (l₂ := [blk b9 25 [.slice none 0 0, .slice none 0 0], blk b8 97 [.bool (x.Shift), .int .i64 (x.At), .int .i64 (x.Lo), .int .i64 (x.Hi)], blk b7 25 [v1, v3]]) (a := blk b506 25 [v530, v531])).symm) ?_
         exact WK.meet (m528, b506, v530, v531) rfl (.refl _) (.cons rfl (.cons rfl (.cons rfl (.cons rfl .nil)))) ⟨(Mem.le_trans hle509 hle529), hs2, hs4⟩
        ·refine DW.xp rfl rfl rfl (fun _ => (X.loadB (k := 5) Try.isAgg23 rfl rfl rfl)) (by decide) ?_
         refine DW.ta rfl rfl rfl rfl (T.appendFl (α := Val) (fun _ _ _ h => h) (k := 1) sl22 rfl rfl hs2 rfl (by simp; omega) (by simp; omega)) (by decide) (fun v536 => ?_)
         refine DW.ta rfl rfl rfl rfl (T.appendFl (α := Shf) (fun _ _ _ h => h) (k := 0) sl23 rfl rfl hs4 rfl (by simp; omega) (by simp; omega)) (by decide) (fun v537 => ?_)
         refine DW.x (V := Value.agg [v536, v537].toArray) rfl rfl (OpX.own1 (k := 1) rfl trivial (defdB rfl) fun ho538 => (OpX.own1 (k := 0) rfl trivial (defdB rfl) fun ho539 => (X.build Try.zeroValue25 Try.runUnderlying25 (places25 _ Try.underlying25) rfl (by simp only [Instr.fill, one_cells ho538, one_cells ho539]; rfl)))) (by decide) ?_
         refine DW.ts rfl rfl rfl rfl (OpTo.own1 (k := 1) rfl trivial (defd2 rfl rfl rfl) fun ho540 => (OpTo.own1 (k := 0) rfl trivial (defd2 rfl rfl rfl) fun ho541 => (T.storeBA (k := 2) Try.sizeOf25 rfl rfl rfl (one_cons ho540 (one_cons ho541 one_nil)) rfl rfl))) ?_
         refine DW.nil ?_
         refine WK.nThen ?_
         refine WK.perm [blk b506 25 [v536, v537], rowF (v537) 72 ([] ++ s.Shifts), rowF (v536) 62 ([] ++ s.Values), blk b9 25 [.slice none 0 0, .slice none 0 0], blk b8 97 [.bool (x.Shift), .int .i64 (x.At), .int .i64 (x.Lo), .int .i64 (x.Hi)], blk b7 25 [v1, v3]] ((List.Perm.cons _ (.refl _)).trans (List.perm_middle (l₁ := [rowF (v537) 72 ([] ++ s.Shifts), rowF (v536) 62 ([] ++ s.Values)]) (l₂ := [blk b9 25 [.slice none 0 0, .slice none 0 0], blk b8 97 [.bool (x.Shift), .int .i64 (x.At), .int .i64 (x.Lo), .int .i64 (x.Hi)], blk b7 25 [v1, v3]]) (a := blk b506 25 [v536, v537])).symm) ?_
         exact WK.meet (m528, b506, v536, v537) rfl (.refl _) (.cons rfl (.cons rfl (.cons rfl (.cons rfl .nil)))) ⟨(Mem.le_trans hle509 hle529), hs2, hs4⟩
       ·refine DW.xp rfl rfl rfl (fun _ => (X.loadB (k := 4) Try.isAgg23 rfl rfl rfl)) (by decide) ?_
        refine DW.fork (List.cons_ne_nil _ _) ?_ ?_
        ·refine DW.ta rfl rfl rfl rfl (T.appendFl (α := Val) (fun _ _ _ h => h) (k := 0) sl22 rfl rfl hs2 rfl (by simp; omega) (by simp; omega)) (by decide) (fun v542 => ?_)
         refine DW.tO rfl rfl rfl (OpTo.taO (T.lit0 (α := Shf) sl23 rfl)) (by decide) (fun m544 Es_ v543 hle545 hR_ => ?_)
         subst hR_
         replace hs2 := hs2.mono hle545
         replace hs4 := hs4.mono hle545
         refine DW.ta rfl rfl rfl rfl (T.appendFl (α := Shf) (fun _ _ _ h => h) (k := 0) sl23 rfl rfl hs4 rfl (by simp; omega) (by simp; omega)) (by decide) (fun v546 => ?_)
         refine DW.x (V := Value.agg [v542, v546].toArray) rfl rfl (OpX.own1 (k := 1) rfl trivial (defdB rfl) fun ho547 => (OpX.own1 (k := 0) rfl trivial (defdB rfl) fun ho548 => (X.build Try.zeroValue25 Try.runUnderlying25 (places25 _ Try.underlying25) rfl (by simp only [Instr.fill, one_cells ho547, one_cells ho548]; rfl)))) (by decide) ?_
         refine DW.ts rfl rfl rfl rfl (OpTo.own1 (k := 1) rfl trivial (defd2 rfl rfl rfl) fun ho549 => (OpTo.own1 (k := 0) rfl trivial (defd2 rfl rfl rfl) fun ho550 => (T.storeBA (k := 2) Try.sizeOf25 rfl rfl rfl (one_cons ho549 (one_cons ho550 one_nil)) rfl rfl))) ?_
         refine DW.nil ?_
         refine WK.nThen ?_
         refine WK.perm [blk b506 25 [v542, v546], rowF (v546) 72 ([] ++ s.Shifts), rowF (v542) 62 ([] ++ s.Values), blk b9 25 [.slice none 0 0, .slice none 0 0], blk b8 97 [.bool (x.Shift), .int .i64 (x.At), .int .i64 (x.Lo), .int .i64 (x.Hi)], blk b7 25 [v1, v3]] ((List.Perm.cons _ (.refl _)).trans (List.perm_middle (l₁ := [rowF (v546) 72 ([] ++ s.Shifts), rowF (v542) 62 ([] ++ s.Values)]) (l₂ := [blk b9 25 [.slice none 0 0, .slice none 0 0], blk b8 97 [.bool (x.Shift), .int .i64 (x.At), .int .i64 (x.Lo), .int .i64 (x.Hi)], blk b7 25 [v1, v3]]) (a := blk b506 25 [v542, v546])).symm) ?_
         exact WK.meet (m544, b506, v542, v546) rfl (.refl _) (.cons rfl (.cons rfl (.cons rfl (.cons rfl .nil)))) ⟨(Mem.le_trans hle509 hle545), hs2, hs4⟩
        ·refine DW.tO rfl rfl rfl (OpTo.taO (T.lit0 (α := Shf) sl23 rfl)) (by decide) (fun m552 Es_ v551 hle553 hR_ => ?_)
         subst hR_
         replace hs2 := hs2.mono hle553
         replace hs4 := hs4.mono hle553
         refine DW.ta rfl rfl rfl rfl (T.appendFl (α := Val) (fun _ _ _ h => h) (k := 1) sl22 rfl rfl hs2 rfl (by simp; omega) (by simp; omega)) (by decide) (fun v554 => ?_)
         refine DW.ta rfl rfl rfl rfl (T.appendFl (α := Shf) (fun _ _ _ h => h) (k := 0) sl23 rfl rfl hs4 rfl (by simp; omega) (by simp; omega)) (by decide) (fun v555 => ?_)
         refine DW.x (V := Value.agg [v554, v555].toArray) rfl rfl (OpX.own1 (k := 1) rfl trivial (defdB rfl) fun ho556 => (OpX.own1 (k := 0) rfl trivial (defdB rfl) fun ho557 => (X.build Try.zeroValue25 Try.runUnderlying25 (places25 _ Try.underlying25) rfl (by simp only [Instr.fill, one_cells ho556, one_cells ho557]; rfl)))) (by decide) ?_
         refine DW.ts rfl rfl rfl rfl (OpTo.own1 (k := 1) rfl trivial (defd2 rfl rfl rfl) fun ho558 => (OpTo.own1 (k := 0) rfl trivial (defd2 rfl rfl rfl) fun ho559 => (T.storeBA (k := 2) Try.sizeOf25 rfl rfl rfl (one_cons ho558 (one_cons ho559 one_nil)) rfl rfl))) ?_
         refine DW.nil ?_
         refine WK.nThen ?_
         refine WK.perm [blk b506 25 [v554, v555], rowF (v555) 72 ([] ++ s.Shifts), rowF (v554) 62 ([] ++ s.Values), blk b9 25 [.slice none 0 0, .slice none 0 0], blk b8 97 [.bool (x.Shift), .int .i64 (x.At), .int .i64 (x.Lo), .int .i64 (x.Hi)], blk b7 25 [v1, v3]] ((List.Perm.cons _ (.refl _)).trans (List.perm_middle (l₁ := [rowF (v555) 72 ([] ++ s.Shifts), rowF (v554) 62 ([] ++ s.Values)]) (l₂ := [blk b9 25 [.slice none 0 0, .slice none 0 0], blk b8 97 [.bool (x.Shift), .int .i64 (x.At), .int .i64 (x.Lo), .int .i64 (x.Hi)], blk b7 25 [v1, v3]]) (a := blk b506 25 [v554, v555])).symm) ?_
         exact WK.meet (m552, b506, v554, v555) rfl (.refl _) (.cons rfl (.cons rfl (.cons rfl (.cons rfl .nil)))) ⟨(Mem.le_trans hle509 hle553), hs2, hs4⟩
     ·refine DW.fork (List.cons_ne_nil _ _) ?_ ?_
      ·refine DW.tO rfl rfl rfl (OpTo.taO (T.lit0 (α := Shf) sl23 rfl)) (by decide) (fun m561 Es_ v560 hle562 hR_ => ?_)
       subst hR_
       replace hs2 := hs2.mono hle562
       replace hs4 := hs4.mono hle562
       refine DW.fork (List.cons_ne_nil _ _) ?_ ?_
       ·refine DW.tO rfl rfl rfl (OpTo.taO (T.lit0 (α := Val) sl22 rfl)) (by decide) (fun m564 Es_ v563 hle565 hR_ => ?_)
        subst hR_
        replace hs2 := hs2.mono hle565
        replace hs4 := hs4.mono hle565
        refine DW.fork (List.cons_ne_nil _ _) ?_ ?_
        ·refine DW.ta rfl rfl rfl rfl (T.appendFl (α := Val) (fun _ _ _ h => h) (k := 0) sl22 rfl rfl hs2 rfl (by simp; omega) (by simp; omega)) (by decide) (fun v566 => ?_)
         refine DW.xp rfl rfl rfl (fun _ => (X.loadB (k := 5) Try.isAgg23 rfl rfl rfl)) (by decide) ?_
         refine DW.ta rfl rfl rfl rfl (T.appendFl (α := Shf) (fun _ _ _ h => h) (k := 1) sl23 rfl rfl hs4 rfl (by simp; omega) (by simp; omega)) (by decide) (fun v567 => ?_)
         refine DW.x (V := Value.agg [v566, v567].toArray) rfl rfl (OpX.own1 (k := 0) rfl trivial (defdB rfl) fun ho568 => (OpX.own1 (k := 1) rfl trivial (defdB rfl) fun ho569 => (X.build Try.zeroValue25 Try.runUnderlying25 (places25 _ Try.underlying25) rfl (by simp only [Instr.fill, one_cells ho568, one_cells ho569]; rfl)))) (by decide) ?_
         refine DW.ts rfl rfl rfl rfl (OpTo.own1 (k := 0) rfl trivial (defd2 rfl rfl rfl) fun ho570 => (OpTo.own1 (k := 1) rfl trivial (defd2 rfl rfl rfl) fun ho571 => (T.storeBA (k := 2) Try.sizeOf25 rfl rfl rfl (one_cons ho570 (one_cons ho571 one_nil)) rfl rfl))) ?_
         refine DW.nil ?_
         refine WK.nThen ?_
         refine WK.perm [blk b506 25 [v566, v567], rowF (v567) 72 ([] ++ s.Shifts), rowF (v566) 62 ([] ++ s.Values), blk b9 25 [.slice none 0 0, .slice none 0 0], blk b8 97 [.bool (x.Shift), .int .i64 (x.At), .int .i64 (x.Lo), .int .i64 (x.Hi)], blk b7 25 [v1, v3]] ((List.Perm.cons _ ((List.Perm.cons _ (.refl _)).trans (List.perm_middle (l₁ := [rowF (v566) 62 ([] ++ s.Values)]) (l₂ := [blk b9 25 [.slice none 0 0, .slice none 0 0], blk b8 97 [.bool (x.Shift), .int .i64 (x.At), .int .i64 (x.Lo), .int .i64 (x.Hi)], blk b7 25 [v1, v3]]) (a := rowF (v567) 72 ([] ++ s.Shifts))).symm)).trans (List.perm_middle (l₁ := [rowF (v566) 62 ([] ++ s.Values), rowF (v567) 72 ([] ++ s.Shifts)]) (l₂ := [blk b9 25 [.slice none 0 0, .slice none 0 0], blk b8 97 [.bool (x.Shift), .int .i64 (x.At), .int .i64 (x.Lo), .int .i64 (x.Hi)], blk b7 25 [v1, v3]]) (a := blk b506 25 [v566, v567])).symm) ?_
         exact WK.meet (m564, b506, v566, v567) rfl (.refl _) (.cons rfl (.cons rfl (.cons rfl (.cons rfl .nil)))) ⟨(Mem.le_trans hle562 hle565), hs2, hs4⟩
        ·refine DW.xp rfl rfl rfl (fun _ => (X.loadB (k := 5) Try.isAgg23 rfl rfl rfl)) (by decide) ?_
         refine DW.ta rfl rfl rfl rfl (T.appendFl (α := Val) (fun _ _ _ h => h) (k := 0) sl22 rfl rfl hs2 rfl (by simp; omega) (by simp; omega)) (by decide) (fun v572 => ?_)
         refine DW.ta rfl rfl rfl rfl (T.appendFl (α := Shf) (fun _ _ _ h => h) (k := 1) sl23 rfl rfl hs4 rfl (by simp; omega) (by simp; omega)) (by decide) (fun v573 => ?_)
         refine DW.x (V := Value.agg [v572, v573].toArray) rfl rfl (OpX.own1 (k := 0) rfl trivial (defdB rfl) fun ho574 => (OpX.own1 (k := 1) rfl trivial (defdB rfl) fun ho575 => (X.build Try.zeroValue25 Try.runUnderlying25 (places25 _ Try.underlying25) rfl (by simp only [Instr.fill, one_cells ho574, one_cells ho575]; rfl)))) (by decide) ?_
         refine DW.ts rfl rfl rfl rfl (OpTo.own1 (k := 0) rfl trivial (defd2 rfl rfl rfl) fun ho576 => (OpTo.own1 (k := 1) rfl trivial (defd2 rfl rfl rfl) fun ho577 => (T.storeBA (k := 2) Try.sizeOf25 rfl rfl rfl (one_cons ho576 (one_cons ho577 one_nil)) rfl rfl))) ?_
         refine DW.nil ?_
         refine WK.nThen ?_
         refine WK.perm [blk b506 25 [v572, v573], rowF (v573) 72 ([] ++ s.Shifts), rowF (v572) 62 ([] ++ s.Values), blk b9 25 [.slice none 0 0, .slice none 0 0], blk b8 97 [.bool (x.Shift), .int .i64 (x.At), .int .i64 (x.Lo), .int .i64 (x.Hi)], blk b7 25 [v1, v3]] ((List.Perm.cons _ ((List.Perm.cons _ (.refl _)).trans (List.perm_middle (l₁ := [rowF (v572) 62 ([] ++ s.Values)]) (l₂ := [blk b9 25 [.slice none 0 0, .slice none 0 0], blk b8 97 [.bool (x.Shift), .int .i64 (x.At), .int .i64 (x.Lo), .int .i64 (x.Hi)], blk b7 25 [v1, v3]]) (a := rowF (v573) 72 ([] ++ s.Shifts))).symm)).trans (List.perm_middle (l₁ := [rowF (v572) 62 ([] ++ s.Values), rowF (v573) 72 ([] ++ s.Shifts)]) (l₂ := [blk b9 25 [.slice none 0 0, .slice none 0 0], blk b8 97 [.bool (x.Shift), .int .i64 (x.At), .int .i64 (x.Lo), .int .i64 (x.Hi)], blk b7 25 [v1, v3]]) (a := blk b506 25 [v572, v573])).symm) ?_
         exact WK.meet (m564, b506, v572, v573) rfl (.refl _) (.cons rfl (.cons rfl (.cons rfl (.cons rfl .nil)))) ⟨(Mem.le_trans hle562 hle565), hs2, hs4⟩
       ·refine DW.xp rfl rfl rfl (fun _ => (X.loadB (k := 4) Try.isAgg23 rfl rfl rfl)) (by decide) ?_
        refine DW.tO rfl rfl rfl (OpTo.taO (T.lit0 (α := Val) sl22 rfl)) (by decide) (fun m579 Es_ v578 hle580 hR_ => ?_)
        subst hR_
        replace hs2 := hs2.mono hle580
        replace hs4 := hs4.mono hle580
        refine DW.ta rfl rfl rfl rfl (T.appendFl (α := Val) (fun _ _ _ h => h) (k := 0) sl22 rfl rfl hs2 rfl (by simp; omega) (by simp; omega)) (by decide) (fun v581 => ?_)
        refine DW.ta rfl rfl rfl rfl (T.appendFl (α := Shf) (fun _ _ _ h => h) (k := 1) sl23 rfl rfl hs4 rfl (by simp; omega) (by simp; omega)) (by decide) (fun v582 => ?_)
        refine DW.x (V := Value.agg [v581, v582].toArray) rfl rfl (OpX.own1 (k := 0) rfl trivial (defdB rfl) fun ho583 => (OpX.own1 (k := 1) rfl trivial (defdB rfl) fun ho584 => (X.build Try.zeroValue25 Try.runUnderlying25 (places25 _ Try.underlying25) rfl (by simp only [Instr.fill, one_cells ho583, one_cells ho584]; rfl)))) (by decide) ?_
        refine DW.ts rfl rfl rfl rfl (OpTo.own1 (k := 0) rfl trivial (defd2 rfl rfl rfl) fun ho585 => (OpTo.own1 (k := 1) rfl trivial (defd2 rfl rfl rfl) fun ho586 => (T.storeBA (k := 2) Try.sizeOf25 rfl rfl rfl (one_cons ho585 (one_cons ho586 one_nil)) rfl rfl))) ?_
        refine DW.nil ?_
        refine WK.nThen ?_
        refine WK.perm [blk b506 25 [v581, v582], rowF (v582) 72 ([] ++ s.Shifts), rowF (v581) 62 ([] ++ s.Values), blk b9 25 [.slice none 0 0, .slice none 0 0], blk b8 97 [.bool (x.Shift), .int .i64 (x.At), .int .i64 (x.Lo), .int .i64 (x.Hi)], blk b7 25 [v1, v3]] ((List.Perm.cons _ ((List.Perm.cons _ (.refl _)).trans (List.perm_middle (l₁ := [rowF (v581) 62 ([] ++ s.Values)]) (l₂ := [blk b9 25 [.slice none 0 0, .slice none 0 0], blk b8 97 [.bool (x.Shift), .int .i64 (x.At), .int .i64 (x.Lo), .int .i64 (x.Hi)], blk b7 25 [v1, v3]]) (a := rowF (v582) 72 ([] ++ s.Shifts))).symm)).trans (List.perm_middle (l₁ := [rowF (v581) 62 ([] ++ s.Values), rowF (v582) 72 ([] ++ s.Shifts)]) (l₂ := [blk b9 25 [.slice none 0 0, .slice none 0 0], blk b8 97 [.bool (x.Shift), .int .i64 (x.At), .int .i64 (x.Lo), .int .i64 (x.Hi)], blk b7 25 [v1, v3]]) (a := blk b506 25 [v581, v582])).symm) ?_
        exact WK.meet (m579, b506, v581, v582) rfl (.refl _) (.cons rfl (.cons rfl (.cons rfl (.cons rfl .nil)))) ⟨(Mem.le_trans hle562 hle580), hs2, hs4⟩
      ·refine DW.xp rfl rfl rfl (fun _ => (X.loadB (k := 3) Try.isAgg23 rfl rfl rfl)) (by decide) ?_
       refine DW.fork (List.cons_ne_nil _ _) ?_ ?_
       ·refine DW.tO rfl rfl rfl (OpTo.taO (T.lit0 (α := Val) sl22 rfl)) (by decide) (fun m588 Es_ v587 hle589 hR_ => ?_)
        subst hR_
        replace hs2 := hs2.mono hle589
        replace hs4 := hs4.mono hle589
        refine DW.fork (List.cons_ne_nil _ _) ?_ ?_
        ·refine DW.ta rfl rfl rfl rfl (T.appendFl (α := Val) (fun _ _ _ h => h) (k := 0) sl22 rfl rfl hs2 rfl (by simp; omega) (by simp; omega)) (by decide) (fun v590 => ?_)
         refine DW.tO rfl rfl rfl (OpTo.taO (T.lit0 (α := Shf) sl23 rfl)) (by decide) (fun m592 Es_ v591 hle593 hR_ => ?_)
         subst hR_
         replace hs2 := hs2.mono hle593
         replace hs4 := hs4.mono hle593
         refine DW.ta rfl rfl rfl rfl (T.appendFl (α := Shf) (fun _ _ _ h => h) (k := 0) sl23 rfl rfl hs4 rfl (by simp; omega) (by simp; omega)) (by decide) (fun v594 => ?_)
         refine DW.x (V := Value.agg [v590, v594].toArray) rfl rfl (OpX.own1 (k := 1) rfl trivial (defdB rfl) fun ho595 => (OpX.own1 (k := 0) rfl trivial (defdB rfl) fun ho596 => (X.build Try.zeroValue25 Try.runUnderlying25 (places25 _ Try.underlying25) rfl (by simp only [Instr.fill, one_cells ho595, one_cells ho596]; rfl)))) (by decide) ?_
         refine DW.ts rfl rfl rfl rfl (OpTo.own1 (k := 1) rfl trivial (defd2 rfl rfl rfl) fun ho597 => (OpTo.own1 (k := 0) rfl trivial (defd2 rfl rfl rfl) fun ho598 => (T.storeBA (k := 2) Try.sizeOf25 rfl rfl rfl (one_cons ho597 (one_cons ho598 one_nil)) rfl rfl))) ?_
         refine DW.nil ?_
         refine WK.nThen ?_
         refine WK.perm [blk b506 25 [v590, v594], rowF (v594) 72 ([] ++ s.Shifts), rowF (v590) 62 ([] ++ s.Values), blk b9 25 [.slice none 0 0, .slice none 0 0], blk b8 97 [.bool (x.Shift), .int .i64 (x.At), .int .i64 (x.Lo), .int .i64 (x.Hi)], blk b7 25 [v1, v3]] ((List.Perm.cons _ (.refl _)).trans (List.perm_middle (l₁ := [rowF (v594) 72 ([] ++ s.Shifts), rowF (v590) 62 ([] ++ s.Values)]) (l₂ := [blk b9 25 [.slice none 0 0, .slice none 0 0], blk b8 97 [.bool (x.Shift), .int .i64 (x.At), .int .i64 (x.Lo), .int .i64 (x.Hi)], blk b7 25 [v1, v3]]) (a := blk b506 25 [v590, v594])).symm) ?_
         exact WK.meet (m592, b506, v590, v594) rfl (.refl _) (.cons rfl (.cons rfl (.cons rfl (.cons rfl .nil)))) ⟨(Mem.le_trans hle589 hle593), hs2, hs4⟩
        ·refine DW.tO rfl rfl rfl (OpTo.taO (T.lit0 (α := Shf) sl23 rfl)) (by decide) (fun m600 Es_ v599 hle601 hR_ => ?_)
         subst hR_
         replace hs2 := hs2.mono hle601
         replace hs4 := hs4.mono hle601
         refine DW.ta rfl rfl rfl rfl (T.appendFl (α := Val) (fun _ _ _ h => h) (k := 1) sl22 rfl rfl hs2 rfl (by simp; omega) (by simp; omega)) (by decide) (fun v602 => ?_)
         refine DW.ta rfl rfl rfl rfl (T.appendFl (α := Shf) (fun _ _ _ h => h) (k := 0) sl23 rfl rfl hs4 rfl (by simp; omega) (by simp; omega)) (by decide) (fun v603 => ?_)
         refine DW.x (V := Value.agg [v602, v603].toArray) rfl rfl (OpX.own1 (k := 1) rfl trivial (defdB rfl) fun ho604 => (OpX.own1 (k := 0) rfl trivial (defdB rfl) fun ho605 => (X.build Try.zeroValue25 Try.runUnderlying25 (places25 _ Try.underlying25) rfl (by simp only [Instr.fill, one_cells ho604, one_cells ho605]; rfl)))) (by decide) ?_
         refine DW.ts rfl rfl rfl rfl (OpTo.own1 (k := 1) rfl trivial (defd2 rfl rfl rfl) fun ho606 => (OpTo.own1 (k := 0) rfl trivial (defd2 rfl rfl rfl) fun ho607 => (T.storeBA (k := 2) Try.sizeOf25 rfl rfl rfl (one_cons ho606 (one_cons ho607 one_nil)) rfl rfl))) ?_
         refine DW.nil ?_
         refine WK.nThen ?_
         refine WK.perm [blk b506 25 [v602, v603], rowF (v603) 72 ([] ++ s.Shifts), rowF (v602) 62 ([] ++ s.Values), blk b9 25 [.slice none 0 0, .slice none 0 0], blk b8 97 [.bool (x.Shift), .int .i64 (x.At), .int .i64 (x.Lo), .int .i64 (x.Hi)], blk b7 25 [v1, v3]] ((List.Perm.cons _ (.refl _)).trans (List.perm_middle (l₁ := [rowF (v603) 72 ([] ++ s.Shifts), rowF (v602) 62 ([] ++ s.Values)]) (l₂ := [blk b9 25 [.slice none 0 0, .slice none 0 0], blk b8 97 [.bool (x.Shift), .int .i64 (x.At), .int .i64 (x.Lo), .int .i64 (x.Hi)], blk b7 25 [v1, v3]]) (a := blk b506 25 [v602, v603])).symm) ?_
         exact WK.meet (m600, b506, v602, v603) rfl (.refl _) (.cons rfl (.cons rfl (.cons rfl (.cons rfl .nil)))) ⟨(Mem.le_trans hle589 hle601), hs2, hs4⟩
       ·refine DW.tO rfl rfl rfl (OpTo.taO (T.lit0 (α := Shf) sl23 rfl)) (by decide) (fun m609 Es_ v608 hle610 hR_ => ?_)
        subst hR_
        replace hs2 := hs2.mono hle610
        replace hs4 := hs4.mono hle610
        refine DW.tO rfl rfl rfl (OpTo.taO (T.lit0 (α := Val) sl22 rfl)) (by decide) (fun m612 Es_ v611 hle613 hR_ => ?_)
        subst hR_
        replace hs2 := hs2.mono hle613
        replace hs4 := hs4.mono hle613
        refine DW.ta rfl rfl rfl rfl (T.appendFl (α := Val) (fun _ _ _ h => h) (k := 0) sl22 rfl rfl hs2 rfl (by simp; omega) (by simp; omega)) (by decide) (fun v614 => ?_)
        refine DW.ta rfl rfl rfl rfl (T.appendFl (α := Shf) (fun _ _ _ h => h) (k := 1) sl23 rfl rfl hs4 rfl (by simp; omega) (by simp; omega)) (by decide) (fun v615 => ?_)
        refine DW.x (V := Value.agg [v614, v615].toArray) rfl rfl (OpX.own1 (k := 0) rfl trivial (defdB rfl) fun ho616 => (OpX.own1 (k := 1) rfl trivial (defdB rfl) fun ho617 => (X.build Try.zeroValue25 Try.runUnderlying25 (places25 _ Try.underlying25) rfl (by simp only [Instr.fill, one_cells ho616, one_cells ho617]; rfl)))) (by decide) ?_
        refine DW.ts rfl rfl rfl rfl (OpTo.own1 (k := 0) rfl trivial (defd2 rfl rfl rfl) fun ho618 => (OpTo.own1 (k := 1) rfl trivial (defd2 rfl rfl rfl) fun ho619 => (T.storeBA (k := 2) Try.sizeOf25 rfl rfl rfl (one_cons ho618 (one_cons ho619 one_nil)) rfl rfl))) ?_
        refine DW.nil ?_
        refine WK.nThen ?_
        refine WK.perm [blk b506 25 [v614, v615], rowF (v615) 72 ([] ++ s.Shifts), rowF (v614) 62 ([] ++ s.Values), blk b9 25 [.slice none 0 0, .slice none 0 0], blk b8 97 [.bool (x.Shift), .int .i64 (x.At), .int .i64 (x.Lo), .int .i64 (x.Hi)], blk b7 25 [v1, v3]] ((List.Perm.cons _ ((List.Perm.cons _ (.refl _)).trans (List.perm_middle (l₁ := [rowF (v614) 62 ([] ++ s.Values)]) (l₂ := [blk b9 25 [.slice none 0 0, .slice none 0 0], blk b8 97 [.bool (x.Shift), .int .i64 (x.At), .int .i64 (x.Lo), .int .i64 (x.Hi)], blk b7 25 [v1, v3]]) (a := rowF (v615) 72 ([] ++ s.Shifts))).symm)).trans (List.perm_middle (l₁ := [rowF (v614) 62 ([] ++ s.Values), rowF (v615) 72 ([] ++ s.Shifts)]) (l₂ := [blk b9 25 [.slice none 0 0, .slice none 0 0], blk b8 97 [.bool (x.Shift), .int .i64 (x.At), .int .i64 (x.Lo), .int .i64 (x.Hi)], blk b7 25 [v1, v3]]) (a := blk b506 25 [v614, v615])).symm) ?_
        exact WK.meet (m612, b506, v614, v615) rfl (.refl _) (.cons rfl (.cons rfl (.cons rfl (.cons rfl .nil)))) ⟨(Mem.le_trans hle610 hle613), hs2, hs4⟩
 ·rintro ⟨m10, b20, v13, v17⟩ ⟨hle620, hs621, hs622⟩
  show WK _ _ m10 [blk b20 25 [v13, v17], rowF (v17) 72 ([] ++ s.Shifts), rowF (v13) 62 ([] ++ s.Values), blk b9 25 [.slice none 0 0, .slice none 0 0], blk b8 97 [.bool (x.Shift), .int .i64 (x.At), .int .i64 (x.Lo), .int .i64 (x.Hi)], blk b7 25 [v1, v3]] [(2, .pointer (some ⟨b7, 0, none⟩)), (3, .pointer (some ⟨b8, 0, none⟩)), (4, .pointer (some ⟨b9, 0, none⟩)), (6, .pointer (some ⟨b20, 0, none⟩))] _
  replace hs2 := hs2.mono hle620
  replace hs4 := hs4.mono hle620
  have hl623 := hs621.le
  have hl624 := hs622.le
  refine WC.seq ?_
  refine WC.seq ?_
  have he625 : ([] ++ s.Shifts) = s.Shifts := List.nil_append _
  rw [he625]
  have he626 : ([] ++ s.Values) = s.Values := List.nil_append _
  rw [he626]
  refine WC.region ?_
  refine WL.x (X.field Try.runUnderlying97 rfl Try.sizeOf3 rfl) (by decide) ?_
  refine WL.x (X.loadB (k := 4) Try.isAgg3 rfl rfl rfl) (by decide) ?_
  refine WL.cond (X.lss rfl rfl) (by decide) (fun h627 => ?_) (fun h627 => ?_)
  ·refine WL.x (X.move rfl) (by decide) ?_
   refine WL.no rfl rfl rfl (by decide) ?_
   refine WL.no rfl rfl rfl (by decide) ?_
   refine WL.no rfl rfl rfl (by decide) ?_
   refine WL.noU rfl rfl (by decide) ?_
   refine WL.noU rfl rfl (by decide) ?_
   refine WL.noU rfl rfl (by decide) ?_
   refine WL.noU rfl rfl (by decide) ?_
   refine WL.noU rfl rfl (by decide) ?_
   refine WL.noU rfl rfl (by decide) ?_
   refine WL.no rfl rfl rfl (by decide) ?_
   refine WL.x (X.pickT rfl rfl rfl) (by decide) ?_
   refine WL.x (X.move rfl) (by decide) ?_
   refine WL.no rfl rfl rfl (by decide) ?_
   refine WL.no rfl rfl rfl (by decide) ?_
   refine WL.no rfl rfl rfl (by decide) ?_
   refine WL.no rfl rfl rfl (by decide) ?_
   refine WL.noU rfl rfl (by decide) ?_
   refine WL.noU rfl rfl (by decide) ?_
   refine WL.noU rfl rfl (by decide) ?_
   refine WL.noU rfl rfl (by decide) ?_
   refine WL.noU rfl rfl (by decide) ?_
   refine WL.noU rfl rfl (by decide) ?_
   refine WL.no rfl rfl rfl (by decide) ?_
   refine WL.x (X.pickT rfl rfl rfl) (by decide) ?_
   refine WL.nil ?_
   refine WK.nThen ?_
   refine WC.condT rfl ?_
   refine WC.seq ?_
   refine WC.region ?_
   refine WL.x (X.loadBA (k := 0) Try.isAgg25 Try.sizeOf25 rfl rfl rfl) (by decide) ?_
   refine WL.own1 (k := 2) rfl (fun ho628 => ?_)
   refine WL.own1 (k := 1) rfl (fun ho629 => ?_)
   refine WL.ts (T.storeBA (k := 3) Try.sizeOf25 rfl rfl rfl (one_cons ho628 (one_cons ho629 one_nil)) rfl rfl) ?_
   refine WL.x (X.assign rfl) (by decide) ?_
   refine WL.nil ?_
   refine WK.nThen ?_
   refine WC.ret ?_
   refine WK.rThen ?_
   refine WK.freezeF 2 rfl rfl (by first | (simp [lenB]; omega) | (simp [lenB]; done)) (fun m630 hle631 hs632 => ?_)
   replace hs2 := hs2.mono hle631
   replace hs4 := hs4.mono hle631
   replace hs621 := hs621.mono hle631
   replace hs622 := hs622.mono hle631
   refine WK.freezeF 1 rfl rfl (by first | (simp [lenB]; omega) | (simp [lenB]; done)) (fun m633 hle634 hs635 => ?_)
   replace hs2 := hs2.mono hle634
   replace hs4 := hs4.mono hle634
   replace hs621 := hs621.mono hle634
   replace hs622 := hs622.mono hle634
   replace hs632 := hs632.mono hle634
   refine WK.retC2 1 rfl rfl rfl rfl Try.isAgg25 Try.sizeOf25 (fun w' hw' => Ret.mem hw' ?_)
   have hnk : ¬ knownP s x := (by unfold knownP; rintro ⟨h1_, h2_, h3_⟩; first | omega | (have := h2_ (by assumption); omega) | (have := h3_ (by assumption); omega))
   exact ⟨_, tup2 rfl (bool_eq (by rw [knownR, if_neg hnk])), by rw [knownR, if_neg hnk]; exact ⟨_, _, rfl, hs632, hs635⟩⟩
  ·refine WL.x (X.move rfl) (by decide) ?_
   refine WL.yes rfl rfl ?_
   refine WL.x (X.field Try.runUnderlying97 rfl Try.sizeOf4 rfl) (by decide) ?_
   refine WL.yes rfl rfl ?_
   refine WL.condb (X.loadB (k := 4) Try.isAgg4 rfl rfl rfl) (by decide) (fun h636 => ?_) (fun h636 => ?_)
   ·refine WL.yes rfl rfl ?_
    refine WL.x (X.move rfl) (by decide) ?_
    refine WL.yes rfl rfl ?_
    refine WL.x (X.field Try.runUnderlying97 rfl Try.sizeOf3 rfl) (by decide) ?_
    refine WL.yes rfl rfl ?_
    refine WL.x (X.loadB (k := 4) Try.isAgg3 rfl rfl rfl) (by decide) ?_
    refine WL.yes rfl rfl ?_
    refine WL.x (X.field Try.runUnderlying25 rfl Try.sizeOf23 rfl) (by decide) ?_
    refine WL.yes rfl rfl ?_
    refine WL.x (X.loadB (k := 5) Try.isAgg23 rfl rfl rfl) (by decide) ?_
    refine WL.yes rfl rfl ?_
    refine WL.x (X.len Try.runUnderlying23 rfl hs622) (by decide) ?_
    refine WL.yes rfl rfl ?_
    refine WL.cond (X.geq rfl rfl) (by decide) (fun h637 => ?_) (fun h637 => ?_)
    ·refine WL.yes rfl rfl ?_
     refine WL.x (X.pickT rfl rfl rfl) (by decide) ?_
     refine WL.x (X.pickF rfl rfl rfl) (by decide) ?_
     refine WL.x (X.move rfl) (by decide) ?_
     refine WL.no rfl rfl rfl (by decide) ?_
     refine WL.no rfl rfl rfl (by decide) ?_
     refine WL.no rfl rfl rfl (by decide) ?_
     refine WL.no rfl rfl rfl (by decide) ?_
     refine WL.noU rfl rfl (by decide) ?_
     refine WL.noU rfl rfl (by decide) ?_
     refine WL.noU rfl rfl (by decide) ?_
     refine WL.noU rfl rfl (by decide) ?_
     refine WL.noU rfl rfl (by decide) ?_
     refine WL.noU rfl rfl (by decide) ?_
     refine WL.no rfl rfl rfl (by decide) ?_
     refine WL.x (X.pickT rfl rfl rfl) (by decide) ?_
     refine WL.nil ?_
     refine WK.nThen ?_
     refine WC.condT rfl ?_
     refine WC.seq ?_
     refine WC.region ?_
     refine WL.x (X.loadBA (k := 0) Try.isAgg25 Try.sizeOf25 rfl rfl rfl) (by decide) ?_
     refine WL.own1 (k := 2) rfl (fun ho638 => ?_)
     refine WL.own1 (k := 1) rfl (fun ho639 => ?_)
     refine WL.ts (T.storeBA (k := 3) Try.sizeOf25 rfl rfl rfl (one_cons ho638 (one_cons ho639 one_nil)) rfl rfl) ?_
     refine WL.x (X.assign rfl) (by decide) ?_
     refine WL.nil ?_
     refine WK.nThen ?_
     refine WC.ret ?_
     refine WK.rThen ?_
     refine WK.freezeF 2 rfl rfl (by first | (simp [lenB]; omega) | (simp [lenB]; done)) (fun m640 hle641 hs642 => ?_)
     replace hs2 := hs2.mono hle641
     replace hs4 := hs4.mono hle641
     replace hs621 := hs621.mono hle641
     replace hs622 := hs622.mono hle641
     refine WK.freezeF 1 rfl rfl (by first | (simp [lenB]; omega) | (simp [lenB]; done)) (fun m643 hle644 hs645 => ?_)
     replace hs2 := hs2.mono hle644
     replace hs4 := hs4.mono hle644
     replace hs621 := hs621.mono hle644
     replace hs622 := hs622.mono hle644
     replace hs642 := hs642.mono hle644
     refine WK.retC2 1 rfl rfl rfl rfl Try.isAgg25 Try.sizeOf25 (fun w' hw' => Ret.mem hw' ?_)
     have hnk : ¬ knownP s x := (by unfold knownP; rintro ⟨h1_, h2_, h3_⟩; first | omega | (have := h2_ (by assumption); omega) | (have := h3_ (by assumption); omega))
     exact ⟨_, tup2 rfl (bool_eq (by rw [knownR, if_neg hnk])), by rw [knownR, if_neg hnk]; exact ⟨_, _, rfl, hs642, hs645⟩⟩
    ·refine WL.yes rfl rfl ?_
     refine WL.x (X.pickT rfl rfl rfl) (by decide) ?_
     refine WL.x (X.pickF rfl rfl rfl) (by decide) ?_
     refine WL.x (X.move rfl) (by decide) ?_
     refine WL.yes rfl rfl ?_
     refine WL.x (X.field Try.runUnderlying97 rfl Try.sizeOf4 rfl) (by decide) ?_
     refine WL.yes rfl rfl ?_
     refine WL.x (OpX.tb (X.loadB (k := 4) Try.isAgg4 rfl rfl rfl) h636) (by decide) ?_
     refine WL.yes rfl rfl ?_
     refine WL.x (X.not rfl) (by decide) ?_
     refine WL.yes rfl rfl ?_
     refine WL.x (X.move rfl) (by decide) ?_
     refine WL.no rfl rfl rfl (by decide) ?_
     refine WL.no rfl rfl rfl (by decide) ?_
     refine WL.no rfl rfl rfl (by decide) ?_
     refine WL.no rfl rfl rfl (by decide) ?_
     refine WL.no rfl rfl rfl (by decide) ?_
     refine WL.no rfl rfl rfl (by decide) ?_
     refine WL.yes rfl rfl ?_
     refine WL.x (X.pickF rfl rfl rfl) (by decide) ?_
     refine WL.x (X.pickF rfl rfl rfl) (by decide) ?_
     refine WL.nil ?_
     refine WK.nThen ?_
     refine WC.condF rfl ?_
     refine WC.skip ?_
     refine WK.nThen ?_
     refine WC.seq ?_
     refine WC.seq ?_
     refine WC.region ?_
     refine WL.x (X.field Try.runUnderlying97 rfl Try.sizeOf4 rfl) (by decide) ?_
     refine WL.x (OpX.tb (X.loadB (k := 4) Try.isAgg4 rfl rfl rfl) h636) (by decide) ?_
     refine WL.nil ?_
     refine WK.nThen ?_
     refine WC.condT rfl ?_
     refine WC.draw (π := (.cons 0 (.cons 1 (.cons 2 (.cons 3 (.cons 4 (.cons 5 (.cons 6 (.cons 7 (.cons 8 (.cons 9 (.cons 10 (.cons 11 (.cons 12 (.cons 13 (.cons 14 (.cons 15 .done))))))))))))))))) [15] [15] rfl (by kernel_rfl) ?_
     refine DW.x rfl rfl (X.field Try.runUnderlying25 rfl Try.sizeOf23 rfl) (by decide) ?_
     refine DW.x rfl rfl (X.loadB (k := 0) Try.isAgg23 rfl rfl rfl) (by decide) ?_
     refine DW.x rfl rfl (X.field Try.runUnderlying97 rfl Try.sizeOf3 rfl) (by decide) ?_
     refine DW.x rfl rfl (X.loadB (k := 4) Try.isAgg3 rfl rfl rfl) (by decide) ?_
     refine DW.x rfl rfl (X.field Try.runUnderlying25 rfl Try.sizeOf23 rfl) (by decide) ?_
     refine DW.x rfl rfl (X.loadB (k := 0) Try.isAgg23 rfl rfl rfl) (by decide) ?_
     refine DW.x rfl rfl (X.field Try.runUnderlying97 rfl Try.sizeOf3 rfl) (by decide) ?_
     refine DW.x rfl rfl (X.loadB (k := 4) Try.isAgg3 rfl rfl rfl) (by decide) ?_
     refine DW.x rfl rfl (X.idxRow (k := 1) Try.runUnderlying23 Try.sizeOf72 rfl rfl rfl (by first | omega | (simp; omega) | simp) (by first | omega | (simp; omega) | simp)) (by decide) ?_
     refine DW.x rfl rfl (X.field Try.runUnderlying72 rfl Try.sizeOf33 rfl) (by decide) ?_
     refine DW.x rfl rfl (X.loadFs (k := 1) (i := (x.At : Int).toNat) (off := 1) (us := [.int .i64 ((((gt s.Shifts ((x.At : Int).toNat))).Levels).Lo), .int .i64 ((((gt s.Shifts ((x.At : Int).toNat))).Levels).Hi)]) Try.isAgg33 Try.sizeOf33 rfl rfl (by first | omega | (simp; omega) | simp) rfl rfl) (by decide) ?_
     refine DW.x rfl rfl (X.loadBA (k := 4) Try.isAgg97 Try.sizeOf97 rfl rfl rfl) (by decide) ?_
     refine DW.x rfl rfl (X.call Try.call134 rfl (cut134 _ _ (((gt s.Shifts ((x.At : Int).toNat))).Levels) rfl _ x rfl )) (by decide) ?_
     refine DW.x rfl rfl (X.idxRow (k := 1) Try.runUnderlying23 Try.sizeOf72 rfl rfl rfl (by first | omega | (simp; omega) | simp) (by first | omega | (simp; omega) | simp)) (by decide) ?_
     refine DW.x rfl rfl (X.field Try.runUnderlying72 rfl Try.sizeOf33 rfl) (by decide) ?_
     refine DW.ts rfl rfl rfl rfl (T.storeFp (k := 1) (i := (x.At : Int).toNat) (off := 1) (us := [.int .i64 ((cutW ((((gt s.Shifts ((x.At : Int).toNat))).Levels)) x).Lo), .int .i64 ((cutW ((((gt s.Shifts ((x.At : Int).toNat))).Levels)) x).Hi)]) ((Shf.mk (((gt s.Shifts ((x.At : Int).toNat))).Time) (cutW ((((gt s.Shifts ((x.At : Int).toNat))).Levels)) x))) Try.sizeOf33 rfl rfl rfl rfl (Nat.zero_lt_succ _) rfl (by first | omega | (simp; omega) | simp) rfl rfl (one_cons rfl (one_cons rfl one_nil))) ?_
     refine DW.nil ?_
     refine WK.nThen ?_
     refine WC.seq ?_
     refine WC.region ?_
     refine WL.x (X.loadBA (k := 0) Try.isAgg25 Try.sizeOf25 rfl rfl rfl) (by decide) ?_
     refine WL.own1 (k := 2) rfl (fun ho646 => ?_)
     refine WL.own1 (k := 1) rfl (fun ho647 => ?_)
     refine WL.ts (T.storeBA (k := 3) Try.sizeOf25 rfl rfl rfl (one_cons ho646 (one_cons ho647 one_nil)) rfl rfl) ?_
     refine WL.x (X.assign rfl) (by decide) ?_
     refine WL.nil ?_
     refine WK.nThen ?_
     refine WC.ret ?_
     refine WK.freezeF 2 rfl rfl (by first | (simp [lenB]; omega) | (simp [lenB]; done)) (fun m648 hle649 hs650 => ?_)
     replace hs2 := hs2.mono hle649
     replace hs4 := hs4.mono hle649
     replace hs621 := hs621.mono hle649
     replace hs622 := hs622.mono hle649
     refine WK.freezeF 1 rfl rfl (by first | (simp [lenB]; omega) | (simp [lenB]; done)) (fun m651 hle652 hs653 => ?_)
     replace hs2 := hs2.mono hle652
     replace hs4 := hs4.mono hle652
     replace hs621 := hs621.mono hle652
     replace hs622 := hs622.mono hle652
     replace hs650 := hs650.mono hle652
     refine WK.retC2 1 rfl rfl rfl rfl Try.isAgg25 Try.sizeOf25 (fun w' hw' => Ret.mem hw' ?_)
     have hkk : knownP s x := ⟨by omega, fun h_ => by first | omega | simp_all, fun h_ => by first | omega | simp_all⟩
     exact ⟨_, tup2 rfl (bool_eq (by rw [knownR, if_pos hkk])), by rw [knownR, if_pos hkk]; show Enc.rd _ _ (knownS s x); (first | rw [knownS, if_pos (by assumption)] | rw [knownS, if_neg (by simp_all)]); exact ⟨_, _, rfl, hs650, hs653⟩⟩
   ·refine WL.yes rfl rfl ?_
    refine WL.x (X.move rfl) (by decide) ?_
    refine WL.no rfl rfl rfl (by decide) ?_
    refine WL.no rfl rfl rfl (by decide) ?_
    refine WL.no rfl rfl rfl (by decide) ?_
    refine WL.no rfl rfl rfl (by decide) ?_
    refine WL.no rfl rfl rfl (by decide) ?_
    refine WL.no rfl rfl rfl (by decide) ?_
    refine WL.yes rfl rfl ?_
    refine WL.x (X.pickF rfl rfl rfl) (by decide) ?_
    refine WL.x (X.pickF rfl rfl rfl) (by decide) ?_
    refine WL.x (X.move rfl) (by decide) ?_
    refine WL.yes rfl rfl ?_
    refine WL.x (X.field Try.runUnderlying97 rfl Try.sizeOf4 rfl) (by decide) ?_
    refine WL.yes rfl rfl ?_
    refine WL.x (OpX.fb (X.loadB (k := 4) Try.isAgg4 rfl rfl rfl) h636) (by decide) ?_
    refine WL.yes rfl rfl ?_
    refine WL.x (X.not rfl) (by decide) ?_
    refine WL.yes rfl rfl ?_
    refine WL.x (X.move rfl) (by decide) ?_
    refine WL.yes rfl rfl ?_
    refine WL.x (X.field Try.runUnderlying97 rfl Try.sizeOf3 rfl) (by decide) ?_
    refine WL.yes rfl rfl ?_
    refine WL.x (X.loadB (k := 4) Try.isAgg3 rfl rfl rfl) (by decide) ?_
    refine WL.yes rfl rfl ?_
    refine WL.x (X.field Try.runUnderlying25 rfl Try.sizeOf22 rfl) (by decide) ?_
    refine WL.yes rfl rfl ?_
    refine WL.x (X.loadB (k := 5) Try.isAgg22 rfl rfl rfl) (by decide) ?_
    refine WL.yes rfl rfl ?_
    refine WL.x (X.len Try.runUnderlying22 rfl hs621) (by decide) ?_
    refine WL.yes rfl rfl ?_
    refine WL.cond (X.geq rfl rfl) (by decide) (fun h654 => ?_) (fun h654 => ?_)
    ·refine WL.yes rfl rfl ?_
     refine WL.x (X.pickT rfl rfl rfl) (by decide) ?_
     refine WL.x (X.pickF rfl rfl rfl) (by decide) ?_
     refine WL.nil ?_
     refine WK.nThen ?_
     refine WC.condT rfl ?_
     refine WC.seq ?_
     refine WC.region ?_
     refine WL.x (X.loadBA (k := 0) Try.isAgg25 Try.sizeOf25 rfl rfl rfl) (by decide) ?_
     refine WL.own1 (k := 2) rfl (fun ho655 => ?_)
     refine WL.own1 (k := 1) rfl (fun ho656 => ?_)
     refine WL.ts (T.storeBA (k := 3) Try.sizeOf25 rfl rfl rfl (one_cons ho655 (one_cons ho656 one_nil)) rfl rfl) ?_
     refine WL.x (X.assign rfl) (by decide) ?_
     refine WL.nil ?_
     refine WK.nThen ?_
     refine WC.ret ?_
     refine WK.rThen ?_
     refine WK.freezeF 2 rfl rfl (by first | (simp [lenB]; omega) | (simp [lenB]; done)) (fun m657 hle658 hs659 => ?_)
     replace hs2 := hs2.mono hle658
     replace hs4 := hs4.mono hle658
     replace hs621 := hs621.mono hle658
     replace hs622 := hs622.mono hle658
     refine WK.freezeF 1 rfl rfl (by first | (simp [lenB]; omega) | (simp [lenB]; done)) (fun m660 hle661 hs662 => ?_)
     replace hs2 := hs2.mono hle661
     replace hs4 := hs4.mono hle661
     replace hs621 := hs621.mono hle661
     replace hs622 := hs622.mono hle661
     replace hs659 := hs659.mono hle661
     refine WK.retC2 1 rfl rfl rfl rfl Try.isAgg25 Try.sizeOf25 (fun w' hw' => Ret.mem hw' ?_)
     have hnk : ¬ knownP s x := (by unfold knownP; rintro ⟨h1_, h2_, h3_⟩; first | omega | (have := h2_ (by assumption); omega) | (have := h3_ (by assumption); omega))
     exact ⟨_, tup2 rfl (bool_eq (by rw [knownR, if_neg hnk])), by rw [knownR, if_neg hnk]; exact ⟨_, _, rfl, hs659, hs662⟩⟩
    ·refine WL.yes rfl rfl ?_
     refine WL.x (X.pickT rfl rfl rfl) (by decide) ?_
     refine WL.x (X.pickF rfl rfl rfl) (by decide) ?_
     refine WL.nil ?_
     refine WK.nThen ?_
     refine WC.condF rfl ?_
     refine WC.skip ?_
     refine WK.nThen ?_
     refine WC.seq ?_
     refine WC.seq ?_
     refine WC.region ?_
     refine WL.x (X.field Try.runUnderlying97 rfl Try.sizeOf4 rfl) (by decide) ?_
     refine WL.x (OpX.fb (X.loadB (k := 4) Try.isAgg4 rfl rfl rfl) h636) (by decide) ?_
     refine WL.nil ?_
     refine WK.nThen ?_
     refine WC.condF rfl ?_
     refine WC.draw (π := (.cons 0 (.cons 1 (.cons 2 (.cons 3 (.cons 4 (.cons 5 (.cons 6 (.cons 7 (.cons 8 (.cons 9 (.cons 10 (.cons 11 (.cons 12 (.cons 13 (.cons 14 (.cons 15 .done))))))))))))))))) [15] [15] rfl (by kernel_rfl) ?_
     refine DW.x rfl rfl (X.field Try.runUnderlying25 rfl Try.sizeOf22 rfl) (by decide) ?_
     refine DW.x rfl rfl (X.loadB (k := 0) Try.isAgg22 rfl rfl rfl) (by decide) ?_
     refine DW.x rfl rfl (X.field Try.runUnderlying97 rfl Try.sizeOf3 rfl) (by decide) ?_
     refine DW.x rfl rfl (X.loadB (k := 4) Try.isAgg3 rfl rfl rfl) (by decide) ?_
     refine DW.x rfl rfl (X.field Try.runUnderlying25 rfl Try.sizeOf22 rfl) (by decide) ?_
     refine DW.x rfl rfl (X.loadB (k := 0) Try.isAgg22 rfl rfl rfl) (by decide) ?_
     refine DW.x rfl rfl (X.field Try.runUnderlying97 rfl Try.sizeOf3 rfl) (by decide) ?_
     refine DW.x rfl rfl (X.loadB (k := 4) Try.isAgg3 rfl rfl rfl) (by decide) ?_
     refine DW.x rfl rfl (X.idxRow (k := 2) Try.runUnderlying22 Try.sizeOf62 rfl rfl rfl (by first | omega | (simp; omega) | simp) (by first | omega | (simp; omega) | simp)) (by decide) ?_
     refine DW.x rfl rfl (X.field Try.runUnderlying62 rfl Try.sizeOf33 rfl) (by decide) ?_
     refine DW.x rfl rfl (X.loadFs (k := 2) (i := (x.At : Int).toNat) (off := 1) (us := [.int .i64 ((((gt s.Values ((x.At : Int).toNat))).Levels).Lo), .int .i64 ((((gt s.Values ((x.At : Int).toNat))).Levels).Hi)]) Try.isAgg33 Try.sizeOf33 rfl rfl (by first | omega | (simp; omega) | simp) rfl rfl) (by decide) ?_
     refine DW.x rfl rfl (X.loadBA (k := 4) Try.isAgg97 Try.sizeOf97 rfl rfl rfl) (by decide) ?_
     refine DW.x rfl rfl (X.call Try.call134 rfl (cut134 _ _ (((gt s.Values ((x.At : Int).toNat))).Levels) rfl _ x rfl )) (by decide) ?_
     refine DW.x rfl rfl (X.idxRow (k := 2) Try.runUnderlying22 Try.sizeOf62 rfl rfl rfl (by first | omega | (simp; omega) | simp) (by first | omega | (simp; omega) | simp)) (by decide) ?_
     refine DW.x rfl rfl (X.field Try.runUnderlying62 rfl Try.sizeOf33 rfl) (by decide) ?_
     refine DW.ts rfl rfl rfl rfl (T.storeFp (k := 2) (i := (x.At : Int).toNat) (off := 1) (us := [.int .i64 ((cutW ((((gt s.Values ((x.At : Int).toNat))).Levels)) x).Lo), .int .i64 ((cutW ((((gt s.Values ((x.At : Int).toNat))).Levels)) x).Hi)]) ((Val.mk (((gt s.Values ((x.At : Int).toNat))).Time) (cutW ((((gt s.Values ((x.At : Int).toNat))).Levels)) x))) Try.sizeOf33 rfl rfl rfl rfl (Nat.zero_lt_succ _) rfl (by first | omega | (simp; omega) | simp) rfl rfl (one_cons rfl (one_cons rfl one_nil))) ?_
     refine DW.nil ?_
     refine WK.nThen ?_
     refine WC.seq ?_
     refine WC.region ?_
     refine WL.x (X.loadBA (k := 0) Try.isAgg25 Try.sizeOf25 rfl rfl rfl) (by decide) ?_
     refine WL.own1 (k := 2) rfl (fun ho663 => ?_)
     refine WL.own1 (k := 1) rfl (fun ho664 => ?_)
     refine WL.ts (T.storeBA (k := 3) Try.sizeOf25 rfl rfl rfl (one_cons ho663 (one_cons ho664 one_nil)) rfl rfl) ?_
     refine WL.x (X.assign rfl) (by decide) ?_
     refine WL.nil ?_
     refine WK.nThen ?_
     refine WC.ret ?_
     refine WK.freezeF 2 rfl rfl (by first | (simp [lenB]; omega) | (simp [lenB]; done)) (fun m665 hle666 hs667 => ?_)
     replace hs2 := hs2.mono hle666
     replace hs4 := hs4.mono hle666
     replace hs621 := hs621.mono hle666
     replace hs622 := hs622.mono hle666
     refine WK.freezeF 1 rfl rfl (by first | (simp [lenB]; omega) | (simp [lenB]; done)) (fun m668 hle669 hs670 => ?_)
     replace hs2 := hs2.mono hle669
     replace hs4 := hs4.mono hle669
     replace hs621 := hs621.mono hle669
     replace hs622 := hs622.mono hle669
     replace hs667 := hs667.mono hle669
     refine WK.retC2 1 rfl rfl rfl rfl Try.isAgg25 Try.sizeOf25 (fun w' hw' => Ret.mem hw' ?_)
     have hkk : knownP s x := ⟨by omega, fun h_ => by first | omega | simp_all, fun h_ => by first | omega | simp_all⟩
     exact ⟨_, tup2 rfl (bool_eq (by rw [knownR, if_pos hkk])), by rw [knownR, if_pos hkk]; show Enc.rd _ _ (knownS s x); (first | rw [knownS, if_pos (by assumption)] | rw [knownS, if_neg (by simp_all)]); exact ⟨_, _, rfl, hs667, hs670⟩⟩

end Go.Proofs.C8
