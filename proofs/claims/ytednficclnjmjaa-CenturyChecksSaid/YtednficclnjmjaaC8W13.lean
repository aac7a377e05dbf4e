import Derived.Test.YtednficclnjmjaaC8LExact
import Derived.Test.YtednficclnjmjaaC8W12
/- Century: walks, thirteenth part, by program. -/
namespace Go.Proofs.C8
open Go Go.Kx
set_option linter.unusedSimpArgs false

theorem moved143 (m : Mem) (cs : List Value) (s : Ser) (hs : Enc.rd m cs s) (a : Int) (b : Int)  (hok : Ok s) : Exact Try.prog 143 #[.agg cs.toArray, .int .i64 (a), .int .i64 (b)] m (.agg [.int .i64 ((bt s.Shifts a b).Lo), .int .i64 ((bt s.Shifts a b).Hi)].toArray) := by
 obtain ⟨v1, v3, rfl, hs2, hs4⟩ := hs
 have hl5 := hs2.le
 have hl6 := hs4.le
 have hnV := hok.nV
 have hnX := hok.nX
 refine Exact.start Try.func143 rfl Try.ntmps143 rfl fun wld => ?_
 refine WC.seq ?_
 refine WC.region ?_
 refine WL.tn (T.boxB rfl rfl) (by decide) fun b7 => ?_
 refine WL.tn (T.alloc Try.zeroValue33 rfl) (by decide) fun b8 => ?_
 refine WL.nil ?_
 refine WK.nThen ?_
 refine WC.seq ?_
 refine WC.region ?_
 refine WL.tn (T.alloc Try.zeroValue33 rfl) (by decide) fun b9 => ?_
 refine WL.nil ?_
 refine WK.nThen ?_
 refine WC.seq ?_
 refine WC.seq ?_
 refine WC.region ?_
 refine WL.x (X.assign rfl) (by decide) ?_
 refine WL.nil ?_
 refine WK.nThen ?_
 refine WC.block ?_
 refine WC.loop (G := Nat × Int × Int) (fun (k, lo, hi) => s.Shifts.length - k) (fun (k, lo, hi) => m) (fun (k, lo, hi) => [blk b9 33 [.int .i64 (lo), .int .i64 (hi)], blk b8 33 [.int .i64 (0), .int .i64 (0)], blk b7 25 [v1, v3]]) (fun (k, lo, hi) => [(1, .int .i64 (a)), (2, .int .i64 (b)), (3, .pointer (some ⟨b7, 0, none⟩)), (6, .pointer (some ⟨b8, 0, none⟩)), (7, .pointer (some ⟨b9, 0, none⟩)), (8, .int .i64 (↑k))]) (fun (k, lo, hi) => k ≤ s.Shifts.length ∧ lo = btLo s.Shifts a b k ∧ hi = btHi s.Shifts a b k) ((0, 0, 0)) rfl (.refl _) (.cons rfl (.cons rfl (.cons rfl (.cons rfl (.cons rfl (.cons rfl .nil)))))) ?_ ?_
 ·exact ⟨Nat.zero_le _, (by first | rfl | simp [offN, sumN, totN, btLo, btHi]), (by first | rfl | simp [offN, sumN, totN, btLo, btHi])⟩
 ·rintro ⟨k, lo, hi⟩ hF10
  show WK _ _ m [blk b9 33 [.int .i64 (lo), .int .i64 (hi)], blk b8 33 [.int .i64 (0), .int .i64 (0)], blk b7 25 [v1, v3]] [(1, .int .i64 (a)), (2, .int .i64 (b)), (3, .pointer (some ⟨b7, 0, none⟩)), (6, .pointer (some ⟨b8, 0, none⟩)), (7, .pointer (some ⟨b9, 0, none⟩)), (8, .int .i64 (↑k))] _
  replace hF10 : k ≤ s.Shifts.length ∧ lo = btLo s.Shifts a b k ∧ hi = btHi s.Shifts a b k := hF10
  obtain ⟨hk, hlo, hhi⟩ := hF10
  have hbb := bt_bd hok a b (n := k) (by omega)
  have hxl := fun h => hok.xl (i := k) h
  refine WC.seq ?_
  refine WC.seq ?_
  refine WC.region ?_
  refine WL.x (X.move rfl) (by decide) ?_
  refine WL.x (X.field Try.runUnderlying25 rfl Try.sizeOf23 rfl) (by decide) ?_
  refine WL.x (X.loadB (k := 2) Try.isAgg23 rfl rfl rfl) (by decide) ?_
  refine WL.x (X.len Try.runUnderlying23 rfl hs4) (by decide) ?_
  refine WL.cond (X.lss rfl rfl) (by decide) (fun h11 => ?_) (fun h11 => ?_)
  ·refine WL.nil ?_
   refine WK.nThen ?_
   refine WC.condT rfl ?_
   refine WC.skip ?_
   refine WK.nThen ?_
   refine WC.seq ?_
   refine WC.block ?_
   refine WC.seq ?_
   refine WC.region ?_
   refine WL.x (X.field Try.runUnderlying25 rfl Try.sizeOf23 rfl) (by decide) ?_
   refine WL.x (X.loadB (k := 2) Try.isAgg23 rfl rfl rfl) (by decide) ?_
   refine WL.x (X.move rfl) (by decide) ?_
   refine WL.xe (E.idxN k Try.runUnderlying23 Try.sizeOf72 rfl rfl hs4 (by omega)) (by decide) (fun p12 hp13 => ?_)
   have hp14 := At.Shf_0 hp13
   refine WL.x (X.field Try.runUnderlying72 rfl Try.sizeOf3 rfl) (by decide) ?_
   refine WL.x (X.loadInt Try.isAgg3 rfl hp14) (by decide) ?_
   refine WL.x (X.move rfl) (by decide) ?_
   refine WL.cond (X.gtr rfl rfl) (by decide) (fun h15 => ?_) (fun h15 => ?_)
   ·refine WL.x (X.move rfl) (by decide) ?_
    refine WL.yes rfl rfl ?_
    refine WL.x (X.field Try.runUnderlying25 rfl Try.sizeOf23 rfl) (by decide) ?_
    refine WL.yes rfl rfl ?_
    refine WL.x (X.loadB (k := 2) Try.isAgg23 rfl rfl rfl) (by decide) ?_
    refine WL.yes rfl rfl ?_
    refine WL.x (X.move rfl) (by decide) ?_
    refine WL.yes rfl rfl ?_
    refine WL.xe (E.idxN k Try.runUnderlying23 Try.sizeOf72 rfl rfl hs4 (by omega)) (by decide) (fun p16 hp17 => ?_)
    refine WL.yes rfl rfl ?_
    have hp18 := At.Shf_0 hp17
    refine WL.x (X.field Try.runUnderlying72 rfl Try.sizeOf3 rfl) (by decide) ?_
    refine WL.yes rfl rfl ?_
    refine WL.x (X.loadInt Try.isAgg3 rfl hp18) (by decide) ?_
    refine WL.yes rfl rfl ?_
    refine WL.x (X.move rfl) (by decide) ?_
    refine WL.yes rfl rfl ?_
    refine WL.cond (X.leq rfl rfl) (by decide) (fun h19 => ?_) (fun h19 => ?_)
    ·refine WL.x (X.pickT rfl rfl rfl) (by decide) ?_
     refine WL.nil ?_
     refine WK.nThen ?_
     refine WC.condT rfl ?_
     refine WC.seq ?_
     refine WC.draw (π := (.cons 0 (.cons 1 (.cons 2 (.cons 3 (.cons 4 (.cons 5 (.cons 6 (.cons 7 (.cons 8 (.cons 9 (.cons 10 (.cons 11 .done))))))))))))) [11] [11] rfl (by kernel_rfl) ?_
     refine DW.x rfl rfl (X.field Try.runUnderlying33 rfl Try.sizeOf3 rfl) (by decide) ?_
     refine DW.x rfl rfl (X.loadB (k := 0) Try.isAgg3 rfl rfl rfl) (by decide) ?_
     refine DW.x rfl rfl (X.field Try.runUnderlying25 rfl Try.sizeOf23 rfl) (by decide) ?_
     refine DW.x rfl rfl (X.loadB (k := 2) Try.isAgg23 rfl rfl rfl) (by decide) ?_
     refine DW.x rfl rfl (X.move rfl) (by decide) ?_
     refine DW.xe rfl rfl (E.idxN k Try.runUnderlying23 Try.sizeOf72 rfl rfl hs4 (by omega)) (by decide) (fun p20 hp21 => ?_)
     have hp22 := At.Shf_1 hp21
     refine DW.x rfl rfl (X.field Try.runUnderlying72 rfl Try.sizeOf33 rfl) (by decide) ?_
     have hp23 := At.Span_0 hp22
     refine DW.x rfl rfl (X.field Try.runUnderlying33 rfl Try.sizeOf3 rfl) (by decide) ?_
     refine DW.x rfl rfl (X.loadInt Try.isAgg3 rfl hp23) (by decide) ?_
     refine DW.x rfl rfl (X.add rfl rfl (by omega) (by omega)) (by decide) ?_
     refine DW.x rfl rfl (X.field Try.runUnderlying33 rfl Try.sizeOf3 rfl) (by decide) ?_
     refine DW.ts rfl rfl rfl rfl (T.storeB (k := 0) Try.sizeOf3 rfl rfl rfl rfl (Nat.le_of_ble_eq_true rfl)) ?_
     refine DW.nil ?_
     refine WK.nThen ?_
     refine WC.draw (π := (.cons 0 (.cons 1 (.cons 2 (.cons 3 (.cons 4 (.cons 5 (.cons 6 (.cons 7 (.cons 8 (.cons 9 (.cons 10 (.cons 11 .done))))))))))))) [11] [11] rfl (by kernel_rfl) ?_
     refine DW.x rfl rfl (X.field Try.runUnderlying33 rfl Try.sizeOf3 rfl) (by decide) ?_
     refine DW.x rfl rfl (X.loadB (k := 0) Try.isAgg3 rfl rfl rfl) (by decide) ?_
     refine DW.x rfl rfl (X.field Try.runUnderlying25 rfl Try.sizeOf23 rfl) (by decide) ?_
     refine DW.x rfl rfl (X.loadB (k := 2) Try.isAgg23 rfl rfl rfl) (by decide) ?_
     refine DW.x rfl rfl (X.move rfl) (by decide) ?_
     refine DW.xe rfl rfl (E.idxN k Try.runUnderlying23 Try.sizeOf72 rfl rfl hs4 (by omega)) (by decide) (fun p24 hp25 => ?_)
     have hp26 := At.Shf_1 hp25
     refine DW.x rfl rfl (X.field Try.runUnderlying72 rfl Try.sizeOf33 rfl) (by decide) ?_
     have hp27 := At.Span_1 hp26
     refine DW.x rfl rfl (X.field Try.runUnderlying33 rfl Try.sizeOf3 rfl) (by decide) ?_
     refine DW.x rfl rfl (X.loadInt Try.isAgg3 rfl hp27) (by decide) ?_
     refine DW.x rfl rfl (X.add rfl rfl (by omega) (by omega)) (by decide) ?_
     refine DW.x rfl rfl (X.field Try.runUnderlying33 rfl Try.sizeOf3 rfl) (by decide) ?_
     refine DW.ts rfl rfl rfl rfl (T.storeB (k := 0) Try.sizeOf3 rfl rfl rfl rfl (Nat.le_of_ble_eq_true rfl)) ?_
     refine DW.nil ?_
     refine WK.nBlock ?_
     refine WK.nThen ?_
     refine WC.region ?_
     refine WL.x (X.move rfl) (by decide) ?_
     refine WL.x (X.add rfl rfl (by omega) (by omega)) (by decide) ?_
     refine WL.x (X.assign rfl) (by decide) ?_
     refine WL.nil ?_
     refine WK.nThen ?_
     refine WK.next ((k + 1, lo + (((gt s.Shifts k).Levels).Lo), hi + (((gt s.Shifts k).Levels).Hi))) rfl (.refl _) (.cons rfl (.cons rfl (.cons rfl (.cons rfl (.cons rfl (.cons rfl .nil)))))) ?_ ?_
     ·refine ⟨by omega, ?_, ?_⟩
      ·have hs_ : btLo s.Shifts a b (k + 1) = btLo s.Shifts a b k + (if a < (gt s.Shifts k).Time ∧ (gt s.Shifts k).Time ≤ b then (gt s.Shifts k).Levels.Lo else 0) := rfl
       (repeat' split at hs_) <;> (try dsimp only at hs_) <;> first | omega | contradiction
      ·have hs_ : btHi s.Shifts a b (k + 1) = btHi s.Shifts a b k + (if a < (gt s.Shifts k).Time ∧ (gt s.Shifts k).Time ≤ b then (gt s.Shifts k).Levels.Hi else 0) := rfl
       (repeat' split at hs_) <;> (try dsimp only at hs_) <;> first | omega | contradiction
     ·(dsimp only; omega)
    ·refine WL.x (X.pickT rfl rfl rfl) (by decide) ?_
     refine WL.nil ?_
     refine WK.nThen ?_
     refine WC.condF rfl ?_
     refine WC.skip ?_
     refine WK.nBlock ?_
     refine WK.nThen ?_
     refine WC.region ?_
     refine WL.x (X.move rfl) (by decide) ?_
     refine WL.x (X.add rfl rfl (by omega) (by omega)) (by decide) ?_
     refine WL.x (X.assign rfl) (by decide) ?_
     refine WL.nil ?_
     refine WK.nThen ?_
     refine WK.next ((k + 1, lo, hi)) rfl (.refl _) (.cons rfl (.cons rfl (.cons rfl (.cons rfl (.cons rfl (.cons rfl .nil)))))) ?_ ?_
     ·refine ⟨by omega, ?_, ?_⟩
      ·have hs_ : btLo s.Shifts a b (k + 1) = btLo s.Shifts a b k + (if a < (gt s.Shifts k).Time ∧ (gt s.Shifts k).Time ≤ b then (gt s.Shifts k).Levels.Lo else 0) := rfl
       (repeat' split at hs_) <;> (try dsimp only at hs_) <;> first | omega | contradiction
      ·have hs_ : btHi s.Shifts a b (k + 1) = btHi s.Shifts a b k + (if a < (gt s.Shifts k).Time ∧ (gt s.Shifts k).Time ≤ b then (gt s.Shifts k).Levels.Hi else 0) := rfl
       (repeat' split at hs_) <;> (try dsimp only at hs_) <;> first | omega | contradiction
     ·(dsimp only; omega)
   ·refine WL.x (X.move rfl) (by decide) ?_
    refine WL.no rfl rfl rfl (by decide) ?_
    refine WL.no rfl rfl rfl (by decide) ?_
    refine WL.no rfl rfl rfl (by decide) ?_
    refine WL.no rfl rfl rfl (by decide) ?_
    refine WL.no rfl rfl rfl (by decide) ?_
    refine WL.no rfl rfl rfl (by decide) ?_
    refine WL.no rfl rfl rfl (by decide) ?_
    refine WL.no rfl rfl rfl (by decide) ?_
    refine WL.x (X.pickF rfl rfl rfl) (by decide) ?_
    refine WL.nil ?_
    refine WK.nThen ?_
    refine WC.condF rfl ?_
    refine WC.skip ?_
    refine WK.nBlock ?_
    refine WK.nThen ?_
    refine WC.region ?_
    refine WL.x (X.move rfl) (by decide) ?_
    refine WL.x (X.add rfl rfl (by omega) (by omega)) (by decide) ?_
    refine WL.x (X.assign rfl) (by decide) ?_
    refine WL.nil ?_
    refine WK.nThen ?_
    refine WK.next ((k + 1, lo, hi)) rfl (.refl _) (.cons rfl (.cons rfl (.cons rfl (.cons rfl (.cons rfl (.cons rfl .nil)))))) ?_ ?_
    ·refine ⟨by omega, ?_, ?_⟩
     ·have hs_ : btLo s.Shifts a b (k + 1) = btLo s.Shifts a b k + (if a < (gt s.Shifts k).Time ∧ (gt s.Shifts k).Time ≤ b then (gt s.Shifts k).Levels.Lo else 0) := rfl
      (repeat' split at hs_) <;> (try dsimp only at hs_) <;> first | omega | contradiction
     ·have hs_ : btHi s.Shifts a b (k + 1) = btHi s.Shifts a b k + (if a < (gt s.Shifts k).Time ∧ (gt s.Shifts k).Time ≤ b then (gt s.Shifts k).Levels.Hi else 0) := rfl
      (repeat' split at hs_) <;> (try dsimp only at hs_) <;> first | omega | contradiction
    ·(dsimp only; omega)
  ·refine WL.nil ?_
   refine WK.nThen ?_
   refine WC.condF rfl ?_
   refine WC.exit ?_
   refine WK.eThen ?_
   refine WK.eThen ?_
   refine WK.eHit ?_
   refine WK.nThen ?_
   refine WC.seq ?_
   refine WC.region ?_
   refine WL.x (X.loadBA (k := 0) Try.isAgg33 Try.sizeOf33 rfl rfl rfl) (by decide) ?_
   refine WL.ts (T.storeBA (k := 1) Try.sizeOf33 rfl rfl rfl (one_cons rfl (one_cons rfl one_nil)) rfl rfl) ?_
   refine WL.nil ?_
   refine WK.nThen ?_
   refine WC.ret ?_
   refine WK.retC1 1 rfl rfl rfl Try.isAgg33 Try.sizeOf33 (fun w' hw' => Ret.exact hw' ?_)
   exact agg2i (by rw [hlo, show k = s.Shifts.length by omega]; rfl) (by rw [hhi, show k = s.Shifts.length by omega]; rfl)

theorem even111 (m : Mem) {cs : List Value} {s : Ser} (hs : Enc.rd m cs s) (hok : Ok s) (k : Nat) (ik : Int) (hik : ik = k) (hk : k < s.Values.length) : Exact Try.prog 111 #[.agg cs.toArray, .int .i64 ik] m (.agg #[.int .i64 (evS s k).Lo, .int .i64 (evS s k).Hi]) := by
 obtain ⟨v1, v3, rfl, hs2, hs4⟩ := hs
 have hl5 := hs2.le
 have hl6 := hs4.le
 subst hik
 have hnV := hok.nV
 have hnX := hok.nX
 have hbb := bt_bd hok (-1) (gt s.Values k).Time (Nat.le_refl _)
 have hvl := hok.vl hk
 have hb1 : (bt s.Shifts (-1) (gt s.Values k).Time).Lo = btLo s.Shifts (-1) (gt s.Values k).Time s.Shifts.length := rfl
 have hb2 : (bt s.Shifts (-1) (gt s.Values k).Time).Hi = btHi s.Shifts (-1) (gt s.Values k).Time s.Shifts.length := rfl
 refine Exact.start Try.func111 rfl Try.ntmps111 rfl fun wld => ?_
 refine WC.seq ?_
 refine WC.region ?_
 refine WL.tn (T.boxB rfl rfl) (by decide) fun b7 => ?_
 refine WL.tn (T.alloc Try.zeroValue33 rfl) (by decide) fun b8 => ?_
 refine WL.nil ?_
 refine WK.nThen ?_
 refine WC.seq ?_
 refine WC.region ?_
 refine WL.x (X.field Try.runUnderlying25 rfl Try.sizeOf22 rfl) (by decide) ?_
 refine WL.x (X.loadB (k := 1) Try.isAgg22 rfl rfl rfl) (by decide) ?_
 refine WL.x (X.move rfl) (by decide) ?_
 refine WL.xe (E.idxN k Try.runUnderlying22 Try.sizeOf62 rfl rfl hs2 (by omega)) (by decide) (fun p9 hp10 => ?_)
 refine WL.xe (E.loadAgg Try.isAgg62 Try.sizeOf62 rfl hp10) (by decide) (fun c11 hc12 => ?_)
 obtain rfl := hc12
 refine WL.tn (T.alloc Try.zeroValue62 rfl) (by decide) fun b13 => ?_
 refine WL.ts (T.storeBA (k := 0) Try.sizeOf62 rfl rfl rfl (one_cons rfl (one_cons rfl (one_cons rfl one_nil))) rfl rfl) ?_
 refine WL.nil ?_
 refine WK.nThen ?_
 refine WC.seq ?_
 refine WC.region ?_
 refine WL.x (X.loadBA (k := 2) Try.isAgg25 Try.sizeOf25 rfl rfl rfl) (by decide) ?_
 refine WL.x (X.field Try.runUnderlying62 rfl Try.sizeOf3 rfl) (by decide) ?_
 refine WL.x (X.loadB (k := 0) Try.isAgg3 rfl rfl rfl) (by decide) ?_
 refine WL.x (X.call Try.call143 rfl (moved143 _ _ s ⟨_, _, rfl, hs2, hs4⟩ _ _ (by assumption))) (by decide) ?_
 refine WL.tn (T.alloc Try.zeroValue33 rfl) (by decide) fun b14 => ?_
 refine WL.ts (T.storeBA (k := 0) Try.sizeOf33 rfl rfl rfl (one_cons rfl (one_cons rfl one_nil)) rfl rfl) ?_
 refine WL.nil ?_
 refine WK.nThen ?_
 refine WC.seq ?_
 refine WC.region ?_
 refine WL.x (X.field Try.runUnderlying62 rfl Try.sizeOf33 rfl) (by decide) ?_
 refine WL.x (X.field Try.runUnderlying33 rfl Try.sizeOf3 rfl) (by decide) ?_
 refine WL.x (X.loadB (k := 1) Try.isAgg3 rfl rfl rfl) (by decide) ?_
 refine WL.x (X.field Try.runUnderlying33 rfl Try.sizeOf3 rfl) (by decide) ?_
 refine WL.x (X.loadB (k := 0) Try.isAgg3 rfl rfl rfl) (by decide) ?_
 refine WL.x (X.sub rfl rfl (by omega) (by omega)) (by decide) ?_
 refine WL.x (X.field Try.runUnderlying62 rfl Try.sizeOf33 rfl) (by decide) ?_
 refine WL.x (X.field Try.runUnderlying33 rfl Try.sizeOf3 rfl) (by decide) ?_
 refine WL.x (X.loadB (k := 1) Try.isAgg3 rfl rfl rfl) (by decide) ?_
 refine WL.x (X.field Try.runUnderlying33 rfl Try.sizeOf3 rfl) (by decide) ?_
 refine WL.x (X.loadB (k := 0) Try.isAgg3 rfl rfl rfl) (by decide) ?_
 refine WL.x (X.sub rfl rfl (by omega) (by omega)) (by decide) ?_
 refine WL.x (V := Value.agg [.int .i64 ((((gt s.Values k).Levels).Lo) - ((bt s.Shifts ((-1)) (((gt s.Values k).Time))).Hi)), .int .i64 ((((gt s.Values k).Levels).Hi) - ((bt s.Shifts ((-1)) (((gt s.Values k).Time))).Lo))].toArray) (X.build Try.zeroValue33 Try.runUnderlying33 (places33 _ Try.underlying33) rfl rfl) (by decide) ?_
 refine WL.ts (T.storeBA (k := 2) Try.sizeOf33 rfl rfl rfl (one_cons rfl (one_cons rfl one_nil)) rfl rfl) ?_
 refine WL.nil ?_
 refine WK.nThen ?_
 refine WC.ret ?_
 refine WK.retC1 2 rfl rfl rfl Try.isAgg33 Try.sizeOf33 (fun w' hw' => Ret.exact hw' ?_)
 first | rfl | exact agg2i rfl rfl

end Go.Proofs.C8
