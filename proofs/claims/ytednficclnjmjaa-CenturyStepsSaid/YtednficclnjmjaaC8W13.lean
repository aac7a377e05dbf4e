import Derived.Test.YtednficclnjmjaaC8LNar
import Derived.Test.YtednficclnjmjaaC8W12
/- Century: walks, thirteenth part, by program. -/
namespace Go.Proofs.C8
open Go Go.Kx
set_option linter.unusedSimpArgs false

theorem moved143 (m : Mem) (cs : List Value) (s : Ser) (hs : Enc.rd m cs s) (a : Int) (b : Int)  (hok : Ok s) : Exact Try.prog 143 #[.agg cs.toArray, .int .i64 (a), .int .i64 (b)] m (.agg [.int .i64 ((bt s.Shifts a b).Lo), .int .i64 ((bt s.Shifts a b).Hi)].toArray) := by
 obtain ⟨v1, v3, rfl, hs2, hs4⟩ := hs
 have hl5 := hs2.le
 have hl6 := hs4.le
 have hnV := hok.nV
 have hnX := hok.nX
 refine Exact.start Try.func143 rfl Try.ntmps143 rfl fun wld => ?_
 refine WC.seq ?_
 refine WC.region ?_
 refine WL.tn (T.boxB rfl rfl) (by decide) fun b7 => ?_
 refine WL.tn (T.alloc Try.zeroValue33 rfl) (by decide) fun b8 => ?_
 refine WL.nil ?_
 refine WK.nThen ?_
 refine WC.seq ?_
 refine WC.region ?_
 refine WL.tn (T.alloc Try.zeroValue33 rfl) (by decide) fun b9 => ?_
 refine WL.nil ?_
 refine WK.nThen ?_
 refine WC.seq ?_
 refine WC.seq ?_
 refine WC.region ?_
 refine WL.x (X.assign rfl) (by decide) ?_
 refine WL.nil ?_
 refine WK.nThen ?_
 refine WC.block ?_
 refine WC.loop (G := Nat × Int × Int) (fun (k, lo, hi) => s.Shifts.length - k) (fun (k, lo, hi) => m) (fun (k, lo, hi) => [blk b9 33 [.int .i64 (lo), .int .i64 (hi)], blk b8 33 [.int .i64 (0), .int .i64 (0)], blk b7 25 [v1, v3]]) (fun (k, lo, hi) => [(1, .int .i64 (a)), (2, .int .i64 (b)), (3, .pointer (some ⟨b7, 0, none⟩)), (6, .pointer (some ⟨b8, 0, none⟩)), (7, .pointer (some ⟨b9, 0, none⟩)), (8, .int .i64 (↑k))]) (fun (k, lo, hi) => k ≤ s.Shifts.length ∧ lo = btLo s.Shifts a b k ∧ hi = btHi s.Shifts a b k) ((0, 0, 0)) rfl (.refl _) (.cons rfl (.cons rfl (.cons rfl (.cons rfl (.cons rfl (.cons rfl .nil)))))) ?_ ?_
 ·exact ⟨Nat.zero_le _, (by first | rfl | simp [offN, sumN, totN, btLo, btHi]), (by first | rfl | simp [offN, sumN, totN, btLo, btHi])⟩
 ·rintro ⟨k, lo, hi⟩ hF10
  show WK _ _ m [blk b9 33 [.int .i64 (lo), .int .i64 (hi)], blk b8 33 [.int .i64 (0), .int .i64 (0)], blk b7 25 [v1, v3]] [(1, .int .i64 (a)), (2, .int .i64 (b)), (3, .pointer (some ⟨b7, 0, none⟩)), (6, .pointer (some ⟨b8, 0, none⟩)), (7, .pointer (some ⟨b9, 0, none⟩)), (8, .int .i64 (↑k))] _
  replace hF10 : k ≤ s.Shifts.length ∧ lo = btLo s.Shifts a b k ∧ hi = btHi s.Shifts a b k := hF10
  obtain ⟨hk, hlo, hhi⟩ := hF10
  have hbb := bt_bd hok a b (n := k) (by omega)
  have hxl := fun h => hok.xl (i := k) h
  refine WC.seq ?_
  refine WC.seq ?_
  refine WC.region ?_
  refine WL.x (X.move rfl) (by decide) ?_
  refine WL.x (X.field Try.runUnderlying25 rfl Try.sizeOf23 rfl) (by decide) ?_
  refine WL.x (X.loadB (k := 2) Try.isAgg23 rfl rfl rfl) (by decide) ?_
  refine WL.x (X.len Try.runUnderlying23 rfl hs4) (by decide) ?_
  refine WL.cond (X.lss rfl rfl) (by decide) (fun h11 => ?_) (fun h11 => ?_)
  ·refine WL.nil ?_
   refine WK.nThen ?_
   refine WC.condT rfl ?_
   refine WC.skip ?_
   refine WK.nThen ?_
   refine WC.seq ?_
   refine WC.block ?_
   refine WC.seq ?_
   refine WC.region ?_
   refine WL.x (X.field Try.runUnderlying25 rfl Try.sizeOf23 rfl) (by decide) ?_
   refine WL.x (X.loadB (k := 2) Try.isAgg23 rfl rfl rfl) (by decide) ?_
   refine WL.x (X.move rfl) (by decide) ?_
   refine WL.xe (E.idxN k Try.runUnderlying23 Try.sizeOf72 rfl rfl hs4 (by omega)) (by decide) (fun p12 hp13 => ?_)
   have hp14 := At.Shf_0 hp13
   refine WL.x (X.field Try.runUnderlying72 rfl Try.sizeOf3 rfl) (by decide) ?_
   refine WL.x (X.loadInt Try.isAgg3 rfl hp14) (by decide) ?_
   refine WL.x (X.move rfl) (by decide) ?_
   refine WL.cond (X.gtr rfl rfl) (by decide) (fun h15 => ?_) (fun h15 => ?_)
   ·refine WL.x (X.move rfl) (by decide) ?_
    refine WL.yes rfl rfl ?_
    refine WL.x (X.field Try.runUnderlying25 rfl Try.sizeOf23 rfl) (by decide) ?_
    refine WL.yes rfl rfl ?_
    refine WL.x (X.loadB (k := 2) Try.isAgg23 rfl rfl rfl) (by decide) ?_
    refine WL.yes rfl rfl ?_
    refine WL.x (X.move rfl) (by decide) ?_
    refine WL.yes rfl rfl ?_
    refine WL.xe (E.idxN k Try.runUnderlying23 Try.sizeOf72 rfl rfl hs4 (by omega)) (by decide) (fun p16 hp17 => ?_)
    refine WL.yes rfl rfl ?_
    have hp18 := At.Shf_0 hp17
    refine WL.x (X.field Try.runUnderlying72 rfl Try.sizeOf3 rfl) (by decide) ?_
    refine WL.yes rfl rfl ?_
    refine WL.x (X.loadInt Try.isAgg3 rfl hp18) (by decide) ?_
    refine WL.yes rfl rfl ?_
    refine WL.x (X.move rfl) (by decide) ?_
    refine WL.yes rfl rfl ?_
    refine WL.cond (X.leq rfl rfl) (by decide) (fun h19 => ?_) (fun h19 => ?_)
    ·refine WL.x (X.pickT rfl rfl rfl) (by decide) ?_
     refine WL.nil ?_
     refine WK.nThen ?_
     refine WC.condT rfl ?_
     refine WC.seq ?_
     refine WC.draw (π := (.cons 0 (.cons 1 (.cons 2 (.cons 3 (.cons 4 (.cons 5 (.cons 6 (.cons 7 (.cons 8 (.cons 9 (.cons 10 (.cons 11 .done))))))))))))) [11] [11] rfl (by kernel_rfl) ?_
     refine DW.x rfl rfl (X.field Try.runUnderlying33 rfl Try.sizeOf3 rfl) (by decide) ?_
     refine DW.x rfl rfl (X.loadB (k := 0) Try.isAgg3 rfl rfl rfl) (by decide) ?_
     refine DW.x rfl rfl (X.field Try.runUnderlying25 rfl Try.sizeOf23 rfl) (by decide) ?_
     refine DW.x rfl rfl (X.loadB (k := 2) Try.isAgg23 rfl rfl rfl) (by decide) ?_
     refine DW.x rfl rfl (X.move rfl) (by decide) ?_
     refine DW.xe rfl rfl (E.idxN k Try.runUnderlying23 Try.sizeOf72 rfl rfl hs4 (by omega)) (by decide) (fun p20 hp21 => ?_)
     have hp22 := At.Shf_1 hp21
     refine DW.x rfl rfl (X.field Try.runUnderlying72 rfl Try.sizeOf33 rfl) (by decide) ?_
     have hp23 := At.Span_0 hp22
     refine DW.x rfl rfl (X.field Try.runUnderlying33 rfl Try.sizeOf3 rfl) (by decide) ?_
     refine DW.x rfl rfl (X.loadInt Try.isAgg3 rfl hp23) (by decide) ?_
     refine DW.x rfl rfl (X.add rfl rfl (by omega) (by omega)) (by decide) ?_
     refine DW.x rfl rfl (X.field Try.runUnderlying33 rfl Try.sizeOf3 rfl) (by decide) ?_
     refine DW.ts rfl rfl rfl rfl (T.storeB (k := 0) Try.sizeOf3 rfl rfl rfl rfl (Nat.le_of_ble_eq_true rfl)) ?_
     refine DW.nil ?_
     refine WK.nThen ?_
     refine WC.draw (π := (.cons 0 (.cons 1 (.cons 2 (.cons 3 (.cons 4 (.cons 5 (.cons 6 (.cons 7 (.cons 8 (.cons 9 (.cons 10 (.cons 11 .done))))))))))))) [11] [11] rfl (by kernel_rfl) ?_
     refine DW.x rfl rfl (X.field Try.runUnderlying33 rfl Try.sizeOf3 rfl) (by decide) ?_
     refine DW.x rfl rfl (X.loadB (k := 0) Try.isAgg3 rfl rfl rfl) (by decide) ?_
     refine DW.x rfl rfl (X.field Try.runUnderlying25 rfl Try.sizeOf23 rfl) (by decide) ?_
     refine DW.x rfl rfl (X.loadB (k := 2) Try.isAgg23 rfl rfl rfl) (by decide) ?_
     refine DW.x rfl rfl (X.move rfl) (by decide) ?_
     refine DW.xe rfl rfl (E.idxN k Try.runUnderlying23 Try.sizeOf72 rfl rfl hs4 (by omega)) (by decide) (fun p24 hp25 => ?_)
     have hp26 := At.Shf_1 hp25
     refine DW.x rfl rfl (X.field Try.runUnderlying72 rfl Try.sizeOf33 rfl) (by decide) ?_
     have hp27 := At.Span_1 hp26
     refine DW.x rfl rfl (X.field Try.runUnderlying33 rfl Try.sizeOf3 rfl) (by decide) ?_
     refine DW.x rfl rfl (X.loadInt Try.isAgg3 rfl hp27) (by decide) ?_
     refine DW.x rfl rfl (X.add rfl rfl (by omega) (by omega)) (by decide) ?_
     refine DW.x rfl rfl (X.field Try.runUnderlying33 rfl Try.sizeOf3 rfl) (by decide) ?_
     refine DW.ts rfl rfl rfl rfl (T.storeB (k := 0) Try.sizeOf3 rfl rfl rfl rfl (Nat.le_of_ble_eq_true rfl)) ?_
     refine DW.nil ?_
     refine WK.nBlock ?_
     refine WK.nThen ?_
     refine WC.region ?_
     refine WL.x (X.move rfl) (by decide) ?_
     refine WL.x (X.add rfl rfl (by omega) (by omega)) (by decide) ?_
     refine WL.x (X.assign rfl) (by decide) ?_
     refine WL.nil ?_
     refine WK.nThen ?_
     refine WK.next ((k + 1, lo + (((gt s.Shifts k).Levels).Lo), hi + (((gt s.Shifts k).Levels).Hi))) rfl (.refl _) (.cons rfl (.cons rfl (.cons rfl (.cons rfl (.cons rfl (.cons rfl .nil)))))) ?_ ?_
     ·refine ⟨by omega, ?_, ?_⟩
      ·have hs_ : btLo s.Shifts a b (k + 1) = btLo s.Shifts a b k + (if a < (gt s.Shifts k).Time ∧ (gt s.Shifts k).Time ≤ b then (gt s.Shifts k).Levels.Lo else 0) := rfl
       (repeat' split at hs_) <;> (try dsimp only at hs_) <;> first | omega | contradiction
      ·have hs_ : btHi s.Shifts a b (k + 1) = btHi s.Shifts a b k + (if a < (gt s.Shifts k).Time ∧ (gt s.Shifts k).Time ≤ b then (gt s.Shifts k).Levels.Hi else 0) := rfl
       (repeat' split at hs_) <;> (try dsimp only at hs_) <;> first | omega | contradiction
     ·(dsimp only; omega)
    ·refine WL.x (X.pickT rfl rfl rfl) (by decide) ?_
     refine WL.nil ?_
     refine WK.nThen ?_
     refine WC.condF rfl ?_
     refine WC.skip ?_
     refine WK.nBlock ?_
     refine WK.nThen ?_
     refine WC.region ?_
     refine WL.x (X.move rfl) (by decide) ?_
     refine WL.x (X.add rfl rfl (by omega) (by omega)) (by decide) ?_
     refine WL.x (X.assign rfl) (by decide) ?_
     refine WL.nil ?_
     refine WK.nThen ?_
     refine WK.next ((k + 1, lo, hi)) rfl (.refl _) (.cons rfl (.cons rfl (.cons rfl (.cons rfl (.cons rfl (.cons rfl .nil)))))) ?_ ?_
     ·refine ⟨by omega, ?_, ?_⟩
      ·have hs_ : btLo s.Shifts a b (k + 1) = btLo s.Shifts a b k + (if a < (gt s.Shifts k).Time ∧ (gt s.Shifts k).Time ≤ b then (gt s.Shifts k).Levels.Lo else 0) := rfl
       (repeat' split at hs_) <;> (try dsimp only at hs_) <;> first | omega | contradiction
      ·have hs_ : btHi s.Shifts a b (k + 1) = btHi s.Shifts a b k + (if a < (gt s.Shifts k).Time ∧ (gt s.Shifts k).Time ≤ b then (gt s.Shifts k).Levels.Hi else 0) := rfl
       (repeat' split at hs_) <;> (try dsimp only at hs_) <;> first | omega | contradiction
     ·(dsimp only; omega)
   ·refine WL.x (X.move rfl) (by decide) ?_
    refine WL.no rfl rfl rfl (by decide) ?_
    refine WL.no rfl rfl rfl (by decide) ?_
    refine WL.no rfl rfl rfl (by decide) ?_
    refine WL.no rfl rfl rfl (by decide) ?_
    refine WL.no rfl rfl rfl (by decide) ?_
    refine WL.no rfl rfl rfl (by decide) ?_
    refine WL.no rfl rfl rfl (by decide) ?_
    refine WL.no rfl rfl rfl (by decide) ?_
    refine WL.x (X.pickF rfl rfl rfl) (by decide) ?_
    refine WL.nil ?_
    refine WK.nThen ?_
    refine WC.condF rfl ?_
    refine WC.skip ?_
    refine WK.nBlock ?_
    refine WK.nThen ?_
    refine WC.region ?_
    refine WL.x (X.move rfl) (by decide) ?_
    refine WL.x (X.add rfl rfl (by omega) (by omega)) (by decide) ?_
    refine WL.x (X.assign rfl) (by decide) ?_
    refine WL.nil ?_
    refine WK.nThen ?_
    refine WK.next ((k + 1, lo, hi)) rfl (.refl _) (.cons rfl (.cons rfl (.cons rfl (.cons rfl (.cons rfl (.cons rfl .nil)))))) ?_ ?_
    ·refine ⟨by omega, ?_, ?_⟩
     ·have hs_ : btLo s.Shifts a b (k + 1) = btLo s.Shifts a b k + (if a < (gt s.Shifts k).Time ∧ (gt s.Shifts k).Time ≤ b then (gt s.Shifts k).Levels.Lo else 0) := rfl
      (repeat' split at hs_) <;> (try dsimp only at hs_) <;> first | omega | contradiction
     ·have hs_ : btHi s.Shifts a b (k + 1) = btHi s.Shifts a b k + (if a < (gt s.Shifts k).Time ∧ (gt s.Shifts k).Time ≤ b then (gt s.Shifts k).Levels.Hi else 0) := rfl
      (repeat' split at hs_) <;> (try dsimp only at hs_) <;> first | omega | contradiction
    ·(dsimp only; omega)
  ·refine WL.nil ?_
   refine WK.nThen ?_
   refine WC.condF rfl ?_
   refine WC.exit ?_
   refine WK.eThen ?_
   refine WK.eThen ?_
   refine WK.eHit ?_
   refine WK.nThen ?_
   refine WC.seq ?_
   refine WC.region ?_
   refine WL.x (X.loadBA (k := 0) Try.isAgg33 Try.sizeOf33 rfl rfl rfl) (by decide) ?_
   refine WL.ts (T.storeBA (k := 1) Try.sizeOf33 rfl rfl rfl (one_cons rfl (one_cons rfl one_nil)) rfl rfl) ?_
   refine WL.nil ?_
   refine WK.nThen ?_
   refine WC.ret ?_
   refine WK.retC1 1 rfl rfl rfl Try.isAgg33 Try.sizeOf33 (fun w' hw' => Ret.exact hw' ?_)
   exact agg2i (by rw [hlo, show k = s.Shifts.length by omega]; rfl) (by rw [hhi, show k = s.Shifts.length by omega]; rfl)

theorem later88 (m : Mem) {cr : List Value} {r : Ser} (hr : Enc.rd m cr r) (hok : Ok r) (i k : Nat) (ii ik : Int) (hii : ii = i) (hik : ik = k) (hi : i < r.Values.length) (hk : k < r.Values.length) : Exact Try.prog 88 #[.agg cr.toArray, .int .i64 ik, .int .i64 ii] m (.agg #[.int .i64 (gap r i k).Lo, .int .i64 (gap r i k).Hi]) := by
 obtain ⟨v1, v3, rfl, hs2, hs4⟩ := hr
 have hl5 := hs2.le
 have hl6 := hs4.le
 subst hii
 subst hik
 have hnV := hok.nV
 have hnX := hok.nX
 have hgf := gap_fac (s := r) (i := i) (k := k)
 refine Exact.start Try.func88 rfl Try.ntmps88 rfl fun wld => ?_
 refine WC.seq ?_
 refine WC.region ?_
 refine WL.tn (T.boxB rfl rfl) (by decide) fun b7 => ?_
 refine WL.tn (T.alloc Try.zeroValue33 rfl) (by decide) fun b8 => ?_
 refine WL.nil ?_
 refine WK.nThen ?_
 refine WC.seq ?_
 refine WC.region ?_
 refine WL.x (X.field Try.runUnderlying25 rfl Try.sizeOf22 rfl) (by decide) ?_
 refine WL.x (X.loadB (k := 1) Try.isAgg22 rfl rfl rfl) (by decide) ?_
 refine WL.x (X.len Try.runUnderlying22 rfl hs2) (by decide) ?_
 refine WL.ta (T.makeN r.Values.length (a := (0 : Int)) sl28 rfl rfl rfl (by omega) (by decide)) (by decide) (fun v9 => ?_)
 refine WL.x (X.assign rfl) (by decide) ?_
 refine WL.nil ?_
 refine WK.nThen ?_
 refine WC.seq ?_
 have hz1 := gt_rep (j := i) hi
 refine WC.region ?_
 refine WL.x (X.move rfl) (by decide) ?_
 refine WL.x (X.move rfl) (by decide) ?_
 refine WL.x (X.idxI (k := 0) Try.runUnderlying28 Try.sizeOf3 rfl rfl rfl (by first | omega | (simp; omega) | simp) (by first | omega | (simp; omega) | simp)) (by decide) ?_
 refine WL.x (X.loadI (k := 0) (i := i) Try.isAgg3 rfl rfl (by first | omega | (simp; omega) | simp)) (by decide) ?_
 refine WL.x (X.add rfl rfl (by omega) (by omega)) (by decide) ?_
 refine WL.x (X.idxI (k := 0) Try.runUnderlying28 Try.sizeOf3 rfl rfl rfl (by first | omega | (simp; omega) | simp) (by first | omega | (simp; omega) | simp)) (by decide) ?_
 refine WL.ts (T.storeI (k := 0) (i := i) Try.sizeOf3 rfl rfl rfl (by first | omega | (simp; omega) | simp)) ?_
 refine WL.nil ?_
 refine WK.nThen ?_
 refine WC.seq ?_
 have hz2 := gap_mid hi hk
 refine WC.region ?_
 refine WL.x (X.move rfl) (by decide) ?_
 refine WL.x (X.move rfl) (by decide) ?_
 refine WL.x (X.idxI (k := 0) Try.runUnderlying28 Try.sizeOf3 rfl rfl rfl (by first | omega | (simp; omega) | simp) (by first | omega | (simp; omega) | simp)) (by decide) ?_
 refine WL.x (X.loadI (k := 0) (i := k) Try.isAgg3 rfl rfl (by first | omega | (simp; omega) | simp)) (by decide) ?_
 refine WL.x (X.sub rfl rfl (by omega) (by omega)) (by decide) ?_
 refine WL.x (X.idxI (k := 0) Try.runUnderlying28 Try.sizeOf3 rfl rfl rfl (by first | omega | (simp; omega) | simp) (by first | omega | (simp; omega) | simp)) (by decide) ?_
 refine WL.ts (T.storeI (k := 0) (i := k) Try.sizeOf3 rfl rfl rfl (by first | omega | (simp; omega) | simp)) ?_
 refine WL.nil ?_
 refine WK.nThen ?_
 refine WC.seq ?_
 have hgl : (gapL r.Values.length i k).length = r.Values.length := map_len _ _
 have he10 : (((List.replicate r.Values.length (0 : Int)).set i ((gt (List.replicate r.Values.length (0 : Int)) i) + 1)).set k ((gt ((List.replicate r.Values.length (0 : Int)).set i ((gt (List.replicate r.Values.length (0 : Int)) i) + 1)) k) - 1)) = (gapL r.Values.length i k) := gapL_eq hi hk
 rw [he10]
 refine WC.region ?_
 refine WL.x (X.loadBA (k := 2) Try.isAgg25 Try.sizeOf25 rfl rfl rfl) (by decide) ?_
 refine WL.x (X.move rfl) (by decide) ?_
 refine WL.freezeF 0 rfl rfl (by simp [lenB]; omega) (fun m11 hle12 hs13 => ?_)
 replace hs2 := hs2.mono hle12
 replace hs4 := hs4.mono hle12
 refine WL.x (X.call Try.call123 rfl (bounds123 _ _ r ⟨_, _, rfl, hs2, hs4⟩ _ _ hs13 (by assumption) (by first | assumption | exact momL_fac (by assumption)))) (by decide) ?_
 refine WL.ts (T.storeBA (k := 0) Try.sizeOf33 rfl rfl rfl (one_cons rfl (one_cons rfl one_nil)) rfl rfl) ?_
 refine WL.nil ?_
 refine WK.nThen ?_
 refine WC.ret ?_
 refine WK.retC1 0 rfl rfl rfl Try.isAgg33 Try.sizeOf33 (fun w' hw' => Ret.exact hw' ?_)
 rfl

end Go.Proofs.C8
