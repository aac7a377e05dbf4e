import Derived.Test.YtednficclnjmjaaC8W2
/- Century: walks, third part, by program. -/
namespace Go.Proofs.C8
open Go Go.Kx
set_option linter.unusedSimpArgs false

theorem rank43 (m : Mem) (cs : List Value) (s : Ser) (hs : Enc.rd m cs s) (time : Int)   : Exact Try.prog 43 #[.agg cs.toArray, .int .i64 (time)] m (.tuple #[.agg [.int .i64 ((rankR s time).1.Lo), .int .i64 ((rankR s time).1.Hi)].toArray, .int .i64 ((rankR s time).2)]) := by
 obtain ⟨v1, v3, rfl, hs2, hs4⟩ := hs
 have hl5 := hs2.le
 have hl6 := hs4.le
 refine Exact.start Try.func43 rfl Try.ntmps43 rfl fun wld => ?_
 refine WC.seq ?_
 refine WC.region ?_
 refine WL.tn (T.boxB rfl rfl) (by decide) fun b7 => ?_
 refine WL.tn (T.alloc Try.zeroValue33 rfl) (by decide) fun b8 => ?_
 refine WL.x (X.assign rfl) (by decide) ?_
 refine WL.nil ?_
 refine WK.nThen ?_
 refine WC.seq ?_
 refine WC.seq ?_
 refine WC.region ?_
 refine WL.x (X.loadBA (k := 1) Try.isAgg25 Try.sizeOf25 rfl rfl rfl) (by decide) ?_
 refine WL.tm (T.litM (α := Ser) (vals := [.agg [v1, v3].toArray]) (L := [s]) sl179 rfl (.cons rfl ⟨_, _, rfl, hs2, hs4⟩ .nil) rfl rfl) (by decide) (fun m9 v10 hle11 hs12 => ?_)
 replace hs2 := hs2.mono hle11
 replace hs4 := hs4.mono hle11
 refine WL.x (X.call Try.call81 rfl (checked81_1 _ _ hs12)) (by decide) ?_
 refine WL.x (X.assign rfl) (by decide) ?_
 refine WL.nil ?_
 refine WK.nThen ?_
 refine WC.seq ?_
 refine WC.region ?_
 refine WL.x (X.move rfl) (by decide) ?_
 refine WL.condn (X.neq rfl rfl) (by decide) (fun h13 => ?_) (fun h13 => ?_)
 ·refine WL.nil ?_
  refine WK.nThen ?_
  refine WC.condT rfl ?_
  refine WC.seq ?_
  refine WC.region ?_
  refine WL.x (V := Value.agg [.int .i64 (0), .int .i64 (0)].toArray) (X.build Try.zeroValue33 Try.runUnderlying33 (places33 _ Try.underlying33) rfl rfl) (by decide) ?_
  refine WL.x (X.move rfl) (by decide) ?_
  refine WL.ts (T.storeBA (k := 0) Try.sizeOf33 rfl rfl rfl (one_cons rfl (one_cons rfl one_nil)) rfl rfl) ?_
  refine WL.x (X.assign rfl) (by decide) ?_
  refine WL.nil ?_
  refine WK.nThen ?_
  refine WC.ret ?_
  refine WK.rThen ?_
  refine WK.retC2 0 rfl rfl rfl rfl Try.isAgg33 Try.sizeOf33 (fun w' hw' => Ret.exact hw' ?_)
  first | exact tup2 (agg2i (by unfold rankR; rw [if_pos (by omega)]) (by unfold rankR; rw [if_pos (by omega)])) (int_eq (by unfold rankR; rw [if_pos (by omega)])) | exact tup2 (agg2i (by unfold rankR; rw [if_neg (by omega), if_pos (by omega)]) (by unfold rankR; rw [if_neg (by omega), if_pos (by omega)])) (int_eq (by unfold rankR; rw [if_neg (by omega), if_pos (by omega)])) | exact tup2 (agg2i (by unfold rankR; rw [if_neg (by omega), if_neg (by omega), hlo, show k = s.Values.length by omega]) (by unfold rankR; rw [if_neg (by omega), if_neg (by omega), hhi, show k = s.Values.length by omega])) (int_eq (by unfold rankR; rw [if_neg (by omega), if_neg (by omega)]))
 ·refine WL.nil ?_
  refine WK.nThen ?_
  refine WC.condF rfl ?_
  refine WC.skip ?_
  refine WK.nThen ?_
  refine WC.seq ?_
  have hok := Ok.of (s := s) (by omega)
  have hnV := hok.nV
  refine WC.region ?_
  refine WL.x (X.loadBA (k := 1) Try.isAgg25 Try.sizeOf25 rfl rfl rfl) (by decide) ?_
  refine WL.x (V := Value.agg [v1, v3].toArray) (X.build Try.zeroValue111 Try.runUnderlying111 (places111 _ Try.underlying111) rfl rfl) (by decide) ?_
  refine WL.tn (T.alloc Try.zeroValue111 rfl) (by decide) fun b14 => ?_
  refine WL.ts (T.storeBA (k := 0) Try.sizeOf111 rfl rfl rfl (one_cons hs2.one (one_cons hs4.one one_nil)) rfl rfl) ?_
  refine WL.nil ?_
  refine WK.nThen ?_
  refine WC.seq ?_
  refine WC.region ?_
  refine WL.x (X.loadBA (k := 0) Try.isAgg111 Try.sizeOf111 rfl rfl rfl) (by decide) ?_
  refine WL.x (X.move rfl) (by decide) ?_
  refine WL.x (X.call Try.call110 rfl (index110 _ _ s ⟨_, _, rfl, hs2, hs4⟩ _ )) (by decide) ?_
  refine WL.x (X.assign rfl) (by decide) ?_
  refine WL.nil ?_
  refine WK.nThen ?_
  refine WC.seq ?_
  refine WC.seq ?_
  have hib := idxR_bd s time
  refine WC.region ?_
  refine WL.x (X.move rfl) (by decide) ?_
  refine WL.cond (X.lss rfl rfl) (by decide) (fun h15 => ?_) (fun h15 => ?_)
  ·refine WL.nil ?_
   refine WK.nThen ?_
   refine WC.condT rfl ?_
   refine WC.seq ?_
   refine WC.region ?_
   refine WL.x (V := Value.agg [.int .i64 (0), .int .i64 (0)].toArray) (X.build Try.zeroValue33 Try.runUnderlying33 (places33 _ Try.underlying33) rfl rfl) (by decide) ?_
   refine WL.ts (T.storeBA (k := 1) Try.sizeOf33 rfl rfl rfl (one_cons rfl (one_cons rfl one_nil)) rfl rfl) ?_
   refine WL.x (X.assign rfl) (by decide) ?_
   refine WL.nil ?_
   refine WK.nThen ?_
   refine WC.ret ?_
   refine WK.rThen ?_
   refine WK.retC2 1 rfl rfl rfl rfl Try.isAgg33 Try.sizeOf33 (fun w' hw' => Ret.exact hw' ?_)
   first | exact tup2 (agg2i (by unfold rankR; rw [if_pos (by omega)]) (by unfold rankR; rw [if_pos (by omega)])) (int_eq (by unfold rankR; rw [if_pos (by omega)])) | exact tup2 (agg2i (by unfold rankR; rw [if_neg (by omega), if_pos (by omega)]) (by unfold rankR; rw [if_neg (by omega), if_pos (by omega)])) (int_eq (by unfold rankR; rw [if_neg (by omega), if_pos (by omega)])) | exact tup2 (agg2i (by unfold rankR; rw [if_neg (by omega), if_neg (by omega), hlo, show k = s.Values.length by omega]) (by unfold rankR; rw [if_neg (by omega), if_neg (by omega), hhi, show k = s.Values.length by omega])) (int_eq (by unfold rankR; rw [if_neg (by omega), if_neg (by omega)]))
  ·refine WL.nil ?_
   refine WK.nThen ?_
   refine WC.condF rfl ?_
   refine WC.skip ?_
   refine WK.nThen ?_
   refine WC.seq ?_
   refine WC.region ?_
   refine WL.tn (T.alloc Try.zeroValue33 rfl) (by decide) fun b16 => ?_
   refine WL.nil ?_
   refine WK.nThen ?_
   refine WC.seq ?_
   refine WC.seq ?_
   refine WC.region ?_
   refine WL.x (X.field Try.runUnderlying111 rfl Try.sizeOf25 rfl) (by decide) ?_
   refine WL.x (X.field Try.runUnderlying25 rfl Try.sizeOf22 rfl) (by decide) ?_
   refine WL.x (X.loadB (k := 1) Try.isAgg22 rfl rfl rfl) (by decide) ?_
   refine WL.x (X.len Try.runUnderlying22 rfl hs2) (by decide) ?_
   refine WL.x (X.move rfl) (by decide) ?_
   refine WL.nil ?_
   refine WK.nThen ?_
   refine WC.block ?_
   refine WC.loop (G := Nat × Int × Int) (fun (k, lo, hi) => s.Values.length - k) (fun (k, lo, hi) => m9) (fun (k, lo, hi) => [blk b16 33 [.int .i64 (lo), .int .i64 (hi)], blk b14 111 [v1, v3], blk b8 33 [.int .i64 (0), .int .i64 (0)], blk b7 25 [v1, v3]]) (fun (k, lo, hi) => [(4, .pointer (some ⟨b8, 0, none⟩)), (7, .pointer (some ⟨b14, 0, none⟩)), (8, .int .i64 (idxR s time)), (9, .pointer (some ⟨b16, 0, none⟩)), (30, .int .i64 (↑s.Values.length)), (31, .int .i64 (↑k))]) (fun (k, lo, hi) => k ≤ s.Values.length ∧ ((0 ≤ lo ∧ lo ≤ k) ∧ (0 ≤ hi ∧ hi ≤ k)) ∧ lo = (rankN s (idxR s time : Int).toNat k).Lo ∧ hi = (rankN s (idxR s time : Int).toNat k).Hi) ((0, 0, 0)) rfl (.refl _) (.cons rfl (.cons rfl (.cons rfl (.cons rfl (.cons rfl (.cons rfl .nil)))))) ?_ ?_
   ·exact ⟨Nat.zero_le _, by omega, rfl, rfl⟩
   ·rintro ⟨k, lo, hi⟩ hF17
    show WK _ _ m9 [blk b16 33 [.int .i64 (lo), .int .i64 (hi)], blk b14 111 [v1, v3], blk b8 33 [.int .i64 (0), .int .i64 (0)], blk b7 25 [v1, v3]] [(4, .pointer (some ⟨b8, 0, none⟩)), (7, .pointer (some ⟨b14, 0, none⟩)), (8, .int .i64 (idxR s time)), (9, .pointer (some ⟨b16, 0, none⟩)), (30, .int .i64 (↑s.Values.length)), (31, .int .i64 (↑k))] _
    replace hF17 : k ≤ s.Values.length ∧ ((0 ≤ lo ∧ lo ≤ k) ∧ (0 ≤ hi ∧ hi ≤ k)) ∧ lo = (rankN s (idxR s time : Int).toNat k).Lo ∧ hi = (rankN s (idxR s time : Int).toNat k).Hi := hF17
    obtain ⟨hk, hlh_, hlo, hhi⟩ := hF17
    refine WC.seq ?_
    refine WC.region ?_
    refine WL.cond (X.lss rfl rfl) (by decide) (fun h18 => ?_) (fun h18 => ?_)
    ·refine WL.nil ?_
     refine WK.nThen ?_
     refine WC.seq ?_
     refine WC.condT rfl ?_
     refine WC.skip ?_
     refine WK.nThen ?_
     refine WC.seq ?_
     refine WC.block ?_
     refine WC.seq ?_
     refine WC.region ?_
     refine WL.x (X.move rfl) (by decide) ?_
     refine WL.x (X.assign rfl) (by decide) ?_
     refine WL.nil ?_
     refine WK.nThen ?_
     refine WC.seq ?_
     refine WC.seq ?_
     refine WC.region ?_
     refine WL.x (X.move rfl) (by decide) ?_
     refine WL.x (X.move rfl) (by decide) ?_
     refine WL.cond (X.eql rfl rfl) (by decide) (fun h19 => ?_) (fun h19 => ?_)
     ·refine WL.nil ?_
      refine WK.nThen ?_
      refine WC.condT rfl ?_
      refine WC.exit ?_
      refine WK.eThen ?_
      refine WK.eHit ?_
      refine WK.nThen ?_
      refine WC.region ?_
      refine WL.x (X.add rfl rfl (by omega) (by omega)) (by decide) ?_
      refine WL.x (X.move rfl) (by decide) ?_
      refine WL.nil ?_
      refine WK.nThen ?_
      refine WK.next ((k + 1, lo, hi)) rfl (.refl _) (.cons rfl (.cons rfl (.cons rfl (.cons rfl (.cons rfl (.cons rfl .nil)))))) ?_ ?_
      ·refine ⟨by omega, ?_, ?_, ?_⟩
       ·(have hg3 := gap_order hok k (idxR s time : Int).toNat); omega
       ·have hs_ : (rankN s (idxR s time : Int).toNat (k + 1)).Lo = (if k = (idxR s time : Int).toNat then rankN s (idxR s time : Int).toNat k else ⟨(rankN s (idxR s time : Int).toNat k).Lo + (if (gap s k (idxR s time : Int).toNat).Hi < 0 then 1 else 0), (rankN s (idxR s time : Int).toNat k).Hi + (if (gap s k (idxR s time : Int).toNat).Lo < 0 then 1 else 0)⟩ : Span).Lo := rfl
        (repeat' split at hs_) <;> (try dsimp only at hs_) <;> first | omega | contradiction
       ·have hs_ : (rankN s (idxR s time : Int).toNat (k + 1)).Hi = (if k = (idxR s time : Int).toNat then rankN s (idxR s time : Int).toNat k else ⟨(rankN s (idxR s time : Int).toNat k).Lo + (if (gap s k (idxR s time : Int).toNat).Hi < 0 then 1 else 0), (rankN s (idxR s time : Int).toNat k).Hi + (if (gap s k (idxR s time : Int).toNat).Lo < 0 then 1 else 0)⟩ : Span).Hi := rfl
        (repeat' split at hs_) <;> (try dsimp only at hs_) <;> first | omega | contradiction
      ·(dsimp only; omega)
     ·refine WL.nil ?_
      refine WK.nThen ?_
      refine WC.condF rfl ?_
      refine WC.skip ?_
      refine WK.nThen ?_
      refine WC.seq ?_
      refine WC.region ?_
      refine WL.x (X.loadBA (k := 1) Try.isAgg111 Try.sizeOf111 rfl rfl rfl) (by decide) ?_
      refine WL.x (X.move rfl) (by decide) ?_
      refine WL.x (X.move rfl) (by decide) ?_
      refine WL.x (X.call Try.call84 rfl (gap84 _ ⟨_, _, rfl, hs2, hs4⟩ hok k ((idxR s time : Int).toNat) _ _ (by omega) (by omega) (by omega) (by omega))) (by decide) ?_
      refine WL.tn (T.alloc Try.zeroValue33 rfl) (by decide) fun b20 => ?_
      refine WL.ts (T.storeBA (k := 0) Try.sizeOf33 rfl rfl rfl (one_cons rfl (one_cons rfl one_nil)) rfl rfl) ?_
      refine WL.nil ?_
      refine WK.nThen ?_
      refine WC.seq ?_
      refine WC.seq ?_
      refine WC.region ?_
      refine WL.x (X.field Try.runUnderlying33 rfl Try.sizeOf3 rfl) (by decide) ?_
      refine WL.x (X.loadB (k := 0) Try.isAgg3 rfl rfl rfl) (by decide) ?_
      refine WL.cond (X.lss rfl rfl) (by decide) (fun h21 => ?_) (fun h21 => ?_)
      ·refine WL.nil ?_
       refine WK.nThen ?_
       refine WC.condT rfl ?_
       refine WC.region ?_
       refine WL.x (X.field Try.runUnderlying33 rfl Try.sizeOf3 rfl) (by decide) ?_
       refine WL.x (X.loadB (k := 1) Try.isAgg3 rfl rfl rfl) (by decide) ?_
       refine WL.x (X.add rfl rfl (by omega) (by omega)) (by decide) ?_
       refine WL.x (X.field Try.runUnderlying33 rfl Try.sizeOf3 rfl) (by decide) ?_
       refine WL.ts (T.storeB (k := 1) Try.sizeOf3 rfl rfl rfl rfl (Nat.le_of_ble_eq_true rfl)) ?_
       refine WL.nil ?_
       refine WK.nThen ?_
       refine WC.seq ?_
       refine WC.region ?_
       refine WL.x (X.field Try.runUnderlying33 rfl Try.sizeOf3 rfl) (by decide) ?_
       refine WL.x (X.loadB (k := 0) Try.isAgg3 rfl rfl rfl) (by decide) ?_
       refine WL.cond (X.lss rfl rfl) (by decide) (fun h22 => ?_) (fun h22 => ?_)
       ·refine WL.nil ?_
        refine WK.nThen ?_
        refine WC.condT rfl ?_
        refine WC.region ?_
        refine WL.x (X.field Try.runUnderlying33 rfl Try.sizeOf3 rfl) (by decide) ?_
        refine WL.x (X.loadB (k := 1) Try.isAgg3 rfl rfl rfl) (by decide) ?_
        refine WL.x (X.add rfl rfl (by omega) (by omega)) (by decide) ?_
        refine WL.x (X.field Try.runUnderlying33 rfl Try.sizeOf3 rfl) (by decide) ?_
        refine WL.ts (T.storeB (k := 1) Try.sizeOf3 rfl rfl rfl rfl (Nat.le_of_ble_eq_true rfl)) ?_
        refine WL.nil ?_
        refine WK.nBlock ?_
        refine WK.nThen ?_
        refine WC.region ?_
        refine WL.x (X.add rfl rfl (by omega) (by omega)) (by decide) ?_
        refine WL.x (X.move rfl) (by decide) ?_
        refine WL.nil ?_
        refine WK.nThen ?_
        refine WK.next ((k + 1, lo + 1, hi + 1)) rfl (.cons _ (.refl _)) (.cons rfl (.cons rfl (.cons rfl (.cons rfl (.cons rfl (.cons rfl .nil)))))) ?_ ?_
        ·refine ⟨by omega, ?_, ?_, ?_⟩
         ·(have hg3 := gap_order hok k (idxR s time : Int).toNat); omega
         ·have hs_ : (rankN s (idxR s time : Int).toNat (k + 1)).Lo = (if k = (idxR s time : Int).toNat then rankN s (idxR s time : Int).toNat k else ⟨(rankN s (idxR s time : Int).toNat k).Lo + (if (gap s k (idxR s time : Int).toNat).Hi < 0 then 1 else 0), (rankN s (idxR s time : Int).toNat k).Hi + (if (gap s k (idxR s time : Int).toNat).Lo < 0 then 1 else 0)⟩ : Span).Lo := rfl
          (repeat' split at hs_) <;> (try dsimp only at hs_) <;> first | omega | contradiction
         ·have hs_ : (rankN s (idxR s time : Int).toNat (k + 1)).Hi = (if k = (idxR s time : Int).toNat then rankN s (idxR s time : Int).toNat k else ⟨(rankN s (idxR s time : Int).toNat k).Lo + (if (gap s k (idxR s time : Int).toNat).Hi < 0 then 1 else 0), (rankN s (idxR s time : Int).toNat k).Hi + (if (gap s k (idxR s time : Int).toNat).Lo < 0 then 1 else 0)⟩ : Span).Hi := rfl
          (repeat' split at hs_) <;> (try dsimp only at hs_) <;> first | omega | contradiction
        ·(dsimp only; omega)
       ·refine WL.nil ?_
        refine WK.nThen ?_
        refine WC.condF rfl ?_
        refine WC.skip ?_
        refine WK.nBlock ?_
        refine WK.nThen ?_
        refine WC.region ?_
        refine WL.x (X.add rfl rfl (by omega) (by omega)) (by decide) ?_
        refine WL.x (X.move rfl) (by decide) ?_
        refine WL.nil ?_
        refine WK.nThen ?_
        refine WK.next ((k + 1, lo + 1, hi)) rfl (.cons _ (.refl _)) (.cons rfl (.cons rfl (.cons rfl (.cons rfl (.cons rfl (.cons rfl .nil)))))) ?_ ?_
        ·refine ⟨by omega, ?_, ?_, ?_⟩
         ·(have hg3 := gap_order hok k (idxR s time : Int).toNat); omega
         ·have hs_ : (rankN s (idxR s time : Int).toNat (k + 1)).Lo = (if k = (idxR s time : Int).toNat then rankN s (idxR s time : Int).toNat k else ⟨(rankN s (idxR s time : Int).toNat k).Lo + (if (gap s k (idxR s time : Int).toNat).Hi < 0 then 1 else 0), (rankN s (idxR s time : Int).toNat k).Hi + (if (gap s k (idxR s time : Int).toNat).Lo < 0 then 1 else 0)⟩ : Span).Lo := rfl
          (repeat' split at hs_) <;> (try dsimp only at hs_) <;> first | omega | contradiction
         ·have hs_ : (rankN s (idxR s time : Int).toNat (k + 1)).Hi = (if k = (idxR s time : Int).toNat then rankN s (idxR s time : Int).toNat k else ⟨(rankN s (idxR s time : Int).toNat k).Lo + (if (gap s k (idxR s time : Int).toNat).Hi < 0 then 1 else 0), (rankN s (idxR s time : Int).toNat k).Hi + (if (gap s k (idxR s time : Int).toNat).Lo < 0 then 1 else 0)⟩ : Span).Hi := rfl
          (repeat' split at hs_) <;> (try dsimp only at hs_) <;> first | omega | contradiction
        ·(dsimp only; omega)
      ·refine WL.nil ?_
       refine WK.nThen ?_
       refine WC.condF rfl ?_
       refine WC.skip ?_
       refine WK.nThen ?_
       refine WC.seq ?_
       refine WC.region ?_
       refine WL.x (X.field Try.runUnderlying33 rfl Try.sizeOf3 rfl) (by decide) ?_
       refine WL.x (X.loadB (k := 0) Try.isAgg3 rfl rfl rfl) (by decide) ?_
       refine WL.cond (X.lss rfl rfl) (by decide) (fun h23 => ?_) (fun h23 => ?_)
       ·refine WL.nil ?_
        refine WK.nThen ?_
        refine WC.condT rfl ?_
        refine WC.region ?_
        refine WL.x (X.field Try.runUnderlying33 rfl Try.sizeOf3 rfl) (by decide) ?_
        refine WL.x (X.loadB (k := 1) Try.isAgg3 rfl rfl rfl) (by decide) ?_
        refine WL.x (X.add rfl rfl (by omega) (by omega)) (by decide) ?_
        refine WL.x (X.field Try.runUnderlying33 rfl Try.sizeOf3 rfl) (by decide) ?_
        refine WL.ts (T.storeB (k := 1) Try.sizeOf3 rfl rfl rfl rfl (Nat.le_of_ble_eq_true rfl)) ?_
        refine WL.nil ?_
        refine WK.nBlock ?_
        refine WK.nThen ?_
        refine WC.region ?_
        refine WL.x (X.add rfl rfl (by omega) (by omega)) (by decide) ?_
        refine WL.x (X.move rfl) (by decide) ?_
        refine WL.nil ?_
        refine WK.nThen ?_
        refine WK.next ((k + 1, lo, hi + 1)) rfl (.cons _ (.refl _)) (.cons rfl (.cons rfl (.cons rfl (.cons rfl (.cons rfl (.cons rfl .nil)))))) ?_ ?_
        ·refine ⟨by omega, ?_, ?_, ?_⟩
         ·(have hg3 := gap_order hok k (idxR s time : Int).toNat); omega
         ·have hs_ : (rankN s (idxR s time : Int).toNat (k + 1)).Lo = (if k = (idxR s time : Int).toNat then rankN s (idxR s time : Int).toNat k else ⟨(rankN s (idxR s time : Int).toNat k).Lo + (if (gap s k (idxR s time : Int).toNat).Hi < 0 then 1 else 0), (rankN s (idxR s time : Int).toNat k).Hi + (if (gap s k (idxR s time : Int).toNat).Lo < 0 then 1 else 0)⟩ : Span).Lo := rfl
          (repeat' split at hs_) <;> (try dsimp only at hs_) <;> first | omega | contradiction
         ·have hs_ : (rankN s (idxR s time : Int).toNat (k + 1)).Hi = (if k = (idxR s time : Int).toNat then rankN s (idxR s time : Int).toNat k else ⟨(rankN s (idxR s time : Int).toNat k).Lo + (if (gap s k (idxR s time : Int).toNat).Hi < 0 then 1 else 0), (rankN s (idxR s time : Int).toNat k).Hi + (if (gap s k (idxR s time : Int).toNat).Lo < 0 then 1 else 0)⟩ : Span).Hi := rfl
          (repeat' split at hs_) <;> (try dsimp only at hs_) <;> first | omega | contradiction
        ·(dsimp only; omega)
       ·refine WL.nil ?_
        refine WK.nThen ?_
        refine WC.condF rfl ?_
        refine WC.skip ?_
        refine WK.nBlock ?_
        refine WK.nThen ?_
        refine WC.region ?_
        refine WL.x (X.add rfl rfl (by omega) (by omega)) (by decide) ?_
        refine WL.x (X.move rfl) (by decide) ?_
        refine WL.nil ?_
        refine WK.nThen ?_
        refine WK.next ((k + 1, lo, hi)) rfl (.cons _ (.cons_cons _ (.cons_cons _ (.cons_cons _ (.cons_cons _ .slnil))))) (.cons rfl (.cons rfl (.cons rfl (.cons rfl (.cons rfl (.cons rfl .nil)))))) ?_ ?_
        ·refine ⟨by omega, ?_, ?_, ?_⟩
         ·(have hg3 := gap_order hok k (idxR s time : Int).toNat); omega
         ·have hs_ : (rankN s (idxR s time : Int).toNat (k + 1)).Lo = (if k = (idxR s time : Int).toNat then rankN s (idxR s time : Int).toNat k else ⟨(rankN s (idxR s time : Int).toNat k).Lo + (if (gap s k (idxR s time : Int).toNat).Hi < 0 then 1 else 0), (rankN s (idxR s time : Int).toNat k).Hi + (if (gap s k (idxR s time : Int).toNat).Lo < 0 then 1 else 0)⟩ : Span).Lo := rfl
          (repeat' split at hs_) <;> (try dsimp only at hs_) <;> first | omega | contradiction
         ·have hs_ : (rankN s (idxR s time : Int).toNat (k + 1)).Hi = (if k = (idxR s time : Int).toNat then rankN s (idxR s time : Int).toNat k else ⟨(rankN s (idxR s time : Int).toNat k).Lo + (if (gap s k (idxR s time : Int).toNat).Hi < 0 then 1 else 0), (rankN s (idxR s time : Int).toNat k).Hi + (if (gap s k (idxR s time : Int).toNat).Lo < 0 then 1 else 0)⟩ : Span).Hi := rfl
          (repeat' split at hs_) <;> (try dsimp only at hs_) <;> first | omega | contradiction
        ·(dsimp only; omega)
    ·refine WL.nil ?_
     refine WK.nThen ?_
     refine WC.seq ?_
     refine WC.condF rfl ?_
     refine WC.exit ?_
     refine WK.eThen ?_
     refine WK.eThen ?_
     refine WK.eHit ?_
     refine WK.nThen ?_
     refine WC.seq ?_
     refine WC.region ?_
     refine WL.x (X.loadBA (k := 0) Try.isAgg33 Try.sizeOf33 rfl rfl rfl) (by decide) ?_
     refine WL.ts (T.storeBA (k := 2) Try.sizeOf33 rfl rfl rfl (one_cons rfl (one_cons rfl one_nil)) rfl rfl) ?_
     refine WL.x (X.assign rfl) (by decide) ?_
     refine WL.nil ?_
     refine WK.nThen ?_
     refine WC.ret ?_
     refine WK.retC2 2 rfl rfl rfl rfl Try.isAgg33 Try.sizeOf33 (fun w' hw' => Ret.exact hw' ?_)
     first | exact tup2 (agg2i (by unfold rankR; rw [if_pos (by omega)]) (by unfold rankR; rw [if_pos (by omega)])) (int_eq (by unfold rankR; rw [if_pos (by omega)])) | exact tup2 (agg2i (by unfold rankR; rw [if_neg (by omega), if_pos (by omega)]) (by unfold rankR; rw [if_neg (by omega), if_pos (by omega)])) (int_eq (by unfold rankR; rw [if_neg (by omega), if_pos (by omega)])) | exact tup2 (agg2i (by unfold rankR; rw [if_neg (by omega), if_neg (by omega), hlo, show k = s.Values.length by omega]) (by unfold rankR; rw [if_neg (by omega), if_neg (by omega), hhi, show k = s.Values.length by omega])) (int_eq (by unfold rankR; rw [if_neg (by omega), if_neg (by omega)]))

theorem lowest105 (m : Mem) (num : Int) (den : Int)  (hn : -4000000000000000000 ≤ num ∧ num ≤ 4000000000000000000) (hd : 0 < den ∧ den ≤ 4000000000000000000) : Exact Try.prog 105 #[.int .i64 (num), .int .i64 (den)] m (.agg [.int .i64 ((lowR num den).Num), .int .i64 ((lowR num den).Den)].toArray) := by
 refine Exact.start Try.func105 rfl Try.ntmps105 rfl fun wld => ?_
 refine WC.seq ?_
 refine WC.region ?_
 refine WL.tn (T.alloc Try.zeroValue45 rfl) (by decide) fun b1 => ?_
 refine WL.nil ?_
 refine WK.nThen ?_
 refine WC.seq ?_
 refine WC.region ?_
 refine WL.x (X.move rfl) (by decide) ?_
 refine WL.x (X.move rfl) (by decide) ?_
 refine WL.x (X.neg rfl (by omega) (by omega)) (by decide) ?_
 refine WL.x (X.mx rfl rfl) (by decide) ?_
 refine WL.x (X.move rfl) (by decide) ?_
 refine WL.x (X.assign rfl) (by decide) ?_
 refine WL.x (X.assign rfl) (by decide) ?_
 refine WL.nil ?_
 refine WK.nThen ?_
 refine WC.seq ?_
 refine WC.block ?_
 refine WC.loop (G := Int × Int) (fun (x, y) => y.toNat) (fun (x, y) => m) (fun (x, y) => [blk b1 45 [.int .i64 (0), .int .i64 (0)]]) (fun (x, y) => [(0, .int .i64 (num)), (1, .int .i64 (den)), (4, .pointer (some ⟨b1, 0, none⟩)), (5, .int .i64 (x)), (6, .int .i64 (y))]) (fun (x, y) => (0 ≤ x ∧ x ≤ 4000000000000000000 ∧ 0 ≤ y ∧ y ≤ 4000000000000000000 ∧ (y = 0 → 0 < x)) ∧ Int.gcd x y = Int.gcd num den) ((max num (-num), den)) rfl (.refl _) (.cons rfl (.cons rfl (.cons rfl (.cons rfl (.cons rfl .nil))))) ?_ ?_
 ·exact ⟨by omega, gcd_max _ _⟩
 ·rintro ⟨x, y⟩ hF2
  show WK _ _ m [blk b1 45 [.int .i64 (0), .int .i64 (0)]] [(0, .int .i64 (num)), (1, .int .i64 (den)), (4, .pointer (some ⟨b1, 0, none⟩)), (5, .int .i64 (x)), (6, .int .i64 (y))] _
  replace hF2 : (0 ≤ x ∧ x ≤ 4000000000000000000 ∧ 0 ≤ y ∧ y ≤ 4000000000000000000 ∧ (y = 0 → 0 < x)) ∧ Int.gcd x y = Int.gcd num den := hF2
  obtain ⟨hxy, hgc⟩ := hF2
  have hmod : 0 < y → 0 ≤ x % y ∧ x % y < y := fun h => emod_bd h
  refine WC.seq ?_
  refine WC.seq ?_
  refine WC.region ?_
  refine WL.x (X.move rfl) (by decide) ?_
  refine WL.cond (X.gtr rfl rfl) (by decide) (fun h3 => ?_) (fun h3 => ?_)
  ·refine WL.nil ?_
   refine WK.nThen ?_
   refine WC.condT rfl ?_
   refine WC.skip ?_
   refine WK.nThen ?_
   refine WC.block ?_
   refine WC.draw (π := (.cons 0 (.cons 1 (.cons 2 (.cons 3 (.cons 4 (.cons 5 .done))))))) [] [] rfl (by kernel_rfl) ?_
   refine DW.x rfl rfl (X.move rfl) (by decide) ?_
   refine DW.x rfl rfl (X.move rfl) (by decide) ?_
   refine DW.x rfl rfl (X.move rfl) (by decide) ?_
   refine DW.x rfl rfl (X.rem rfl rfl (by omega) (by omega)) (by decide) ?_
   refine DW.x rfl rfl (X.assign rfl) (by decide) ?_
   refine DW.x rfl rfl (X.assign rfl) (by decide) ?_
   refine DW.nil ?_
   refine WK.nBlock ?_
   refine WK.nThen ?_
   refine WK.next ((y, x % y)) rfl (.refl _) (.cons rfl (.cons rfl (.cons rfl (.cons rfl (.cons rfl .nil))))) ?_ ?_
   ·exact ⟨by have := hmod (by omega); omega, by rw [gcd_rem]; exact hgc⟩
   ·(dsimp only; have := hmod (by omega); omega)
  ·refine WL.nil ?_
   refine WK.nThen ?_
   refine WC.condF rfl ?_
   refine WC.exit ?_
   refine WK.eThen ?_
   refine WK.eThen ?_
   refine WK.eHit ?_
   refine WK.nThen ?_
   refine WC.seq ?_
   have hg : x = ↑(Int.gcd num den) := (by rw [← hgc, show y = 0 by omega, gcd_zero (by omega)])
   have hq1 := tdiv_bd (b := x) (B := 4000000000000000000) (show -4000000000000000000 ≤ num ∧ num ≤ 4000000000000000000 by omega)
   have hq2 := tdiv_bd (b := x) (B := 4000000000000000000) (show -4000000000000000000 ≤ den ∧ den ≤ 4000000000000000000 by omega)
   refine WC.draw (π := (.cons 0 (.cons 1 (.cons 2 (.cons 3 (.cons 4 (.cons 5 (.cons 6 (.cons 7 .done))))))))) [7] [7] rfl (by kernel_rfl) ?_
   refine DW.x rfl rfl (X.move rfl) (by decide) ?_
   refine DW.x rfl rfl (X.move rfl) (by decide) ?_
   refine DW.x rfl rfl (X.quoT rfl rfl (by omega) (by omega) (by omega)) (by decide) ?_
   refine DW.x rfl rfl (X.move rfl) (by decide) ?_
   refine DW.x rfl rfl (X.move rfl) (by decide) ?_
   refine DW.x rfl rfl (X.quoT rfl rfl (by omega) (by omega) (by omega)) (by decide) ?_
   refine DW.x (V := Value.agg [.int .i64 (Int.tdiv num x), .int .i64 (Int.tdiv den x)].toArray) rfl rfl (X.build Try.zeroValue45 Try.runUnderlying45 (places45 _ Try.underlying45) rfl rfl) (by decide) ?_
   refine DW.ts rfl rfl rfl rfl (T.storeBA (k := 0) Try.sizeOf45 rfl rfl rfl (one_cons rfl (one_cons rfl one_nil)) rfl rfl) ?_
   refine DW.nil ?_
   refine WK.nThen ?_
   refine WC.ret ?_
   refine WK.retC1 0 rfl rfl rfl Try.isAgg45 Try.sizeOf45 (fun w' hw' => Ret.exact hw' ?_)
   exact agg2i (by unfold lowR; rw [hg]) (by unfold lowR; rw [hg])

theorem between99 (m : Mem) (cr : List Value) (r : Ser) (hr : Enc.rd m cr r) (a : Int) (b : Int)  (hok : Ok r) : Exact Try.prog 99 #[.agg cr.toArray, .int .i64 (a), .int .i64 (b)] m (.agg [.int .i64 ((bt r.Shifts a b).Lo), .int .i64 ((bt r.Shifts a b).Hi)].toArray) := by
 obtain ⟨v1, v3, rfl, hs2, hs4⟩ := hr
 have hl5 := hs2.le
 have hl6 := hs4.le
 have hnV := hok.nV
 have hnX := hok.nX
 refine Exact.start Try.func99 rfl Try.ntmps99 rfl fun wld => ?_
 refine WC.seq ?_
 refine WC.region ?_
 refine WL.tn (T.boxB rfl rfl) (by decide) fun b7 => ?_
 refine WL.tn (T.alloc Try.zeroValue33 rfl) (by decide) fun b8 => ?_
 refine WL.nil ?_
 refine WK.nThen ?_
 refine WC.seq ?_
 refine WC.region ?_
 refine WL.tn (T.alloc Try.zeroValue33 rfl) (by decide) fun b9 => ?_
 refine WL.nil ?_
 refine WK.nThen ?_
 refine WC.seq ?_
 refine WC.seq ?_
 refine WC.region ?_
 refine WL.x (X.field Try.runUnderlying111 rfl Try.sizeOf25 rfl) (by decide) ?_
 refine WL.x (X.field Try.runUnderlying25 rfl Try.sizeOf23 rfl) (by decide) ?_
 refine WL.x (X.loadB (k := 2) Try.isAgg23 rfl rfl rfl) (by decide) ?_
 refine WL.x (X.len Try.runUnderlying23 rfl hs4) (by decide) ?_
 refine WL.x (X.move rfl) (by decide) ?_
 refine WL.nil ?_
 refine WK.nThen ?_
 refine WC.block ?_
 refine WC.loop (G := Nat × Int × Int) (fun (k, lo, hi) => r.Shifts.length - k) (fun (k, lo, hi) => m) (fun (k, lo, hi) => [blk b9 33 [.int .i64 (lo), .int .i64 (hi)], blk b8 33 [.int .i64 (0), .int .i64 (0)], blk b7 111 [v1, v3]]) (fun (k, lo, hi) => [(1, .int .i64 (a)), (2, .int .i64 (b)), (6, .pointer (some ⟨b8, 0, none⟩)), (7, .pointer (some ⟨b9, 0, none⟩)), (12, v3), (13, .int .i64 (↑r.Shifts.length)), (14, .int .i64 (↑k))]) (fun (k, lo, hi) => k ≤ r.Shifts.length ∧ lo = btLo r.Shifts a b k ∧ hi = btHi r.Shifts a b k) ((0, 0, 0)) rfl (.refl _) (.cons rfl (.cons rfl (.cons rfl (.cons rfl (.cons rfl (.cons rfl (.cons rfl .nil))))))) ?_ ?_
 ·exact ⟨Nat.zero_le _, (by first | rfl | simp [offN, sumN, totN, btLo, btHi]), (by first | rfl | simp [offN, sumN, totN, btLo, btHi])⟩
 ·rintro ⟨k, lo, hi⟩ hF10
  show WK _ _ m [blk b9 33 [.int .i64 (lo), .int .i64 (hi)], blk b8 33 [.int .i64 (0), .int .i64 (0)], blk b7 111 [v1, v3]] [(1, .int .i64 (a)), (2, .int .i64 (b)), (6, .pointer (some ⟨b8, 0, none⟩)), (7, .pointer (some ⟨b9, 0, none⟩)), (12, v3), (13, .int .i64 (↑r.Shifts.length)), (14, .int .i64 (↑k))] _
  replace hF10 : k ≤ r.Shifts.length ∧ lo = btLo r.Shifts a b k ∧ hi = btHi r.Shifts a b k := hF10
  obtain ⟨hk, hlo, hhi⟩ := hF10
  have hbb := bt_bd hok a b (n := k) (by omega)
  have hxl := fun h => hok.xl (i := k) h
  refine WC.seq ?_
  refine WC.region ?_
  refine WL.cond (X.lss rfl rfl) (by decide) (fun h11 => ?_) (fun h11 => ?_)
  ·refine WL.nil ?_
   refine WK.nThen ?_
   refine WC.seq ?_
   refine WC.condT rfl ?_
   refine WC.skip ?_
   refine WK.nThen ?_
   refine WC.seq ?_
   refine WC.block ?_
   refine WC.seq ?_
   refine WC.region ?_
   refine WL.xe (E.idxN k Try.runUnderlying23 Try.sizeOf72 rfl rfl hs4 (by omega)) (by decide) (fun p12 hp13 => ?_)
   refine WL.xe (E.loadAgg Try.isAgg72 Try.sizeOf72 rfl hp13) (by decide) (fun c14 hc15 => ?_)
   obtain rfl := hc15
   refine WL.tn (T.alloc Try.zeroValue72 rfl) (by decide) fun b16 => ?_
   refine WL.ts (T.storeBA (k := 0) Try.sizeOf72 rfl rfl rfl (one_cons rfl (one_cons rfl (one_cons rfl one_nil))) rfl rfl) ?_
   refine WL.nil ?_
   refine WK.nThen ?_
   refine WC.seq ?_
   refine WC.region ?_
   refine WL.x (X.move rfl) (by decide) ?_
   refine WL.x (X.field Try.runUnderlying72 rfl Try.sizeOf3 rfl) (by decide) ?_
   refine WL.x (X.loadB (k := 0) Try.isAgg3 rfl rfl rfl) (by decide) ?_
   refine WL.cond (X.lss rfl rfl) (by decide) (fun h17 => ?_) (fun h17 => ?_)
   ·refine WL.x (X.move rfl) (by decide) ?_
    refine WL.yes rfl rfl ?_
    refine WL.x (X.field Try.runUnderlying72 rfl Try.sizeOf3 rfl) (by decide) ?_
    refine WL.yes rfl rfl ?_
    refine WL.x (X.loadB (k := 0) Try.isAgg3 rfl rfl rfl) (by decide) ?_
    refine WL.yes rfl rfl ?_
    refine WL.x (X.move rfl) (by decide) ?_
    refine WL.yes rfl rfl ?_
    refine WL.cond (X.leq rfl rfl) (by decide) (fun h18 => ?_) (fun h18 => ?_)
    ·refine WL.x (X.pickT rfl rfl rfl) (by decide) ?_
     refine WL.nil ?_
     refine WK.nThen ?_
     refine WC.condT rfl ?_
     refine WC.seq ?_
     refine WC.region ?_
     refine WL.x (X.field Try.runUnderlying33 rfl Try.sizeOf3 rfl) (by decide) ?_
     refine WL.x (X.loadB (k := 1) Try.isAgg3 rfl rfl rfl) (by decide) ?_
     refine WL.x (X.field Try.runUnderlying72 rfl Try.sizeOf33 rfl) (by decide) ?_
     refine WL.x (X.field Try.runUnderlying33 rfl Try.sizeOf3 rfl) (by decide) ?_
     refine WL.x (X.loadB (k := 0) Try.isAgg3 rfl rfl rfl) (by decide) ?_
     refine WL.x (X.add rfl rfl (by omega) (by omega)) (by decide) ?_
     refine WL.x (X.field Try.runUnderlying33 rfl Try.sizeOf3 rfl) (by decide) ?_
     refine WL.ts (T.storeB (k := 1) Try.sizeOf3 rfl rfl rfl rfl (Nat.le_of_ble_eq_true rfl)) ?_
     refine WL.nil ?_
     refine WK.nThen ?_
     refine WC.region ?_
     refine WL.x (X.field Try.runUnderlying33 rfl Try.sizeOf3 rfl) (by decide) ?_
     refine WL.x (X.loadB (k := 1) Try.isAgg3 rfl rfl rfl) (by decide) ?_
     refine WL.x (X.field Try.runUnderlying72 rfl Try.sizeOf33 rfl) (by decide) ?_
     refine WL.x (X.field Try.runUnderlying33 rfl Try.sizeOf3 rfl) (by decide) ?_
     refine WL.x (X.loadB (k := 0) Try.isAgg3 rfl rfl rfl) (by decide) ?_
     refine WL.x (X.add rfl rfl (by omega) (by omega)) (by decide) ?_
     refine WL.x (X.field Try.runUnderlying33 rfl Try.sizeOf3 rfl) (by decide) ?_
     refine WL.ts (T.storeB (k := 1) Try.sizeOf3 rfl rfl rfl rfl (Nat.le_of_ble_eq_true rfl)) ?_
     refine WL.nil ?_
     refine WK.nBlock ?_
     refine WK.nThen ?_
     refine WC.region ?_
     refine WL.x (X.add rfl rfl (by omega) (by omega)) (by decide) ?_
     refine WL.x (X.move rfl) (by decide) ?_
     refine WL.nil ?_
     refine WK.nThen ?_
     refine WK.next ((k + 1, lo + (((gt r.Shifts k).Levels).Lo), hi + (((gt r.Shifts k).Levels).Hi))) rfl (.cons _ (.refl _)) (.cons rfl (.cons rfl (.cons rfl (.cons rfl (.cons rfl (.cons rfl (.cons rfl .nil))))))) ?_ ?_
     ·refine ⟨by omega, ?_, ?_⟩
      ·have hs_ : btLo r.Shifts a b (k + 1) = btLo r.Shifts a b k + (if a < (gt r.Shifts k).Time ∧ (gt r.Shifts k).Time ≤ b then (gt r.Shifts k).Levels.Lo else 0) := rfl
       (repeat' split at hs_) <;> (try dsimp only at hs_) <;> first | omega | contradiction
      ·have hs_ : btHi r.Shifts a b (k + 1) = btHi r.Shifts a b k + (if a < (gt r.Shifts k).Time ∧ (gt r.Shifts k).Time ≤ b then (gt r.Shifts k).Levels.Hi else 0) := rfl
       (repeat' split at hs_) <;> (try dsimp only at hs_) <;> first | omega | contradiction
     ·(dsimp only; omega)
    ·refine WL.x (X.pickT rfl rfl rfl) (by decide) ?_
     refine WL.nil ?_
     refine WK.nThen ?_
     refine WC.condF rfl ?_
     refine WC.skip ?_
     refine WK.nBlock ?_
     refine WK.nThen ?_
     refine WC.region ?_
     refine WL.x (X.add rfl rfl (by omega) (by omega)) (by decide) ?_
     refine WL.x (X.move rfl) (by decide) ?_
     refine WL.nil ?_
     refine WK.nThen ?_
     refine WK.next ((k + 1, lo, hi)) rfl (.cons _ (.cons_cons _ (.cons_cons _ (.cons_cons _ .slnil)))) (.cons rfl (.cons rfl (.cons rfl (.cons rfl (.cons rfl (.cons rfl (.cons rfl .nil))))))) ?_ ?_
     ·refine ⟨by omega, ?_, ?_⟩
      ·have hs_ : btLo r.Shifts a b (k + 1) = btLo r.Shifts a b k + (if a < (gt r.Shifts k).Time ∧ (gt r.Shifts k).Time ≤ b then (gt r.Shifts k).Levels.Lo else 0) := rfl
       (repeat' split at hs_) <;> (try dsimp only at hs_) <;> first | omega | contradiction
      ·have hs_ : btHi r.Shifts a b (k + 1) = btHi r.Shifts a b k + (if a < (gt r.Shifts k).Time ∧ (gt r.Shifts k).Time ≤ b then (gt r.Shifts k).Levels.Hi else 0) := rfl
       (repeat' split at hs_) <;> (try dsimp only at hs_) <;> first | omega | contradiction
     ·(dsimp only; omega)
   ·refine WL.x (X.move rfl) (by decide) ?_
    refine WL.no rfl rfl rfl (by decide) ?_
    refine WL.no rfl rfl rfl (by decide) ?_
    refine WL.no rfl rfl rfl (by decide) ?_
    refine WL.no rfl rfl rfl (by decide) ?_
    refine WL.x (X.pickF rfl rfl rfl) (by decide) ?_
    refine WL.nil ?_
    refine WK.nThen ?_
    refine WC.condF rfl ?_
    refine WC.skip ?_
    refine WK.nBlock ?_
    refine WK.nThen ?_
    refine WC.region ?_
    refine WL.x (X.add rfl rfl (by omega) (by omega)) (by decide) ?_
    refine WL.x (X.move rfl) (by decide) ?_
    refine WL.nil ?_
    refine WK.nThen ?_
    refine WK.next ((k + 1, lo, hi)) rfl (.cons _ (.cons_cons _ (.cons_cons _ (.cons_cons _ .slnil)))) (.cons rfl (.cons rfl (.cons rfl (.cons rfl (.cons rfl (.cons rfl (.cons rfl .nil))))))) ?_ ?_
    ·refine ⟨by omega, ?_, ?_⟩
     ·have hs_ : btLo r.Shifts a b (k + 1) = btLo r.Shifts a b k + (if a < (gt r.Shifts k).Time ∧ (gt r.Shifts k).Time ≤ b then (gt r.Shifts k).Levels.Lo else 0) := rfl
      (repeat' split at hs_) <;> (try dsimp only at hs_) <;> first | omega | contradiction
     ·have hs_ : btHi r.Shifts a b (k + 1) = btHi r.Shifts a b k + (if a < (gt r.Shifts k).Time ∧ (gt r.Shifts k).Time ≤ b then (gt r.Shifts k).Levels.Hi else 0) := rfl
      (repeat' split at hs_) <;> (try dsimp only at hs_) <;> first | omega | contradiction
    ·(dsimp only; omega)
  ·refine WL.nil ?_
   refine WK.nThen ?_
   refine WC.seq ?_
   refine WC.condF rfl ?_
   refine WC.exit ?_
   refine WK.eThen ?_
   refine WK.eThen ?_
   refine WK.eHit ?_
   refine WK.nThen ?_
   refine WC.seq ?_
   refine WC.region ?_
   refine WL.x (X.loadBA (k := 0) Try.isAgg33 Try.sizeOf33 rfl rfl rfl) (by decide) ?_
   refine WL.ts (T.storeBA (k := 1) Try.sizeOf33 rfl rfl rfl (one_cons rfl (one_cons rfl one_nil)) rfl rfl) ?_
   refine WL.nil ?_
   refine WK.nThen ?_
   refine WC.ret ?_
   refine WK.retC1 1 rfl rfl rfl Try.isAgg33 Try.sizeOf33 (fun w' hw' => Ret.exact hw' ?_)
   exact agg2i (by rw [hlo, show k = r.Shifts.length by omega]; rfl) (by rw [hhi, show k = r.Shifts.length by omega]; rfl)

theorem sloped103 (m : Mem) (cs : List Value) (s : Ser) (hs : Enc.rd m cs s)   : Pure Try.prog 103 #[.agg cs.toArray] m (fun m' v => ∃ r0, v = .tuple #[.agg r0.toArray, .int .i64 (slpD s), .int .i64 (twoVE s)] ∧ Enc.rd m' r0 (slpS s)) := by
 obtain ⟨v1, v3, rfl, hs2, hs4⟩ := hs
 have hl5 := hs2.le
 have hl6 := hs4.le
 refine Pure.start Try.func103 rfl Try.ntmps103 rfl fun wld => ?_
 refine WC.seq ?_
 refine WC.region ?_
 refine WL.tn (T.boxB rfl rfl) (by decide) fun b7 => ?_
 refine WL.tn (T.alloc Try.zeroValue139 rfl) (by decide) fun b8 => ?_
 refine WL.x (X.assign rfl) (by decide) ?_
 refine WL.x (X.assign rfl) (by decide) ?_
 refine WL.nil ?_
 refine WK.nThen ?_
 refine WC.seq ?_
 refine WC.seq ?_
 refine WC.region ?_
 refine WL.x (X.loadBA (k := 1) Try.isAgg25 Try.sizeOf25 rfl rfl rfl) (by decide) ?_
 refine WL.tm (T.litM (α := Ser) (vals := [.agg [v1, v3].toArray]) (L := [s]) sl179 rfl (.cons rfl ⟨_, _, rfl, hs2, hs4⟩ .nil) rfl rfl) (by decide) (fun m9 v10 hle11 hs12 => ?_)
 replace hs2 := hs2.mono hle11
 replace hs4 := hs4.mono hle11
 refine WL.x (X.call Try.call81 rfl (checked81_1 _ _ hs12)) (by decide) ?_
 refine WL.x (X.assign rfl) (by decide) ?_
 refine WL.nil ?_
 refine WK.nThen ?_
 refine WC.seq ?_
 refine WC.region ?_
 refine WL.x (X.move rfl) (by decide) ?_
 refine WL.condn (X.neq rfl rfl) (by decide) (fun h13 => ?_) (fun h13 => ?_)
 ·refine WL.nil ?_
  refine WK.nThen ?_
  refine WC.condT rfl ?_
  refine WC.seq ?_
  refine WC.region ?_
  refine WL.x (V := Value.agg [.slice none 0 0, .slice none 0 0, .slice none 0 0, .slice none 0 0].toArray) (X.build Try.zeroValue139 Try.runUnderlying139 (places139 _ Try.underlying139) rfl rfl) (by decide) ?_
  refine WL.x (X.move rfl) (by decide) ?_
  refine WL.ts (T.storeBA (k := 0) Try.sizeOf139 rfl rfl rfl (one_cons rfl (one_cons rfl (one_cons rfl (one_cons rfl one_nil)))) rfl rfl) ?_
  refine WL.x (X.assign rfl) (by decide) ?_
  refine WL.x (X.assign rfl) (by decide) ?_
  refine WL.nil ?_
  refine WK.nThen ?_
  refine WC.ret ?_
  refine WK.rThen ?_
  refine WK.retC12 0 rfl rfl rfl rfl rfl Try.isAgg139 Try.sizeOf139 (fun w' hw' => Ret.mem hw' ?_)
  first | exact ⟨_, tup3 rfl (int_eq (by unfold slpD; rw [if_pos (by unfold twoVE; rw [if_pos (by omega)]; omega)])) (int_eq (by unfold twoVE; rw [if_pos (by omega)])), by rw [slpS, if_pos (by unfold twoVE; rw [if_pos (by omega)]; omega)]; exact ⟨_, _, _, _, rfl, .nil, .nil, .nil, .nil⟩⟩ | exact ⟨_, tup3 rfl (int_eq (by unfold slpD; rw [if_pos (by unfold twoVE; rw [if_neg (by omega), if_pos (by omega)]; omega)])) (int_eq (by unfold twoVE; rw [if_neg (by omega), if_pos (by omega)])), by rw [slpS, if_pos (by unfold twoVE; rw [if_neg (by omega), if_pos (by omega)]; omega)]; exact ⟨_, _, _, _, rfl, .nil, .nil, .nil, .nil⟩⟩
 ·refine WL.nil ?_
  refine WK.nThen ?_
  refine WC.condF rfl ?_
  refine WC.skip ?_
  refine WK.nThen ?_
  refine WC.seq ?_
  have hok := Ok.of (s := s) (by omega)
  have hnV := hok.nV
  refine WC.region ?_
  refine WL.x (X.field Try.runUnderlying25 rfl Try.sizeOf22 rfl) (by decide) ?_
  refine WL.x (X.loadB (k := 1) Try.isAgg22 rfl rfl rfl) (by decide) ?_
  refine WL.x (X.len Try.runUnderlying22 rfl hs2) (by decide) ?_
  refine WL.x (X.assign rfl) (by decide) ?_
  refine WL.x (X.assign rfl) (by decide) ?_
  refine WL.x (X.assign rfl) (by decide) ?_
  refine WL.nil ?_
  refine WK.nThen ?_
  refine WC.seq ?_
  refine WC.seq ?_
  refine WC.region ?_
  refine WL.x (X.move rfl) (by decide) ?_
  refine WL.cond (X.lss rfl rfl) (by decide) (fun h14 => ?_) (fun h14 => ?_)
  ·refine WL.nil ?_
   refine WK.nThen ?_
   refine WC.condT rfl ?_
   refine WC.seq ?_
   refine WC.region ?_
   refine WL.x (V := Value.agg [.slice none 0 0, .slice none 0 0, .slice none 0 0, .slice none 0 0].toArray) (X.build Try.zeroValue139 Try.runUnderlying139 (places139 _ Try.underlying139) rfl rfl) (by decide) ?_
   refine WL.ts (T.storeBA (k := 0) Try.sizeOf139 rfl rfl rfl (one_cons rfl (one_cons rfl (one_cons rfl (one_cons rfl one_nil)))) rfl rfl) ?_
   refine WL.x (X.assign rfl) (by decide) ?_
   refine WL.x (X.assign rfl) (by decide) ?_
   refine WL.nil ?_
   refine WK.nThen ?_
   refine WC.ret ?_
   refine WK.rThen ?_
   refine WK.retC12 0 rfl rfl rfl rfl rfl Try.isAgg139 Try.sizeOf139 (fun w' hw' => Ret.mem hw' ?_)
   first | exact ⟨_, tup3 rfl (int_eq (by unfold slpD; rw [if_pos (by unfold twoVE; rw [if_pos (by omega)]; omega)])) (int_eq (by unfold twoVE; rw [if_pos (by omega)])), by rw [slpS, if_pos (by unfold twoVE; rw [if_pos (by omega)]; omega)]; exact ⟨_, _, _, _, rfl, .nil, .nil, .nil, .nil⟩⟩ | exact ⟨_, tup3 rfl (int_eq (by unfold slpD; rw [if_pos (by unfold twoVE; rw [if_neg (by omega), if_pos (by omega)]; omega)])) (int_eq (by unfold twoVE; rw [if_neg (by omega), if_pos (by omega)])), by rw [slpS, if_pos (by unfold twoVE; rw [if_neg (by omega), if_pos (by omega)]; omega)]; exact ⟨_, _, _, _, rfl, .nil, .nil, .nil, .nil⟩⟩
  ·refine WL.nil ?_
   refine WK.nThen ?_
   refine WC.condF rfl ?_
   refine WC.skip ?_
   refine WK.nThen ?_
   refine WC.seq ?_
   refine WC.seq ?_
   refine WC.region ?_
   refine WL.x (X.field Try.runUnderlying25 rfl Try.sizeOf22 rfl) (by decide) ?_
   refine WL.x (X.loadB (k := 1) Try.isAgg22 rfl rfl rfl) (by decide) ?_
   refine WL.x (X.len Try.runUnderlying22 rfl hs2) (by decide) ?_
   refine WL.x (X.move rfl) (by decide) ?_
   refine WL.nil ?_
   refine WK.nThen ?_
   refine WC.block ?_
   refine WC.loop (G := Nat × Int × Int) (fun (k, tot, sq) => s.Values.length - k) (fun (k, tot, sq) => m9) (fun (k, tot, sq) => [blk b8 139 [.slice none 0 0, .slice none 0 0, .slice none 0 0, .slice none 0 0], blk b7 25 [v1, v3]]) (fun (k, tot, sq) => [(1, .pointer (some ⟨b7, 0, none⟩)), (2, .pointer (some ⟨b8, 0, none⟩)), (6, .int .i64 (↑s.Values.length)), (7, .int .i64 (tot)), (8, .int .i64 (sq)), (28, v1), (29, .int .i64 (↑s.Values.length)), (30, .int .i64 (↑k))]) (fun (k, tot, sq) => k ≤ s.Values.length ∧ tot = timN s k ∧ sq = sqN s k) ((0, 0, 0)) rfl (.refl _) (.cons rfl (.cons rfl (.cons rfl (.cons rfl (.cons rfl (.cons rfl (.cons rfl (.cons rfl .nil)))))))) ?_ ?_
   ·exact ⟨Nat.zero_le _, rfl, rfl⟩
   ·rintro ⟨k, tot, sq⟩ hF15
    show WK _ _ m9 [blk b8 139 [.slice none 0 0, .slice none 0 0, .slice none 0 0, .slice none 0 0], blk b7 25 [v1, v3]] [(1, .pointer (some ⟨b7, 0, none⟩)), (2, .pointer (some ⟨b8, 0, none⟩)), (6, .int .i64 (↑s.Values.length)), (7, .int .i64 (tot)), (8, .int .i64 (sq)), (28, v1), (29, .int .i64 (↑s.Values.length)), (30, .int .i64 (↑k))] _
    replace hF15 : k ≤ s.Values.length ∧ tot = timN s k ∧ sq = sqN s k := hF15
    obtain ⟨hk, htot, hsq⟩ := hF15
    have htb := tim_bd hok (n := k) (by omega)
    have hsb := sqN_bd hok (n := k) (by omega)
    have hvt := fun h => hok.vt (i := k) h
    have hvq := fun h => sq_bd (hok.vt (i := k) h)
    refine WC.seq ?_
    refine WC.region ?_
    refine WL.cond (X.lss rfl rfl) (by decide) (fun h16 => ?_) (fun h16 => ?_)
    ·refine WL.nil ?_
     refine WK.nThen ?_
     refine WC.seq ?_
     refine WC.condT rfl ?_
     refine WC.skip ?_
     refine WK.nThen ?_
     refine WC.seq ?_
     refine WC.block ?_
     refine WC.seq ?_
     refine WC.region ?_
     refine WL.xe (E.idxN k Try.runUnderlying22 Try.sizeOf62 rfl rfl hs2 (by omega)) (by decide) (fun p17 hp18 => ?_)
     refine WL.xe (E.loadAgg Try.isAgg62 Try.sizeOf62 rfl hp18) (by decide) (fun c19 hc20 => ?_)
     obtain rfl := hc20
     refine WL.tn (T.alloc Try.zeroValue62 rfl) (by decide) fun b21 => ?_
     refine WL.ts (T.storeBA (k := 0) Try.sizeOf62 rfl rfl rfl (one_cons rfl (one_cons rfl (one_cons rfl one_nil))) rfl rfl) ?_
     refine WL.nil ?_
     refine WK.nThen ?_
     refine WC.seq ?_
     refine WC.region ?_
     refine WL.x (X.move rfl) (by decide) ?_
     refine WL.x (X.field Try.runUnderlying62 rfl Try.sizeOf3 rfl) (by decide) ?_
     refine WL.x (X.loadB (k := 0) Try.isAgg3 rfl rfl rfl) (by decide) ?_
     refine WL.x (X.add rfl rfl (by omega) (by omega)) (by decide) ?_
     refine WL.x (X.assign rfl) (by decide) ?_
     refine WL.nil ?_
     refine WK.nThen ?_
     refine WC.region ?_
     refine WL.x (X.move rfl) (by decide) ?_
     refine WL.x (X.field Try.runUnderlying62 rfl Try.sizeOf3 rfl) (by decide) ?_
     refine WL.x (X.loadB (k := 0) Try.isAgg3 rfl rfl rfl) (by decide) ?_
     refine WL.x (X.field Try.runUnderlying62 rfl Try.sizeOf3 rfl) (by decide) ?_
     refine WL.x (X.loadB (k := 0) Try.isAgg3 rfl rfl rfl) (by decide) ?_
     refine WL.x (X.mul rfl rfl (by omega) (by omega)) (by decide) ?_
     refine WL.x (X.add rfl rfl (by omega) (by omega)) (by decide) ?_
     refine WL.x (X.assign rfl) (by decide) ?_
     refine WL.nil ?_
     refine WK.nBlock ?_
     refine WK.nThen ?_
     refine WC.region ?_
     refine WL.x (X.add rfl rfl (by omega) (by omega)) (by decide) ?_
     refine WL.x (X.move rfl) (by decide) ?_
     refine WL.nil ?_
     refine WK.nThen ?_
     refine WK.next ((k + 1, tot + ((gt s.Values k).Time), sq + (((gt s.Values k).Time) * ((gt s.Values k).Time)))) rfl (.cons _ (.cons_cons _ (.cons_cons _ .slnil))) (.cons rfl (.cons rfl (.cons rfl (.cons rfl (.cons rfl (.cons rfl (.cons rfl (.cons rfl .nil)))))))) ?_ ?_
     ·refine ⟨by omega, ?_, ?_⟩
      ·have hs_ : timN s (k + 1) = timN s k + (gt s.Values k).Time := rfl
       (repeat' split at hs_) <;> (try dsimp only at hs_) <;> first | omega | contradiction
      ·have hs_ : sqN s (k + 1) = sqN s k + (gt s.Values k).Time * (gt s.Values k).Time := rfl
       (repeat' split at hs_) <;> (try dsimp only at hs_) <;> first | omega | contradiction
     ·(dsimp only; omega)
    ·refine WL.nil ?_
     refine WK.nThen ?_
     refine WC.seq ?_
     refine WC.condF rfl ?_
     refine WC.exit ?_
     refine WK.eThen ?_
     refine WK.eThen ?_
     refine WK.eHit ?_
     refine WK.nThen ?_
     refine WC.seq ?_
     refine WK.ownF Int 3 ?_
     refine WC.region ?_
     refine WL.x (X.assign rfl) (by decide) ?_
     refine WL.nil ?_
     refine WK.nThen ?_
     refine WC.seq ?_
     refine WC.seq ?_
     refine WC.region ?_
     refine WL.x (X.field Try.runUnderlying25 rfl Try.sizeOf22 rfl) (by decide) ?_
     refine WL.x (X.loadB (k := 2) Try.isAgg22 rfl rfl rfl) (by decide) ?_
     refine WL.x (X.len Try.runUnderlying22 rfl hs2) (by decide) ?_
     refine WL.x (X.move rfl) (by decide) ?_
     refine WL.nil ?_
     refine WK.nThen ?_
     refine WC.block ?_
     obtain rfl : k = s.Values.length := (by omega)
     have htb := tim_bd hok (Nat.le_refl s.Values.length)
     have hsb := sqN_bd hok (Nat.le_refl s.Values.length)
     refine WC.loop (G := Nat × Value) (fun (i, vo) => s.Values.length - i) (fun (i, vo) => m9) (fun (i, vo) => [rowF (vo) 3 ((List.range i).map (fun i => (s.Values.length : Int) * (gt s.Values i).Time - timN s s.Values.length)), blk b8 139 [.slice none 0 0, .slice none 0 0, .slice none 0 0, .slice none 0 0], blk b7 25 [v1, v3]]) (fun (i, vo) => [(1, .pointer (some ⟨b7, 0, none⟩)), (2, .pointer (some ⟨b8, 0, none⟩)), (6, .int .i64 (↑s.Values.length)), (7, .int .i64 (tot)), (8, .int .i64 (sq)), (11, vo), (47, v1), (48, .int .i64 (↑s.Values.length)), (49, .int .i64 (↑i))]) (fun (i, vo) => i ≤ s.Values.length) ((0, Value.slice none 0 0)) rfl (.refl _) (.cons rfl (.cons rfl (.cons rfl (.cons rfl (.cons rfl (.cons rfl (.cons rfl (.cons rfl (.cons rfl .nil))))))))) ?_ ?_
     ·exact Nat.zero_le _
     ·rintro ⟨i, vo⟩ hF22
      show WK _ _ m9 [rowF (vo) 3 ((List.range i).map (fun i => (s.Values.length : Int) * (gt s.Values i).Time - timN s s.Values.length)), blk b8 139 [.slice none 0 0, .slice none 0 0, .slice none 0 0, .slice none 0 0], blk b7 25 [v1, v3]] [(1, .pointer (some ⟨b7, 0, none⟩)), (2, .pointer (some ⟨b8, 0, none⟩)), (6, .int .i64 (↑s.Values.length)), (7, .int .i64 (tot)), (8, .int .i64 (sq)), (11, vo), (47, v1), (48, .int .i64 (↑s.Values.length)), (49, .int .i64 (↑i))] _
      replace hF22 : i ≤ s.Values.length := hF22
      have hi := hF22
      have hvt := fun h => hok.vt (i := i) h
      have hnt := fun h => nt_bd hok (i := i) h
      refine WC.seq ?_
      refine WC.region ?_
      refine WL.cond (X.lss rfl rfl) (by decide) (fun h23 => ?_) (fun h23 => ?_)
      ·refine WL.nil ?_
       refine WK.nThen ?_
       refine WC.seq ?_
       refine WC.condT rfl ?_
       refine WC.skip ?_
       refine WK.nThen ?_
       refine WC.seq ?_
       refine WC.block ?_
       refine WC.seq ?_
       refine WC.region ?_
       refine WL.xe (E.idxN i Try.runUnderlying22 Try.sizeOf62 rfl rfl hs2 (by omega)) (by decide) (fun p24 hp25 => ?_)
       refine WL.xe (E.loadAgg Try.isAgg62 Try.sizeOf62 rfl hp25) (by decide) (fun c26 hc27 => ?_)
       obtain rfl := hc27
       refine WL.tn (T.alloc Try.zeroValue62 rfl) (by decide) fun b28 => ?_
       refine WL.ts (T.storeBA (k := 0) Try.sizeOf62 rfl rfl rfl (one_cons rfl (one_cons rfl (one_cons rfl one_nil))) rfl rfl) ?_
       refine WL.nil ?_
       refine WK.nThen ?_
       refine WC.region ?_
       refine WL.x (X.move rfl) (by decide) ?_
       refine WL.x (X.move rfl) (by decide) ?_
       refine WL.x (X.field Try.runUnderlying62 rfl Try.sizeOf3 rfl) (by decide) ?_
       refine WL.x (X.loadB (k := 0) Try.isAgg3 rfl rfl rfl) (by decide) ?_
       refine WL.x (X.mul rfl rfl (by omega) (by omega)) (by decide) ?_
       refine WL.x (X.move rfl) (by decide) ?_
       refine WL.x (X.sub rfl rfl (by omega) (by omega)) (by decide) ?_
       refine WL.tl (T.lit1 sl28 rfl rfl rfl (by decide)) (by decide) fun b29 => ?_
       refine WL.ta (T.appendF (k := 1) (a := ((↑s.Values.length * ((gt s.Values i).Time)) - tot : Int)) sl28 rfl rfl rfl rfl (by first | omega | (simp; done) | (simp; omega)) (by decide)) (by decide) (fun v30 => ?_)
       refine WL.x (X.assign rfl) (by decide) ?_
       refine WL.nil ?_
       refine WK.nBlock ?_
       refine WK.nThen ?_
       refine WC.region ?_
       refine WL.x (X.add rfl rfl (by omega) (by omega)) (by decide) ?_
       refine WL.x (X.move rfl) (by decide) ?_
       refine WL.nil ?_
       refine WK.nThen ?_
       have he31 : (((List.range i).map (fun i => (s.Values.length : Int) * (gt s.Values i).Time - timN s s.Values.length)) ++ [((↑s.Values.length * ((gt s.Values i).Time)) - tot : Int)]) = ((List.range (i + 1)).map (fun i => (s.Values.length : Int) * (gt s.Values i).Time - timN s s.Values.length)) := (by rw [htot]; exact map_succ _ _)
       rw [he31]
       refine WK.next ((i + 1, v30)) rfl (.cons _ (.refl _)) (.cons rfl (.cons rfl (.cons rfl (.cons rfl (.cons rfl (.cons rfl (.cons rfl (.cons rfl (.cons rfl .nil))))))))) ?_ ?_
       ·omega
       ·(dsimp only; omega)
      ·refine WL.nil ?_
       refine WK.nThen ?_
       refine WC.seq ?_
       refine WC.condF rfl ?_
       refine WC.exit ?_
       refine WK.eThen ?_
       refine WK.eThen ?_
       refine WK.eHit ?_
       refine WK.nThen ?_
       refine WC.seq ?_
       have hmf := momL_fac hok
       have hml := hmf.1
       have hmb := mom_bds hok
       rw [← htot, ← hsq] at hmb
       have he32 : ((List.range i).map (fun i => (s.Values.length : Int) * (gt s.Values i).Time - timN s s.Values.length)) = (momL s) := by rw [show i = s.Values.length by omega]; rfl
       rw [he32]
       refine WC.region ?_
       refine WL.x (X.loadBA (k := 2) Try.isAgg25 Try.sizeOf25 rfl rfl rfl) (by decide) ?_
       refine WL.x (V := Value.agg [v1, v3].toArray) (X.build Try.zeroValue111 Try.runUnderlying111 (places111 _ Try.underlying111) rfl rfl) (by decide) ?_
       refine WL.x (X.move rfl) (by decide) ?_
       refine WL.freezeF 0 rfl rfl (by simp [lenB]; omega) (fun m33 hle34 hs35 => ?_)
       replace hs2 := hs2.mono hle34
       replace hs4 := hs4.mono hle34
       replace hs12 := hs12.mono hle34
       refine WL.tm (T.call Try.call129 rfl (sum129 _ _ s ⟨_, _, rfl, hs2, hs4⟩ _ _ hs35 hok hmf)) (by decide) fun m36 r37 hle38 hR39 => ?_
       obtain ⟨c40, rfl, hc41⟩ := hR39
       replace hs2 := hs2.mono hle38
       replace hs4 := hs4.mono hle38
       replace hs12 := hs12.mono hle38
       replace hs35 := hs35.mono hle38
       obtain ⟨v42, v44, v46, v48, rfl, hs43, hs45, hs47, hs49⟩ := hc41
       have hl50 := hs43.le
       have hl51 := hs45.le
       have hl52 := hs47.le
       have hl53 := hs49.le
       refine WL.x (X.move rfl) (by decide) ?_
       refine WL.x (X.move rfl) (by decide) ?_
       refine WL.x (X.mul rfl rfl (by omega) (by omega)) (by decide) ?_
       refine WL.x (X.move rfl) (by decide) ?_
       refine WL.x (X.move rfl) (by decide) ?_
       refine WL.x (X.mul rfl rfl (by omega) (by omega)) (by decide) ?_
       refine WL.x (X.sub rfl rfl (by omega) (by omega)) (by decide) ?_
       refine WL.ts (T.storeBA (k := 0) Try.sizeOf139 rfl rfl rfl (one_cons hs43.one (one_cons hs45.one (one_cons hs47.one (one_cons hs49.one one_nil)))) rfl rfl) ?_
       refine WL.x (X.assign rfl) (by decide) ?_
       refine WL.x (X.assign rfl) (by decide) ?_
       refine WL.nil ?_
       refine WK.nThen ?_
       refine WC.ret ?_
       refine WK.retC12 0 rfl rfl rfl rfl rfl Try.isAgg139 Try.sizeOf139 (fun w' hw' => Ret.mem hw' ?_)
       first | exact ⟨_, tup3 rfl (int_eq (by unfold slpD; rw [if_neg (by unfold twoVE; rw [if_neg (by omega), if_neg (by omega)]; omega), hsq, htot]; rfl)) (int_eq (by unfold twoVE; rw [if_neg (by omega), if_neg (by omega)])), by rw [slpS, if_neg (by unfold twoVE; rw [if_neg (by omega), if_neg (by omega)]; omega)]; exact ⟨_, _, _, _, rfl, hs43, hs45, hs47, hs49⟩⟩

theorem slope36 (m : Mem) (cs : List Value) (s : Ser) (hs : Enc.rd m cs s)   : Exact Try.prog 36 #[.agg cs.toArray] m (.tuple #[.agg [.int .i64 ((slopeR s).1.Num), .int .i64 ((slopeR s).1.Den)].toArray, .agg [.int .i64 ((slopeR s).2.1.Num), .int .i64 ((slopeR s).2.1.Den)].toArray, .int .i64 ((slopeR s).2.2)]) := by
 obtain ⟨v1, v3, rfl, hs2, hs4⟩ := hs
 have hl5 := hs2.le
 have hl6 := hs4.le
 refine Exact.start Try.func36 rfl Try.ntmps36 rfl fun wld => ?_
 refine WC.seq ?_
 refine WC.region ?_
 refine WL.tn (T.boxB rfl rfl) (by decide) fun b7 => ?_
 refine WL.tn (T.alloc Try.zeroValue45 rfl) (by decide) fun b8 => ?_
 refine WL.tn (T.alloc Try.zeroValue45 rfl) (by decide) fun b9 => ?_
 refine WL.x (X.assign rfl) (by decide) ?_
 refine WL.nil ?_
 refine WK.nThen ?_
 refine WC.seq ?_
 refine WC.region ?_
 refine WL.x (X.loadBA (k := 2) Try.isAgg25 Try.sizeOf25 rfl rfl rfl) (by decide) ?_
 refine WL.tm (T.call Try.call103 rfl (sloped103 _ _ s ⟨_, _, rfl, hs2, hs4⟩ )) (by decide) fun m10 r11 hle12 hR13 => ?_
 obtain ⟨c14, rfl, hc15⟩ := hR13
 replace hs2 := hs2.mono hle12
 replace hs4 := hs4.mono hle12
 obtain ⟨v16, v18, v20, v22, rfl, hs17, hs19, hs21, hs23⟩ := hc15
 have hl24 := hs17.le
 have hl25 := hs19.le
 have hl26 := hs21.le
 have hl27 := hs23.le
 refine WL.x (X.move rfl) (by decide) ?_
 refine WL.x (X.extract rfl rfl) (by decide) ?_
 refine WL.x (X.extract rfl rfl) (by decide) ?_
 refine WL.x (X.extract rfl rfl) (by decide) ?_
 refine WL.tn (T.alloc Try.zeroValue139 rfl) (by decide) fun b28 => ?_
 refine WL.ts (T.storeBA (k := 0) Try.sizeOf139 rfl rfl rfl (one_cons hs17.one (one_cons hs19.one (one_cons hs21.one (one_cons hs23.one one_nil)))) rfl rfl) ?_
 refine WL.x (X.assign rfl) (by decide) ?_
 refine WL.x (X.assign rfl) (by decide) ?_
 refine WL.nil ?_
 refine WK.nThen ?_
 refine WC.seq ?_
 refine WC.seq ?_
 refine WC.region ?_
 refine WL.x (X.move rfl) (by decide) ?_
 refine WL.condn (X.neq rfl rfl) (by decide) (fun h29 => ?_) (fun h29 => ?_)
 ·refine WL.nil ?_
  refine WK.nThen ?_
  refine WC.condT rfl ?_
  refine WC.cut (G := Mem) (fun m30 => m30) (fun m30 => [blk b28 139 [v16, v18, v20, v22], blk b9 45 [.int .i64 (0), .int .i64 (0)], blk b8 45 [.int .i64 (0), .int .i64 (0)], blk b7 25 [v1, v3]]) (fun m30 => [(2, .pointer (some ⟨b8, 0, none⟩)), (3, .pointer (some ⟨b9, 0, none⟩)), (4, .int .i64 (twoVE s))]) (fun m30 => m10.le m30 ∧ Sl (α := Val) m30 v16 (((slpS s).run).Values) ∧ Sl (α := Shf) m30 v18 (((slpS s).run).Shifts) ∧ Sl (α := Int) m30 v20 ((slpS s).levels) ∧ Sl (α := Int) m30 v22 ((slpS s).shifts) ∧ Sl (α := Val) m30 v1 s.Values ∧ Sl (α := Shf) m30 v3 s.Shifts) ?_ ?_
  ·refine WC.draw (π := (.cons 0 (.cons 2 (.fork (.cons 1 (.cons 3 (.cons 4 (.cons 5 .done)))) (.cons 3 (.cons 1 (.cons 4 (.cons 5 .done)))))))) [1, 3, 4] [3, 4] rfl (by kernel_rfl) ?_
   refine DW.x rfl rfl (X.loadBA (k := 2) Try.isAgg45 Try.sizeOf45 rfl rfl rfl) (by decide) ?_
   refine DW.x rfl rfl (X.move rfl) (by decide) ?_
   refine DW.fork (List.cons_ne_nil _ _) ?_ ?_
   ·refine DW.xp rfl rfl rfl (fun _ => (X.loadBA (k := 1) Try.isAgg45 Try.sizeOf45 rfl rfl rfl)) (by decide) ?_
    refine DW.ts rfl rfl rfl rfl (T.storeBA (k := 2) Try.sizeOf45 rfl rfl rfl (one_cons rfl (one_cons rfl one_nil)) rfl rfl) ?_
    refine DW.ts rfl rfl rfl rfl (T.storeBA (k := 1) Try.sizeOf45 rfl rfl rfl (one_cons rfl (one_cons rfl one_nil)) rfl rfl) ?_
    refine DW.x rfl rfl (X.assign rfl) (by decide) ?_
    refine DW.nil ?_
    refine WK.nThen ?_
    exact WK.meet m10 rfl (.refl _) (.cons rfl (.cons rfl (.cons rfl .nil))) ⟨(Mem.le_refl _), hs17, hs19, hs21, hs23, hs2, hs4⟩
   ·refine DW.ts rfl rfl rfl rfl (T.storeBA (k := 2) Try.sizeOf45 rfl rfl rfl (one_cons rfl (one_cons rfl one_nil)) rfl rfl) ?_
    refine DW.xp rfl rfl rfl (fun _ => (X.loadBA (k := 1) Try.isAgg45 Try.sizeOf45 rfl rfl rfl)) (by decide) ?_
    refine DW.ts rfl rfl rfl rfl (T.storeBA (k := 1) Try.sizeOf45 rfl rfl rfl (one_cons rfl (one_cons rfl one_nil)) rfl rfl) ?_
    refine DW.x rfl rfl (X.assign rfl) (by decide) ?_
    refine DW.nil ?_
    refine WK.nThen ?_
    exact WK.meet m10 rfl (.refl _) (.cons rfl (.cons rfl (.cons rfl .nil))) ⟨(Mem.le_refl _), hs17, hs19, hs21, hs23, hs2, hs4⟩
  ·rintro m30 ⟨hle31, hs32, hs33, hs34, hs35, hs36, hs37⟩
   show WK _ _ m30 [blk b28 139 [v16, v18, v20, v22], blk b9 45 [.int .i64 (0), .int .i64 (0)], blk b8 45 [.int .i64 (0), .int .i64 (0)], blk b7 25 [v1, v3]] [(2, .pointer (some ⟨b8, 0, none⟩)), (3, .pointer (some ⟨b9, 0, none⟩)), (4, .int .i64 (twoVE s))] _
   replace hs2 := hs2.mono hle31
   replace hs4 := hs4.mono hle31
   replace hs17 := hs17.mono hle31
   replace hs19 := hs19.mono hle31
   replace hs21 := hs21.mono hle31
   replace hs23 := hs23.mono hle31
   have hl38 := hs32.le
   have hl39 := hs33.le
   have hl40 := hs34.le
   have hl41 := hs35.le
   have hl42 := hs36.le
   have hl43 := hs37.le
   refine WC.ret ?_
   refine WK.rThen ?_
   refine WK.retC3 2 1 rfl rfl rfl rfl rfl rfl Try.isAgg45 Try.sizeOf45 Try.isAgg45 Try.sizeOf45 (fun w' hw' => Ret.exact hw' ?_)
   first | exact tup3 (agg2i (by unfold slopeR; rw [if_pos (by omega)]) (by unfold slopeR; rw [if_pos (by omega)])) (agg2i (by unfold slopeR; rw [if_pos (by omega)]) (by unfold slopeR; rw [if_pos (by omega)])) (int_eq (by unfold slopeR; rw [if_pos (by omega)])) | exact tup3 (agg2i (by unfold slopeR; rw [if_neg (by omega)]; rfl) (by unfold slopeR; rw [if_neg (by omega)]; rfl)) (agg2i (by unfold slopeR; rw [if_neg (by omega)]; rfl) (by unfold slopeR; rw [if_neg (by omega)]; rfl)) (int_eq (by unfold slopeR; rw [if_neg (by omega)]))
 ·refine WL.nil ?_
  refine WK.nThen ?_
  refine WC.condF rfl ?_
  refine WC.skip ?_
  refine WK.nThen ?_
  refine WC.seq ?_
  have hsw := slpS_w (s := s) (by omega)
  have hsd := slpD_bd (s := s) (by omega)
  have hsb := bdX_bd hsw
  unfold bdX at hsb
  refine WC.region ?_
  refine WL.x (X.loadBA (k := 0) Try.isAgg139 Try.sizeOf139 rfl rfl rfl) (by decide) ?_
  refine WL.x (X.call Try.call104 rfl (bounds104 _ _ (slpS s) ⟨_, _, _, _, rfl, hs17, hs19, hs21, hs23⟩ hsw)) (by decide) ?_
  refine WL.tn (T.alloc Try.zeroValue33 rfl) (by decide) fun b44 => ?_
  refine WL.ts (T.storeBA (k := 0) Try.sizeOf33 rfl rfl rfl (one_cons rfl (one_cons rfl one_nil)) rfl rfl) ?_
  refine WL.nil ?_
  refine WK.nThen ?_
  refine WC.seq ?_
  refine WC.draw (π := (.cons 0 (.cons 1 (.cons 2 (.cons 3 (.cons 4 (.cons 5 (.cons 6 (.cons 7 (.cons 8 (.cons 9 (.cons 10 .done)))))))))))) [8, 9] [8, 9] rfl (by kernel_rfl) ?_
  refine DW.x rfl rfl (X.field Try.runUnderlying33 rfl Try.sizeOf3 rfl) (by decide) ?_
  refine DW.x rfl rfl (X.loadB (k := 0) Try.isAgg3 rfl rfl rfl) (by decide) ?_
  refine DW.x rfl rfl (X.move rfl) (by decide) ?_
  refine DW.x rfl rfl (X.call Try.call105 rfl (lowest105 _ _ _ (by omega) (by omega))) (by decide) ?_
  refine DW.x rfl rfl (X.field Try.runUnderlying33 rfl Try.sizeOf3 rfl) (by decide) ?_
  refine DW.x rfl rfl (X.loadB (k := 0) Try.isAgg3 rfl rfl rfl) (by decide) ?_
  refine DW.x rfl rfl (X.move rfl) (by decide) ?_
  refine DW.x rfl rfl (X.call Try.call105 rfl (lowest105 _ _ _ (by omega) (by omega))) (by decide) ?_
  refine DW.ts rfl rfl rfl rfl (T.storeBA (k := 3) Try.sizeOf45 rfl rfl rfl (one_cons rfl (one_cons rfl one_nil)) rfl rfl) ?_
  refine DW.ts rfl rfl rfl rfl (T.storeBA (k := 2) Try.sizeOf45 rfl rfl rfl (one_cons rfl (one_cons rfl one_nil)) rfl rfl) ?_
  refine DW.x rfl rfl (X.assign rfl) (by decide) ?_
  refine DW.nil ?_
  refine WK.nThen ?_
  refine WC.ret ?_
  refine WK.retC3 3 2 rfl rfl rfl rfl rfl rfl Try.isAgg45 Try.sizeOf45 Try.isAgg45 Try.sizeOf45 (fun w' hw' => Ret.exact hw' ?_)
  first | exact tup3 (agg2i (by unfold slopeR; rw [if_pos (by omega)]) (by unfold slopeR; rw [if_pos (by omega)])) (agg2i (by unfold slopeR; rw [if_pos (by omega)]) (by unfold slopeR; rw [if_pos (by omega)])) (int_eq (by unfold slopeR; rw [if_pos (by omega)])) | exact tup3 (agg2i (by unfold slopeR; rw [if_neg (by omega)]; rfl) (by unfold slopeR; rw [if_neg (by omega)]; rfl)) (agg2i (by unfold slopeR; rw [if_neg (by omega)]; rfl) (by unfold slopeR; rw [if_neg (by omega)]; rfl)) (int_eq (by unfold slopeR; rw [if_neg (by omega)]))

theorem common83 (m : Mem) (cs : List Value) (s : Ser) (hs : Enc.rd m cs s) (ct : List Value) (t : Ser) (ht : Enc.rd m ct t)  (hn : s.Values.length ≤ 200) : Pure Try.prog 83 #[.agg cs.toArray, .agg ct.toArray] m (fun m' v => ∃ r0, v = r0 ∧ Sl m' r0 (comL s t)) := by
 obtain ⟨v1, v3, rfl, hs2, hs4⟩ := hs
 have hl5 := hs2.le
 have hl6 := hs4.le
 obtain ⟨v7, v9, rfl, hs8, hs10⟩ := ht
 have hl11 := hs8.le
 have hl12 := hs10.le
 refine Pure.start Try.func83 rfl Try.ntmps83 rfl fun wld => ?_
 refine WC.seq ?_
 refine WC.region ?_
 refine WL.tn (T.boxB rfl rfl) (by decide) fun b13 => ?_
 refine WL.tn (T.boxB rfl rfl) (by decide) fun b14 => ?_
 refine WL.x (X.assign rfl) (by decide) ?_
 refine WL.nil ?_
 refine WK.nThen ?_
 refine WC.seq ?_
 refine WK.ownF A2 113 ?_
 refine WC.region ?_
 refine WL.x (X.assign rfl) (by decide) ?_
 refine WL.nil ?_
 refine WK.nThen ?_
 refine WC.seq ?_
 refine WC.seq ?_
 refine WC.region ?_
 refine WL.x (X.field Try.runUnderlying25 rfl Try.sizeOf22 rfl) (by decide) ?_
 refine WL.x (X.loadB (k := 2) Try.isAgg22 rfl rfl rfl) (by decide) ?_
 refine WL.x (X.len Try.runUnderlying22 rfl hs2) (by decide) ?_
 refine WL.x (X.move rfl) (by decide) ?_
 refine WL.nil ?_
 refine WK.nThen ?_
 refine WC.block ?_
 refine WC.loop (G := Nat × Value) (fun (k, vo) => s.Values.length - k) (fun (k, vo) => m) (fun (k, vo) => [rowF (vo) 113 (comN s t k), blk b14 25 [v7, v9], blk b13 25 [v1, v3]]) (fun (k, vo) => [(3, .pointer (some ⟨b14, 0, none⟩)), (5, vo), (10, v1), (11, .int .i64 (↑s.Values.length)), (12, .int .i64 (↑k))]) (fun (k, vo) => k ≤ s.Values.length) ((0, Value.slice none 0 0)) rfl (.refl _) (.cons rfl (.cons rfl (.cons rfl (.cons rfl (.cons rfl .nil))))) ?_ ?_
 ·exact Nat.zero_le _
 ·rintro ⟨k, vo⟩ hF15
  show WK _ _ m [rowF (vo) 113 (comN s t k), blk b14 25 [v7, v9], blk b13 25 [v1, v3]] [(3, .pointer (some ⟨b14, 0, none⟩)), (5, vo), (10, v1), (11, .int .i64 (↑s.Values.length)), (12, .int .i64 (↑k))] _
  replace hF15 : k ≤ s.Values.length := hF15
  have hk := hF15
  have hcl := comN_len s t k
  refine WC.seq ?_
  refine WC.region ?_
  refine WL.cond (X.lss rfl rfl) (by decide) (fun h16 => ?_) (fun h16 => ?_)
  ·refine WL.nil ?_
   refine WK.nThen ?_
   refine WC.seq ?_
   refine WC.condT rfl ?_
   refine WC.skip ?_
   refine WK.nThen ?_
   refine WC.seq ?_
   refine WC.block ?_
   refine WC.seq ?_
   refine WC.region ?_
   refine WL.x (X.move rfl) (by decide) ?_
   refine WL.xe (E.idxN k Try.runUnderlying22 Try.sizeOf62 rfl rfl hs2 (by omega)) (by decide) (fun p17 hp18 => ?_)
   refine WL.xe (E.loadAgg Try.isAgg62 Try.sizeOf62 rfl hp18) (by decide) (fun c19 hc20 => ?_)
   obtain rfl := hc20
   refine WL.tn (T.alloc Try.zeroValue62 rfl) (by decide) fun b21 => ?_
   refine WL.x (X.assign rfl) (by decide) ?_
   refine WL.ts (T.storeBA (k := 0) Try.sizeOf62 rfl rfl rfl (one_cons rfl (one_cons rfl (one_cons rfl one_nil))) rfl rfl) ?_
   refine WL.nil ?_
   refine WK.nThen ?_
   refine WC.seq ?_
   refine WC.region ?_
   refine WL.x (X.loadBA (k := 2) Try.isAgg25 Try.sizeOf25 rfl rfl rfl) (by decide) ?_
   refine WL.x (V := Value.agg [v7, v9].toArray) (X.build Try.zeroValue111 Try.runUnderlying111 (places111 _ Try.underlying111) rfl rfl) (by decide) ?_
   refine WL.x (X.field Try.runUnderlying62 rfl Try.sizeOf3 rfl) (by decide) ?_
   refine WL.x (X.loadB (k := 0) Try.isAgg3 rfl rfl rfl) (by decide) ?_
   refine WL.x (X.call Try.call110 rfl (index110 _ _ t ⟨_, _, rfl, hs8, hs10⟩ _ )) (by decide) ?_
   refine WL.x (X.assign rfl) (by decide) ?_
   refine WL.nil ?_
   refine WK.nThen ?_
   refine WC.seq ?_
   refine WC.region ?_
   refine WL.x (X.move rfl) (by decide) ?_
   refine WL.cond (X.geq rfl rfl) (by decide) (fun h22 => ?_) (fun h22 => ?_)
   ·refine WL.nil ?_
    refine WK.nThen ?_
    refine WC.condT rfl ?_
    refine WC.region ?_
    refine WL.x (X.move rfl) (by decide) ?_
    refine WL.x (X.move rfl) (by decide) ?_
    refine WL.x (X.move rfl) (by decide) ?_
    refine WL.x (V := Value.agg [.int .i64 (↑k), .int .i64 (idxR t (((gt s.Values k).Time)))].toArray) (X.buildA Try.zeroValue113 Try.runUnderlying113 Try.sizeOf3 rfl rfl) (by decide) ?_
    refine WL.tl (T.lit1 sl108 rfl rfl rfl (by decide)) (by decide) fun b23 => ?_
    refine WL.ta (T.appendF (k := 1) (a := (A2.mk (↑k) (idxR t (((gt s.Values k).Time))))) sl108 rfl rfl rfl rfl (by first | omega | (simp; done) | (simp; omega)) (by decide)) (by decide) (fun v24 => ?_)
    refine WL.x (X.assign rfl) (by decide) ?_
    refine WL.nil ?_
    refine WK.nBlock ?_
    refine WK.nThen ?_
    refine WC.region ?_
    refine WL.x (X.add rfl rfl (by omega) (by omega)) (by decide) ?_
    refine WL.x (X.move rfl) (by decide) ?_
    refine WL.nil ?_
    refine WK.nThen ?_
    have he25 : ((comN s t k) ++ [(A2.mk (↑k) (idxR t (((gt s.Values k).Time))))]) = (comN s t (k + 1)) := (by rw [comN]; first | rw [if_pos (by omega)] | rw [if_neg (by omega)])
    rw [he25]
    refine WK.next ((k + 1, v24)) rfl (.cons _ (.cons_cons _ (.cons_cons _ (.cons_cons _ .slnil)))) (.cons rfl (.cons rfl (.cons rfl (.cons rfl (.cons rfl .nil))))) ?_ ?_
    ·omega
    ·(dsimp only; omega)
   ·refine WL.nil ?_
    refine WK.nThen ?_
    refine WC.condF rfl ?_
    refine WC.skip ?_
    refine WK.nBlock ?_
    refine WK.nThen ?_
    refine WC.region ?_
    refine WL.x (X.add rfl rfl (by omega) (by omega)) (by decide) ?_
    refine WL.x (X.move rfl) (by decide) ?_
    refine WL.nil ?_
    refine WK.nThen ?_
    have he26 : (comN s t k) = (comN s t (k + 1)) := (by rw [comN]; first | rw [if_pos (by omega)] | rw [if_neg (by omega)])
    rw [he26]
    refine WK.next ((k + 1, vo)) rfl (.cons _ (.cons_cons _ (.cons_cons _ (.cons_cons _ .slnil)))) (.cons rfl (.cons rfl (.cons rfl (.cons rfl (.cons rfl .nil))))) ?_ ?_
    ·omega
    ·(dsimp only; omega)
  ·refine WL.nil ?_
   refine WK.nThen ?_
   refine WC.seq ?_
   refine WC.condF rfl ?_
   refine WC.exit ?_
   refine WK.eThen ?_
   refine WK.eThen ?_
   refine WK.eHit ?_
   refine WK.nThen ?_
   refine WC.seq ?_
   refine WC.region ?_
   refine WL.x (X.move rfl) (by decide) ?_
   refine WL.x (X.assign rfl) (by decide) ?_
   refine WL.nil ?_
   refine WK.nThen ?_
   refine WC.ret ?_
   refine WK.freezeF 0 rfl rfl (by simp [lenB]; omega) (fun m27 hle28 hs29 => ?_)
   replace hs2 := hs2.mono hle28
   replace hs4 := hs4.mono hle28
   replace hs8 := hs8.mono hle28
   replace hs10 := hs10.mono hle28
   refine WK.ret1 rfl rfl (fun w' hw' => Ret.mem hw' ?_)
   obtain rfl : k = s.Values.length := (by omega)
   exact ⟨_, rfl, hs29⟩

theorem break23 (m : Mem) (cs : List Value) (s : Ser) (hs : Enc.rd m cs s) (ct : List Value) (t : Ser) (ht : Enc.rd m ct t) (least : Int)   : Pure Try.prog 23 #[.agg cs.toArray, .agg ct.toArray, .int .i64 (least)] m (fun m' v => ∃ r0, v = .tuple #[r0, .int .i64 ((brkR s t least).2)] ∧ Sl m' r0 ((brkR s t least).1)) := by
 obtain ⟨v1, v3, rfl, hs2, hs4⟩ := hs
 have hl5 := hs2.le
 have hl6 := hs4.le
 obtain ⟨v7, v9, rfl, hs8, hs10⟩ := ht
 have hl11 := hs8.le
 have hl12 := hs10.le
 refine Pure.start Try.func23 rfl Try.ntmps23 rfl fun wld => ?_
 refine WC.seq ?_
 refine WC.region ?_
 refine WL.tn (T.boxB rfl rfl) (by decide) fun b13 => ?_
 refine WL.tn (T.boxB rfl rfl) (by decide) fun b14 => ?_
 refine WL.x (X.assign rfl) (by decide) ?_
 refine WL.x (X.assign rfl) (by decide) ?_
 refine WL.nil ?_
 refine WK.nThen ?_
 refine WC.seq ?_
 refine WC.seq ?_
 refine WC.region ?_
 refine WL.x (X.loadBA (k := 1) Try.isAgg25 Try.sizeOf25 rfl rfl rfl) (by decide) ?_
 refine WL.x (X.loadBA (k := 0) Try.isAgg25 Try.sizeOf25 rfl rfl rfl) (by decide) ?_
 refine WL.tm (T.litM (α := Ser) (vals := [.agg [v1, v3].toArray, .agg [v7, v9].toArray]) (L := [s, t]) sl179 rfl (.cons rfl ⟨_, _, rfl, hs2, hs4⟩ (.cons rfl ⟨_, _, rfl, hs8, hs10⟩ .nil)) rfl rfl) (by decide) (fun m15 v16 hle17 hs18 => ?_)
 replace hs2 := hs2.mono hle17
 replace hs4 := hs4.mono hle17
 replace hs8 := hs8.mono hle17
 replace hs10 := hs10.mono hle17
 refine WL.x (X.call Try.call81 rfl (checked81_2 _ _ hs18)) (by decide) ?_
 refine WL.x (X.assign rfl) (by decide) ?_
 refine WL.nil ?_
 refine WK.nThen ?_
 refine WC.seq ?_
 refine WC.region ?_
 refine WL.x (X.move rfl) (by decide) ?_
 refine WL.condn (X.neq rfl rfl) (by decide) (fun h19 => ?_) (fun h19 => ?_)
 ·refine WL.nil ?_
  refine WK.nThen ?_
  refine WC.condT rfl ?_
  refine WC.seq ?_
  refine WC.region ?_
  refine WL.x (X.move rfl) (by decide) ?_
  refine WL.x (X.assign rfl) (by decide) ?_
  refine WL.x (X.assign rfl) (by decide) ?_
  refine WL.nil ?_
  refine WK.nThen ?_
  refine WC.ret ?_
  refine WK.rThen ?_
  refine WK.ret2 rfl rfl rfl (fun w' hw' => Ret.mem hw' ?_)
  first | exact ⟨_, tup2 rfl (int_eq (by unfold brkR; rw [if_pos (by omega)])), by unfold brkR; rw [if_pos (by omega)]; exact .nil⟩ | exact ⟨_, tup2 rfl (int_eq (by unfold brkR; rw [if_neg (by omega), if_pos (by omega)])), by unfold brkR; rw [if_neg (by omega), if_pos (by omega)]; exact .nil⟩
 ·refine WL.nil ?_
  refine WK.nThen ?_
  refine WC.condF rfl ?_
  refine WC.skip ?_
  refine WK.nThen ?_
  refine WC.seq ?_
  refine WC.seq ?_
  refine WC.region ?_
  refine WL.x (X.move rfl) (by decide) ?_
  refine WL.cond (X.call Try.call82 rfl (within82 _ _ _ _ )) (by decide) (fun h20 => ?_) (fun h20 => ?_)
  ·refine WL.x (X.not rfl) (by decide) ?_
   refine WL.nil ?_
   refine WK.nThen ?_
   refine WC.condF rfl ?_
   refine WC.skip ?_
   refine WK.nThen ?_
   refine WC.seq ?_
   have h2z := twoE_zero (s := s) (t := t) (by omega)
   have hos := Ok.of h2z.1
   have hot := Ok.of h2z.2
   have hnV := hos.nV
   have hcl := comL_len s t
   refine WK.ownF Int 3 ?_
   refine WC.region ?_
   refine WL.x (X.assign rfl) (by decide) ?_
   refine WL.nil ?_
   refine WK.nThen ?_
   refine WC.seq ?_
   refine WC.region ?_
   refine WL.x (X.loadBA (k := 2) Try.isAgg25 Try.sizeOf25 rfl rfl rfl) (by decide) ?_
   refine WL.x (X.loadBA (k := 1) Try.isAgg25 Try.sizeOf25 rfl rfl rfl) (by decide) ?_
   refine WL.tm (T.call Try.call83 rfl (common83 _ _ s ⟨_, _, rfl, hs2, hs4⟩ _ t ⟨_, _, rfl, hs8, hs10⟩ (by omega))) (by decide) fun m21 r22 hle23 hR24 => ?_
   obtain ⟨v25, hv_, hs26⟩ := hR24
   rw [← hv_] at hs26
   clear hv_ v25
   replace hs2 := hs2.mono hle23
   replace hs4 := hs4.mono hle23
   replace hs8 := hs8.mono hle23
   replace hs10 := hs10.mono hle23
   replace hs18 := hs18.mono hle23
   have hl27 := hs26.le
   refine WL.x (X.assign rfl) (by decide) ?_
   refine WL.nil ?_
   refine WK.nThen ?_
   refine WC.seq ?_
   refine WC.seq ?_
   refine WC.region ?_
   refine WL.x (X.assign rfl) (by decide) ?_
   refine WL.nil ?_
   refine WK.nThen ?_
   refine WC.block ?_
   refine WC.loop (G := Nat × Value) (fun (n, vo) => (comL s t).length + 1 - n) (fun (n, vo) => m21) (fun (n, vo) => [rowF (vo) 3 (brkN s t least n), blk b14 25 [v7, v9], blk b13 25 [v1, v3]]) (fun (n, vo) => [(2, .int .i64 (least)), (3, .pointer (some ⟨b13, 0, none⟩)), (4, .pointer (some ⟨b14, 0, none⟩)), (9, vo), (10, r22), (11, .int .i64 (↑n))]) (fun (n, vo) => 1 ≤ n ∧ (n ≤ (comL s t).length ∨ n = 1)) ((1, Value.slice none 0 0)) rfl (.refl _) (.cons rfl (.cons rfl (.cons rfl (.cons rfl (.cons rfl (.cons rfl .nil)))))) ?_ ?_
   ·exact ⟨Nat.le_refl _, .inr rfl⟩
   ·rintro ⟨n, vo⟩ hF28
    show WK _ _ m21 [rowF (vo) 3 (brkN s t least n), blk b14 25 [v7, v9], blk b13 25 [v1, v3]] [(2, .int .i64 (least)), (3, .pointer (some ⟨b13, 0, none⟩)), (4, .pointer (some ⟨b14, 0, none⟩)), (9, vo), (10, r22), (11, .int .i64 (↑n))] _
    replace hF28 : 1 ≤ n ∧ (n ≤ (comL s t).length ∨ n = 1) := hF28
    have hn := hF28
    refine WK.good (fun hgood0 => ?_)
    have hbl := brkN_len s t least n
    refine WC.seq ?_
    refine WC.seq ?_
    refine WC.region ?_
    refine WL.x (X.move rfl) (by decide) ?_
    refine WL.x (X.move rfl) (by decide) ?_
    refine WL.x (X.len Try.runUnderlying108 rfl hs26) (by decide) ?_
    refine WL.cond (X.lss rfl rfl) (by decide) (fun h29 => ?_) (fun h29 => ?_)
    ·refine WL.nil ?_
     refine WK.nThen ?_
     refine WC.condT rfl ?_
     refine WC.skip ?_
     refine WK.nThen ?_
     refine WC.seq ?_
     refine WC.block ?_
     have hc1 := com_bd (s := s) (t := t) (n := n) (by omega)
     have hc2 := com_bd (s := s) (t := t) (n := n - 1) (by omega)
     have hg1 := gap_bd hos (gt (comL s t) n).a.toNat (gt (comL s t) (n - 1)).a.toNat
     have hg2 := gap_bd hot (gt (comL s t) n).b.toNat (gt (comL s t) (n - 1)).b.toNat
     refine WC.cut (G := Mem × Nat × Nat) (fun (m30, b42, b43) => m30) (fun (m30, b42, b43) => [blk b43 33 [.int .i64 ((gap t (((gt (comL s t) n).b : Int).toNat) (((gt (comL s t) (n - 1)).b : Int).toNat)).Lo), .int .i64 ((gap t (((gt (comL s t) n).b : Int).toNat) (((gt (comL s t) (n - 1)).b : Int).toNat)).Hi)], blk b42 33 [.int .i64 ((gap s (((gt (comL s t) n).a : Int).toNat) (((gt (comL s t) (n - 1)).a : Int).toNat)).Lo), .int .i64 ((gap s (((gt (comL s t) n).a : Int).toNat) (((gt (comL s t) (n - 1)).a : Int).toNat)).Hi)], rowF (vo) 3 (brkN s t least n), blk b14 25 [v7, v9], blk b13 25 [v1, v3]]) (fun (m30, b42, b43) => [(2, .int .i64 (least)), (3, .pointer (some ⟨b13, 0, none⟩)), (4, .pointer (some ⟨b14, 0, none⟩)), (9, vo), (10, r22), (11, .int .i64 (↑n)), (12, .pointer (some ⟨b42, 0, none⟩)), (13, .pointer (some ⟨b43, 0, none⟩))]) (fun (m30, b42, b43) => m21.le m30 ∧ Sl (α := Val) m30 v7 t.Values ∧ Sl (α := Shf) m30 v9 t.Shifts ∧ Sl (α := Val) m30 v1 s.Values ∧ Sl (α := Shf) m30 v3 s.Shifts) ?_ ?_
     ·refine WC.draw (π := (.cons 0 (.cons 1 (.cons 2 (.cons 3 (.cons 4 (.cons 5 (.cons 6 (.cons 7 (.cons 8 (.cons 9 (.cons 10 (.cons 11 (.cons 12 (.cons 13 (.cons 14 (.cons 15 (.cons 16 (.cons 17 (.cons 18 (.cons 19 (.cons 20 (.cons 21 (.cons 22 (.cons 23 (.cons 24 (.cons 25 (.cons 26 (.cons 27 (.fork (.cons 28 (.cons 29 (.cons 30 (.cons 31 .done)))) (.cons 29 (.cons 28 (.cons 30 (.cons 31 .done)))))))))))))))))))))))))))))))))) [28, 29, 30, 31] [30, 31] rfl (by kernel_rfl) ?_
      refine DW.x rfl rfl (X.loadBA (k := 2) Try.isAgg25 Try.sizeOf25 rfl rfl rfl) (by decide) ?_
      refine DW.x (V := Value.agg [v1, v3].toArray) rfl rfl (X.build Try.zeroValue111 Try.runUnderlying111 (places111 _ Try.underlying111) rfl rfl) (by decide) ?_
      refine DW.x rfl rfl (X.move rfl) (by decide) ?_
      refine DW.x rfl rfl (X.move rfl) (by decide) ?_
      refine DW.xe rfl rfl (E.idxN n Try.runUnderlying108 Try.sizeOf113 rfl rfl hs26 (by omega)) (by decide) (fun p31 hp32 => ?_)
      have hp33 := At.A2_0 hp32
      refine DW.x rfl rfl (X.idxAr 0 Try.underlying113 Try.sizeOf3 rfl rfl rfl (by decide)) (by decide) ?_
      refine DW.x rfl rfl (X.loadInt Try.isAgg3 rfl hp33) (by decide) ?_
      refine DW.x rfl rfl (X.move rfl) (by decide) ?_
      refine DW.x rfl rfl (X.move rfl) (by decide) ?_
      refine DW.x rfl rfl (X.sub rfl rfl (by omega) (by omega)) (by decide) ?_
      refine DW.xe rfl rfl (E.idxE (n - 1) Try.runUnderlying108 Try.sizeOf113 rfl rfl hs26 (by omega) (by omega)) (by decide) (fun p34 hp35 => ?_)
      have hp36 := At.A2_0 hp35
      refine DW.x rfl rfl (X.idxAr 0 Try.underlying113 Try.sizeOf3 rfl rfl rfl (by decide)) (by decide) ?_
      refine DW.x rfl rfl (X.loadInt Try.isAgg3 rfl hp36) (by decide) ?_
      refine DW.x rfl rfl (X.call Try.call84 rfl (gap84 _ ⟨_, _, rfl, hs2, hs4⟩ hos (((gt (comL s t) n).a : Int).toNat) (((gt (comL s t) (n - 1)).a : Int).toNat) _ _ (by omega) (by omega) (by omega) (by omega))) (by decide) ?_
      refine DW.x rfl rfl (X.loadBA (k := 1) Try.isAgg25 Try.sizeOf25 rfl rfl rfl) (by decide) ?_
      refine DW.x (V := Value.agg [v7, v9].toArray) rfl rfl (X.build Try.zeroValue111 Try.runUnderlying111 (places111 _ Try.underlying111) rfl rfl) (by decide) ?_
      refine DW.x rfl rfl (X.move rfl) (by decide) ?_
      refine DW.x rfl rfl (X.move rfl) (by decide) ?_
      refine DW.xe rfl rfl (E.idxN n Try.runUnderlying108 Try.sizeOf113 rfl rfl hs26 (by omega)) (by decide) (fun p37 hp38 => ?_)
      have hp39 := At.A2_1 hp38
      refine DW.x rfl rfl (X.idxAr 1 Try.underlying113 Try.sizeOf3 rfl rfl rfl (by decide)) (by decide) ?_
      refine DW.x rfl rfl (X.loadInt Try.isAgg3 rfl hp39) (by decide) ?_
      refine DW.x rfl rfl (X.move rfl) (by decide) ?_
      refine DW.x rfl rfl (X.move rfl) (by decide) ?_
      refine DW.x rfl rfl (X.sub rfl rfl (by omega) (by omega)) (by decide) ?_
      refine DW.xe rfl rfl (E.idxE (n - 1) Try.runUnderlying108 Try.sizeOf113 rfl rfl hs26 (by omega) (by omega)) (by decide) (fun p40 hp41 => ?_)
      have hp42 := At.A2_1 hp41
      refine DW.x rfl rfl (X.idxAr 1 Try.underlying113 Try.sizeOf3 rfl rfl rfl (by decide)) (by decide) ?_
      refine DW.x rfl rfl (X.loadInt Try.isAgg3 rfl hp42) (by decide) ?_
      refine DW.x rfl rfl (X.call Try.call84 rfl (gap84 _ ⟨_, _, rfl, hs8, hs10⟩ hot (((gt (comL s t) n).b : Int).toNat) (((gt (comL s t) (n - 1)).b : Int).toNat) _ _ (by omega) (by omega) (by omega) (by omega))) (by decide) ?_
      refine DW.fork (List.cons_ne_nil _ _) ?_ ?_
      ·refine DW.tn rfl rfl rfl (T.alloc Try.zeroValue33 rfl) (by decide) fun b43 => ?_
       refine DW.tn rfl rfl rfl (T.alloc Try.zeroValue33 rfl) (by decide) fun b44 => ?_
       refine DW.ts rfl rfl rfl rfl (T.storeBA (k := 1) Try.sizeOf33 rfl rfl rfl (one_cons rfl (one_cons rfl one_nil)) rfl rfl) ?_
       refine DW.ts rfl rfl rfl rfl (T.storeBA (k := 0) Try.sizeOf33 rfl rfl rfl (one_cons rfl (one_cons rfl one_nil)) rfl rfl) ?_
       refine DW.nil ?_
       refine WK.nThen ?_
       exact WK.meet (m21, b43, b44) rfl (.refl _) (.cons rfl (.cons rfl (.cons rfl (.cons rfl (.cons rfl (.cons rfl (.cons rfl (.cons rfl .nil)))))))) ⟨(Mem.le_refl _), hs8, hs10, hs2, hs4⟩
      ·refine DW.tn rfl rfl rfl (T.alloc Try.zeroValue33 rfl) (by decide) fun b45 => ?_
       refine DW.tn rfl rfl rfl (T.alloc Try.zeroValue33 rfl) (by decide) fun b46 => ?_
       refine DW.ts rfl rfl rfl rfl (T.storeBA (k := 0) Try.sizeOf33 rfl rfl rfl (one_cons rfl (one_cons rfl one_nil)) rfl rfl) ?_
       refine DW.ts rfl rfl rfl rfl (T.storeBA (k := 1) Try.sizeOf33 rfl rfl rfl (one_cons rfl (one_cons rfl one_nil)) rfl rfl) ?_
       refine DW.nil ?_
       refine WK.nThen ?_
       refine WK.perm [blk b45 33 [.int .i64 ((gap t (((gt (comL s t) n).b : Int).toNat) (((gt (comL s t) (n - 1)).b : Int).toNat)).Lo), .int .i64 ((gap t (((gt (comL s t) n).b : Int).toNat) (((gt (comL s t) (n - 1)).b : Int).toNat)).Hi)], blk b46 33 [.int .i64 ((gap s (((gt (comL s t) n).a : Int).toNat) (((gt (comL s t) (n - 1)).a : Int).toNat)).Lo), .int .i64 ((gap s (((gt (comL s t) n).a : Int).toNat) (((gt (comL s t) (n - 1)).a : Int).toNat)).Hi)], rowF (vo) 3 (brkN s t least n), blk b14 25 [v7, v9], blk b13 25 [v1, v3]] ((List.Perm.cons _ (.refl _)).trans (List.perm_middle (l₁ := [blk b46 33 [.int .i64 ((gap s (((gt (comL s t) n).a : Int).toNat) (((gt (comL s t) (n - 1)).a : Int).toNat)).Lo), .int .i64 ((gap s (((gt (comL s t) n).a : Int).toNat) (((gt (comL s t) (n - 1)).a : Int).toNat)).Hi)]]) (l₂ := [rowF (vo) 3 (brkN s t least n), blk b14 25 [v7, v9], blk b13 25 [v1, v3]]) (a := blk b45 33 [.int .i64 ((gap t (((gt (comL s t) n).b : Int).toNat) (((gt (comL s t) (n - 1)).b : Int).toNat)).Lo), .int .i64 ((gap t (((gt (comL s t) n).b : Int).toNat) (((gt (comL s t) (n - 1)).b : Int).toNat)).Hi)])).symm) ?_
       exact WK.meet (m21, b46, b45) rfl (.refl _) (.cons rfl (.cons rfl (.cons rfl (.cons rfl (.cons rfl (.cons rfl (.cons rfl (.cons rfl .nil)))))))) ⟨(Mem.le_refl _), hs8, hs10, hs2, hs4⟩
     ·rintro ⟨m30, b42, b43⟩ ⟨hle47, hs48, hs49, hs50, hs51⟩
      show WK _ _ m30 [blk b43 33 [.int .i64 ((gap t (((gt (comL s t) n).b : Int).toNat) (((gt (comL s t) (n - 1)).b : Int).toNat)).Lo), .int .i64 ((gap t (((gt (comL s t) n).b : Int).toNat) (((gt (comL s t) (n - 1)).b : Int).toNat)).Hi)], blk b42 33 [.int .i64 ((gap s (((gt (comL s t) n).a : Int).toNat) (((gt (comL s t) (n - 1)).a : Int).toNat)).Lo), .int .i64 ((gap s (((gt (comL s t) n).a : Int).toNat) (((gt (comL s t) (n - 1)).a : Int).toNat)).Hi)], rowF (vo) 3 (brkN s t least n), blk b14 25 [v7, v9], blk b13 25 [v1, v3]] [(2, .int .i64 (least)), (3, .pointer (some ⟨b13, 0, none⟩)), (4, .pointer (some ⟨b14, 0, none⟩)), (9, vo), (10, r22), (11, .int .i64 (↑n)), (12, .pointer (some ⟨b42, 0, none⟩)), (13, .pointer (some ⟨b43, 0, none⟩))] _
      replace hs2 := hs2.mono hle47
      replace hs4 := hs4.mono hle47
      replace hs8 := hs8.mono hle47
      replace hs10 := hs10.mono hle47
      replace hs18 := hs18.mono hle47
      replace hs26 := hs26.mono hle47
      have hl52 := hs48.le
      have hl53 := hs49.le
      have hl54 := hs50.le
      have hl55 := hs51.le
      refine WC.seq ?_
      refine WC.region ?_
      refine WL.x (X.field Try.runUnderlying33 rfl Try.sizeOf3 rfl) (by decide) ?_
      refine WL.x (X.loadB (k := 1) Try.isAgg3 rfl rfl rfl) (by decide) ?_
      refine WL.x (X.field Try.runUnderlying33 rfl Try.sizeOf3 rfl) (by decide) ?_
      refine WL.x (X.loadB (k := 0) Try.isAgg3 rfl rfl rfl) (by decide) ?_
      refine WL.x (X.sub rfl rfl (by omega) (by omega)) (by decide) ?_
      refine WL.x (X.move rfl) (by decide) ?_
      refine WL.cond (X.geq rfl rfl) (by decide) (fun h56 => ?_) (fun h56 => ?_)
      ·refine WL.x (X.move rfl) (by decide) ?_
       refine WL.no rfl rfl rfl (by decide) ?_
       refine WL.no rfl rfl rfl (by decide) ?_
       refine WL.no rfl rfl rfl (by decide) ?_
       refine WL.no rfl rfl rfl (by decide) ?_
       refine WL.no rfl rfl rfl (by decide) ?_
       refine WL.no rfl rfl rfl (by decide) ?_
       refine WL.no rfl rfl rfl (by decide) ?_
       refine WL.x (X.pickT rfl rfl rfl) (by decide) ?_
       refine WL.nil ?_
       refine WK.nThen ?_
       refine WC.condT rfl ?_
       refine WC.draw (π := (.cons 0 (.cons 1 (.cons 2 (.cons 3 (.cons 4 (.cons 5 (.cons 6 (.cons 7 (.cons 8 (.cons 9 (.cons 10 (.cons 11 (.cons 12 (.cons 13 .done))))))))))))))) [11, 12] [12] rfl (by kernel_rfl) ?_
       refine DW.x rfl rfl (X.move rfl) (by decide) ?_
       refine DW.x rfl rfl (X.field Try.runUnderlying25 rfl Try.sizeOf22 rfl) (by decide) ?_
       refine DW.x rfl rfl (X.loadB (k := 4) Try.isAgg22 rfl rfl rfl) (by decide) ?_
       refine DW.x rfl rfl (X.move rfl) (by decide) ?_
       refine DW.x rfl rfl (X.move rfl) (by decide) ?_
       refine DW.xe rfl rfl (E.idxN n Try.runUnderlying108 Try.sizeOf113 rfl rfl hs26 (by omega)) (by decide) (fun p57 hp58 => ?_)
       have hp59 := At.A2_0 hp58
       refine DW.x rfl rfl (X.idxAr 0 Try.underlying113 Try.sizeOf3 rfl rfl rfl (by decide)) (by decide) ?_
       refine DW.x rfl rfl (X.loadInt Try.isAgg3 rfl hp59) (by decide) ?_
       refine DW.xe rfl rfl (E.idx Try.runUnderlying22 Try.sizeOf62 rfl rfl hs50 (by omega) (by omega)) (by decide) (fun p60 hp61 => ?_)
       have hp62 := At.Val_0 hp61
       refine DW.x rfl rfl (X.field Try.runUnderlying62 rfl Try.sizeOf3 rfl) (by decide) ?_
       refine DW.x rfl rfl (X.loadInt Try.isAgg3 rfl hp62) (by decide) ?_
       refine DW.tl rfl rfl rfl (T.lit1 sl28 rfl rfl rfl (by decide)) (by decide) fun b63 => ?_
       refine DW.ta rfl rfl rfl rfl (T.appendF (k := 2) (a := (gt s.Values (((gt (comL s t) n).a : Int).toNat)).Time) sl28 rfl rfl rfl rfl (by first | omega | (simp; done) | (simp; omega)) (by decide)) (by decide) (fun v64 => ?_)
       refine DW.x rfl rfl (X.assign rfl) (by decide) ?_
       refine DW.nil ?_
       refine WK.nBlock ?_
       refine WK.nThen ?_
       refine WC.region ?_
       refine WL.x (X.move rfl) (by decide) ?_
       refine WL.x (X.add rfl rfl (by omega) (by omega)) (by decide) ?_
       refine WL.x (X.assign rfl) (by decide) ?_
       refine WL.nil ?_
       refine WK.nThen ?_
       refine WK.back hgood0 hle47 ?_
       have he65 : ((brkN s t least n) ++ [(gt s.Values (((gt (comL s t) n).a : Int).toNat)).Time]) = (brkN s t least (n + 1)) := (by rw [brkN]; first | rw [if_pos ⟨by omega, by unfold brkP; omega⟩] | rw [if_neg (fun h => by have h2 := h.2; unfold brkP at h2; omega)])
       rw [he65]
       refine WK.next ((n + 1, v64)) rfl (.cons _ (.cons _ (.cons_cons _ (.cons_cons _ (.cons_cons _ .slnil))))) (.cons rfl (.cons rfl (.cons rfl (.cons rfl (.cons rfl (.cons rfl .nil)))))) ?_ ?_
       ·omega
       ·(dsimp only; omega)
      ·refine WL.x (X.move rfl) (by decide) ?_
       refine WL.yes rfl rfl ?_
       refine WL.x (X.field Try.runUnderlying33 rfl Try.sizeOf3 rfl) (by decide) ?_
       refine WL.yes rfl rfl ?_
       refine WL.x (X.loadB (k := 0) Try.isAgg3 rfl rfl rfl) (by decide) ?_
       refine WL.yes rfl rfl ?_
       refine WL.x (X.field Try.runUnderlying33 rfl Try.sizeOf3 rfl) (by decide) ?_
       refine WL.yes rfl rfl ?_
       refine WL.x (X.loadB (k := 1) Try.isAgg3 rfl rfl rfl) (by decide) ?_
       refine WL.yes rfl rfl ?_
       refine WL.x (X.sub rfl rfl (by omega) (by omega)) (by decide) ?_
       refine WL.yes rfl rfl ?_
       refine WL.x (X.move rfl) (by decide) ?_
       refine WL.yes rfl rfl ?_
       refine WL.cond (X.geq rfl rfl) (by decide) (fun h66 => ?_) (fun h66 => ?_)
       ·refine WL.x (X.pickF rfl rfl rfl) (by decide) ?_
        refine WL.nil ?_
        refine WK.nThen ?_
        refine WC.condT rfl ?_
        refine WC.draw (π := (.cons 0 (.cons 1 (.cons 2 (.cons 3 (.cons 4 (.cons 5 (.cons 6 (.cons 7 (.cons 8 (.cons 9 (.cons 10 (.cons 11 (.cons 12 (.cons 13 .done))))))))))))))) [11, 12] [12] rfl (by kernel_rfl) ?_
        refine DW.x rfl rfl (X.move rfl) (by decide) ?_
        refine DW.x rfl rfl (X.field Try.runUnderlying25 rfl Try.sizeOf22 rfl) (by decide) ?_
        refine DW.x rfl rfl (X.loadB (k := 4) Try.isAgg22 rfl rfl rfl) (by decide) ?_
        refine DW.x rfl rfl (X.move rfl) (by decide) ?_
        refine DW.x rfl rfl (X.move rfl) (by decide) ?_
        refine DW.xe rfl rfl (E.idxN n Try.runUnderlying108 Try.sizeOf113 rfl rfl hs26 (by omega)) (by decide) (fun p67 hp68 => ?_)
        have hp69 := At.A2_0 hp68
        refine DW.x rfl rfl (X.idxAr 0 Try.underlying113 Try.sizeOf3 rfl rfl rfl (by decide)) (by decide) ?_
        refine DW.x rfl rfl (X.loadInt Try.isAgg3 rfl hp69) (by decide) ?_
        refine DW.xe rfl rfl (E.idx Try.runUnderlying22 Try.sizeOf62 rfl rfl hs50 (by omega) (by omega)) (by decide) (fun p70 hp71 => ?_)
        have hp72 := At.Val_0 hp71
        refine DW.x rfl rfl (X.field Try.runUnderlying62 rfl Try.sizeOf3 rfl) (by decide) ?_
        refine DW.x rfl rfl (X.loadInt Try.isAgg3 rfl hp72) (by decide) ?_
        refine DW.tl rfl rfl rfl (T.lit1 sl28 rfl rfl rfl (by decide)) (by decide) fun b73 => ?_
        refine DW.ta rfl rfl rfl rfl (T.appendF (k := 2) (a := (gt s.Values (((gt (comL s t) n).a : Int).toNat)).Time) sl28 rfl rfl rfl rfl (by first | omega | (simp; done) | (simp; omega)) (by decide)) (by decide) (fun v74 => ?_)
        refine DW.x rfl rfl (X.assign rfl) (by decide) ?_
        refine DW.nil ?_
        refine WK.nBlock ?_
        refine WK.nThen ?_
        refine WC.region ?_
        refine WL.x (X.move rfl) (by decide) ?_
        refine WL.x (X.add rfl rfl (by omega) (by omega)) (by decide) ?_
        refine WL.x (X.assign rfl) (by decide) ?_
        refine WL.nil ?_
        refine WK.nThen ?_
        refine WK.back hgood0 hle47 ?_
        have he75 : ((brkN s t least n) ++ [(gt s.Values (((gt (comL s t) n).a : Int).toNat)).Time]) = (brkN s t least (n + 1)) := (by rw [brkN]; first | rw [if_pos ⟨by omega, by unfold brkP; omega⟩] | rw [if_neg (fun h => by have h2 := h.2; unfold brkP at h2; omega)])
        rw [he75]
        refine WK.next ((n + 1, v74)) rfl (.cons _ (.cons _ (.cons_cons _ (.cons_cons _ (.cons_cons _ .slnil))))) (.cons rfl (.cons rfl (.cons rfl (.cons rfl (.cons rfl (.cons rfl .nil)))))) ?_ ?_
        ·omega
        ·(dsimp only; omega)
       ·refine WL.x (X.pickF rfl rfl rfl) (by decide) ?_
        refine WL.nil ?_
        refine WK.nThen ?_
        refine WC.condF rfl ?_
        refine WC.skip ?_
        refine WK.nBlock ?_
        refine WK.nThen ?_
        refine WC.region ?_
        refine WL.x (X.move rfl) (by decide) ?_
        refine WL.x (X.add rfl rfl (by omega) (by omega)) (by decide) ?_
        refine WL.x (X.assign rfl) (by decide) ?_
        refine WL.nil ?_
        refine WK.nThen ?_
        refine WK.back hgood0 hle47 ?_
        have he76 : (brkN s t least n) = (brkN s t least (n + 1)) := (by rw [brkN]; first | rw [if_pos ⟨by omega, by unfold brkP; omega⟩] | rw [if_neg (fun h => by have h2 := h.2; unfold brkP at h2; omega)])
        rw [he76]
        refine WK.next ((n + 1, vo)) rfl (.cons _ (.cons _ (.cons_cons _ (.cons_cons _ (.cons_cons _ .slnil))))) (.cons rfl (.cons rfl (.cons rfl (.cons rfl (.cons rfl (.cons rfl .nil)))))) ?_ ?_
        ·omega
        ·(dsimp only; omega)
    ·refine WL.nil ?_
     refine WK.nThen ?_
     refine WC.condF rfl ?_
     refine WC.exit ?_
     refine WK.eThen ?_
     refine WK.eThen ?_
     refine WK.eHit ?_
     refine WK.nThen ?_
     refine WC.seq ?_
     refine WC.region ?_
     refine WL.x (X.move rfl) (by decide) ?_
     refine WL.x (X.assign rfl) (by decide) ?_
     refine WL.x (X.assign rfl) (by decide) ?_
     refine WL.nil ?_
     refine WK.nThen ?_
     refine WC.ret ?_
     refine WK.freezeF 0 rfl rfl (by simp [lenB]; omega) (fun m77 hle78 hs79 => ?_)
     replace hs2 := hs2.mono hle78
     replace hs4 := hs4.mono hle78
     replace hs8 := hs8.mono hle78
     replace hs10 := hs10.mono hle78
     replace hs18 := hs18.mono hle78
     replace hs26 := hs26.mono hle78
     refine WK.ret2 rfl rfl rfl (fun w' hw' => Ret.mem hw' ?_)
     first | exact ⟨_, tup2 rfl (int_eq (by unfold brkR; rw [if_neg (by omega), if_neg (by omega)])), by unfold brkR; rw [if_neg (by omega), if_neg (by omega)]; exact (brk_end hn (by omega) ▸ hs79)⟩
  ·refine WL.x (X.not rfl) (by decide) ?_
   refine WL.nil ?_
   refine WK.nThen ?_
   refine WC.condT rfl ?_
   refine WC.seq ?_
   refine WC.region ?_
   refine WL.x (X.assign rfl) (by decide) ?_
   refine WL.x (X.assign rfl) (by decide) ?_
   refine WL.nil ?_
   refine WK.nThen ?_
   refine WC.ret ?_
   refine WK.rThen ?_
   refine WK.ret2 rfl rfl rfl (fun w' hw' => Ret.mem hw' ?_)
   first | exact ⟨_, tup2 rfl (int_eq (by unfold brkR; rw [if_pos (by omega)])), by unfold brkR; rw [if_pos (by omega)]; exact .nil⟩ | exact ⟨_, tup2 rfl (int_eq (by unfold brkR; rw [if_neg (by omega), if_pos (by omega)])), by unfold brkR; rw [if_neg (by omega), if_pos (by omega)]; exact .nil⟩

end Go.Proofs.C8
