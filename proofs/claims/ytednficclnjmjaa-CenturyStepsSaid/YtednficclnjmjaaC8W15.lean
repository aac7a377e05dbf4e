import Derived.Test.YtednficclnjmjaaC8Ref6
import Derived.Test.YtednficclnjmjaaC8W14
/- Century: walks, fifteenth part, by program. -/
namespace Go.Proofs.C8
open Go Go.Kx
set_option linter.unusedSimpArgs false

theorem plain142 (m : Mem) (cs : List Value) (s : Ser) (hs : Enc.rd m cs s) (ct : List Value) (t : Ser) (ht : Enc.rd m ct t) (cx : List Value) (x : Pr) (hx : Enc.rd m cx x)  (hos : Ok s) (hot : Ok t) (hp : prOk s t x) : Exact Try.prog 142 #[.agg cs.toArray, .agg ct.toArray, .agg cx.toArray] m (.agg [.int .i64 ((plnS s t x).Lo), .int .i64 ((plnS s t x).Hi)].toArray) := by
 obtain ⟨v1, v3, rfl, hs2, hs4⟩ := hs
 have hl5 := hs2.le
 have hl6 := hs4.le
 obtain ⟨v7, v9, rfl, hs8, hs10⟩ := ht
 have hl11 := hs8.le
 have hl12 := hs10.le
 obtain rfl := hx
 have hpp := hp
 unfold prOk at hpp
 have h1_ := hos.vl (i := x.s.toNat) (by omega)
 have h2_ := hot.vl (i := x.t.toNat) (by omega)
 refine Exact.start Try.func142 rfl Try.ntmps142 rfl fun wld => ?_
 refine WC.seq ?_
 refine WC.region ?_
 refine WL.tn (T.boxB rfl rfl) (by decide) fun b13 => ?_
 refine WL.tn (T.boxB rfl rfl) (by decide) fun b14 => ?_
 refine WL.tn (T.boxB rfl rfl) (by decide) fun b15 => ?_
 refine WL.tn (T.alloc Try.zeroValue33 rfl) (by decide) fun b16 => ?_
 refine WL.nil ?_
 refine WK.nThen ?_
 refine WC.seq ?_
 refine WC.region ?_
 refine WL.x (X.field Try.runUnderlying25 rfl Try.sizeOf22 rfl) (by decide) ?_
 refine WL.x (X.loadB (k := 3) Try.isAgg22 rfl rfl rfl) (by decide) ?_
 refine WL.x (X.field Try.runUnderlying119 rfl Try.sizeOf3 rfl) (by decide) ?_
 refine WL.x (X.loadB (k := 1) Try.isAgg3 rfl rfl rfl) (by decide) ?_
 refine WL.xe (E.idx Try.runUnderlying22 Try.sizeOf62 rfl rfl hs2 (by omega) (by omega)) (by decide) (fun p17 hp18 => ?_)
 have hp19 := At.Val_1 hp18
 refine WL.x (X.field Try.runUnderlying62 rfl Try.sizeOf33 rfl) (by decide) ?_
 refine WL.xe (E.loadAgg Try.isAgg33 Try.sizeOf33 rfl hp19) (by decide) (fun c20 hc21 => ?_)
 obtain rfl := hc21
 refine WL.tn (T.alloc Try.zeroValue33 rfl) (by decide) fun b22 => ?_
 refine WL.ts (T.storeBA (k := 0) Try.sizeOf33 rfl rfl rfl (one_cons rfl (one_cons rfl one_nil)) rfl rfl) ?_
 refine WL.nil ?_
 refine WK.nThen ?_
 refine WC.seq ?_
 refine WC.region ?_
 refine WL.x (X.field Try.runUnderlying25 rfl Try.sizeOf22 rfl) (by decide) ?_
 refine WL.x (X.loadB (k := 3) Try.isAgg22 rfl rfl rfl) (by decide) ?_
 refine WL.x (X.field Try.runUnderlying119 rfl Try.sizeOf3 rfl) (by decide) ?_
 refine WL.x (X.loadB (k := 2) Try.isAgg3 rfl rfl rfl) (by decide) ?_
 refine WL.xe (E.idx Try.runUnderlying22 Try.sizeOf62 rfl rfl hs8 (by omega) (by omega)) (by decide) (fun p23 hp24 => ?_)
 have hp25 := At.Val_1 hp24
 refine WL.x (X.field Try.runUnderlying62 rfl Try.sizeOf33 rfl) (by decide) ?_
 refine WL.xe (E.loadAgg Try.isAgg33 Try.sizeOf33 rfl hp25) (by decide) (fun c26 hc27 => ?_)
 obtain rfl := hc27
 refine WL.tn (T.alloc Try.zeroValue33 rfl) (by decide) fun b28 => ?_
 refine WL.ts (T.storeBA (k := 0) Try.sizeOf33 rfl rfl rfl (one_cons rfl (one_cons rfl one_nil)) rfl rfl) ?_
 refine WL.nil ?_
 refine WK.nThen ?_
 refine WC.seq ?_
 refine WC.region ?_
 refine WL.x (X.field Try.runUnderlying33 rfl Try.sizeOf3 rfl) (by decide) ?_
 refine WL.x (X.loadB (k := 1) Try.isAgg3 rfl rfl rfl) (by decide) ?_
 refine WL.x (X.field Try.runUnderlying33 rfl Try.sizeOf3 rfl) (by decide) ?_
 refine WL.x (X.loadB (k := 0) Try.isAgg3 rfl rfl rfl) (by decide) ?_
 refine WL.x (X.sub rfl rfl (by omega) (by omega)) (by decide) ?_
 refine WL.x (X.field Try.runUnderlying33 rfl Try.sizeOf3 rfl) (by decide) ?_
 refine WL.x (X.loadB (k := 1) Try.isAgg3 rfl rfl rfl) (by decide) ?_
 refine WL.x (X.field Try.runUnderlying33 rfl Try.sizeOf3 rfl) (by decide) ?_
 refine WL.x (X.loadB (k := 0) Try.isAgg3 rfl rfl rfl) (by decide) ?_
 refine WL.x (X.sub rfl rfl (by omega) (by omega)) (by decide) ?_
 refine WL.x (V := Value.agg [.int .i64 ((((gt s.Values ((x.s : Int).toNat)).Levels).Lo) - (((gt t.Values ((x.t : Int).toNat)).Levels).Hi)), .int .i64 ((((gt s.Values ((x.s : Int).toNat)).Levels).Hi) - (((gt t.Values ((x.t : Int).toNat)).Levels).Lo))].toArray) (X.build Try.zeroValue33 Try.runUnderlying33 (places33 _ Try.underlying33) rfl rfl) (by decide) ?_
 refine WL.ts (T.storeBA (k := 2) Try.sizeOf33 rfl rfl rfl (one_cons rfl (one_cons rfl one_nil)) rfl rfl) ?_
 refine WL.nil ?_
 refine WK.nThen ?_
 refine WC.ret ?_
 refine WK.retC1 2 rfl rfl rfl Try.isAgg33 Try.sizeOf33 (fun w' hw' => Ret.exact hw' ?_)
 first | rfl | exact agg2i rfl rfl

theorem shifted94 (m : Mem) (cs : List Value) (s : Ser) (hs : Enc.rd m cs s) (ct : List Value) (t : Ser) (ht : Enc.rd m ct t) (a : Int) (b : Int)  (hos : Ok s) (hot : Ok t) : Exact Try.prog 94 #[.agg cs.toArray, .agg ct.toArray, .int .i64 (a), .int .i64 (b)] m (.agg [.int .i64 ((shfS s t a b).Lo), .int .i64 ((shfS s t a b).Hi)].toArray) := by
 obtain ⟨v1, v3, rfl, hs2, hs4⟩ := hs
 have hl5 := hs2.le
 have hl6 := hs4.le
 obtain ⟨v7, v9, rfl, hs8, hs10⟩ := ht
 have hl11 := hs8.le
 have hl12 := hs10.le
 have hb1_ := bt_bd hos a b (Nat.le_refl _)
 have hb2_ := bt_bd hot a b (Nat.le_refl _)
 have hb3_ : (bt s.Shifts a b).Lo = btLo s.Shifts a b s.Shifts.length := rfl
 have hb4_ : (bt s.Shifts a b).Hi = btHi s.Shifts a b s.Shifts.length := rfl
 have hb5_ : (bt t.Shifts a b).Lo = btLo t.Shifts a b t.Shifts.length := rfl
 have hb6_ : (bt t.Shifts a b).Hi = btHi t.Shifts a b t.Shifts.length := rfl
 refine Exact.start Try.func94 rfl Try.ntmps94 rfl fun wld => ?_
 refine WC.seq ?_
 refine WC.region ?_
 refine WL.tn (T.boxB rfl rfl) (by decide) fun b13 => ?_
 refine WL.tn (T.boxB rfl rfl) (by decide) fun b14 => ?_
 refine WL.tn (T.alloc Try.zeroValue33 rfl) (by decide) fun b15 => ?_
 refine WL.nil ?_
 refine WK.nThen ?_
 refine WC.seq ?_
 refine WC.region ?_
 refine WL.x (X.loadBA (k := 2) Try.isAgg25 Try.sizeOf25 rfl rfl rfl) (by decide) ?_
 refine WL.x (X.move rfl) (by decide) ?_
 refine WL.x (X.move rfl) (by decide) ?_
 refine WL.x (X.call Try.call143 rfl (moved143 _ _ s ⟨_, _, rfl, hs2, hs4⟩ _ _ (by assumption))) (by decide) ?_
 refine WL.tn (T.alloc Try.zeroValue33 rfl) (by decide) fun b16 => ?_
 refine WL.ts (T.storeBA (k := 0) Try.sizeOf33 rfl rfl rfl (one_cons rfl (one_cons rfl one_nil)) rfl rfl) ?_
 refine WL.nil ?_
 refine WK.nThen ?_
 refine WC.seq ?_
 refine WC.region ?_
 refine WL.x (X.loadBA (k := 2) Try.isAgg25 Try.sizeOf25 rfl rfl rfl) (by decide) ?_
 refine WL.x (X.move rfl) (by decide) ?_
 refine WL.x (X.move rfl) (by decide) ?_
 refine WL.x (X.call Try.call143 rfl (moved143 _ _ t ⟨_, _, rfl, hs8, hs10⟩ _ _ (by assumption))) (by decide) ?_
 refine WL.tn (T.alloc Try.zeroValue33 rfl) (by decide) fun b17 => ?_
 refine WL.ts (T.storeBA (k := 0) Try.sizeOf33 rfl rfl rfl (one_cons rfl (one_cons rfl one_nil)) rfl rfl) ?_
 refine WL.nil ?_
 refine WK.nThen ?_
 refine WC.seq ?_
 refine WC.region ?_
 refine WL.x (X.field Try.runUnderlying33 rfl Try.sizeOf3 rfl) (by decide) ?_
 refine WL.x (X.loadB (k := 1) Try.isAgg3 rfl rfl rfl) (by decide) ?_
 refine WL.x (X.field Try.runUnderlying33 rfl Try.sizeOf3 rfl) (by decide) ?_
 refine WL.x (X.loadB (k := 0) Try.isAgg3 rfl rfl rfl) (by decide) ?_
 refine WL.x (X.sub rfl rfl (by omega) (by omega)) (by decide) ?_
 refine WL.x (X.field Try.runUnderlying33 rfl Try.sizeOf3 rfl) (by decide) ?_
 refine WL.x (X.loadB (k := 1) Try.isAgg3 rfl rfl rfl) (by decide) ?_
 refine WL.x (X.field Try.runUnderlying33 rfl Try.sizeOf3 rfl) (by decide) ?_
 refine WL.x (X.loadB (k := 0) Try.isAgg3 rfl rfl rfl) (by decide) ?_
 refine WL.x (X.sub rfl rfl (by omega) (by omega)) (by decide) ?_
 refine WL.x (V := Value.agg [.int .i64 (((bt s.Shifts a b).Lo) - ((bt t.Shifts a b).Hi)), .int .i64 (((bt s.Shifts a b).Hi) - ((bt t.Shifts a b).Lo))].toArray) (X.build Try.zeroValue33 Try.runUnderlying33 (places33 _ Try.underlying33) rfl rfl) (by decide) ?_
 refine WL.ts (T.storeBA (k := 2) Try.sizeOf33 rfl rfl rfl (one_cons rfl (one_cons rfl one_nil)) rfl rfl) ?_
 refine WL.nil ?_
 refine WK.nThen ?_
 refine WC.ret ?_
 refine WK.retC1 2 rfl rfl rfl Try.isAgg33 Try.sizeOf33 (fun w' hw' => Ret.exact hw' ?_)
 first | rfl | exact agg2i rfl rfl

theorem chain93 (m : Mem) (cs : List Value) (s : Ser) (hs : Enc.rd m cs s) (ct : List Value) (t : Ser) (ht : Enc.rd m ct t) (vl : Value) (l : List Pr) (hl : Sl m vl l) (most : Int)  (hos : Ok s) (hot : Ok t) (hm : 0 ≤ most ∧ most ≤ 24000) (hl0 : 0 < l.length) (hpk : ∀ j, j < l.length → prOk s t (gt l j)) : Exact Try.prog 93 #[.agg cs.toArray, .agg ct.toArray, vl, .int .i64 (most)] m (.agg [.int .i64 ((chR s t l most).Lo), .int .i64 ((chR s t l most).Hi)].toArray) := by
 obtain ⟨v1, v3, rfl, hs2, hs4⟩ := hs
 have hl5 := hs2.le
 have hl6 := hs4.le
 obtain ⟨v7, v9, rfl, hs8, hs10⟩ := ht
 have hl11 := hs8.le
 have hl12 := hs10.le
 have ll := hl.le
 have hp0 := pln_bd hos hot (hpk 0 hl0)
 refine Exact.start Try.func93 rfl Try.ntmps93 rfl fun wld => ?_
 refine WC.seq ?_
 refine WC.region ?_
 refine WL.tn (T.boxB rfl rfl) (by decide) fun b13 => ?_
 refine WL.tn (T.boxB rfl rfl) (by decide) fun b14 => ?_
 refine WL.tn (T.alloc Try.zeroValue33 rfl) (by decide) fun b15 => ?_
 refine WL.nil ?_
 refine WK.nThen ?_
 refine WC.seq ?_
 refine WC.draw (π := (.cons 0 (.cons 1 (.cons 2 (.cons 3 (.cons 4 (.cons 5 (.cons 6 (.cons 7 .done))))))))) [6, 7] [7] rfl (by kernel_rfl) ?_
 refine DW.x rfl rfl (X.loadBA (k := 2) Try.isAgg25 Try.sizeOf25 rfl rfl rfl) (by decide) ?_
 refine DW.x rfl rfl (X.loadBA (k := 1) Try.isAgg25 Try.sizeOf25 rfl rfl rfl) (by decide) ?_
 refine DW.x rfl rfl (X.move rfl) (by decide) ?_
 refine DW.xe rfl rfl (E.idxN 0 Try.runUnderlying115 Try.sizeOf119 rfl rfl hl (by omega)) (by decide) (fun p16 hp17 => ?_)
 refine DW.xe rfl rfl (E.loadAgg Try.isAgg119 Try.sizeOf119 rfl hp17) (by decide) (fun c18 hc19 => ?_)
 obtain rfl := hc19
 refine DW.x rfl rfl (X.call Try.call142 rfl (plain142 _ _ s ⟨_, _, rfl, hs2, hs4⟩ _ t ⟨_, _, rfl, hs8, hs10⟩ _ (gt l 0) rfl (by assumption) (by assumption) (by first | assumption | exact hpk _ (by omega)))) (by decide) ?_
 refine DW.tn rfl rfl rfl (T.alloc Try.zeroValue33 rfl) (by decide) fun b20 => ?_
 refine DW.ts rfl rfl rfl rfl (T.storeBA (k := 0) Try.sizeOf33 rfl rfl rfl (one_cons rfl (one_cons rfl one_nil)) rfl rfl) ?_
 refine DW.nil ?_
 refine WK.nThen ?_
 refine WC.seq ?_
 refine WC.region ?_
 refine WL.x (X.field Try.runUnderlying33 rfl Try.sizeOf3 rfl) (by decide) ?_
 refine WL.x (X.loadB (k := 0) Try.isAgg3 rfl rfl rfl) (by decide) ?_
 refine WL.x (X.move rfl) (by decide) ?_
 refine WL.x (X.sub rfl rfl (by omega) (by omega)) (by decide) ?_
 refine WL.x (X.field Try.runUnderlying33 rfl Try.sizeOf3 rfl) (by decide) ?_
 refine WL.x (X.loadB (k := 0) Try.isAgg3 rfl rfl rfl) (by decide) ?_
 refine WL.x (V := Value.agg [.int .i64 (((plnS s t ((gt l 0))).Lo) - most), .int .i64 ((plnS s t ((gt l 0))).Hi)].toArray) (X.build Try.zeroValue33 Try.runUnderlying33 (places33 _ Try.underlying33) rfl rfl) (by decide) ?_
 refine WL.tn (T.alloc Try.zeroValue33 rfl) (by decide) fun b21 => ?_
 refine WL.ts (T.storeBA (k := 0) Try.sizeOf33 rfl rfl rfl (one_cons rfl (one_cons rfl one_nil)) rfl rfl) ?_
 refine WL.nil ?_
 refine WK.nThen ?_
 refine WC.seq ?_
 refine WC.seq ?_
 refine WC.region ?_
 refine WL.x (X.assign rfl) (by decide) ?_
 refine WL.nil ?_
 refine WK.nThen ?_
 refine WC.block ?_
 refine WC.loop (G := Nat × Int × Int × Int × Int) (fun (k, lo, hi, x1, x2) => l.length - k) (fun (k, lo, hi, x1, x2) => m) (fun (k, lo, hi, x1, x2) => [blk b21 33 [.int .i64 (lo), .int .i64 (hi)], blk b20 33 [.int .i64 (x1), .int .i64 (x2)], blk b15 33 [.int .i64 (0), .int .i64 (0)], blk b14 25 [v7, v9], blk b13 25 [v1, v3]]) (fun (k, lo, hi, x1, x2) => [(2, vl), (3, .int .i64 (most)), (4, .pointer (some ⟨b13, 0, none⟩)), (5, .pointer (some ⟨b14, 0, none⟩)), (8, .pointer (some ⟨b15, 0, none⟩)), (9, .pointer (some ⟨b20, 0, none⟩)), (10, .pointer (some ⟨b21, 0, none⟩)), (11, .int .i64 (↑k))]) (fun (k, lo, hi, x1, x2) => (1 ≤ k ∧ k ≤ l.length) ∧ (lo = (chN s t l most (k - 1)).Lo ∧ hi = (chN s t l most (k - 1)).Hi) ∧ ∀ j, j + 1 < k → ¬ chBad s t l most j) ((1, ((plnS s t ((gt l 0))).Lo) - most, (plnS s t ((gt l 0))).Hi, (plnS s t ((gt l 0))).Lo, (plnS s t ((gt l 0))).Hi)) rfl (.refl _) (.cons rfl (.cons rfl (.cons rfl (.cons rfl (.cons rfl (.cons rfl (.cons rfl (.cons rfl .nil)))))))) ?_ ?_
 ·exact ⟨by omega, ⟨rfl, rfl⟩, fun j hj => by omega⟩
 ·rintro ⟨k, lo, hi, x1, x2⟩ hF22
  show WK _ _ m [blk b21 33 [.int .i64 (lo), .int .i64 (hi)], blk b20 33 [.int .i64 (x1), .int .i64 (x2)], blk b15 33 [.int .i64 (0), .int .i64 (0)], blk b14 25 [v7, v9], blk b13 25 [v1, v3]] [(2, vl), (3, .int .i64 (most)), (4, .pointer (some ⟨b13, 0, none⟩)), (5, .pointer (some ⟨b14, 0, none⟩)), (8, .pointer (some ⟨b15, 0, none⟩)), (9, .pointer (some ⟨b20, 0, none⟩)), (10, .pointer (some ⟨b21, 0, none⟩)), (11, .int .i64 (↑k))] _
  replace hF22 : (1 ≤ k ∧ k ≤ l.length) ∧ (lo = (chN s t l most (k - 1)).Lo ∧ hi = (chN s t l most (k - 1)).Hi) ∧ ∀ j, j + 1 < k → ¬ chBad s t l most j := hF22
  obtain ⟨hk, hlh, hall⟩ := hF22
  have hcb := chN_bd hos hot hm (k := k - 1) (by omega) hpk
  have hpk1 := hpk (k - 1) (by omega)
  unfold prOk at hpk1
  refine WC.seq ?_
  refine WC.seq ?_
  refine WC.region ?_
  refine WL.x (X.move rfl) (by decide) ?_
  refine WL.x (X.move rfl) (by decide) ?_
  refine WL.x (X.len Try.runUnderlying115 rfl hl) (by decide) ?_
  refine WL.cond (X.lss rfl rfl) (by decide) (fun h23 => ?_) (fun h23 => ?_)
  ·refine WL.x (X.move rfl) (by decide) ?_
   refine WL.yes rfl rfl ?_
   refine WL.x (X.field Try.runUnderlying33 rfl Try.sizeOf3 rfl) (by decide) ?_
   refine WL.yes rfl rfl ?_
   refine WL.x (X.loadB (k := 0) Try.isAgg3 rfl rfl rfl) (by decide) ?_
   refine WL.yes rfl rfl ?_
   refine WL.x (X.field Try.runUnderlying33 rfl Try.sizeOf3 rfl) (by decide) ?_
   refine WL.yes rfl rfl ?_
   refine WL.x (X.loadB (k := 0) Try.isAgg3 rfl rfl rfl) (by decide) ?_
   refine WL.yes rfl rfl ?_
   refine WL.cond (X.leq rfl rfl) (by decide) (fun h24 => ?_) (fun h24 => ?_)
   ·refine WL.x (X.pickT rfl rfl rfl) (by decide) ?_
    refine WL.nil ?_
    refine WK.nThen ?_
    refine WC.condT rfl ?_
    refine WC.skip ?_
    refine WK.nThen ?_
    refine WC.seq ?_
    refine WC.block ?_
    refine WC.seq ?_
    have hpk2 := hpk k (by omega)
    have hxb := pln_bd hos hot hpk2
    unfold prOk at hpk2
    have hsb := shf_bd hos hot (min (gt s.Values (gt l (k - 1)).s.toNat).Time (gt s.Values (gt l k).s.toNat).Time) (max (gt s.Values (gt l (k - 1)).s.toNat).Time (gt s.Values (gt l k).s.toNat).Time)
    have hst := chN_step (s := s) (t := t) (l := l) (most := most) (k := k) (by omega)
    have hst1 := congrArg Span.Lo hst
    have hst2 := congrArg Span.Hi hst
    dsimp only at hst1 hst2
    have hY : (gt s.Values (gt l k).s.toNat).Time < (gt s.Values (gt l (k - 1)).s.toNat).Time → (hopS s t (prT s (gt l (k - 1))) (prT s (gt l k))).Lo = 0 - (shfS s t (min (gt s.Values (gt l (k - 1)).s.toNat).Time (gt s.Values (gt l k).s.toNat).Time) (max (gt s.Values (gt l (k - 1)).s.toNat).Time (gt s.Values (gt l k).s.toNat).Time)).Hi ∧ (hopS s t (prT s (gt l (k - 1))) (prT s (gt l k))).Hi = 0 - (shfS s t (min (gt s.Values (gt l (k - 1)).s.toNat).Time (gt s.Values (gt l k).s.toNat).Time) (max (gt s.Values (gt l (k - 1)).s.toNat).Time (gt s.Values (gt l k).s.toNat).Time)).Lo := (by intro h; unfold hopS prT; rw [if_pos h]; exact ⟨rfl, rfl⟩)
    have hN : ¬ (gt s.Values (gt l k).s.toNat).Time < (gt s.Values (gt l (k - 1)).s.toNat).Time → (hopS s t (prT s (gt l (k - 1))) (prT s (gt l k))).Lo = (shfS s t (min (gt s.Values (gt l (k - 1)).s.toNat).Time (gt s.Values (gt l k).s.toNat).Time) (max (gt s.Values (gt l (k - 1)).s.toNat).Time (gt s.Values (gt l k).s.toNat).Time)).Lo ∧ (hopS s t (prT s (gt l (k - 1))) (prT s (gt l k))).Hi = (shfS s t (min (gt s.Values (gt l (k - 1)).s.toNat).Time (gt s.Values (gt l k).s.toNat).Time) (max (gt s.Values (gt l (k - 1)).s.toNat).Time (gt s.Values (gt l k).s.toNat).Time)).Hi := (by intro h; unfold hopS prT; rw [if_neg h]; exact ⟨rfl, rfl⟩)
    refine WC.draw (π := (.cons 0 (.cons 1 (.cons 2 (.cons 3 (.cons 4 (.cons 5 (.cons 6 (.cons 7 (.cons 8 (.cons 9 (.cons 10 (.cons 11 .done))))))))))))) [] [] rfl (by kernel_rfl) ?_
    refine DW.x rfl rfl (X.field Try.runUnderlying25 rfl Try.sizeOf22 rfl) (by decide) ?_
    refine DW.x rfl rfl (X.loadB (k := 4) Try.isAgg22 rfl rfl rfl) (by decide) ?_
    refine DW.x rfl rfl (X.move rfl) (by decide) ?_
    refine DW.x rfl rfl (X.move rfl) (by decide) ?_
    refine DW.x rfl rfl (X.sub rfl rfl (by omega) (by omega)) (by decide) ?_
    refine DW.xe rfl rfl (E.idxE (k - 1) Try.runUnderlying115 Try.sizeOf119 rfl rfl hl (by omega) (by omega)) (by decide) (fun p25 hp26 => ?_)
    have hp27 := At.Pr_0 hp26
    refine DW.x rfl rfl (X.field Try.runUnderlying119 rfl Try.sizeOf3 rfl) (by decide) ?_
    refine DW.x rfl rfl (X.loadInt Try.isAgg3 rfl hp27) (by decide) ?_
    refine DW.xe rfl rfl (E.idx Try.runUnderlying22 Try.sizeOf62 rfl rfl hs2 (by omega) (by omega)) (by decide) (fun p28 hp29 => ?_)
    have hp30 := At.Val_0 hp29
    refine DW.x rfl rfl (X.field Try.runUnderlying62 rfl Try.sizeOf3 rfl) (by decide) ?_
    refine DW.x rfl rfl (X.loadInt Try.isAgg3 rfl hp30) (by decide) ?_
    refine DW.x rfl rfl (X.assign rfl) (by decide) ?_
    refine DW.nil ?_
    refine WK.nThen ?_
    refine WC.seq ?_
    refine WC.draw (π := (.cons 0 (.cons 1 (.cons 2 (.cons 3 (.cons 4 (.cons 5 (.cons 6 (.cons 7 (.cons 8 (.cons 9 (.cons 10 .done)))))))))))) [] [] rfl (by kernel_rfl) ?_
    refine DW.x rfl rfl (X.field Try.runUnderlying25 rfl Try.sizeOf22 rfl) (by decide) ?_
    refine DW.x rfl rfl (X.loadB (k := 4) Try.isAgg22 rfl rfl rfl) (by decide) ?_
    refine DW.x rfl rfl (X.move rfl) (by decide) ?_
    refine DW.x rfl rfl (X.move rfl) (by decide) ?_
    refine DW.xe rfl rfl (E.idxN k Try.runUnderlying115 Try.sizeOf119 rfl rfl hl (by omega)) (by decide) (fun p31 hp32 => ?_)
    have hp33 := At.Pr_0 hp32
    refine DW.x rfl rfl (X.field Try.runUnderlying119 rfl Try.sizeOf3 rfl) (by decide) ?_
    refine DW.x rfl rfl (X.loadInt Try.isAgg3 rfl hp33) (by decide) ?_
    refine DW.xe rfl rfl (E.idx Try.runUnderlying22 Try.sizeOf62 rfl rfl hs2 (by omega) (by omega)) (by decide) (fun p34 hp35 => ?_)
    have hp36 := At.Val_0 hp35
    refine DW.x rfl rfl (X.field Try.runUnderlying62 rfl Try.sizeOf3 rfl) (by decide) ?_
    refine DW.x rfl rfl (X.loadInt Try.isAgg3 rfl hp36) (by decide) ?_
    refine DW.x rfl rfl (X.assign rfl) (by decide) ?_
    refine DW.nil ?_
    refine WK.nThen ?_
    refine WC.seq ?_
    refine WC.region ?_
    refine WL.x (X.loadBA (k := 4) Try.isAgg25 Try.sizeOf25 rfl rfl rfl) (by decide) ?_
    refine WL.x (X.loadBA (k := 3) Try.isAgg25 Try.sizeOf25 rfl rfl rfl) (by decide) ?_
    refine WL.x (X.move rfl) (by decide) ?_
    refine WL.x (X.move rfl) (by decide) ?_
    refine WL.x (X.mn rfl rfl) (by decide) ?_
    refine WL.x (X.move rfl) (by decide) ?_
    refine WL.x (X.move rfl) (by decide) ?_
    refine WL.x (X.mx rfl rfl) (by decide) ?_
    refine WL.x (X.call Try.call94 rfl (shifted94 _ _ s ⟨_, _, rfl, hs2, hs4⟩ _ t ⟨_, _, rfl, hs8, hs10⟩ _ _ (by assumption) (by assumption))) (by decide) ?_
    refine WL.tn (T.alloc Try.zeroValue33 rfl) (by decide) fun b37 => ?_
    refine WL.ts (T.storeBA (k := 0) Try.sizeOf33 rfl rfl rfl (one_cons rfl (one_cons rfl one_nil)) rfl rfl) ?_
    refine WL.nil ?_
    refine WK.nThen ?_
    refine WC.seq ?_
    refine WC.seq ?_
    refine WC.region ?_
    refine WL.x (X.move rfl) (by decide) ?_
    refine WL.x (X.move rfl) (by decide) ?_
    refine WL.cond (X.gtr rfl rfl) (by decide) (fun h38 => ?_) (fun h38 => ?_)
    ·refine WL.nil ?_
     refine WK.nThen ?_
     refine WC.condT rfl ?_
     refine WC.region ?_
     refine WL.x (X.field Try.runUnderlying33 rfl Try.sizeOf3 rfl) (by decide) ?_
     refine WL.x (X.loadB (k := 0) Try.isAgg3 rfl rfl rfl) (by decide) ?_
     refine WL.x (X.sub rfl rfl (by omega) (by omega)) (by decide) ?_
     refine WL.x (X.field Try.runUnderlying33 rfl Try.sizeOf3 rfl) (by decide) ?_
     refine WL.x (X.loadB (k := 0) Try.isAgg3 rfl rfl rfl) (by decide) ?_
     refine WL.x (X.sub rfl rfl (by omega) (by omega)) (by decide) ?_
     refine WL.x (V := Value.agg [.int .i64 (0 - ((shfS s t ((min ((gt s.Values (((gt l (k - 1)).s : Int).toNat)).Time) ((gt s.Values (((gt l k).s : Int).toNat)).Time))) ((max ((gt s.Values (((gt l (k - 1)).s : Int).toNat)).Time) ((gt s.Values (((gt l k).s : Int).toNat)).Time)))).Hi)), .int .i64 (0 - ((shfS s t ((min ((gt s.Values (((gt l (k - 1)).s : Int).toNat)).Time) ((gt s.Values (((gt l k).s : Int).toNat)).Time))) ((max ((gt s.Values (((gt l (k - 1)).s : Int).toNat)).Time) ((gt s.Values (((gt l k).s : Int).toNat)).Time)))).Lo))].toArray) (X.build Try.zeroValue33 Try.runUnderlying33 (places33 _ Try.underlying33) rfl rfl) (by decide) ?_
     refine WL.ts (T.storeBA (k := 0) Try.sizeOf33 rfl rfl rfl (one_cons rfl (one_cons rfl one_nil)) rfl rfl) ?_
     refine WL.nil ?_
     refine WK.nThen ?_
     refine WC.seq ?_
     refine WC.draw (π := (.cons 0 (.cons 1 (.cons 2 (.cons 3 (.cons 4 (.cons 5 (.cons 6 (.cons 7 .done))))))))) [7] [7] rfl (by kernel_rfl) ?_
     refine DW.x rfl rfl (X.loadBA (k := 5) Try.isAgg25 Try.sizeOf25 rfl rfl rfl) (by decide) ?_
     refine DW.x rfl rfl (X.loadBA (k := 4) Try.isAgg25 Try.sizeOf25 rfl rfl rfl) (by decide) ?_
     refine DW.x rfl rfl (X.move rfl) (by decide) ?_
     refine DW.x rfl rfl (X.move rfl) (by decide) ?_
     refine DW.xe rfl rfl (E.idxN k Try.runUnderlying115 Try.sizeOf119 rfl rfl hl (by omega)) (by decide) (fun p39 hp40 => ?_)
     refine DW.xe rfl rfl (E.loadAgg Try.isAgg119 Try.sizeOf119 rfl hp40) (by decide) (fun c41 hc42 => ?_)
     obtain rfl := hc42
     refine DW.x rfl rfl (X.call Try.call142 rfl (plain142 _ _ s ⟨_, _, rfl, hs2, hs4⟩ _ t ⟨_, _, rfl, hs8, hs10⟩ _ (gt l k) rfl (by assumption) (by assumption) (by first | assumption | exact hpk _ (by omega)))) (by decide) ?_
     refine DW.ts rfl rfl rfl rfl (T.storeBA (k := 2) Try.sizeOf33 rfl rfl rfl (one_cons rfl (one_cons rfl one_nil)) rfl rfl) ?_
     refine DW.nil ?_
     refine WK.nThen ?_
     refine WC.region ?_
     refine WL.x (X.field Try.runUnderlying33 rfl Try.sizeOf3 rfl) (by decide) ?_
     refine WL.x (X.loadB (k := 1) Try.isAgg3 rfl rfl rfl) (by decide) ?_
     refine WL.x (X.field Try.runUnderlying33 rfl Try.sizeOf3 rfl) (by decide) ?_
     refine WL.x (X.loadB (k := 0) Try.isAgg3 rfl rfl rfl) (by decide) ?_
     refine WL.x (X.add rfl rfl (by omega) (by omega)) (by decide) ?_
     refine WL.x (X.field Try.runUnderlying33 rfl Try.sizeOf3 rfl) (by decide) ?_
     refine WL.x (X.loadB (k := 2) Try.isAgg3 rfl rfl rfl) (by decide) ?_
     refine WL.x (X.move rfl) (by decide) ?_
     refine WL.x (X.sub rfl rfl (by omega) (by omega)) (by decide) ?_
     refine WL.x (X.mx rfl rfl) (by decide) ?_
     refine WL.x (X.field Try.runUnderlying33 rfl Try.sizeOf3 rfl) (by decide) ?_
     refine WL.x (X.loadB (k := 1) Try.isAgg3 rfl rfl rfl) (by decide) ?_
     refine WL.x (X.field Try.runUnderlying33 rfl Try.sizeOf3 rfl) (by decide) ?_
     refine WL.x (X.loadB (k := 0) Try.isAgg3 rfl rfl rfl) (by decide) ?_
     refine WL.x (X.add rfl rfl (by omega) (by omega)) (by decide) ?_
     refine WL.x (X.field Try.runUnderlying33 rfl Try.sizeOf3 rfl) (by decide) ?_
     refine WL.x (X.loadB (k := 2) Try.isAgg3 rfl rfl rfl) (by decide) ?_
     refine WL.x (X.mn rfl rfl) (by decide) ?_
     refine WL.x (V := Value.agg [.int .i64 (max (lo + (0 - ((shfS s t ((min ((gt s.Values (((gt l (k - 1)).s : Int).toNat)).Time) ((gt s.Values (((gt l k).s : Int).toNat)).Time))) ((max ((gt s.Values (((gt l (k - 1)).s : Int).toNat)).Time) ((gt s.Values (((gt l k).s : Int).toNat)).Time)))).Hi))) (((plnS s t ((gt l k))).Lo) - most)), .int .i64 (min (hi + (0 - ((shfS s t ((min ((gt s.Values (((gt l (k - 1)).s : Int).toNat)).Time) ((gt s.Values (((gt l k).s : Int).toNat)).Time))) ((max ((gt s.Values (((gt l (k - 1)).s : Int).toNat)).Time) ((gt s.Values (((gt l k).s : Int).toNat)).Time)))).Lo))) ((plnS s t ((gt l k))).Hi))].toArray) (X.build Try.zeroValue33 Try.runUnderlying33 (places33 _ Try.underlying33) rfl rfl) (by decide) ?_
     refine WL.ts (T.storeBA (k := 1) Try.sizeOf33 rfl rfl rfl (one_cons rfl (one_cons rfl one_nil)) rfl rfl) ?_
     refine WL.nil ?_
     refine WK.nBlock ?_
     refine WK.nThen ?_
     refine WC.region ?_
     refine WL.x (X.move rfl) (by decide) ?_
     refine WL.x (X.add rfl rfl (by omega) (by omega)) (by decide) ?_
     refine WL.x (X.assign rfl) (by decide) ?_
     refine WL.nil ?_
     refine WK.nThen ?_
     refine WK.next ((k + 1, max (lo + (0 - ((shfS s t ((min ((gt s.Values (((gt l (k - 1)).s : Int).toNat)).Time) ((gt s.Values (((gt l k).s : Int).toNat)).Time))) ((max ((gt s.Values (((gt l (k - 1)).s : Int).toNat)).Time) ((gt s.Values (((gt l k).s : Int).toNat)).Time)))).Hi))) (((plnS s t ((gt l k))).Lo) - most), min (hi + (0 - ((shfS s t ((min ((gt s.Values (((gt l (k - 1)).s : Int).toNat)).Time) ((gt s.Values (((gt l k).s : Int).toNat)).Time))) ((max ((gt s.Values (((gt l (k - 1)).s : Int).toNat)).Time) ((gt s.Values (((gt l k).s : Int).toNat)).Time)))).Lo))) ((plnS s t ((gt l k))).Hi), (plnS s t ((gt l k))).Lo, (plnS s t ((gt l k))).Hi)) rfl (.cons _ (.refl _)) (.cons rfl (.cons rfl (.cons rfl (.cons rfl (.cons rfl (.cons rfl (.cons rfl (.cons rfl .nil)))))))) ?_ ?_
     ·exact ⟨by omega, ⟨by rw [Nat.add_sub_cancel]; omega, by rw [Nat.add_sub_cancel]; omega⟩, fun j hj hb => by rcases Nat.lt_or_ge (j + 1) k with h | h; exact hall j h hb; obtain rfl : j = k - 1 := (by omega); unfold chBad at hb; omega⟩
     ·(dsimp only; omega)
    ·refine WL.nil ?_
     refine WK.nThen ?_
     refine WC.condF rfl ?_
     refine WC.skip ?_
     refine WK.nThen ?_
     refine WC.seq ?_
     refine WC.draw (π := (.cons 0 (.cons 1 (.cons 2 (.cons 3 (.cons 4 (.cons 5 (.cons 6 (.cons 7 .done))))))))) [7] [7] rfl (by kernel_rfl) ?_
     refine DW.x rfl rfl (X.loadBA (k := 5) Try.isAgg25 Try.sizeOf25 rfl rfl rfl) (by decide) ?_
     refine DW.x rfl rfl (X.loadBA (k := 4) Try.isAgg25 Try.sizeOf25 rfl rfl rfl) (by decide) ?_
     refine DW.x rfl rfl (X.move rfl) (by decide) ?_
     refine DW.x rfl rfl (X.move rfl) (by decide) ?_
     refine DW.xe rfl rfl (E.idxN k Try.runUnderlying115 Try.sizeOf119 rfl rfl hl (by omega)) (by decide) (fun p43 hp44 => ?_)
     refine DW.xe rfl rfl (E.loadAgg Try.isAgg119 Try.sizeOf119 rfl hp44) (by decide) (fun c45 hc46 => ?_)
     obtain rfl := hc46
     refine DW.x rfl rfl (X.call Try.call142 rfl (plain142 _ _ s ⟨_, _, rfl, hs2, hs4⟩ _ t ⟨_, _, rfl, hs8, hs10⟩ _ (gt l k) rfl (by assumption) (by assumption) (by first | assumption | exact hpk _ (by omega)))) (by decide) ?_
     refine DW.ts rfl rfl rfl rfl (T.storeBA (k := 2) Try.sizeOf33 rfl rfl rfl (one_cons rfl (one_cons rfl one_nil)) rfl rfl) ?_
     refine DW.nil ?_
     refine WK.nThen ?_
     refine WC.region ?_
     refine WL.x (X.field Try.runUnderlying33 rfl Try.sizeOf3 rfl) (by decide) ?_
     refine WL.x (X.loadB (k := 1) Try.isAgg3 rfl rfl rfl) (by decide) ?_
     refine WL.x (X.field Try.runUnderlying33 rfl Try.sizeOf3 rfl) (by decide) ?_
     refine WL.x (X.loadB (k := 0) Try.isAgg3 rfl rfl rfl) (by decide) ?_
     refine WL.x (X.add rfl rfl (by omega) (by omega)) (by decide) ?_
     refine WL.x (X.field Try.runUnderlying33 rfl Try.sizeOf3 rfl) (by decide) ?_
     refine WL.x (X.loadB (k := 2) Try.isAgg3 rfl rfl rfl) (by decide) ?_
     refine WL.x (X.move rfl) (by decide) ?_
     refine WL.x (X.sub rfl rfl (by omega) (by omega)) (by decide) ?_
     refine WL.x (X.mx rfl rfl) (by decide) ?_
     refine WL.x (X.field Try.runUnderlying33 rfl Try.sizeOf3 rfl) (by decide) ?_
     refine WL.x (X.loadB (k := 1) Try.isAgg3 rfl rfl rfl) (by decide) ?_
     refine WL.x (X.field Try.runUnderlying33 rfl Try.sizeOf3 rfl) (by decide) ?_
     refine WL.x (X.loadB (k := 0) Try.isAgg3 rfl rfl rfl) (by decide) ?_
     refine WL.x (X.add rfl rfl (by omega) (by omega)) (by decide) ?_
     refine WL.x (X.field Try.runUnderlying33 rfl Try.sizeOf3 rfl) (by decide) ?_
     refine WL.x (X.loadB (k := 2) Try.isAgg3 rfl rfl rfl) (by decide) ?_
     refine WL.x (X.mn rfl rfl) (by decide) ?_
     refine WL.x (V := Value.agg [.int .i64 (max (lo + ((shfS s t ((min ((gt s.Values (((gt l (k - 1)).s : Int).toNat)).Time) ((gt s.Values (((gt l k).s : Int).toNat)).Time))) ((max ((gt s.Values (((gt l (k - 1)).s : Int).toNat)).Time) ((gt s.Values (((gt l k).s : Int).toNat)).Time)))).Lo)) (((plnS s t ((gt l k))).Lo) - most)), .int .i64 (min (hi + ((shfS s t ((min ((gt s.Values (((gt l (k - 1)).s : Int).toNat)).Time) ((gt s.Values (((gt l k).s : Int).toNat)).Time))) ((max ((gt s.Values (((gt l (k - 1)).s : Int).toNat)).Time) ((gt s.Values (((gt l k).s : Int).toNat)).Time)))).Hi)) ((plnS s t ((gt l k))).Hi))].toArray) (X.build Try.zeroValue33 Try.runUnderlying33 (places33 _ Try.underlying33) rfl rfl) (by decide) ?_
     refine WL.ts (T.storeBA (k := 1) Try.sizeOf33 rfl rfl rfl (one_cons rfl (one_cons rfl one_nil)) rfl rfl) ?_
     refine WL.nil ?_
     refine WK.nBlock ?_
     refine WK.nThen ?_
     refine WC.region ?_
     refine WL.x (X.move rfl) (by decide) ?_
     refine WL.x (X.add rfl rfl (by omega) (by omega)) (by decide) ?_
     refine WL.x (X.assign rfl) (by decide) ?_
     refine WL.nil ?_
     refine WK.nThen ?_
     refine WK.next ((k + 1, max (lo + ((shfS s t ((min ((gt s.Values (((gt l (k - 1)).s : Int).toNat)).Time) ((gt s.Values (((gt l k).s : Int).toNat)).Time))) ((max ((gt s.Values (((gt l (k - 1)).s : Int).toNat)).Time) ((gt s.Values (((gt l k).s : Int).toNat)).Time)))).Lo)) (((plnS s t ((gt l k))).Lo) - most), min (hi + ((shfS s t ((min ((gt s.Values (((gt l (k - 1)).s : Int).toNat)).Time) ((gt s.Values (((gt l k).s : Int).toNat)).Time))) ((max ((gt s.Values (((gt l (k - 1)).s : Int).toNat)).Time) ((gt s.Values (((gt l k).s : Int).toNat)).Time)))).Hi)) ((plnS s t ((gt l k))).Hi), (plnS s t ((gt l k))).Lo, (plnS s t ((gt l k))).Hi)) rfl (.cons _ (.refl _)) (.cons rfl (.cons rfl (.cons rfl (.cons rfl (.cons rfl (.cons rfl (.cons rfl (.cons rfl .nil)))))))) ?_ ?_
     ·exact ⟨by omega, ⟨by rw [Nat.add_sub_cancel]; omega, by rw [Nat.add_sub_cancel]; omega⟩, fun j hj hb => by rcases Nat.lt_or_ge (j + 1) k with h | h; exact hall j h hb; obtain rfl : j = k - 1 := (by omega); unfold chBad at hb; omega⟩
     ·(dsimp only; omega)
   ·refine WL.x (X.pickT rfl rfl rfl) (by decide) ?_
    refine WL.nil ?_
    refine WK.nThen ?_
    refine WC.condF rfl ?_
    refine WC.exit ?_
    refine WK.eThen ?_
    refine WK.eThen ?_
    refine WK.eHit ?_
    refine WK.nThen ?_
    refine WC.seq ?_
    refine WC.region ?_
    refine WL.x (X.loadBA (k := 0) Try.isAgg33 Try.sizeOf33 rfl rfl rfl) (by decide) ?_
    refine WL.ts (T.storeBA (k := 2) Try.sizeOf33 rfl rfl rfl (one_cons rfl (one_cons rfl one_nil)) rfl rfl) ?_
    refine WL.nil ?_
    refine WK.nThen ?_
    refine WC.ret ?_
    refine WK.retC1 2 rfl rfl rfl Try.isAgg33 Try.sizeOf33 (fun w' hw' => Ret.exact hw' ?_)
    have hce := chR_end (s := s) (t := t) (l := l) (most := most) hk hall (fun h => by unfold chBad; omega)
    exact agg2i (by rw [hce, hlh.1]) (by rw [hce, hlh.2])
  ·refine WL.x (X.move rfl) (by decide) ?_
   refine WL.no rfl rfl rfl (by decide) ?_
   refine WL.no rfl rfl rfl (by decide) ?_
   refine WL.no rfl rfl rfl (by decide) ?_
   refine WL.no rfl rfl rfl (by decide) ?_
   refine WL.no rfl rfl rfl (by decide) ?_
   refine WL.x (X.pickF rfl rfl rfl) (by decide) ?_
   refine WL.nil ?_
   refine WK.nThen ?_
   refine WC.condF rfl ?_
   refine WC.exit ?_
   refine WK.eThen ?_
   refine WK.eThen ?_
   refine WK.eHit ?_
   refine WK.nThen ?_
   refine WC.seq ?_
   refine WC.region ?_
   refine WL.x (X.loadBA (k := 0) Try.isAgg33 Try.sizeOf33 rfl rfl rfl) (by decide) ?_
   refine WL.ts (T.storeBA (k := 2) Try.sizeOf33 rfl rfl rfl (one_cons rfl (one_cons rfl one_nil)) rfl rfl) ?_
   refine WL.nil ?_
   refine WK.nThen ?_
   refine WC.ret ?_
   refine WK.retC1 2 rfl rfl rfl Try.isAgg33 Try.sizeOf33 (fun w' hw' => Ret.exact hw' ?_)
   have hce := chR_end (s := s) (t := t) (l := l) (most := most) hk hall (fun h => by unfold chBad; omega)
   exact agg2i (by rw [hce, hlh.1]) (by rw [hce, hlh.2])

end Go.Proofs.C8
