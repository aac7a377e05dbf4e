import Derived.Test.YtednficclnjmjaaC8W3
/- Century: walks, fourth part, by program. -/
namespace Go.Proofs.C8
open Go Go.Kx
set_option linter.unusedSimpArgs false

theorem last91 (m : Mem) (cw : List Value) (w : Win) (hw : Enc.rd m cw w) (most : Int)  (hww : WinW w) (hm : 0 ≤ most ∧ most ≤ 24000) : Exact Try.prog 91 #[.agg cw.toArray, .int .i64 (most)] m (.tuple #[.agg [.int .i64 ((lastR w most).1.Lo), .int .i64 ((lastR w most).1.Hi)].toArray, .bool ((lastR w most).2)]) := by
 obtain ⟨v1, v3, rfl, hs2, hs4⟩ := hw
 have hl5 := hs2.le
 have hl6 := hs4.le
 have hwn := hww.n
 have hwl := hww.l
 refine Exact.start Try.func91 rfl Try.ntmps91 rfl fun wld => ?_
 refine WC.seq ?_
 refine WC.region ?_
 refine WL.tn (T.boxB rfl rfl) (by decide) fun b7 => ?_
 refine WL.tn (T.alloc Try.zeroValue33 rfl) (by decide) fun b8 => ?_
 refine WL.x (X.assign rfl) (by decide) ?_
 refine WL.nil ?_
 refine WK.nThen ?_
 refine WC.seq ?_
 refine WC.region ?_
 refine WL.tn (T.alloc Try.zeroValue33 rfl) (by decide) fun b9 => ?_
 refine WL.nil ?_
 refine WK.nThen ?_
 refine WC.seq ?_
 refine WC.seq ?_
 refine WC.region ?_
 refine WL.x (X.field Try.runUnderlying121 rfl Try.sizeOf74 rfl) (by decide) ?_
 refine WL.x (X.loadB (k := 2) Try.isAgg74 rfl rfl rfl) (by decide) ?_
 refine WL.x (X.len Try.runUnderlying74 rfl hs2) (by decide) ?_
 refine WL.x (X.move rfl) (by decide) ?_
 refine WL.nil ?_
 refine WK.nThen ?_
 refine WC.block ?_
 refine WC.loop (G := Nat × Int × Int) (fun (k, lo, hi) => w.levels.length - k) (fun (k, lo, hi) => m) (fun (k, lo, hi) => [blk b9 33 [.int .i64 (lo), .int .i64 (hi)], blk b8 33 [.int .i64 (0), .int .i64 (0)], blk b7 121 [v1, v3]]) (fun (k, lo, hi) => [(1, .int .i64 (most)), (2, .pointer (some ⟨b7, 0, none⟩)), (4, .pointer (some ⟨b8, 0, none⟩)), (6, .pointer (some ⟨b9, 0, none⟩)), (12, v1), (13, .int .i64 (↑w.levels.length)), (14, .int .i64 (↑k))]) (fun (k, lo, hi) => k ≤ w.levels.length ∧ (∀ j, j < k → ¬ lastBad w most j) ∧ lo = (lastO w most k).Lo ∧ hi = (lastO w most k).Hi) ((0, 0, 0)) rfl (.refl _) (.cons rfl (.cons rfl (.cons rfl (.cons rfl (.cons rfl (.cons rfl (.cons rfl .nil))))))) ?_ ?_
 ·exact ⟨Nat.zero_le _, fun j hj => absurd hj (Nat.not_lt_zero _), rfl, rfl⟩
 ·rintro ⟨k, lo, hi⟩ hF10
  show WK _ _ m [blk b9 33 [.int .i64 (lo), .int .i64 (hi)], blk b8 33 [.int .i64 (0), .int .i64 (0)], blk b7 121 [v1, v3]] [(1, .int .i64 (most)), (2, .pointer (some ⟨b7, 0, none⟩)), (4, .pointer (some ⟨b8, 0, none⟩)), (6, .pointer (some ⟨b9, 0, none⟩)), (12, v1), (13, .int .i64 (↑w.levels.length)), (14, .int .i64 (↑k))] _
  replace hF10 : k ≤ w.levels.length ∧ (∀ j, j < k → ¬ lastBad w most j) ∧ lo = (lastO w most k).Lo ∧ hi = (lastO w most k).Hi := hF10
  obtain ⟨hk, hall, hlo, hhi⟩ := hF10
  have hob := lastO_bd hww hm hk
  have hlb := fun h => hww.lb k h
  refine WC.seq ?_
  refine WC.region ?_
  refine WL.cond (X.lss rfl rfl) (by decide) (fun h11 => ?_) (fun h11 => ?_)
  ·refine WL.nil ?_
   refine WK.nThen ?_
   refine WC.seq ?_
   refine WC.condT rfl ?_
   refine WC.skip ?_
   refine WK.nThen ?_
   refine WC.seq ?_
   refine WC.block ?_
   refine WC.seq ?_
   refine WC.region ?_
   refine WL.x (X.move rfl) (by decide) ?_
   refine WL.xe (E.idxN k Try.runUnderlying74 Try.sizeOf33 rfl rfl hs2 (by omega)) (by decide) (fun p12 hp13 => ?_)
   refine WL.xe (E.loadAgg Try.isAgg33 Try.sizeOf33 rfl hp13) (by decide) (fun c14 hc15 => ?_)
   obtain rfl := hc15
   refine WL.tn (T.alloc Try.zeroValue33 rfl) (by decide) fun b16 => ?_
   refine WL.x (X.assign rfl) (by decide) ?_
   refine WL.ts (T.storeBA (k := 0) Try.sizeOf33 rfl rfl rfl (one_cons rfl (one_cons rfl one_nil)) rfl rfl) ?_
   refine WL.nil ?_
   refine WK.nThen ?_
   refine WC.seq ?_
   refine WC.region ?_
   refine WL.x (X.field Try.runUnderlying33 rfl Try.sizeOf3 rfl) (by decide) ?_
   refine WL.x (X.loadB (k := 0) Try.isAgg3 rfl rfl rfl) (by decide) ?_
   refine WL.x (X.move rfl) (by decide) ?_
   refine WL.x (X.sub rfl rfl (by omega) (by omega)) (by decide) ?_
   refine WL.x (X.field Try.runUnderlying33 rfl Try.sizeOf3 rfl) (by decide) ?_
   refine WL.x (X.loadB (k := 0) Try.isAgg3 rfl rfl rfl) (by decide) ?_
   refine WL.x (V := Value.agg [.int .i64 (((gt w.levels k).Lo) - most), .int .i64 ((gt w.levels k).Hi)].toArray) (X.build Try.zeroValue33 Try.runUnderlying33 (places33 _ Try.underlying33) rfl rfl) (by decide) ?_
   refine WL.tn (T.alloc Try.zeroValue33 rfl) (by decide) fun b17 => ?_
   refine WL.ts (T.storeBA (k := 0) Try.sizeOf33 rfl rfl rfl (one_cons rfl (one_cons rfl one_nil)) rfl rfl) ?_
   refine WL.nil ?_
   refine WK.nThen ?_
   refine WC.seq ?_
   refine WC.seq ?_
   refine WC.region ?_
   refine WL.x (X.move rfl) (by decide) ?_
   refine WL.cond (X.eql rfl rfl) (by decide) (fun h18 => ?_) (fun h18 => ?_)
   ·refine WL.nil ?_
    refine WK.nThen ?_
    refine WC.condT rfl ?_
    refine WC.seq ?_
    refine WC.region ?_
    refine WL.x (X.loadBA (k := 0) Try.isAgg33 Try.sizeOf33 rfl rfl rfl) (by decide) ?_
    refine WL.ts (T.storeBA (k := 2) Try.sizeOf33 rfl rfl rfl (one_cons rfl (one_cons rfl one_nil)) rfl rfl) ?_
    refine WL.nil ?_
    refine WK.nThen ?_
    refine WC.exit ?_
    refine WK.eThen ?_
    refine WK.eHit ?_
    refine WK.nThen ?_
    refine WC.region ?_
    refine WL.x (X.add rfl rfl (by omega) (by omega)) (by decide) ?_
    refine WL.x (X.move rfl) (by decide) ?_
    refine WL.nil ?_
    refine WK.nThen ?_
    refine WK.next ((k + 1, ((gt w.levels k).Lo) - most, (gt w.levels k).Hi)) rfl (.cons _ (.cons _ (.refl _))) (.cons rfl (.cons rfl (.cons rfl (.cons rfl (.cons rfl (.cons rfl (.cons rfl .nil))))))) ?_ ?_
    ·first | exact ⟨by omega, fun j hj => by rcases Nat.lt_succ_iff_lt_or_eq.1 hj with h | h; exact hall j h; subst h; unfold lastBad; omega, by rw [show k = 0 by omega, lastO_one], by rw [show k = 0 by omega, lastO_one]⟩ | exact ⟨by omega, fun j hj => by rcases Nat.lt_succ_iff_lt_or_eq.1 hj with h | h; exact hall j h; subst h; unfold lastBad; have hq := lastO_succ (w := w) (most := most) (k := j) (by omega); unfold lastO at hq; rw [if_neg (by omega), Nat.add_sub_cancel] at hq; rw [hq]; rw [hlo, hhi] at *; unfold lastO at *; dsimp only; omega, by rw [lastO_succ (by omega), hlo], by rw [lastO_succ (by omega), hhi]⟩
    ·(dsimp only; omega)
   ·refine WL.nil ?_
    refine WK.nThen ?_
    refine WC.condF rfl ?_
    refine WC.skip ?_
    refine WK.nThen ?_
    refine WC.seq ?_
    have hxb := hww.xb (k - 1) (by omega)
    refine WC.region ?_
    refine WL.x (X.field Try.runUnderlying121 rfl Try.sizeOf74 rfl) (by decide) ?_
    refine WL.x (X.loadB (k := 4) Try.isAgg74 rfl rfl rfl) (by decide) ?_
    refine WL.x (X.move rfl) (by decide) ?_
    refine WL.x (X.sub rfl rfl (by omega) (by omega)) (by decide) ?_
    refine WL.xe (E.idxE (k - 1) Try.runUnderlying74 Try.sizeOf33 rfl rfl hs4 (by omega) (by omega)) (by decide) (fun p19 hp20 => ?_)
    refine WL.xe (E.loadAgg Try.isAgg33 Try.sizeOf33 rfl hp20) (by decide) (fun c21 hc22 => ?_)
    obtain rfl := hc22
    refine WL.tn (T.alloc Try.zeroValue33 rfl) (by decide) fun b23 => ?_
    refine WL.ts (T.storeBA (k := 0) Try.sizeOf33 rfl rfl rfl (one_cons rfl (one_cons rfl one_nil)) rfl rfl) ?_
    refine WL.nil ?_
    refine WK.nThen ?_
    refine WC.seq ?_
    refine WC.region ?_
    refine WL.x (X.field Try.runUnderlying33 rfl Try.sizeOf3 rfl) (by decide) ?_
    refine WL.x (X.loadB (k := 1) Try.isAgg3 rfl rfl rfl) (by decide) ?_
    refine WL.x (X.field Try.runUnderlying33 rfl Try.sizeOf3 rfl) (by decide) ?_
    refine WL.x (X.loadB (k := 3) Try.isAgg3 rfl rfl rfl) (by decide) ?_
    refine WL.x (X.field Try.runUnderlying33 rfl Try.sizeOf3 rfl) (by decide) ?_
    refine WL.x (X.loadB (k := 0) Try.isAgg3 rfl rfl rfl) (by decide) ?_
    refine WL.x (X.add rfl rfl (by omega) (by omega)) (by decide) ?_
    refine WL.x (X.mx rfl rfl) (by decide) ?_
    refine WL.x (X.field Try.runUnderlying33 rfl Try.sizeOf3 rfl) (by decide) ?_
    refine WL.x (X.loadB (k := 1) Try.isAgg3 rfl rfl rfl) (by decide) ?_
    refine WL.x (X.field Try.runUnderlying33 rfl Try.sizeOf3 rfl) (by decide) ?_
    refine WL.x (X.loadB (k := 3) Try.isAgg3 rfl rfl rfl) (by decide) ?_
    refine WL.x (X.field Try.runUnderlying33 rfl Try.sizeOf3 rfl) (by decide) ?_
    refine WL.x (X.loadB (k := 0) Try.isAgg3 rfl rfl rfl) (by decide) ?_
    refine WL.x (X.add rfl rfl (by omega) (by omega)) (by decide) ?_
    refine WL.x (X.mn rfl rfl) (by decide) ?_
    refine WL.x (V := Value.agg [.int .i64 (max (((gt w.levels k).Lo) - most) (lo + ((gt w.shifts (k - 1)).Lo))), .int .i64 (min ((gt w.levels k).Hi) (hi + ((gt w.shifts (k - 1)).Hi)))].toArray) (X.build Try.zeroValue33 Try.runUnderlying33 (places33 _ Try.underlying33) rfl rfl) (by decide) ?_
    refine WL.ts (T.storeBA (k := 3) Try.sizeOf33 rfl rfl rfl (one_cons rfl (one_cons rfl one_nil)) rfl rfl) ?_
    refine WL.nil ?_
    refine WK.nThen ?_
    refine WC.seq ?_
    refine WC.region ?_
    refine WL.x (X.field Try.runUnderlying33 rfl Try.sizeOf3 rfl) (by decide) ?_
    refine WL.x (X.loadB (k := 3) Try.isAgg3 rfl rfl rfl) (by decide) ?_
    refine WL.x (X.field Try.runUnderlying33 rfl Try.sizeOf3 rfl) (by decide) ?_
    refine WL.x (X.loadB (k := 3) Try.isAgg3 rfl rfl rfl) (by decide) ?_
    refine WL.cond (X.gtr rfl rfl) (by decide) (fun h24 => ?_) (fun h24 => ?_)
    ·refine WL.nil ?_
     refine WK.nThen ?_
     refine WC.condT rfl ?_
     refine WC.seq ?_
     refine WC.region ?_
     refine WL.x (X.loadBA (k := 3) Try.isAgg33 Try.sizeOf33 rfl rfl rfl) (by decide) ?_
     refine WL.ts (T.storeBA (k := 4) Try.sizeOf33 rfl rfl rfl (one_cons rfl (one_cons rfl one_nil)) rfl rfl) ?_
     refine WL.x (X.assign rfl) (by decide) ?_
     refine WL.nil ?_
     refine WK.nThen ?_
     refine WC.ret ?_
     refine WK.rBlock ?_
     refine WK.rThen ?_
     refine WK.rThen ?_
     refine WK.rBlock ?_
     refine WK.rThen ?_
     refine WK.retC2 4 rfl rfl rfl rfl Try.isAgg33 Try.sizeOf33 (fun w' hw' => Ret.exact hw' ?_)
     first | (have hq := lastR_ok (w := w) (most := most) (fun j hj => hall j (by omega)); exact tup2 (agg2i (by rw [hq, hlo, show k = w.levels.length by omega]) (by rw [hq, hhi, show k = w.levels.length by omega])) (bool_eq (by rw [hq]))) | (have hs := lastO_succ (w := w) (most := most) (k := k) (by omega); have hq0 : lastO w most (k + 1) = lastAt w most k := (by unfold lastO; rw [if_neg (by omega), Nat.add_sub_cancel]); rw [hq0] at hs; have hq := lastR_bad (w := w) (most := most) (k := k) (by omega) hall ⟨by omega, by rw [hs]; dsimp only; omega⟩; exact tup2 (agg2i (by rw [hq, hs, hlo]) (by rw [hq, hs, hhi])) (bool_eq (by rw [hq])))
    ·refine WL.nil ?_
     refine WK.nThen ?_
     refine WC.condF rfl ?_
     refine WC.skip ?_
     refine WK.nBlock ?_
     refine WK.nThen ?_
     refine WC.region ?_
     refine WL.x (X.add rfl rfl (by omega) (by omega)) (by decide) ?_
     refine WL.x (X.move rfl) (by decide) ?_
     refine WL.nil ?_
     refine WK.nThen ?_
     refine WK.next ((k + 1, max (((gt w.levels k).Lo) - most) (lo + ((gt w.shifts (k - 1)).Lo)), min ((gt w.levels k).Hi) (hi + ((gt w.shifts (k - 1)).Hi)))) rfl (.cons _ (.cons _ (.cons _ (.refl _)))) (.cons rfl (.cons rfl (.cons rfl (.cons rfl (.cons rfl (.cons rfl (.cons rfl .nil))))))) ?_ ?_
     ·first | exact ⟨by omega, fun j hj => by rcases Nat.lt_succ_iff_lt_or_eq.1 hj with h | h; exact hall j h; subst h; unfold lastBad; omega, by rw [show k = 0 by omega, lastO_one], by rw [show k = 0 by omega, lastO_one]⟩ | exact ⟨by omega, fun j hj => by rcases Nat.lt_succ_iff_lt_or_eq.1 hj with h | h; exact hall j h; subst h; unfold lastBad; have hq := lastO_succ (w := w) (most := most) (k := j) (by omega); unfold lastO at hq; rw [if_neg (by omega), Nat.add_sub_cancel] at hq; rw [hq]; rw [hlo, hhi] at *; unfold lastO at *; dsimp only; omega, by rw [lastO_succ (by omega), hlo], by rw [lastO_succ (by omega), hhi]⟩
     ·(dsimp only; omega)
  ·refine WL.nil ?_
   refine WK.nThen ?_
   refine WC.seq ?_
   refine WC.condF rfl ?_
   refine WC.exit ?_
   refine WK.eThen ?_
   refine WK.eThen ?_
   refine WK.eHit ?_
   refine WK.nThen ?_
   refine WC.seq ?_
   refine WC.region ?_
   refine WL.x (X.loadBA (k := 0) Try.isAgg33 Try.sizeOf33 rfl rfl rfl) (by decide) ?_
   refine WL.ts (T.storeBA (k := 1) Try.sizeOf33 rfl rfl rfl (one_cons rfl (one_cons rfl one_nil)) rfl rfl) ?_
   refine WL.x (X.assign rfl) (by decide) ?_
   refine WL.nil ?_
   refine WK.nThen ?_
   refine WC.ret ?_
   refine WK.retC2 1 rfl rfl rfl rfl Try.isAgg33 Try.sizeOf33 (fun w' hw' => Ret.exact hw' ?_)
   first | (have hq := lastR_ok (w := w) (most := most) (fun j hj => hall j (by omega)); exact tup2 (agg2i (by rw [hq, hlo, show k = w.levels.length by omega]) (by rw [hq, hhi, show k = w.levels.length by omega])) (bool_eq (by rw [hq]))) | (have hs := lastO_succ (w := w) (most := most) (k := k) (by omega); have hq0 : lastO w most (k + 1) = lastAt w most k := (by unfold lastO; rw [if_neg (by omega), Nat.add_sub_cancel]); rw [hq0] at hs; have hq := lastR_bad (w := w) (most := most) (k := k) (by omega) hall ⟨by omega, by rw [hs]; dsimp only; omega⟩; exact tup2 (agg2i (by rw [hq, hs, hlo]) (by rw [hq, hs, hhi])) (bool_eq (by rw [hq])))

theorem even96 (m : Mem) (cw : List Value) (w : Win) (hw : Enc.rd m cw w) (most : Int)  (hww : WinW w) (hm : 0 ≤ most ∧ most ≤ 24000) : Exact Try.prog 96 #[.agg cw.toArray, .int .i64 (most)] m (.bool ((lastR w most).2)) := by
 obtain ⟨v1, v3, rfl, hs2, hs4⟩ := hw
 have hl5 := hs2.le
 have hl6 := hs4.le
 refine Exact.start Try.func96 rfl Try.ntmps96 rfl fun wld => ?_
 refine WC.seq ?_
 refine WC.region ?_
 refine WL.tn (T.boxB rfl rfl) (by decide) fun b7 => ?_
 refine WL.x (X.assign rfl) (by decide) ?_
 refine WL.nil ?_
 refine WK.nThen ?_
 refine WC.seq ?_
 refine WC.region ?_
 refine WL.x (X.loadBA (k := 0) Try.isAgg121 Try.sizeOf121 rfl rfl rfl) (by decide) ?_
 refine WL.x (X.move rfl) (by decide) ?_
 refine WL.x (X.call Try.call91 rfl (last91 _ _ w ⟨_, _, rfl, hs2, hs4⟩ _ (by first | exact win_w (by assumption) (by omega) (by omega) | assumption) (by omega))) (by decide) ?_
 refine WL.x (X.move rfl) (by decide) ?_
 refine WL.x (X.extract rfl rfl) (by decide) ?_
 refine WL.x (X.extract rfl rfl) (by decide) ?_
 refine WL.tn (T.alloc Try.zeroValue33 rfl) (by decide) fun b8 => ?_
 refine WL.ts (T.storeBA (k := 0) Try.sizeOf33 rfl rfl rfl (one_cons rfl (one_cons rfl one_nil)) rfl rfl) ?_
 refine WL.x (X.assign rfl) (by decide) ?_
 refine WL.nil ?_
 refine WK.nThen ?_
 refine WC.seq ?_
 refine WC.region ?_
 refine WL.x (X.move rfl) (by decide) ?_
 refine WL.x (X.assign rfl) (by decide) ?_
 refine WL.nil ?_
 refine WK.nThen ?_
 refine WC.ret ?_
 refine WK.ret1 rfl rfl (fun w' hw' => Ret.exact hw' ?_)
 rfl

theorem win95 (m : Mem) {cr : List Value} {r : Ser} (hr : Enc.rd m cr r) (hok : Ok r) (a b : Nat) (ia ib : Int) (hia : ia = a) (hib : ib = b) (hab : a ≤ b) (hb : b < r.Values.length) : Pure Try.prog 95 #[.agg cr.toArray, .int .i64 ia, .int .i64 ib] m (fun m' v => ∃ c0, v = .agg c0.toArray ∧ Enc.rd m' c0 (winOf r a b)) := by
 obtain ⟨v1, v3, rfl, hs2, hs4⟩ := hr
 have hl5 := hs2.le
 have hl6 := hs4.le
 subst hia
 subst hib
 have hnV := hok.nV
 have hnX := hok.nX
 refine Pure.start Try.func95 rfl Try.ntmps95 rfl fun wld => ?_
 refine WC.seq ?_
 refine WC.region ?_
 refine WL.tn (T.boxB rfl rfl) (by decide) fun b7 => ?_
 refine WL.tn (T.alloc Try.zeroValue121 rfl) (by decide) fun b8 => ?_
 refine WL.nil ?_
 refine WK.nThen ?_
 refine WC.seq ?_
 refine WC.region ?_
 refine WL.tn (T.alloc Try.zeroValue121 rfl) (by decide) fun b9 => ?_
 refine WL.nil ?_
 refine WK.nThen ?_
 refine WC.seq ?_
 refine WC.seq ?_
 refine WK.ownF Span 33 ?_
 refine WK.ownF Span 33 ?_
 refine WC.region ?_
 refine WL.x (X.move rfl) (by decide) ?_
 refine WL.x (X.assign rfl) (by decide) ?_
 refine WL.nil ?_
 refine WK.nThen ?_
 refine WC.block ?_
 refine WC.loop (G := Nat × Value × Value) (fun (d, va, vb) => b + 1 - d) (fun (d, va, vb) => m) (fun (d, va, vb) => [rowF (vb) 33 ((List.range (d - 1)).map fun j => bt r.Shifts (gt r.Values (a + j)).Time (gt r.Values (a + j + 1)).Time), rowF (va) 33 ((List.range d).map fun j => (gt r.Values (a + j)).Levels), blk b9 121 [va, vb], blk b8 121 [.slice none 0 0, .slice none 0 0], blk b7 111 [v1, v3]]) (fun (d, va, vb) => [(1, .int .i64 (↑a)), (2, .int .i64 (↑b)), (3, .pointer (some ⟨b7, 0, none⟩)), (6, .pointer (some ⟨b8, 0, none⟩)), (7, .pointer (some ⟨b9, 0, none⟩)), (8, .int .i64 (↑(a + d)))]) (fun (d, va, vb) => a + d ≤ b + 1) ((0, Value.slice none 0 0, (Value.slice none 0 0))) rfl (.refl _) (.cons rfl (.cons rfl (.cons rfl (.cons rfl (.cons rfl (.cons rfl .nil)))))) ?_ ?_
 ·show a + 0 ≤ b + 1; omega
 ·rintro ⟨d, va, vb⟩ hF10
  show WK _ _ m [rowF (vb) 33 ((List.range (d - 1)).map fun j => bt r.Shifts (gt r.Values (a + j)).Time (gt r.Values (a + j + 1)).Time), rowF (va) 33 ((List.range d).map fun j => (gt r.Values (a + j)).Levels), blk b9 121 [va, vb], blk b8 121 [.slice none 0 0, .slice none 0 0], blk b7 111 [v1, v3]] [(1, .int .i64 (↑a)), (2, .int .i64 (↑b)), (3, .pointer (some ⟨b7, 0, none⟩)), (6, .pointer (some ⟨b8, 0, none⟩)), (7, .pointer (some ⟨b9, 0, none⟩)), (8, .int .i64 (↑(a + d)))] _
  replace hF10 : a + d ≤ b + 1 := hF10
  have hd := hF10
  refine WC.seq ?_
  refine WC.seq ?_
  refine WC.region ?_
  refine WL.x (X.move rfl) (by decide) ?_
  refine WL.x (X.move rfl) (by decide) ?_
  refine WL.cond (X.leq rfl rfl) (by decide) (fun h11 => ?_) (fun h11 => ?_)
  ·refine WL.nil ?_
   refine WK.nThen ?_
   refine WC.condT rfl ?_
   refine WC.skip ?_
   refine WK.nThen ?_
   refine WC.seq ?_
   refine WC.block ?_
   refine WC.seq ?_
   refine WC.draw (π := (.cons 0 (.cons 1 (.cons 2 (.cons 3 (.cons 4 (.cons 5 (.cons 6 (.cons 7 (.cons 8 (.cons 9 (.cons 10 (.cons 11 (.cons 12 .done)))))))))))))) [9, 10, 12] [10, 12] rfl (by kernel_rfl) ?_
   refine DW.x rfl rfl (X.field Try.runUnderlying121 rfl Try.sizeOf74 rfl) (by decide) ?_
   refine DW.x rfl rfl (X.loadB (k := 2) Try.isAgg74 rfl rfl rfl) (by decide) ?_
   refine DW.x rfl rfl (X.field Try.runUnderlying111 rfl Try.sizeOf25 rfl) (by decide) ?_
   refine DW.x rfl rfl (X.field Try.runUnderlying25 rfl Try.sizeOf22 rfl) (by decide) ?_
   refine DW.x rfl rfl (X.loadB (k := 4) Try.isAgg22 rfl rfl rfl) (by decide) ?_
   refine DW.x rfl rfl (X.move rfl) (by decide) ?_
   refine DW.xe rfl rfl (E.idxE ((a + d)) Try.runUnderlying22 Try.sizeOf62 rfl rfl hs2 (by omega) (by omega)) (by decide) (fun p12 hp13 => ?_)
   have hp14 := At.Val_1 hp13
   refine DW.x rfl rfl (X.field Try.runUnderlying62 rfl Try.sizeOf33 rfl) (by decide) ?_
   refine DW.xe rfl rfl (E.loadAgg Try.isAgg33 Try.sizeOf33 rfl hp14) (by decide) (fun c15 hc16 => ?_)
   obtain rfl := hc16
   refine DW.tl rfl rfl rfl (T.lit1 sl74 rfl rfl rfl (by decide)) (by decide) fun b17 => ?_
   refine DW.ta rfl rfl rfl rfl (T.appendF (k := 1) (a := (gt r.Values ((a + d))).Levels) sl74 rfl rfl rfl rfl (by first | omega | (simp; done) | (simp; omega)) (by decide)) (by decide) (fun v18 => ?_)
   refine DW.x rfl rfl (X.field Try.runUnderlying121 rfl Try.sizeOf74 rfl) (by decide) ?_
   refine DW.ts rfl rfl rfl rfl (OpTo.own1 (k := 1) rfl trivial (defd2 rfl rfl rfl) fun ho19 => T.storeB (k := 2) Try.sizeOf74 rfl rfl rfl ho19 (Nat.le_of_ble_eq_true rfl)) ?_
   refine DW.nil ?_
   refine WK.nThen ?_
   refine WC.seq ?_
   refine WC.region ?_
   refine WL.x (X.move rfl) (by decide) ?_
   refine WL.x (X.move rfl) (by decide) ?_
   refine WL.cond (X.gtr rfl rfl) (by decide) (fun h20 => ?_) (fun h20 => ?_)
   ·refine WL.nil ?_
    refine WK.nThen ?_
    refine WC.condT rfl ?_
    refine WC.draw (π := (.cons 0 (.cons 1 (.cons 2 (.cons 3 (.cons 4 (.cons 5 (.cons 6 (.cons 7 (.cons 8 (.cons 9 (.cons 10 (.cons 11 (.cons 12 (.cons 13 (.cons 14 (.cons 15 (.cons 16 (.cons 17 (.cons 18 (.cons 19 (.cons 20 (.cons 21 (.cons 22 .done)))))))))))))))))))))))) [19, 20, 22] [20, 22] rfl (by kernel_rfl) ?_
    refine DW.x rfl rfl (X.field Try.runUnderlying121 rfl Try.sizeOf74 rfl) (by decide) ?_
    refine DW.x rfl rfl (X.loadB (k := 2) Try.isAgg74 rfl rfl rfl) (by decide) ?_
    refine DW.x rfl rfl (X.loadBA (k := 4) Try.isAgg111 Try.sizeOf111 rfl rfl rfl) (by decide) ?_
    refine DW.x rfl rfl (X.field Try.runUnderlying111 rfl Try.sizeOf25 rfl) (by decide) ?_
    refine DW.x rfl rfl (X.field Try.runUnderlying25 rfl Try.sizeOf22 rfl) (by decide) ?_
    refine DW.x rfl rfl (X.loadB (k := 4) Try.isAgg22 rfl rfl rfl) (by decide) ?_
    refine DW.x rfl rfl (X.move rfl) (by decide) ?_
    refine DW.x rfl rfl (X.sub rfl rfl (by omega) (by omega)) (by decide) ?_
    refine DW.xe rfl rfl (E.idxE ((a + d) - 1) Try.runUnderlying22 Try.sizeOf62 rfl rfl hs2 (by omega) (by omega)) (by decide) (fun p21 hp22 => ?_)
    have hp23 := At.Val_0 hp22
    refine DW.x rfl rfl (X.field Try.runUnderlying62 rfl Try.sizeOf3 rfl) (by decide) ?_
    refine DW.x rfl rfl (X.loadInt Try.isAgg3 rfl hp23) (by decide) ?_
    refine DW.x rfl rfl (X.field Try.runUnderlying111 rfl Try.sizeOf25 rfl) (by decide) ?_
    refine DW.x rfl rfl (X.field Try.runUnderlying25 rfl Try.sizeOf22 rfl) (by decide) ?_
    refine DW.x rfl rfl (X.loadB (k := 4) Try.isAgg22 rfl rfl rfl) (by decide) ?_
    refine DW.x rfl rfl (X.move rfl) (by decide) ?_
    refine DW.xe rfl rfl (E.idxE ((a + d)) Try.runUnderlying22 Try.sizeOf62 rfl rfl hs2 (by omega) (by omega)) (by decide) (fun p24 hp25 => ?_)
    have hp26 := At.Val_0 hp25
    refine DW.x rfl rfl (X.field Try.runUnderlying62 rfl Try.sizeOf3 rfl) (by decide) ?_
    refine DW.x rfl rfl (X.loadInt Try.isAgg3 rfl hp26) (by decide) ?_
    refine DW.x rfl rfl (X.call Try.call99 rfl (between99 _ _ r ⟨_, _, rfl, hs2, hs4⟩ _ _ (by assumption))) (by decide) ?_
    refine DW.tl rfl rfl rfl (T.lit1 sl74 rfl rfl rfl (by decide)) (by decide) fun b27 => ?_
    refine DW.ta rfl rfl rfl rfl (T.appendF (k := 0) (a := bt r.Shifts (((gt r.Values ((a + d) - 1)).Time)) (((gt r.Values ((a + d))).Time))) sl74 rfl rfl rfl rfl (by first | omega | (simp; done) | (simp; omega)) (by decide)) (by decide) (fun v28 => ?_)
    refine DW.x rfl rfl (X.field Try.runUnderlying121 rfl Try.sizeOf74 rfl) (by decide) ?_
    refine DW.ts rfl rfl rfl rfl (OpTo.own1 (k := 0) rfl trivial (defd2 rfl rfl rfl) fun ho29 => T.storeB (k := 2) Try.sizeOf74 rfl rfl rfl ho29 (Nat.le_of_ble_eq_true rfl)) ?_
    refine DW.nil ?_
    refine WK.nBlock ?_
    refine WK.nThen ?_
    refine WC.region ?_
    refine WL.x (X.move rfl) (by decide) ?_
    refine WL.x (X.add rfl rfl (by omega) (by omega)) (by decide) ?_
    refine WL.x (X.assign rfl) (by decide) ?_
    refine WL.nil ?_
    refine WK.nThen ?_
    have he30 : (((List.range d).map fun j => (gt r.Values (a + j)).Levels) ++ [(gt r.Values ((a + d))).Levels]) = ((List.range (d + 1)).map fun j => (gt r.Values (a + j)).Levels) := map_succ _ _
    rw [he30]
    have he31 : (((List.range (d - 1)).map fun j => bt r.Shifts (gt r.Values (a + j)).Time (gt r.Values (a + j + 1)).Time) ++ [bt r.Shifts (((gt r.Values ((a + d) - 1)).Time)) (((gt r.Values ((a + d))).Time))]) = ((List.range (d + 1 - 1)).map fun j => bt r.Shifts (gt r.Values (a + j)).Time (gt r.Values (a + j + 1)).Time) := (by first | exact win_snoc1 (by omega) | exact win_none (by omega))
    rw [he31]
    refine WK.next ((d + 1, v18, v28)) rfl (.refl _) (.cons rfl (.cons rfl (.cons rfl (.cons rfl (.cons rfl (.cons rfl .nil)))))) ?_ ?_
    ·omega
    ·(dsimp only; omega)
   ·refine WL.nil ?_
    refine WK.nThen ?_
    refine WC.condF rfl ?_
    refine WC.skip ?_
    refine WK.nBlock ?_
    refine WK.nThen ?_
    refine WC.region ?_
    refine WL.x (X.move rfl) (by decide) ?_
    refine WL.x (X.add rfl rfl (by omega) (by omega)) (by decide) ?_
    refine WL.x (X.assign rfl) (by decide) ?_
    refine WL.nil ?_
    refine WK.nThen ?_
    have he32 : (((List.range d).map fun j => (gt r.Values (a + j)).Levels) ++ [(gt r.Values ((a + d))).Levels]) = ((List.range (d + 1)).map fun j => (gt r.Values (a + j)).Levels) := map_succ _ _
    rw [he32]
    have he33 : ((List.range (d - 1)).map fun j => bt r.Shifts (gt r.Values (a + j)).Time (gt r.Values (a + j + 1)).Time) = ((List.range (d + 1 - 1)).map fun j => bt r.Shifts (gt r.Values (a + j)).Time (gt r.Values (a + j + 1)).Time) := (by first | exact win_snoc1 (by omega) | exact win_none (by omega))
    rw [he33]
    refine WK.next ((d + 1, v18, vb)) rfl (.refl _) (.cons rfl (.cons rfl (.cons rfl (.cons rfl (.cons rfl (.cons rfl .nil)))))) ?_ ?_
    ·omega
    ·(dsimp only; omega)
  ·refine WL.nil ?_
   refine WK.nThen ?_
   refine WC.condF rfl ?_
   refine WC.exit ?_
   refine WK.eThen ?_
   refine WK.eThen ?_
   refine WK.eHit ?_
   refine WK.nThen ?_
   refine WC.seq ?_
   obtain rfl : d = b + 1 - a := (by omega)
   refine WC.region ?_
   refine WL.x (X.loadBA (k := 2) Try.isAgg121 Try.sizeOf121 rfl rfl rfl) (by decide) ?_
   refine WL.own1 (k := 1) rfl (fun ho34 => ?_)
   refine WL.own1 (k := 0) rfl (fun ho35 => ?_)
   refine WL.ts (T.storeBA (k := 3) Try.sizeOf121 rfl rfl rfl (one_cons ho34 (one_cons ho35 one_nil)) rfl rfl) ?_
   refine WL.nil ?_
   refine WK.nThen ?_
   refine WC.ret ?_
   refine WK.freezeF 1 rfl rfl (by simp [lenB]; omega) (fun m36 hle37 hs38 => ?_)
   replace hs2 := hs2.mono hle37
   replace hs4 := hs4.mono hle37
   refine WK.freezeF 0 rfl rfl (by simp [lenB]; omega) (fun m39 hle40 hs41 => ?_)
   replace hs2 := hs2.mono hle40
   replace hs4 := hs4.mono hle40
   replace hs38 := hs38.mono hle40
   refine WK.retC1 1 rfl rfl rfl Try.isAgg121 Try.sizeOf121 (fun w' hw' => Ret.mem hw' ?_)
   exact ⟨_, rfl, ⟨_, _, rfl, hs38, hs41⟩⟩

theorem steps28 (m : Mem) (cs : List Value) (s : Ser) (hs : Enc.rd m cs s) (most : Int)   : Pure Try.prog 28 #[.agg cs.toArray, .int .i64 (most)] m (fun m' v => ∃ r1, v = .tuple #[.int .i64 (↑(stpR s most).1.length), r1, .int .i64 ((stpR s most).2)] ∧ Sl m' r1 ((stpR s most).1)) := by
 obtain ⟨v1, v3, rfl, hs2, hs4⟩ := hs
 have hl5 := hs2.le
 have hl6 := hs4.le
 refine Pure.start Try.func28 rfl Try.ntmps28 rfl fun wld => ?_
 refine WC.seq ?_
 refine WC.region ?_
 refine WL.tn (T.boxB rfl rfl) (by decide) fun b7 => ?_
 refine WL.x (X.assign rfl) (by decide) ?_
 refine WL.x (X.assign rfl) (by decide) ?_
 refine WL.x (X.assign rfl) (by decide) ?_
 refine WL.nil ?_
 refine WK.nThen ?_
 refine WC.scope ?_
 refine WC.seq ?_
 refine WC.seq ?_
 refine WC.region ?_
 refine WL.x (X.loadBA (k := 0) Try.isAgg25 Try.sizeOf25 rfl rfl rfl) (by decide) ?_
 refine WL.tm (T.litM (α := Ser) (vals := [.agg [v1, v3].toArray]) (L := [s]) sl179 rfl (.cons rfl ⟨_, _, rfl, hs2, hs4⟩ .nil) rfl rfl) (by decide) (fun m8 v9 hle10 hs11 => ?_)
 replace hs2 := hs2.mono hle10
 replace hs4 := hs4.mono hle10
 refine WL.x (X.call Try.call81 rfl (checked81_1 _ _ hs11)) (by decide) ?_
 refine WL.x (X.assign rfl) (by decide) ?_
 refine WL.nil ?_
 refine WK.nThen ?_
 refine WC.seq ?_
 refine WC.region ?_
 refine WL.x (X.move rfl) (by decide) ?_
 refine WL.condn (X.neq rfl rfl) (by decide) (fun h12 => ?_) (fun h12 => ?_)
 ·refine WL.nil ?_
  refine WK.nThen ?_
  refine WC.condT rfl ?_
  refine WC.seq ?_
  refine WC.region ?_
  refine WL.x (X.move rfl) (by decide) ?_
  refine WL.x (X.assign rfl) (by decide) ?_
  refine WL.x (X.assign rfl) (by decide) ?_
  refine WL.x (X.assign rfl) (by decide) ?_
  refine WL.nil ?_
  refine WK.nThen ?_
  refine WC.ret ?_
  refine WK.rThen ?_
  refine WK.rScope ?_
  refine WK.ret3 rfl rfl rfl rfl (fun w' hw' => Ret.mem hw' ?_)
  first | exact ⟨_, tup3 (int_eq (by rw [stpR_err (by omega)]; rfl)) rfl (int_eq (by rw [stpR_err (by omega)])), by rw [stpR_err (by omega)]; exact .nil⟩ | exact ⟨_, tup3 (int_eq (by rw [stpR_arg (by omega) (by omega)]; rfl)) rfl (int_eq (by rw [stpR_arg (by omega) (by omega)])), by rw [stpR_arg (by omega) (by omega)]; exact .nil⟩
 ·refine WL.nil ?_
  refine WK.nThen ?_
  refine WC.condF rfl ?_
  refine WC.skip ?_
  refine WK.nThen ?_
  refine WC.seq ?_
  refine WC.seq ?_
  have hok := Ok.of (s := s) (by omega)
  have hnV := hok.nV
  refine WC.region ?_
  refine WL.x (X.move rfl) (by decide) ?_
  refine WL.cond (X.call Try.call82 rfl (within82 _ _ _ _ )) (by decide) (fun h13 => ?_) (fun h13 => ?_)
  ·refine WL.x (X.not rfl) (by decide) ?_
   refine WL.nil ?_
   refine WK.nThen ?_
   refine WC.condF rfl ?_
   refine WC.skip ?_
   refine WK.nThen ?_
   refine WC.seq ?_
   refine WC.region ?_
   refine WL.x (X.loadBA (k := 0) Try.isAgg25 Try.sizeOf25 rfl rfl rfl) (by decide) ?_
   refine WL.x (V := Value.agg [v1, v3].toArray) (X.build Try.zeroValue111 Try.runUnderlying111 (places111 _ Try.underlying111) rfl rfl) (by decide) ?_
   refine WL.tn (T.alloc Try.zeroValue111 rfl) (by decide) fun b14 => ?_
   refine WL.ts (T.storeBA (k := 0) Try.sizeOf111 rfl rfl rfl (one_cons hs2.one (one_cons hs4.one one_nil)) rfl rfl) ?_
   refine WL.nil ?_
   refine WK.nThen ?_
   refine WC.seq ?_
   refine WK.ownF Int 3 ?_
   refine WC.region ?_
   refine WL.x (X.assign rfl) (by decide) ?_
   refine WL.nil ?_
   refine WK.nThen ?_
   refine WC.seq ?_
   refine WC.region ?_
   refine WL.x (X.assign rfl) (by decide) ?_
   refine WL.nil ?_
   refine WK.nThen ?_
   refine WC.seq ?_
   refine WC.label ?_
   refine WK.nThen ?_
   refine WC.seq ?_
   refine WC.block ?_
   refine WC.loop (G := Nat × Value × List Int) (fun (a, vo, Lo) => s.Values.length - a) (fun (a, vo, Lo) => m8) (fun (a, vo, Lo) => [rowF (vo) 3 (Lo), blk b14 111 [v1, v3], blk b7 25 [v1, v3]]) (fun (a, vo, Lo) => [(1, .int .i64 (most)), (8, .pointer (some ⟨b14, 0, none⟩)), (9, vo), (10, .int .i64 (↑a))]) (fun (a, vo, Lo) => a ≤ s.Values.length ∧ Lo.length ≤ a ∧ Lo ++ stpF s most (s.Values.length - a) a = stpL s most) ((0, Value.slice none 0 0, [])) rfl (.refl _) (.cons rfl (.cons rfl (.cons rfl (.cons rfl .nil)))) ?_ ?_
   ·exact ⟨Nat.zero_le _, Nat.le_refl _, by simp [stpL]⟩
   ·rintro ⟨a, vo, Lo⟩ hF15
    show WK _ _ m8 [rowF (vo) 3 (Lo), blk b14 111 [v1, v3], blk b7 25 [v1, v3]] [(1, .int .i64 (most)), (8, .pointer (some ⟨b14, 0, none⟩)), (9, vo), (10, .int .i64 (↑a))] _
    replace hF15 : a ≤ s.Values.length ∧ Lo.length ≤ a ∧ Lo ++ stpF s most (s.Values.length - a) a = stpL s most := hF15
    obtain ⟨ha, hLo, hst⟩ := hF15
    refine WK.good (fun hgood0 => ?_)
    refine WC.seq ?_
    refine WC.seq ?_
    refine WC.region ?_
    refine WL.x (X.move rfl) (by decide) ?_
    refine WL.x (X.field Try.runUnderlying111 rfl Try.sizeOf25 rfl) (by decide) ?_
    refine WL.x (X.field Try.runUnderlying25 rfl Try.sizeOf22 rfl) (by decide) ?_
    refine WL.x (X.loadB (k := 1) Try.isAgg22 rfl rfl rfl) (by decide) ?_
    refine WL.x (X.len Try.runUnderlying22 rfl hs2) (by decide) ?_
    refine WL.cond (X.lss rfl rfl) (by decide) (fun h16 => ?_) (fun h16 => ?_)
    ·refine WL.nil ?_
     refine WK.nThen ?_
     refine WC.condT rfl ?_
     refine WC.skip ?_
     refine WK.nThen ?_
     refine WC.block ?_
     refine WC.seq ?_
     refine WC.seq ?_
     refine WC.region ?_
     refine WL.x (X.move rfl) (by decide) ?_
     refine WL.x (X.add rfl rfl (by first | omega | (simp; omega)) (by first | omega | (simp; omega))) (by decide) ?_
     refine WL.x (X.assign rfl) (by decide) ?_
     refine WL.nil ?_
     refine WK.nThen ?_
     refine WC.block ?_
     refine WC.loop (G := Nat) (fun b => s.Values.length - b) (fun b => m8) (fun b => [rowF (vo) 3 (Lo), blk b14 111 [v1, v3], blk b7 25 [v1, v3]]) (fun b => [(1, .int .i64 (most)), (8, .pointer (some ⟨b14, 0, none⟩)), (9, vo), (10, .int .i64 (↑a)), (11, .int .i64 (↑b))]) (fun b => (a + 1 ≤ b ∧ b ≤ s.Values.length) ∧ ∀ j, a + 1 + j < b → ¬ nxtP s most a j) (a + 1) rfl (.refl _) (.cons rfl (.cons rfl (.cons rfl (.cons rfl (.cons rfl .nil))))) ?_ ?_
     ·exact ⟨by omega, fun j hj => by omega⟩
     ·rintro b hF17
      show WK _ _ m8 [rowF (vo) 3 (Lo), blk b14 111 [v1, v3], blk b7 25 [v1, v3]] [(1, .int .i64 (most)), (8, .pointer (some ⟨b14, 0, none⟩)), (9, vo), (10, .int .i64 (↑a)), (11, .int .i64 (↑b))] _
      replace hF17 : (a + 1 ≤ b ∧ b ≤ s.Values.length) ∧ ∀ j, a + 1 + j < b → ¬ nxtP s most a j := hF17
      obtain ⟨hb, hall⟩ := hF17
      refine WK.good (fun hgood1 => ?_)
      refine WC.seq ?_
      refine WC.seq ?_
      refine WC.region ?_
      refine WL.x (X.move rfl) (by decide) ?_
      refine WL.x (X.field Try.runUnderlying111 rfl Try.sizeOf25 rfl) (by decide) ?_
      refine WL.x (X.field Try.runUnderlying25 rfl Try.sizeOf22 rfl) (by decide) ?_
      refine WL.x (X.loadB (k := 1) Try.isAgg22 rfl rfl rfl) (by decide) ?_
      refine WL.x (X.len Try.runUnderlying22 rfl hs2) (by decide) ?_
      refine WL.cond (X.lss rfl rfl) (by decide) (fun h18 => ?_) (fun h18 => ?_)
      ·refine WL.nil ?_
       refine WK.nThen ?_
       refine WC.condT rfl ?_
       refine WC.skip ?_
       refine WK.nThen ?_
       refine WC.seq ?_
       refine WC.block ?_
       refine WC.seq ?_
       refine WC.region ?_
       refine WL.x (X.loadBA (k := 1) Try.isAgg111 Try.sizeOf111 rfl rfl rfl) (by decide) ?_
       refine WL.x (X.move rfl) (by decide) ?_
       refine WL.x (X.move rfl) (by decide) ?_
       refine WL.tm (T.call Try.call95 rfl (win95 _ ⟨_, _, rfl, hs2, hs4⟩ hok a b _ _ (by omega) (by omega) (by omega) (by omega))) (by decide) (fun m19 r20 hle21 hR_ => ?_)
       obtain ⟨c22, rfl, hc23⟩ := hR_
       replace hs2 := hs2.mono hle21
       replace hs4 := hs4.mono hle21
       replace hs11 := hs11.mono hle21
       obtain ⟨v24, v26, rfl, hs25, hs27⟩ := hc23
       have hl28 := hs25.le
       have hl29 := hs27.le
       refine WL.x (X.move rfl) (by decide) ?_
       refine WL.condb (X.call Try.call96 rfl (even96 _ _ (winOf s a b) ⟨_, _, rfl, hs25, hs27⟩ _ (by first | exact win_w (by assumption) (by omega) (by omega) | assumption) (by omega))) (by decide) (fun h30 => ?_) (fun h30 => ?_)
       ·refine WL.x (X.not rfl) (by decide) ?_
        refine WL.nil ?_
        refine WK.nThen ?_
        refine WC.condF rfl ?_
        refine WC.skip ?_
        refine WK.nBlock ?_
        refine WK.nThen ?_
        refine WC.region ?_
        refine WL.x (X.move rfl) (by decide) ?_
        refine WL.x (X.add rfl rfl (by first | omega | (simp; omega)) (by first | omega | (simp; omega))) (by decide) ?_
        refine WL.x (X.assign rfl) (by decide) ?_
        refine WL.nil ?_
        refine WK.nThen ?_
        refine WK.back hgood1 hle21 ?_
        refine WK.next (b + 1) rfl (.refl _) (.cons rfl (.cons rfl (.cons rfl (.cons rfl (.cons rfl .nil))))) ?_ ?_
        ·exact ⟨by omega, fun j hj => by rcases Nat.lt_or_ge (a + 1 + j) b with h | h; exact hall j h; exact fun hn => (by unfold nxtP at hn; rw [show a + 1 + j = b by omega] at hn; simp_all)⟩
        ·omega
       ·refine WL.x (X.not rfl) (by decide) ?_
        refine WL.nil ?_
        refine WK.nThen ?_
        refine WC.condT rfl ?_
        refine WC.seq ?_
        refine WC.region ?_
        refine WL.x (X.move rfl) (by decide) ?_
        refine WL.x (X.field Try.runUnderlying111 rfl Try.sizeOf25 rfl) (by decide) ?_
        refine WL.x (X.field Try.runUnderlying25 rfl Try.sizeOf22 rfl) (by decide) ?_
        refine WL.x (X.loadB (k := 1) Try.isAgg22 rfl rfl rfl) (by decide) ?_
        refine WL.x (X.move rfl) (by decide) ?_
        refine WL.xe (E.idxN b Try.runUnderlying22 Try.sizeOf62 rfl rfl hs2 (by first | omega | (simp; omega))) (by decide) (fun p31 hp32 => ?_)
        have hp33 := At.Val_0 hp32
        refine WL.x (X.field Try.runUnderlying62 rfl Try.sizeOf3 rfl) (by decide) ?_
        refine WL.x (X.loadInt Try.isAgg3 rfl hp33) (by decide) ?_
        refine WL.tl (T.lit1 sl28 rfl rfl rfl (by decide)) (by decide) fun b34 => ?_
        refine WL.ta (T.appendF (k := 0) (a := (gt s.Values b).Time) sl28 rfl rfl rfl rfl (by first | omega | (simp; omega)) (by decide)) (by decide) (fun v35 => ?_)
        refine WL.x (X.assign rfl) (by decide) ?_
        refine WL.nil ?_
        refine WK.nThen ?_
        refine WC.seq ?_
        refine WC.region ?_
        refine WL.x (X.move rfl) (by decide) ?_
        refine WL.x (X.assign rfl) (by decide) ?_
        refine WL.nil ?_
        refine WK.nThen ?_
        refine WC.exit ?_
        refine WK.eMiss rfl ?_
        refine WK.eThen ?_
        refine WK.eThen ?_
        refine WK.eMiss rfl ?_
        refine WK.eThen ?_
        refine WK.eHit ?_
        refine WK.nThen ?_
        refine WK.back hgood0 hle21 ?_
        refine WK.next ((b, v35, Lo ++ [(gt s.Values b).Time])) rfl (.refl _) (.cons rfl (.cons rfl (.cons rfl (.cons rfl .nil)))) ?_ ?_
        ·exact ⟨by omega, by simp; omega, by rw [← hst, stp_yes (a := a) (b := b) (by omega) (by omega) hall (by unfold nxtP; rw [show a + 1 + (b - (a + 1)) = b by omega]; simp_all)]; simp⟩
        ·(dsimp only; omega)
      ·refine WL.nil ?_
       refine WK.nThen ?_
       refine WC.condF rfl ?_
       refine WC.exit ?_
       refine WK.eThen ?_
       refine WK.eThen ?_
       refine WK.eHit ?_
       refine WK.nThen ?_
       refine WC.exit ?_
       refine WK.eMiss rfl ?_
       refine WK.eThen ?_
       refine WK.eHit ?_
       refine WK.nThen ?_
       refine WC.seq ?_
       refine WC.region ?_
       refine WL.x (X.move rfl) (by decide) ?_
       refine WL.x (X.lenF (k := 0) Try.runUnderlying28 rfl rfl) (by decide) ?_
       refine WL.x (X.move rfl) (by decide) ?_
       refine WL.x (X.assign rfl) (by decide) ?_
       refine WL.x (X.assign rfl) (by decide) ?_
       refine WL.x (X.assign rfl) (by decide) ?_
       refine WL.nil ?_
       refine WK.nThen ?_
       refine WC.ret ?_
       refine WK.rScope ?_
       refine WK.freezeF 0 rfl rfl (by simp [lenB]; omega) (fun m36 hle37 hs38 => ?_)
       replace hs2 := hs2.mono hle37
       replace hs4 := hs4.mono hle37
       replace hs11 := hs11.mono hle37
       refine WK.ret3 rfl rfl rfl rfl (fun w' hw' => Ret.mem hw' ?_)
       have hfin : stpR s most = (Lo, 0) := (by first | exact stpR_ok (by omega) (by omega) (by rw [← hst, show s.Values.length - a = 0 by omega]; simp [stpF]) | exact stpR_ok (by omega) (by omega) (by rw [← hst, stp_no (by omega) (fun j hj => hall j (by omega))]; simp))
       exact ⟨_, tup3 (int_eq (by rw [hfin])) rfl (int_eq (by rw [hfin])), by rw [hfin]; exact hs38⟩
    ·refine WL.nil ?_
     refine WK.nThen ?_
     refine WC.condF rfl ?_
     refine WC.exit ?_
     refine WK.eThen ?_
     refine WK.eThen ?_
     refine WK.eHit ?_
     refine WK.nThen ?_
     refine WC.seq ?_
     refine WC.region ?_
     refine WL.x (X.move rfl) (by decide) ?_
     refine WL.x (X.lenF (k := 0) Try.runUnderlying28 rfl rfl) (by decide) ?_
     refine WL.x (X.move rfl) (by decide) ?_
     refine WL.x (X.assign rfl) (by decide) ?_
     refine WL.x (X.assign rfl) (by decide) ?_
     refine WL.x (X.assign rfl) (by decide) ?_
     refine WL.nil ?_
     refine WK.nThen ?_
     refine WC.ret ?_
     refine WK.rScope ?_
     refine WK.freezeF 0 rfl rfl (by simp [lenB]; omega) (fun m39 hle40 hs41 => ?_)
     replace hs2 := hs2.mono hle40
     replace hs4 := hs4.mono hle40
     replace hs11 := hs11.mono hle40
     refine WK.ret3 rfl rfl rfl rfl (fun w' hw' => Ret.mem hw' ?_)
     have hfin : stpR s most = (Lo, 0) := (by first | exact stpR_ok (by omega) (by omega) (by rw [← hst, show s.Values.length - a = 0 by omega]; simp [stpF]) | exact stpR_ok (by omega) (by omega) (by rw [← hst, stp_no (by omega) (fun j hj => hall j (by omega))]; simp))
     exact ⟨_, tup3 (int_eq (by rw [hfin])) rfl (int_eq (by rw [hfin])), by rw [hfin]; exact hs41⟩
  ·refine WL.x (X.not rfl) (by decide) ?_
   refine WL.nil ?_
   refine WK.nThen ?_
   refine WC.condT rfl ?_
   refine WC.seq ?_
   refine WC.region ?_
   refine WL.x (X.assign rfl) (by decide) ?_
   refine WL.x (X.assign rfl) (by decide) ?_
   refine WL.x (X.assign rfl) (by decide) ?_
   refine WL.nil ?_
   refine WK.nThen ?_
   refine WC.ret ?_
   refine WK.rThen ?_
   refine WK.rScope ?_
   refine WK.ret3 rfl rfl rfl rfl (fun w' hw' => Ret.mem hw' ?_)
   first | exact ⟨_, tup3 (int_eq (by rw [stpR_err (by omega)]; rfl)) rfl (int_eq (by rw [stpR_err (by omega)])), by rw [stpR_err (by omega)]; exact .nil⟩ | exact ⟨_, tup3 (int_eq (by rw [stpR_arg (by omega) (by omega)]; rfl)) rfl (int_eq (by rw [stpR_arg (by omega) (by omega)])), by rw [stpR_arg (by omega) (by omega)]; exact .nil⟩

theorem falls32 (m : Mem) (cs : List Value) (s : Ser) (hs : Enc.rd m cs s)   : Pure Try.prog 32 #[.agg cs.toArray] m (fun m' v => ∃ r0, v = .tuple #[r0, .int .i64 ((fallR s).2)] ∧ Sl m' r0 ((fallR s).1)) := by
 obtain ⟨v1, v3, rfl, hs2, hs4⟩ := hs
 have hl5 := hs2.le
 have hl6 := hs4.le
 refine Pure.start Try.func32 rfl Try.ntmps32 rfl fun wld => ?_
 refine WC.seq ?_
 refine WC.region ?_
 refine WL.tn (T.boxB rfl rfl) (by decide) fun b7 => ?_
 refine WL.x (X.assign rfl) (by decide) ?_
 refine WL.x (X.assign rfl) (by decide) ?_
 refine WL.nil ?_
 refine WK.nThen ?_
 refine WC.seq ?_
 refine WC.seq ?_
 refine WC.region ?_
 refine WL.x (X.loadBA (k := 0) Try.isAgg25 Try.sizeOf25 rfl rfl rfl) (by decide) ?_
 refine WL.tm (T.litM (α := Ser) (vals := [.agg [v1, v3].toArray]) (L := [s]) sl179 rfl (.cons rfl ⟨_, _, rfl, hs2, hs4⟩ .nil) rfl rfl) (by decide) (fun m8 v9 hle10 hs11 => ?_)
 replace hs2 := hs2.mono hle10
 replace hs4 := hs4.mono hle10
 refine WL.x (X.call Try.call81 rfl (checked81_1 _ _ hs11)) (by decide) ?_
 refine WL.x (X.assign rfl) (by decide) ?_
 refine WL.nil ?_
 refine WK.nThen ?_
 refine WC.seq ?_
 refine WC.region ?_
 refine WL.x (X.move rfl) (by decide) ?_
 refine WL.condn (X.neq rfl rfl) (by decide) (fun h12 => ?_) (fun h12 => ?_)
 ·refine WL.nil ?_
  refine WK.nThen ?_
  refine WC.condT rfl ?_
  refine WC.seq ?_
  refine WC.region ?_
  refine WL.x (X.move rfl) (by decide) ?_
  refine WL.x (X.assign rfl) (by decide) ?_
  refine WL.x (X.assign rfl) (by decide) ?_
  refine WL.nil ?_
  refine WK.nThen ?_
  refine WC.ret ?_
  refine WK.rThen ?_
  refine WK.ret2 rfl rfl rfl (fun w' hw' => Ret.mem hw' ?_)
  first | exact ⟨_, tup2 rfl (int_eq (by rw [fallR_err (by omega)])), by rw [fallR_err (by omega)]; exact .nil⟩ | exact ⟨_, tup2 rfl (int_eq (by rw [fallR_no (by omega) (fun j hj => hall j (by omega))])), by rw [fallR_no (by omega) (fun j hj => hall j (by omega))]; exact .nil⟩
 ·refine WL.nil ?_
  refine WK.nThen ?_
  refine WC.condF rfl ?_
  refine WC.skip ?_
  refine WK.nThen ?_
  refine WC.seq ?_
  have hok := Ok.of (s := s) (by omega)
  have hnV := hok.nV
  refine WC.region ?_
  refine WL.x (X.loadBA (k := 0) Try.isAgg25 Try.sizeOf25 rfl rfl rfl) (by decide) ?_
  refine WL.x (V := Value.agg [v1, v3].toArray) (X.build Try.zeroValue111 Try.runUnderlying111 (places111 _ Try.underlying111) rfl rfl) (by decide) ?_
  refine WL.tn (T.alloc Try.zeroValue111 rfl) (by decide) fun b13 => ?_
  refine WL.ts (T.storeBA (k := 0) Try.sizeOf111 rfl rfl rfl (one_cons hs2.one (one_cons hs4.one one_nil)) rfl rfl) ?_
  refine WL.nil ?_
  refine WK.nThen ?_
  refine WC.seq ?_
  refine WC.seq ?_
  refine WC.region ?_
  refine WL.x (X.field Try.runUnderlying111 rfl Try.sizeOf25 rfl) (by decide) ?_
  refine WL.x (X.field Try.runUnderlying25 rfl Try.sizeOf22 rfl) (by decide) ?_
  refine WL.x (X.loadB (k := 0) Try.isAgg22 rfl rfl rfl) (by decide) ?_
  refine WL.x (X.len Try.runUnderlying22 rfl hs2) (by decide) ?_
  refine WL.x (X.move rfl) (by decide) ?_
  refine WL.nil ?_
  refine WK.nThen ?_
  refine WC.block ?_
  refine WC.loop (G := Nat) (fun i => s.Values.length - i) (fun i => m8) (fun i => [blk b13 111 [v1, v3], blk b7 25 [v1, v3]]) (fun i => [(5, .pointer (some ⟨b13, 0, none⟩)), (19, v1), (20, .int .i64 (↑s.Values.length)), (21, .int .i64 (↑i))]) (fun i => i ≤ s.Values.length ∧ (∀ j, j < i → fallK s j = s.Values.length)) 0 rfl (.refl _) (.cons rfl (.cons rfl (.cons rfl (.cons rfl .nil)))) ?_ ?_
  ·exact ⟨Nat.zero_le _, fun j hj => absurd hj (Nat.not_lt_zero _)⟩
  ·rintro i hF14
   show WK _ _ m8 [blk b13 111 [v1, v3], blk b7 25 [v1, v3]] [(5, .pointer (some ⟨b13, 0, none⟩)), (19, v1), (20, .int .i64 (↑s.Values.length)), (21, .int .i64 (↑i))] _
   replace hF14 : i ≤ s.Values.length ∧ (∀ j, j < i → fallK s j = s.Values.length) := hF14
   obtain ⟨hi, hall⟩ := hF14
   refine WC.seq ?_
   refine WC.region ?_
   refine WL.cond (X.lss rfl rfl) (by decide) (fun h15 => ?_) (fun h15 => ?_)
   ·refine WL.nil ?_
    refine WK.nThen ?_
    refine WC.seq ?_
    refine WC.condT rfl ?_
    refine WC.skip ?_
    refine WK.nThen ?_
    refine WC.seq ?_
    refine WC.block ?_
    refine WC.seq ?_
    refine WC.region ?_
    refine WL.x (X.move rfl) (by decide) ?_
    refine WL.xe (E.idxN i Try.runUnderlying22 Try.sizeOf62 rfl rfl hs2 (by omega)) (by decide) (fun p16 hp17 => ?_)
    refine WL.xe (E.loadAgg Try.isAgg62 Try.sizeOf62 rfl hp17) (by decide) (fun c18 hc19 => ?_)
    obtain rfl := hc19
    refine WL.tn (T.alloc Try.zeroValue62 rfl) (by decide) fun b20 => ?_
    refine WL.x (X.assign rfl) (by decide) ?_
    refine WL.ts (T.storeBA (k := 0) Try.sizeOf62 rfl rfl rfl (one_cons rfl (one_cons rfl (one_cons rfl one_nil))) rfl rfl) ?_
    refine WL.nil ?_
    refine WK.nThen ?_
    refine WC.seq ?_
    refine WC.region ?_
    refine WL.x (X.move rfl) (by decide) ?_
    refine WL.x (X.add rfl rfl (by omega) (by omega)) (by decide) ?_
    refine WL.x (X.assign rfl) (by decide) ?_
    refine WL.nil ?_
    refine WK.nThen ?_
    refine WC.block ?_
    refine WC.loop (G := Nat) (fun k => s.Values.length - k) (fun k => m8) (fun k => [blk b20 62 [.int .i64 ((gt s.Values i).Time), .int .i64 (((gt s.Values i).Levels).Lo), .int .i64 (((gt s.Values i).Levels).Hi)], blk b13 111 [v1, v3], blk b7 25 [v1, v3]]) (fun k => [(5, .pointer (some ⟨b13, 0, none⟩)), (6, .int .i64 (↑i)), (7, .pointer (some ⟨b20, 0, none⟩)), (8, .int .i64 (↑k)), (19, v1), (20, .int .i64 (↑s.Values.length)), (21, .int .i64 (↑i))]) (fun k => (i + 1 ≤ k ∧ k ≤ s.Values.length) ∧ ∀ j, i + 1 + j < k → ¬ fallP s i j) (i + 1) rfl (.refl _) (.cons rfl (.cons rfl (.cons rfl (.cons rfl (.cons rfl (.cons rfl (.cons rfl .nil))))))) ?_ ?_
    ·exact ⟨by omega, fun j hj => by omega⟩
    ·rintro k hF21
     show WK _ _ m8 [blk b20 62 [.int .i64 ((gt s.Values i).Time), .int .i64 (((gt s.Values i).Levels).Lo), .int .i64 (((gt s.Values i).Levels).Hi)], blk b13 111 [v1, v3], blk b7 25 [v1, v3]] [(5, .pointer (some ⟨b13, 0, none⟩)), (6, .int .i64 (↑i)), (7, .pointer (some ⟨b20, 0, none⟩)), (8, .int .i64 (↑k)), (19, v1), (20, .int .i64 (↑s.Values.length)), (21, .int .i64 (↑i))] _
     replace hF21 : (i + 1 ≤ k ∧ k ≤ s.Values.length) ∧ ∀ j, i + 1 + j < k → ¬ fallP s i j := hF21
     obtain ⟨hk, hin⟩ := hF21
     refine WC.seq ?_
     refine WC.seq ?_
     refine WC.region ?_
     refine WL.x (X.move rfl) (by decide) ?_
     refine WL.x (X.field Try.runUnderlying111 rfl Try.sizeOf25 rfl) (by decide) ?_
     refine WL.x (X.field Try.runUnderlying25 rfl Try.sizeOf22 rfl) (by decide) ?_
     refine WL.x (X.loadB (k := 1) Try.isAgg22 rfl rfl rfl) (by decide) ?_
     refine WL.x (X.len Try.runUnderlying22 rfl hs2) (by decide) ?_
     refine WL.cond (X.lss rfl rfl) (by decide) (fun h22 => ?_) (fun h22 => ?_)
     ·refine WL.nil ?_
      refine WK.nThen ?_
      refine WC.condT rfl ?_
      refine WC.skip ?_
      refine WK.nThen ?_
      refine WC.seq ?_
      refine WC.block ?_
      refine WC.seq ?_
      refine WC.region ?_
      refine WL.x (X.loadBA (k := 1) Try.isAgg111 Try.sizeOf111 rfl rfl rfl) (by decide) ?_
      refine WL.x (X.move rfl) (by decide) ?_
      refine WL.x (X.move rfl) (by decide) ?_
      refine WL.x (X.call Try.call84 rfl (gap84 _ ⟨_, _, rfl, hs2, hs4⟩ hok k i _ _ (by omega) (by omega) (by omega) (by omega))) (by decide) ?_
      refine WL.x (X.fieldV Try.runUnderlying33 rfl Try.sizeOf3 rfl Try.isAgg3 rfl) (by decide) ?_
      refine WL.cond (X.lss rfl rfl) (by decide) (fun h23 => ?_) (fun h23 => ?_)
      ·refine WL.nil ?_
       refine WK.nThen ?_
       refine WC.condT rfl ?_
       refine WC.seq ?_
       refine WC.draw (π := (.cons 0 (.cons 1 (.cons 2 (.cons 3 (.cons 4 (.cons 5 (.cons 6 (.cons 7 (.cons 8 (.cons 9 (.cons 10 (.cons 11 .done))))))))))))) [9] [] rfl (by kernel_rfl) ?_
       refine DW.x rfl rfl (X.field Try.runUnderlying62 rfl Try.sizeOf3 rfl) (by decide) ?_
       refine DW.x rfl rfl (X.loadB (k := 0) Try.isAgg3 rfl rfl rfl) (by decide) ?_
       refine DW.x rfl rfl (X.field Try.runUnderlying111 rfl Try.sizeOf25 rfl) (by decide) ?_
       refine DW.x rfl rfl (X.field Try.runUnderlying25 rfl Try.sizeOf22 rfl) (by decide) ?_
       refine DW.x rfl rfl (X.loadB (k := 1) Try.isAgg22 rfl rfl rfl) (by decide) ?_
       refine DW.x rfl rfl (X.move rfl) (by decide) ?_
       refine DW.xe rfl rfl (E.idxN k Try.runUnderlying22 Try.sizeOf62 rfl rfl hs2 (by omega)) (by decide) (fun p24 hp25 => ?_)
       have hp26 := At.Val_0 hp25
       refine DW.x rfl rfl (X.field Try.runUnderlying62 rfl Try.sizeOf3 rfl) (by decide) ?_
       refine DW.x rfl rfl (X.loadInt Try.isAgg3 rfl hp26) (by decide) ?_
       refine DW.tm rfl rfl rfl (T.litM (α := Int) (vals := [.int .i64 ((gt s.Values i).Time), .int .i64 ((gt s.Values k).Time)]) (L := [(gt s.Values i).Time, (gt s.Values k).Time]) sl28 rfl (.cons rfl rfl (.cons rfl rfl .nil)) rfl rfl) (by decide) (fun m27 v28 hle29 hs30 => ?_)
       replace hs2 := hs2.mono hle29
       replace hs4 := hs4.mono hle29
       replace hs11 := hs11.mono hle29
       replace hp17 := hp17.mono hle29
       replace hp25 := hp25.mono hle29
       replace hp26 := hp26.mono hle29
       refine DW.x rfl rfl (X.assign rfl) (by decide) ?_
       refine DW.x rfl rfl (X.assign rfl) (by decide) ?_
       refine DW.nil ?_
       refine WK.nThen ?_
       refine WC.ret ?_
       refine WK.rBlock ?_
       refine WK.rThen ?_
       refine WK.rThen ?_
       refine WK.rBlock ?_
       refine WK.rBlock ?_
       refine WK.rThen ?_
       refine WK.rThen ?_
       refine WK.rBlock ?_
       refine WK.rThen ?_
       refine WK.ret2 rfl rfl rfl (fun w' hw' => Ret.mem hw' ?_)
       first | exact ⟨_, tup2 rfl (int_eq (by rw [fallR_yes (i := i) (k := k) (by omega) (by omega) (by omega) hall hin (by unfold fallP; rw [show i + 1 + (k - (i + 1)) = k by omega]; omega)])), by rw [fallR_yes (i := i) (k := k) (by omega) (by omega) (by omega) hall hin (by unfold fallP; rw [show i + 1 + (k - (i + 1)) = k by omega]; omega)]; exact hs30⟩
      ·refine WL.nil ?_
       refine WK.nThen ?_
       refine WC.condF rfl ?_
       refine WC.skip ?_
       refine WK.nBlock ?_
       refine WK.nThen ?_
       refine WC.region ?_
       refine WL.x (X.move rfl) (by decide) ?_
       refine WL.x (X.add rfl rfl (by omega) (by omega)) (by decide) ?_
       refine WL.x (X.assign rfl) (by decide) ?_
       refine WL.nil ?_
       refine WK.nThen ?_
       refine WK.next (k + 1) rfl (.refl _) (.cons rfl (.cons rfl (.cons rfl (.cons rfl (.cons rfl (.cons rfl (.cons rfl .nil))))))) ?_ ?_
       ·exact ⟨by omega, fun j hj => by rcases Nat.lt_or_ge (i + 1 + j) k with h | h; exact hin j h; unfold fallP; rw [show i + 1 + j = k by omega]; omega⟩
       ·omega
     ·refine WL.nil ?_
      refine WK.nThen ?_
      refine WC.condF rfl ?_
      refine WC.exit ?_
      refine WK.eThen ?_
      refine WK.eThen ?_
      refine WK.eHit ?_
      refine WK.nBlock ?_
      refine WK.nThen ?_
      refine WC.region ?_
      refine WL.x (X.add rfl rfl (by omega) (by omega)) (by decide) ?_
      refine WL.x (X.move rfl) (by decide) ?_
      refine WL.nil ?_
      refine WK.nThen ?_
      refine WK.next (i + 1) rfl (.cons _ (.cons_cons _ (.cons_cons _ .slnil))) (.cons rfl (.cons rfl (.cons rfl (.cons rfl .nil)))) ?_ ?_
      ·exact ⟨by omega, fun j hj => by rcases Nat.lt_succ_iff_lt_or_eq.1 hj with h | h; exact hall j h; subst h; exact fallK_no (by omega) (fun q hq => hin q (by omega))⟩
      ·omega
   ·refine WL.nil ?_
    refine WK.nThen ?_
    refine WC.seq ?_
    refine WC.condF rfl ?_
    refine WC.exit ?_
    refine WK.eThen ?_
    refine WK.eThen ?_
    refine WK.eHit ?_
    refine WK.nThen ?_
    refine WC.seq ?_
    refine WC.region ?_
    refine WL.x (X.assign rfl) (by decide) ?_
    refine WL.x (X.assign rfl) (by decide) ?_
    refine WL.nil ?_
    refine WK.nThen ?_
    refine WC.ret ?_
    refine WK.ret2 rfl rfl rfl (fun w' hw' => Ret.mem hw' ?_)
    first | exact ⟨_, tup2 rfl (int_eq (by rw [fallR_err (by omega)])), by rw [fallR_err (by omega)]; exact .nil⟩ | exact ⟨_, tup2 rfl (int_eq (by rw [fallR_no (by omega) (fun j hj => hall j (by omega))])), by rw [fallR_no (by omega) (fun j hj => hall j (by omega))]; exact .nil⟩

theorem sameInts27 (m : Mem) (va : Value) (a : List Int) (ha : Sl m va a) (vb : Value) (b : List Int) (hb : Sl m vb b)   : Exact Try.prog 27 #[va, vb] m (.bool (decide (a = b))) := by
 have la := ha.le
 have lb := hb.le
 refine Exact.start Try.func27 rfl Try.ntmps27 rfl fun wld => ?_
 refine WC.seq ?_
 refine WC.region ?_
 refine WL.x (X.assign rfl) (by decide) ?_
 refine WL.nil ?_
 refine WK.nThen ?_
 refine WC.seq ?_
 refine WC.seq ?_
 refine WC.region ?_
 refine WL.x (X.move rfl) (by decide) ?_
 refine WL.x (X.len Try.runUnderlying28 rfl ha) (by decide) ?_
 refine WL.x (X.move rfl) (by decide) ?_
 refine WL.x (X.len Try.runUnderlying28 rfl hb) (by decide) ?_
 refine WL.condn (X.neq rfl rfl) (by decide) (fun h1 => ?_) (fun h1 => ?_)
 ·refine WL.nil ?_
  refine WK.nThen ?_
  refine WC.condT rfl ?_
  refine WC.seq ?_
  refine WC.region ?_
  refine WL.x (X.assign rfl) (by decide) ?_
  refine WL.nil ?_
  refine WK.nThen ?_
  refine WC.ret ?_
  refine WK.rThen ?_
  refine WK.ret1 rfl rfl (fun w' hw' => Ret.exact hw' ?_)
  exact bool_false (fun e => by subst e; omega)
 ·refine WL.nil ?_
  refine WK.nThen ?_
  refine WC.condF rfl ?_
  refine WC.skip ?_
  refine WK.nThen ?_
  refine WC.seq ?_
  refine WC.seq ?_
  refine WC.region ?_
  refine WL.x (X.assign rfl) (by decide) ?_
  refine WL.nil ?_
  refine WK.nThen ?_
  refine WC.block ?_
  refine WC.loop (G := Nat) (fun k => a.length - k) (fun k => m) (fun k => []) (fun k => [(0, va), (1, vb), (5, .int .i64 (↑k))]) (fun k => k ≤ a.length ∧ (∀ j, j < k → gt a j = gt b j)) 0 rfl (.refl _) (.cons rfl (.cons rfl (.cons rfl .nil))) ?_ ?_
  ·exact ⟨Nat.zero_le _, fun j hj => absurd hj (Nat.not_lt_zero _)⟩
  ·rintro k hF2
   show WK _ _ m [] [(0, va), (1, vb), (5, .int .i64 (↑k))] _
   replace hF2 : k ≤ a.length ∧ (∀ j, j < k → gt a j = gt b j) := hF2
   obtain ⟨hk, hall⟩ := hF2
   refine WC.seq ?_
   refine WC.seq ?_
   refine WC.region ?_
   refine WL.x (X.move rfl) (by decide) ?_
   refine WL.x (X.move rfl) (by decide) ?_
   refine WL.x (X.len Try.runUnderlying28 rfl ha) (by decide) ?_
   refine WL.cond (X.lss rfl rfl) (by decide) (fun h3 => ?_) (fun h3 => ?_)
   ·refine WL.nil ?_
    refine WK.nThen ?_
    refine WC.condT rfl ?_
    refine WC.skip ?_
    refine WK.nThen ?_
    refine WC.seq ?_
    refine WC.block ?_
    refine WC.seq ?_
    refine WC.draw (π := (.cons 0 (.cons 1 (.cons 2 (.cons 3 (.cons 4 (.cons 5 (.cons 6 (.cons 7 (.cons 8 .done)))))))))) [] [] rfl (by kernel_rfl) ?_
    refine DW.x rfl rfl (X.move rfl) (by decide) ?_
    refine DW.x rfl rfl (X.move rfl) (by decide) ?_
    refine DW.xe rfl rfl (E.idxN k Try.runUnderlying28 Try.sizeOf3 rfl rfl ha (by omega)) (by decide) (fun p4 hp5 => ?_)
    refine DW.x rfl rfl (X.loadInt Try.isAgg3 rfl hp5) (by decide) ?_
    refine DW.x rfl rfl (X.move rfl) (by decide) ?_
    refine DW.x rfl rfl (X.move rfl) (by decide) ?_
    refine DW.xe rfl rfl (E.idxN k Try.runUnderlying28 Try.sizeOf3 rfl rfl hb (by omega)) (by decide) (fun p6 hp7 => ?_)
    refine DW.x rfl rfl (X.loadInt Try.isAgg3 rfl hp7) (by decide) ?_
    refine DW.condn rfl rfl (X.neq rfl rfl) (by decide) (fun h8 => ?_) (fun h8 => ?_)
    ·refine DW.nil ?_
     refine WK.nThen ?_
     refine WC.condT rfl ?_
     refine WC.seq ?_
     refine WC.region ?_
     refine WL.x (X.assign rfl) (by decide) ?_
     refine WL.nil ?_
     refine WK.nThen ?_
     refine WC.ret ?_
     refine WK.rBlock ?_
     refine WK.rThen ?_
     refine WK.rThen ?_
     refine WK.rBlock ?_
     refine WK.rThen ?_
     refine WK.ret1 rfl rfl (fun w' hw' => Ret.exact hw' ?_)
     exact bool_false (fun e => by subst e; contradiction)
    ·refine DW.nil ?_
     refine WK.nThen ?_
     refine WC.condF rfl ?_
     refine WC.skip ?_
     refine WK.nBlock ?_
     refine WK.nThen ?_
     refine WC.region ?_
     refine WL.x (X.move rfl) (by decide) ?_
     refine WL.x (X.add rfl rfl (by omega) (by omega)) (by decide) ?_
     refine WL.x (X.assign rfl) (by decide) ?_
     refine WL.nil ?_
     refine WK.nThen ?_
     refine WK.next (k + 1) rfl (.refl _) (.cons rfl (.cons rfl (.cons rfl .nil))) ?_ ?_
     ·exact ⟨by omega, fun j hj => by rcases Nat.lt_succ_iff_lt_or_eq.1 hj with h | h; exact hall j h; subst h; assumption⟩
     ·omega
   ·refine WL.nil ?_
    refine WK.nThen ?_
    refine WC.condF rfl ?_
    refine WC.exit ?_
    refine WK.eThen ?_
    refine WK.eThen ?_
    refine WK.eHit ?_
    refine WK.nThen ?_
    refine WC.seq ?_
    refine WC.region ?_
    refine WL.x (X.assign rfl) (by decide) ?_
    refine WL.nil ?_
    refine WK.nThen ?_
    refine WC.ret ?_
    refine WK.ret1 rfl rfl (fun w' hw' => Ret.exact hw' ?_)
    exact bool_true (ext_gt (by omega) (fun j hj => hall j (by omega)))

theorem sample79 (m : Mem)    : Pure Try.prog 79 #[] m (fun m' v => ∃ r0, v = .agg r0.toArray ∧ Enc.rd m' r0 (sampleS)) := by
 refine Pure.start Try.func79 rfl Try.ntmps79 rfl fun wld => ?_
 refine WC.seq ?_
 refine WC.region ?_
 refine WL.tn (T.alloc Try.zeroValue25 rfl) (by decide) fun b1 => ?_
 refine WL.nil ?_
 refine WK.nThen ?_
 refine WC.seq ?_
 refine WC.region ?_
 refine WL.x (V := Value.agg [.int .i64 (100), .int .i64 (102)].toArray) (X.build Try.zeroValue33 Try.runUnderlying33 (places33 _ Try.underlying33) rfl rfl) (by decide) ?_
 refine WL.x (V := Value.agg [.int .i64 (0), .int .i64 (100), .int .i64 (102)].toArray) (X.build Try.zeroValue62 Try.runUnderlying62 (places62 _ Try.underlying62) rfl rfl) (by decide) ?_
 refine WL.x (V := Value.agg [.int .i64 (101), .int .i64 (101)].toArray) (X.build Try.zeroValue33 Try.runUnderlying33 (places33 _ Try.underlying33) rfl rfl) (by decide) ?_
 refine WL.x (V := Value.agg [.int .i64 (1), .int .i64 (101), .int .i64 (101)].toArray) (X.build Try.zeroValue62 Try.runUnderlying62 (places62 _ Try.underlying62) rfl rfl) (by decide) ?_
 refine WL.x (V := Value.agg [.int .i64 (90), .int .i64 (95)].toArray) (X.build Try.zeroValue33 Try.runUnderlying33 (places33 _ Try.underlying33) rfl rfl) (by decide) ?_
 refine WL.x (V := Value.agg [.int .i64 (3), .int .i64 (90), .int .i64 (95)].toArray) (X.build Try.zeroValue62 Try.runUnderlying62 (places62 _ Try.underlying62) rfl rfl) (by decide) ?_
 refine WL.tm (T.litM (α := Val) (vals := [.agg [.int .i64 (0), .int .i64 (100), .int .i64 (102)].toArray, .agg [.int .i64 (1), .int .i64 (101), .int .i64 (101)].toArray, .agg [.int .i64 (3), .int .i64 (90), .int .i64 (95)].toArray]) (L := [(Val.mk (0) ((Span.mk (100) (102)))), (Val.mk (1) ((Span.mk (101) (101)))), (Val.mk (3) ((Span.mk (90) (95))))]) sl22 rfl (.cons rfl rfl (.cons rfl rfl (.cons rfl rfl .nil))) rfl rfl) (by decide) (fun m2 v3 hle4 hs5 => ?_)
 refine WL.x (V := Value.agg [.int .i64 (-5), .int .i64 (0)].toArray) (X.build Try.zeroValue33 Try.runUnderlying33 (places33 _ Try.underlying33) rfl rfl) (by decide) ?_
 refine WL.x (V := Value.agg [.int .i64 (2), .int .i64 (-5), .int .i64 (0)].toArray) (X.build Try.zeroValue72 Try.runUnderlying72 (places72 _ Try.underlying72) rfl rfl) (by decide) ?_
 refine WL.tm (T.litM (α := Shf) (vals := [.agg [.int .i64 (2), .int .i64 (-5), .int .i64 (0)].toArray]) (L := [(Shf.mk (2) ((Span.mk (-5) (0))))]) sl23 rfl (.cons rfl rfl .nil) rfl rfl) (by decide) (fun m6 v7 hle8 hs9 => ?_)
 replace hs5 := hs5.mono hle8
 refine WL.x (V := Value.agg [v3, v7].toArray) (X.build Try.zeroValue25 Try.runUnderlying25 (places25 _ Try.underlying25) rfl (by simp only [Instr.fill, one_cells hs5.one, one_cells hs9.one]; rfl)) (by decide) ?_
 refine WL.ts (T.storeBA (k := 0) Try.sizeOf25 rfl rfl rfl (one_cons hs5.one (one_cons hs9.one one_nil)) rfl rfl) ?_
 refine WL.nil ?_
 refine WK.nThen ?_
 refine WC.ret ?_
 refine WK.retC1 0 rfl rfl rfl Try.isAgg25 Try.sizeOf25 (fun w' hw' => Ret.mem hw' ?_)
 exact ⟨_, rfl, ⟨_, _, rfl, hs5, hs9⟩⟩

theorem level80 (m : Mem)    : Pure Try.prog 80 #[] m (fun m' v => ∃ r0, v = .agg r0.toArray ∧ Enc.rd m' r0 (levelS)) := by
 refine Pure.start Try.func80 rfl Try.ntmps80 rfl fun wld => ?_
 refine WC.seq ?_
 refine WC.region ?_
 refine WL.tn (T.alloc Try.zeroValue25 rfl) (by decide) fun b1 => ?_
 refine WL.nil ?_
 refine WK.nThen ?_
 refine WC.seq ?_
 refine WC.region ?_
 refine WL.x (V := Value.agg [.int .i64 (100), .int .i64 (100)].toArray) (X.build Try.zeroValue33 Try.runUnderlying33 (places33 _ Try.underlying33) rfl rfl) (by decide) ?_
 refine WL.tn (T.alloc Try.zeroValue33 rfl) (by decide) fun b2 => ?_
 refine WL.ts (T.storeBA (k := 0) Try.sizeOf33 rfl rfl rfl (one_cons rfl (one_cons rfl one_nil)) rfl rfl) ?_
 refine WL.nil ?_
 refine WK.nThen ?_
 refine WC.seq ?_
 refine WC.region ?_
 refine WL.x (X.loadBA (k := 0) Try.isAgg33 Try.sizeOf33 rfl rfl rfl) (by decide) ?_
 refine WL.x (V := Value.agg [.int .i64 (0), .int .i64 (100), .int .i64 (100)].toArray) (X.build Try.zeroValue62 Try.runUnderlying62 (places62 _ Try.underlying62) rfl rfl) (by decide) ?_
 refine WL.x (X.loadBA (k := 0) Try.isAgg33 Try.sizeOf33 rfl rfl rfl) (by decide) ?_
 refine WL.x (V := Value.agg [.int .i64 (1), .int .i64 (100), .int .i64 (100)].toArray) (X.build Try.zeroValue62 Try.runUnderlying62 (places62 _ Try.underlying62) rfl rfl) (by decide) ?_
 refine WL.x (X.loadBA (k := 0) Try.isAgg33 Try.sizeOf33 rfl rfl rfl) (by decide) ?_
 refine WL.x (V := Value.agg [.int .i64 (3), .int .i64 (100), .int .i64 (100)].toArray) (X.build Try.zeroValue62 Try.runUnderlying62 (places62 _ Try.underlying62) rfl rfl) (by decide) ?_
 refine WL.tm (T.litM (α := Val) (vals := [.agg [.int .i64 (0), .int .i64 (100), .int .i64 (100)].toArray, .agg [.int .i64 (1), .int .i64 (100), .int .i64 (100)].toArray, .agg [.int .i64 (3), .int .i64 (100), .int .i64 (100)].toArray]) (L := [(Val.mk (0) ((Span.mk (100) (100)))), (Val.mk (1) ((Span.mk (100) (100)))), (Val.mk (3) ((Span.mk (100) (100))))]) sl22 rfl (.cons rfl rfl (.cons rfl rfl (.cons rfl rfl .nil))) rfl rfl) (by decide) (fun m3 v4 hle5 hs6 => ?_)
 refine WL.x (V := Value.agg [v4, .slice none 0 0].toArray) (X.build Try.zeroValue25 Try.runUnderlying25 (places25 _ Try.underlying25) rfl (by simp only [Instr.fill, one_cells hs6.one]; rfl)) (by decide) ?_
 refine WL.ts (T.storeBA (k := 1) Try.sizeOf25 rfl rfl rfl (one_cons hs6.one (one_cons rfl one_nil)) rfl rfl) ?_
 refine WL.nil ?_
 refine WK.nThen ?_
 refine WC.ret ?_
 refine WK.retC1 1 rfl rfl rfl Try.isAgg25 Try.sizeOf25 (fun w' hw' => Ret.mem hw' ?_)
 exact ⟨_, rfl, ⟨_, _, rfl, hs6, .nil⟩⟩

end Go.Proofs.C8
