/- Century: walks, eleventh part, by program. -/
import Derived.Test.YtednficclnjmjaaC8Know
import Derived.Test.YtednficclnjmjaaC8W10
namespace Go.Proofs.C8
open Go Go.Kx
set_option linter.unusedSimpArgs false

theorem moments122 (m : Mem) (cs : List Value) (s : Ser) (hs : Enc.rd m cs s)  (hok : Ok s) : Pure Try.prog 122 #[.agg cs.toArray] m (fun m' v => ∃ r0, v = .tuple #[r0, .int .i64 (momD s)] ∧ Sl m' r0 (momL s)) := by
 obtain ⟨v1, v3, rfl, hs2, hs4⟩ := hs
 have hl5 := hs2.le
 have hl6 := hs4.le
 have hnV := hok.nV
 have hnX := hok.nX
 refine Pure.start Try.func122 rfl Try.ntmps122 rfl fun wld => ?_
 refine WC.seq ?_
 refine WC.region ?_
 refine WL.tn (T.boxB rfl rfl) (by decide) fun b7 => ?_
 refine WL.x (X.assign rfl) (by decide) ?_
 refine WL.x (X.assign rfl) (by decide) ?_
 refine WL.nil ?_
 refine WK.nThen ?_
 refine WC.seq ?_
 refine WC.region ?_
 refine WL.x (X.field Try.runUnderlying25 rfl Try.sizeOf22 rfl) (by decide) ?_
 refine WL.x (X.loadB (k := 0) Try.isAgg22 rfl rfl rfl) (by decide) ?_
 refine WL.x (X.len Try.runUnderlying22 rfl hs2) (by decide) ?_
 refine WL.x (X.assign rfl) (by decide) ?_
 refine WL.nil ?_
 refine WK.nThen ?_
 refine WC.seq ?_
 refine WC.region ?_
 refine WL.x (X.assign rfl) (by decide) ?_
 refine WL.nil ?_
 refine WK.nThen ?_
 refine WC.seq ?_
 refine WC.region ?_
 refine WL.x (X.assign rfl) (by decide) ?_
 refine WL.nil ?_
 refine WK.nThen ?_
 refine WC.seq ?_
 refine WC.seq ?_
 refine WC.region ?_
 refine WL.x (X.assign rfl) (by decide) ?_
 refine WL.nil ?_
 refine WK.nThen ?_
 refine WC.block ?_
 refine WC.loop (G := Nat × Int × Int) (fun (k, tot, sq) => s.Values.length - k) (fun (k, tot, sq) => m) (fun (k, tot, sq) => [blk b7 25 [v1, v3]]) (fun (k, tot, sq) => [(1, .pointer (some ⟨b7, 0, none⟩)), (4, .int .i64 (↑s.Values.length)), (5, .int .i64 (tot)), (6, .int .i64 (sq)), (7, .int .i64 (↑k))]) (fun (k, tot, sq) => k ≤ s.Values.length ∧ tot = timN s k ∧ sq = sqN s k) ((0, 0, 0)) rfl (.refl _) (.cons rfl (.cons rfl (.cons rfl (.cons rfl (.cons rfl .nil))))) ?_ ?_
 ·exact ⟨Nat.zero_le _, rfl, rfl⟩
 ·rintro ⟨k, tot, sq⟩ hF8
  show WK _ _ m [blk b7 25 [v1, v3]] [(1, .pointer (some ⟨b7, 0, none⟩)), (4, .int .i64 (↑s.Values.length)), (5, .int .i64 (tot)), (6, .int .i64 (sq)), (7, .int .i64 (↑k))] _
  replace hF8 : k ≤ s.Values.length ∧ tot = timN s k ∧ sq = sqN s k := hF8
  obtain ⟨hk, htot, hsq⟩ := hF8
  have htb := tim_bd hok (n := k) (by omega)
  have hsb := sqN_bd hok (n := k) (by omega)
  have hvt := fun h => hok.vt (i := k) h
  have hvq := fun h => sq_bd (hok.vt (i := k) h)
  refine WC.seq ?_
  refine WC.seq ?_
  refine WC.region ?_
  refine WL.x (X.move rfl) (by decide) ?_
  refine WL.x (X.move rfl) (by decide) ?_
  refine WL.cond (X.lss rfl rfl) (by decide) (fun h9 => ?_) (fun h9 => ?_)
  ·refine WL.nil ?_
   refine WK.nThen ?_
   refine WC.condT rfl ?_
   refine WC.skip ?_
   refine WK.nThen ?_
   refine WC.seq ?_
   refine WC.block ?_
   refine WC.seq ?_
   refine WC.region ?_
   refine WL.x (X.field Try.runUnderlying25 rfl Try.sizeOf22 rfl) (by decide) ?_
   refine WL.x (X.loadB (k := 0) Try.isAgg22 rfl rfl rfl) (by decide) ?_
   refine WL.x (X.move rfl) (by decide) ?_
   refine WL.xe (E.idxN k Try.runUnderlying22 Try.sizeOf62 rfl rfl hs2 (by omega)) (by decide) (fun p10 hp11 => ?_)
   have hp12 := At.Val_0 hp11
   refine WL.x (X.field Try.runUnderlying62 rfl Try.sizeOf3 rfl) (by decide) ?_
   refine WL.x (X.loadInt Try.isAgg3 rfl hp12) (by decide) ?_
   refine WL.x (X.assign rfl) (by decide) ?_
   refine WL.nil ?_
   refine WK.nThen ?_
   refine WC.seq ?_
   refine WC.region ?_
   refine WL.x (X.move rfl) (by decide) ?_
   refine WL.x (X.move rfl) (by decide) ?_
   refine WL.x (X.add rfl rfl (by omega) (by omega)) (by decide) ?_
   refine WL.x (X.assign rfl) (by decide) ?_
   refine WL.nil ?_
   refine WK.nThen ?_
   refine WC.region ?_
   refine WL.x (X.move rfl) (by decide) ?_
   refine WL.x (X.move rfl) (by decide) ?_
   refine WL.x (X.move rfl) (by decide) ?_
   refine WL.x (X.mul rfl rfl (by omega) (by omega)) (by decide) ?_
   refine WL.x (X.add rfl rfl (by omega) (by omega)) (by decide) ?_
   refine WL.x (X.assign rfl) (by decide) ?_
   refine WL.nil ?_
   refine WK.nBlock ?_
   refine WK.nThen ?_
   refine WC.region ?_
   refine WL.x (X.move rfl) (by decide) ?_
   refine WL.x (X.add rfl rfl (by omega) (by omega)) (by decide) ?_
   refine WL.x (X.assign rfl) (by decide) ?_
   refine WL.nil ?_
   refine WK.nThen ?_
   refine WK.next ((k + 1, tot + ((gt s.Values k).Time), sq + (((gt s.Values k).Time) * ((gt s.Values k).Time)))) rfl (.refl _) (.cons rfl (.cons rfl (.cons rfl (.cons rfl (.cons rfl .nil))))) ?_ ?_
   ·refine ⟨by omega, ?_, ?_⟩
    ·have hs_ : timN s (k + 1) = timN s k + (gt s.Values k).Time := rfl
     (repeat' split at hs_) <;> (try dsimp only at hs_) <;> first | omega | contradiction
    ·have hs_ : sqN s (k + 1) = sqN s k + (gt s.Values k).Time * (gt s.Values k).Time := rfl
     (repeat' split at hs_) <;> (try dsimp only at hs_) <;> first | omega | contradiction
   ·(dsimp only; omega)
  ·refine WL.nil ?_
   refine WK.nThen ?_
   refine WC.condF rfl ?_
   refine WC.exit ?_
   refine WK.eThen ?_
   refine WK.eThen ?_
   refine WK.eHit ?_
   refine WK.nThen ?_
   refine WC.seq ?_
   refine WK.ownF Int 3 ?_
   refine WC.region ?_
   refine WL.x (X.assign rfl) (by decide) ?_
   refine WL.nil ?_
   refine WK.nThen ?_
   refine WC.seq ?_
   refine WC.seq ?_
   refine WC.region ?_
   refine WL.x (X.assign rfl) (by decide) ?_
   refine WL.nil ?_
   refine WK.nThen ?_
   refine WC.block ?_
   obtain rfl : k = s.Values.length := (by omega)
   have htb := tim_bd hok (Nat.le_refl s.Values.length)
   have hsb := sqN_bd hok (Nat.le_refl s.Values.length)
   refine WC.loop (G := Nat × Value) (fun (i, vo) => s.Values.length - i) (fun (i, vo) => m) (fun (i, vo) => [rowF (vo) 3 ((List.range i).map (fun i => (s.Values.length : Int) * (gt s.Values i).Time - timN s s.Values.length)), blk b7 25 [v1, v3]]) (fun (i, vo) => [(1, .pointer (some ⟨b7, 0, none⟩)), (4, .int .i64 (↑s.Values.length)), (5, .int .i64 (tot)), (6, .int .i64 (sq)), (9, vo), (10, .int .i64 (↑i))]) (fun (i, vo) => i ≤ s.Values.length) ((0, Value.slice none 0 0)) rfl (.refl _) (.cons rfl (.cons rfl (.cons rfl (.cons rfl (.cons rfl (.cons rfl .nil)))))) ?_ ?_
   ·exact Nat.zero_le _
   ·rintro ⟨i, vo⟩ hF13
    show WK _ _ m [rowF (vo) 3 ((List.range i).map (fun i => (s.Values.length : Int) * (gt s.Values i).Time - timN s s.Values.length)), blk b7 25 [v1, v3]] [(1, .pointer (some ⟨b7, 0, none⟩)), (4, .int .i64 (↑s.Values.length)), (5, .int .i64 (tot)), (6, .int .i64 (sq)), (9, vo), (10, .int .i64 (↑i))] _
    replace hF13 : i ≤ s.Values.length := hF13
    have hi := hF13
    have hvt := fun h => hok.vt (i := i) h
    have hnt := fun h => nt_bd hok (i := i) h
    refine WC.seq ?_
    refine WC.seq ?_
    refine WC.region ?_
    refine WL.x (X.move rfl) (by decide) ?_
    refine WL.x (X.move rfl) (by decide) ?_
    refine WL.cond (X.lss rfl rfl) (by decide) (fun h14 => ?_) (fun h14 => ?_)
    ·refine WL.nil ?_
     refine WK.nThen ?_
     refine WC.condT rfl ?_
     refine WC.skip ?_
     refine WK.nThen ?_
     refine WC.seq ?_
     refine WC.block ?_
     refine WC.region ?_
     refine WL.x (X.move rfl) (by decide) ?_
     refine WL.x (X.move rfl) (by decide) ?_
     refine WL.x (X.field Try.runUnderlying25 rfl Try.sizeOf22 rfl) (by decide) ?_
     refine WL.x (X.loadB (k := 1) Try.isAgg22 rfl rfl rfl) (by decide) ?_
     refine WL.x (X.move rfl) (by decide) ?_
     refine WL.xe (E.idxN i Try.runUnderlying22 Try.sizeOf62 rfl rfl hs2 (by omega)) (by decide) (fun p15 hp16 => ?_)
     have hp17 := At.Val_0 hp16
     refine WL.x (X.field Try.runUnderlying62 rfl Try.sizeOf3 rfl) (by decide) ?_
     refine WL.x (X.loadInt Try.isAgg3 rfl hp17) (by decide) ?_
     refine WL.x (X.mul rfl rfl (by omega) (by omega)) (by decide) ?_
     refine WL.x (X.move rfl) (by decide) ?_
     refine WL.x (X.sub rfl rfl (by omega) (by omega)) (by decide) ?_
     refine WL.tl (T.lit1 sl28 rfl rfl rfl (by decide)) (by decide) fun b18 => ?_
     refine WL.ta (T.appendF (k := 0) (a := ((↑s.Values.length * ((gt s.Values i).Time)) - tot : Int)) sl28 rfl rfl rfl rfl (by first | omega | (simp; omega)) (by decide)) (by decide) (fun v19 => ?_)
     refine WL.x (X.assign rfl) (by decide) ?_
     refine WL.nil ?_
     refine WK.nBlock ?_
     refine WK.nThen ?_
     refine WC.region ?_
     refine WL.x (X.move rfl) (by decide) ?_
     refine WL.x (X.add rfl rfl (by omega) (by omega)) (by decide) ?_
     refine WL.x (X.assign rfl) (by decide) ?_
     refine WL.nil ?_
     refine WK.nThen ?_
     have he20 : (((List.range i).map (fun i => (s.Values.length : Int) * (gt s.Values i).Time - timN s s.Values.length)) ++ [((↑s.Values.length * ((gt s.Values i).Time)) - tot : Int)]) = ((List.range (i + 1)).map (fun i => (s.Values.length : Int) * (gt s.Values i).Time - timN s s.Values.length)) := (by rw [htot]; exact map_succ _ _)
     rw [he20]
     refine WK.next ((i + 1, v19)) rfl (.refl _) (.cons rfl (.cons rfl (.cons rfl (.cons rfl (.cons rfl (.cons rfl .nil)))))) ?_ ?_
     ·omega
     ·(dsimp only; omega)
    ·refine WL.nil ?_
     refine WK.nThen ?_
     refine WC.condF rfl ?_
     refine WC.exit ?_
     refine WK.eThen ?_
     refine WK.eThen ?_
     refine WK.eHit ?_
     refine WK.nThen ?_
     refine WC.seq ?_
     have hml := (momL_fac hok).1
     have hmb := mom_bds hok
     rw [← htot, ← hsq] at hmb
     have he21 : ((List.range i).map (fun i => (s.Values.length : Int) * (gt s.Values i).Time - timN s s.Values.length)) = (momL s) := by rw [show i = s.Values.length by omega]; rfl
     rw [he21]
     refine WC.region ?_
     refine WL.x (X.move rfl) (by decide) ?_
     refine WL.x (X.move rfl) (by decide) ?_
     refine WL.x (X.move rfl) (by decide) ?_
     refine WL.x (X.mul rfl rfl (by omega) (by omega)) (by decide) ?_
     refine WL.x (X.move rfl) (by decide) ?_
     refine WL.x (X.move rfl) (by decide) ?_
     refine WL.x (X.mul rfl rfl (by omega) (by omega)) (by decide) ?_
     refine WL.x (X.sub rfl rfl (by omega) (by omega)) (by decide) ?_
     refine WL.x (X.assign rfl) (by decide) ?_
     refine WL.x (X.assign rfl) (by decide) ?_
     refine WL.nil ?_
     refine WK.nThen ?_
     refine WC.ret ?_
     refine WK.freezeF 0 rfl rfl (by simp [lenB]; omega) (fun m22 hle23 hs24 => ?_)
     replace hs2 := hs2.mono hle23
     replace hs4 := hs4.mono hle23
     refine WK.ret2 rfl rfl rfl (fun w' hw' => Ret.mem hw' ?_)
     exact ⟨_, tup2 rfl (int_eq (by unfold momD; rw [hsq, htot])), hs24⟩

theorem lowest124 (m : Mem) (num : Int) (den : Int)  (hn : -4000000000000000000 ≤ num ∧ num ≤ 4000000000000000000) (hd : 0 < den ∧ den ≤ 4000000000000000000) : Exact Try.prog 124 #[.int .i64 (num), .int .i64 (den)] m (.agg [.int .i64 ((lowR num den).Num), .int .i64 ((lowR num den).Den)].toArray) := by
 refine Exact.start Try.func124 rfl Try.ntmps124 rfl fun wld => ?_
 refine WC.seq ?_
 refine WC.region ?_
 refine WL.tn (T.alloc Try.zeroValue45 rfl) (by decide) fun b1 => ?_
 refine WL.nil ?_
 refine WK.nThen ?_
 refine WC.seq ?_
 refine WC.region ?_
 refine WL.x (X.move rfl) (by decide) ?_
 refine WL.x (X.move rfl) (by decide) ?_
 refine WL.x (X.sub rfl rfl (by omega) (by omega)) (by decide) ?_
 refine WL.x (X.mx rfl rfl) (by decide) ?_
 refine WL.x (X.assign rfl) (by decide) ?_
 refine WL.nil ?_
 refine WK.nThen ?_
 refine WC.seq ?_
 refine WC.region ?_
 refine WL.x (X.move rfl) (by decide) ?_
 refine WL.x (X.assign rfl) (by decide) ?_
 refine WL.nil ?_
 refine WK.nThen ?_
 refine WC.seq ?_
 refine WC.block ?_
 refine WC.loop (G := Int × Int) (fun (x, y) => y.toNat) (fun (x, y) => m) (fun (x, y) => [blk b1 45 [.int .i64 (0), .int .i64 (0)]]) (fun (x, y) => [(0, .int .i64 (num)), (1, .int .i64 (den)), (4, .pointer (some ⟨b1, 0, none⟩)), (5, .int .i64 (x)), (6, .int .i64 (y))]) (fun (x, y) => (0 ≤ x ∧ x ≤ 4000000000000000000 ∧ 0 ≤ y ∧ y ≤ 4000000000000000000 ∧ (y = 0 → 0 < x)) ∧ Int.gcd x y = Int.gcd num den) ((max num (0 - num), den)) rfl (.refl _) (.cons rfl (.cons rfl (.cons rfl (.cons rfl (.cons rfl .nil))))) ?_ ?_
 ·exact ⟨by omega, by rw [Int.zero_sub]; exact gcd_max _ _⟩
 ·rintro ⟨x, y⟩ hF2
  show WK _ _ m [blk b1 45 [.int .i64 (0), .int .i64 (0)]] [(0, .int .i64 (num)), (1, .int .i64 (den)), (4, .pointer (some ⟨b1, 0, none⟩)), (5, .int .i64 (x)), (6, .int .i64 (y))] _
  replace hF2 : (0 ≤ x ∧ x ≤ 4000000000000000000 ∧ 0 ≤ y ∧ y ≤ 4000000000000000000 ∧ (y = 0 → 0 < x)) ∧ Int.gcd x y = Int.gcd num den := hF2
  obtain ⟨hxy, hgc⟩ := hF2
  have hmod : 0 < y → 0 ≤ x % y ∧ x % y < y := fun h => emod_bd h
  refine WC.seq ?_
  refine WC.seq ?_
  refine WC.region ?_
  refine WL.x (X.move rfl) (by decide) ?_
  refine WL.cond (X.gtr rfl rfl) (by decide) (fun h3 => ?_) (fun h3 => ?_)
  ·refine WL.nil ?_
   refine WK.nThen ?_
   refine WC.condT rfl ?_
   refine WC.skip ?_
   refine WK.nThen ?_
   refine WC.block ?_
   refine WC.seq ?_
   refine WC.region ?_
   refine WL.x (X.move rfl) (by decide) ?_
   refine WL.x (X.move rfl) (by decide) ?_
   refine WL.x (X.rem rfl rfl (by omega) (by omega)) (by decide) ?_
   refine WL.x (X.assign rfl) (by decide) ?_
   refine WL.nil ?_
   refine WK.nThen ?_
   refine WC.seq ?_
   refine WC.region ?_
   refine WL.x (X.move rfl) (by decide) ?_
   refine WL.x (X.assign rfl) (by decide) ?_
   refine WL.nil ?_
   refine WK.nThen ?_
   refine WC.region ?_
   refine WL.x (X.move rfl) (by decide) ?_
   refine WL.x (X.assign rfl) (by decide) ?_
   refine WL.nil ?_
   refine WK.nBlock ?_
   refine WK.nThen ?_
   refine WK.next ((y, x % y)) rfl (.refl _) (.cons rfl (.cons rfl (.cons rfl (.cons rfl (.cons rfl .nil))))) ?_ ?_
   ·exact ⟨by have := hmod (by omega); omega, by rw [gcd_rem]; exact hgc⟩
   ·(dsimp only; have := hmod (by omega); omega)
  ·refine WL.nil ?_
   refine WK.nThen ?_
   refine WC.condF rfl ?_
   refine WC.exit ?_
   refine WK.eThen ?_
   refine WK.eThen ?_
   refine WK.eHit ?_
   refine WK.nThen ?_
   refine WC.seq ?_
   have hg : x = ↑(Int.gcd num den) := (by rw [← hgc, show y = 0 by omega, gcd_zero (by omega)])
   have hq1 := tdiv_bd (b := x) (B := 4000000000000000000) (show -4000000000000000000 ≤ num ∧ num ≤ 4000000000000000000 by omega)
   have hq2 := tdiv_bd (b := x) (B := 4000000000000000000) (show -4000000000000000000 ≤ den ∧ den ≤ 4000000000000000000 by omega)
   refine WC.draw (π := (.cons 0 (.cons 1 (.cons 2 (.cons 3 (.cons 4 (.cons 5 (.cons 6 (.cons 7 .done))))))))) [7] [7] rfl (by kernel_rfl) ?_
   refine DW.x rfl rfl (X.move rfl) (by decide) ?_
   refine DW.x rfl rfl (X.move rfl) (by decide) ?_
   refine DW.x rfl rfl (X.quoT rfl rfl (by omega) (by omega) (by omega)) (by decide) ?_
   refine DW.x rfl rfl (X.move rfl) (by decide) ?_
   refine DW.x rfl rfl (X.move rfl) (by decide) ?_
   refine DW.x rfl rfl (X.quoT rfl rfl (by omega) (by omega) (by omega)) (by decide) ?_
   refine DW.x (V := Value.agg [.int .i64 (Int.tdiv num x), .int .i64 (Int.tdiv den x)].toArray) rfl rfl (X.build Try.zeroValue45 Try.runUnderlying45 (places45 _ Try.underlying45) rfl rfl) (by decide) ?_
   refine DW.ts rfl rfl rfl rfl (T.storeBA (k := 0) Try.sizeOf45 rfl rfl rfl (one_cons rfl (one_cons rfl one_nil)) rfl rfl) ?_
   refine DW.nil ?_
   refine WK.nThen ?_
   refine WC.ret ?_
   refine WK.retC1 0 rfl rfl rfl Try.isAgg45 Try.sizeOf45 (fun w' hw' => Ret.exact hw' ?_)
   exact agg2i (by unfold lowR; rw [hg]) (by unfold lowR; rw [hg])

theorem exact64 (m : Mem) (cs : List Value) (s : Ser) (hs : Enc.rd m cs s) (vl : Value) (l : List Int) (hl : Sl m vl l)  (hok : Ok s) (h2v : 2 ≤ s.Values.length) (hll : l.length = s.Values.length) (hlb : ∀ i, i < s.Values.length → -1000000 ≤ gt l i ∧ gt l i ≤ 1000000) : Exact Try.prog 64 #[.agg cs.toArray, vl] m (.agg [.int .i64 ((exactR s l).Num), .int .i64 ((exactR s l).Den)].toArray) := by
 obtain ⟨v1, v3, rfl, hs2, hs4⟩ := hs
 have hl5 := hs2.le
 have hl6 := hs4.le
 have ll := hl.le
 have hnV := hok.nV
 have hnX := hok.nX
 have hmf := momL_fac hok
 have hml := hmf.1
 have hmd := momD_pos hok h2v
 have hme := momD_le hok
 refine Exact.start Try.func64 rfl Try.ntmps64 rfl fun wld => ?_
 refine WC.seq ?_
 refine WC.region ?_
 refine WL.tn (T.boxB rfl rfl) (by decide) fun b7 => ?_
 refine WL.tn (T.alloc Try.zeroValue45 rfl) (by decide) fun b8 => ?_
 refine WL.nil ?_
 refine WK.nThen ?_
 refine WC.seq ?_
 refine WC.region ?_
 refine WL.x (X.loadBA (k := 1) Try.isAgg25 Try.sizeOf25 rfl rfl rfl) (by decide) ?_
 refine WL.tm (T.call Try.call122 rfl (moments122 _ _ s ⟨_, _, rfl, hs2, hs4⟩ (by assumption))) (by decide) fun m9 r10 hle11 hR12 => ?_
 obtain ⟨v13, rfl, hs14⟩ := hR12
 replace hs2 := hs2.mono hle11
 replace hs4 := hs4.mono hle11
 replace hl := hl.mono hle11
 have hl15 := hs14.le
 refine WL.x (X.move rfl) (by decide) ?_
 refine WL.x (X.extract rfl rfl) (by decide) ?_
 refine WL.x (X.extract rfl rfl) (by decide) ?_
 refine WL.x (X.assign rfl) (by decide) ?_
 refine WL.x (X.assign rfl) (by decide) ?_
 refine WL.nil ?_
 refine WK.nThen ?_
 refine WC.seq ?_
 refine WC.region ?_
 refine WL.x (X.assign rfl) (by decide) ?_
 refine WL.nil ?_
 refine WK.nThen ?_
 refine WC.seq ?_
 refine WC.seq ?_
 refine WC.region ?_
 refine WL.x (X.assign rfl) (by decide) ?_
 refine WL.nil ?_
 refine WK.nThen ?_
 refine WC.block ?_
 refine WC.loop (G := Nat × Int) (fun (k, n) => s.Values.length - k) (fun (k, n) => m9) (fun (k, n) => [blk b8 45 [.int .i64 (0), .int .i64 (0)], blk b7 25 [v1, v3]]) (fun (k, n) => [(1, vl), (4, .pointer (some ⟨b8, 0, none⟩)), (5, v13), (6, .int .i64 (momD s)), (7, .int .i64 (n)), (8, .int .i64 (↑k))]) (fun (k, n) => k ≤ s.Values.length ∧ n = totN (momL s) l k) ((0, 0)) rfl (.refl _) (.cons rfl (.cons rfl (.cons rfl (.cons rfl (.cons rfl (.cons rfl .nil)))))) ?_ ?_
 ·exact ⟨Nat.zero_le _, rfl⟩
 ·rintro ⟨k, n⟩ hF16
  show WK _ _ m9 [blk b8 45 [.int .i64 (0), .int .i64 (0)], blk b7 25 [v1, v3]] [(1, vl), (4, .pointer (some ⟨b8, 0, none⟩)), (5, v13), (6, .int .i64 (momD s)), (7, .int .i64 (n)), (8, .int .i64 (↑k))] _
  replace hF16 : k ≤ s.Values.length ∧ n = totN (momL s) l k := hF16
  obtain ⟨hk, hn⟩ := hF16
  have hxb := exS_bd hok hlb (n := k) (by omega)
  have hxc := fun (h : k < s.Values.length) => exS_bd hok hlb (n := k + 1) (by omega)
  have hms := fun (h : k < s.Values.length) => totN_succ (momL s) l k
  have hmm := fun (h : k < s.Values.length) => mul_bd (A := 10000000) (B := 1000000) (hmf.2 k h) (hlb k h)
  refine WC.seq ?_
  refine WC.seq ?_
  refine WC.region ?_
  refine WL.x (X.move rfl) (by decide) ?_
  refine WL.x (X.move rfl) (by decide) ?_
  refine WL.x (X.len Try.runUnderlying28 rfl hs14) (by decide) ?_
  refine WL.cond (X.lss rfl rfl) (by decide) (fun h17 => ?_) (fun h17 => ?_)
  ·refine WL.x (X.move rfl) (by decide) ?_
   refine WL.yes rfl rfl ?_
   refine WL.x (X.move rfl) (by decide) ?_
   refine WL.yes rfl rfl ?_
   refine WL.x (X.move rfl) (by decide) ?_
   refine WL.yes rfl rfl ?_
   refine WL.x (X.len Try.runUnderlying28 rfl hl) (by decide) ?_
   refine WL.yes rfl rfl ?_
   refine WL.cond (X.lss rfl rfl) (by decide) (fun h18 => ?_) (fun h18 => ?_)
   ·refine WL.x (X.pickT rfl rfl rfl) (by decide) ?_
    refine WL.nil ?_
    refine WK.nThen ?_
    refine WC.condT rfl ?_
    refine WC.skip ?_
    refine WK.nThen ?_
    refine WC.seq ?_
    refine WC.block ?_
    refine WC.draw (π := (.cons 0 (.cons 1 (.cons 2 (.cons 3 (.cons 4 (.cons 5 (.cons 6 (.cons 7 (.cons 8 (.cons 9 (.cons 10 (.cons 11 .done))))))))))))) [] [] rfl (by kernel_rfl) ?_
    refine DW.x rfl rfl (X.move rfl) (by decide) ?_
    refine DW.x rfl rfl (X.move rfl) (by decide) ?_
    refine DW.x rfl rfl (X.move rfl) (by decide) ?_
    refine DW.xe rfl rfl (E.idxN k Try.runUnderlying28 Try.sizeOf3 rfl rfl hs14 (by omega)) (by decide) (fun p19 hp20 => ?_)
    refine DW.x rfl rfl (X.loadInt Try.isAgg3 rfl hp20) (by decide) ?_
    refine DW.x rfl rfl (X.move rfl) (by decide) ?_
    refine DW.x rfl rfl (X.move rfl) (by decide) ?_
    refine DW.xe rfl rfl (E.idxN k Try.runUnderlying28 Try.sizeOf3 rfl rfl hl (by omega)) (by decide) (fun p21 hp22 => ?_)
    refine DW.x rfl rfl (X.loadInt Try.isAgg3 rfl hp22) (by decide) ?_
    refine DW.x rfl rfl (X.mul rfl rfl (by omega) (by omega)) (by decide) ?_
    refine DW.x rfl rfl (X.add rfl rfl (by omega) (by omega)) (by decide) ?_
    refine DW.x rfl rfl (X.assign rfl) (by decide) ?_
    refine DW.nil ?_
    refine WK.nBlock ?_
    refine WK.nThen ?_
    refine WC.region ?_
    refine WL.x (X.move rfl) (by decide) ?_
    refine WL.x (X.add rfl rfl (by omega) (by omega)) (by decide) ?_
    refine WL.x (X.assign rfl) (by decide) ?_
    refine WL.nil ?_
    refine WK.nThen ?_
    refine WK.next ((k + 1, n + ((gt (momL s) k) * (gt l k)))) rfl (.refl _) (.cons rfl (.cons rfl (.cons rfl (.cons rfl (.cons rfl (.cons rfl .nil)))))) ?_ ?_
    ·refine ⟨by omega, ?_⟩
     ·have hs_ : totN (momL s) l (k + 1) = totN (momL s) l k + gt (momL s) k * gt l k := rfl
      (repeat' split at hs_) <;> (try dsimp only at hs_) <;> first | omega | contradiction
    ·(dsimp only; omega)
   ·refine WL.x (X.pickT rfl rfl rfl) (by decide) ?_
    refine WL.nil ?_
    refine WK.nThen ?_
    refine WC.condF rfl ?_
    refine WC.exit ?_
    refine WK.eThen ?_
    refine WK.eThen ?_
    refine WK.eHit ?_
    refine WK.nThen ?_
    refine WC.seq ?_
    have hkv : k = s.Values.length := (by omega)
    have hxb := exS_bd hok hlb (n := k) (by omega)
    refine WC.region ?_
    refine WL.x (X.move rfl) (by decide) ?_
    refine WL.x (X.move rfl) (by decide) ?_
    refine WL.x (X.call Try.call124 rfl (lowest124 _ _ _ (by omega) (by omega))) (by decide) ?_
    refine WL.ts (T.storeBA (k := 0) Try.sizeOf45 rfl rfl rfl (one_cons rfl (one_cons rfl one_nil)) rfl rfl) ?_
    refine WL.nil ?_
    refine WK.nThen ?_
    refine WC.ret ?_
    refine WK.retC1 0 rfl rfl rfl Try.isAgg45 Try.sizeOf45 (fun w' hw' => Ret.exact hw' ?_)
    subst hkv
    exact agg2i (by unfold exactR exS; rw [hn]) (by unfold exactR exS; rw [hn])
  ·refine WL.x (X.move rfl) (by decide) ?_
   refine WL.no rfl rfl rfl (by decide) ?_
   refine WL.no rfl rfl rfl (by decide) ?_
   refine WL.no rfl rfl rfl (by decide) ?_
   refine WL.no rfl rfl rfl (by decide) ?_
   refine WL.x (X.pickF rfl rfl rfl) (by decide) ?_
   refine WL.nil ?_
   refine WK.nThen ?_
   refine WC.condF rfl ?_
   refine WC.exit ?_
   refine WK.eThen ?_
   refine WK.eThen ?_
   refine WK.eHit ?_
   refine WK.nThen ?_
   refine WC.seq ?_
   have hkv : k = s.Values.length := (by omega)
   have hxb := exS_bd hok hlb (n := k) (by omega)
   refine WC.region ?_
   refine WL.x (X.move rfl) (by decide) ?_
   refine WL.x (X.move rfl) (by decide) ?_
   refine WL.x (X.call Try.call124 rfl (lowest124 _ _ _ (by omega) (by omega))) (by decide) ?_
   refine WL.ts (T.storeBA (k := 0) Try.sizeOf45 rfl rfl rfl (one_cons rfl (one_cons rfl one_nil)) rfl rfl) ?_
   refine WL.nil ?_
   refine WK.nThen ?_
   refine WC.ret ?_
   refine WK.retC1 0 rfl rfl rfl Try.isAgg45 Try.sizeOf45 (fun w' hw' => Ret.exact hw' ?_)
   subst hkv
   exact agg2i (by unfold exactR exS; rw [hn]) (by unfold exactR exS; rw [hn])

end Go.Proofs.C8
