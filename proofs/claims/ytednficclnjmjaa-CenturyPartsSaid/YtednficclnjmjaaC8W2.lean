import Derived.Test.YtednficclnjmjaaC8Spec3
import Derived.Test.YtednficclnjmjaaC8W
/- Century: walks, second part, by program. -/
namespace Go.Proofs.C8
open Go Go.Kx
set_option linter.unusedSimpArgs false

theorem even109 (m : Mem) (cr : List Value) (r : Ser) (hr : Enc.rd m cr r) (cp : List Value) (p : Pick) (hp : Enc.rd m cp p)  (hok : Ok r) (hag : agreeP r p.levels p.shifts) : Pure Try.prog 109 #[.agg cr.toArray, .agg cp.toArray] m (fun m' v => ∃ r0, v = r0 ∧ Sl m' r0 (evenL r p.levels p.shifts)) := by
 obtain ⟨v1, v3, rfl, hs2, hs4⟩ := hr
 have hl5 := hs2.le
 have hl6 := hs4.le
 obtain ⟨v7, v9, rfl, hs8, hs10⟩ := hp
 have hl11 := hs8.le
 have hl12 := hs10.le
 have hnV := hok.nV
 have hnX := hok.nX
 have hsh : ∀ i, i < r.Shifts.length → -12000 ≤ gt p.shifts i ∧ gt p.shifts i ≤ 12000 := fun i hi => by have h1 := hag.2.2 i hi; have h2 := hok.xl hi; omega
 have hlen := hag.1
 refine Pure.start Try.func109 rfl Try.ntmps109 rfl fun wld => ?_
 refine WC.seq ?_
 refine WC.region ?_
 refine WL.tn (T.boxB rfl rfl) (by decide) fun b13 => ?_
 refine WL.tn (T.boxB rfl rfl) (by decide) fun b14 => ?_
 refine WL.x (X.assign rfl) (by decide) ?_
 refine WL.nil ?_
 refine WK.nThen ?_
 refine WC.seq ?_
 refine WK.ownF Int 3 ?_
 refine WC.region ?_
 refine WL.x (X.assign rfl) (by decide) ?_
 refine WL.nil ?_
 refine WK.nThen ?_
 refine WC.seq ?_
 refine WC.seq ?_
 refine WC.region ?_
 refine WL.x (X.field Try.runUnderlying111 rfl Try.sizeOf25 rfl) (by decide) ?_
 refine WL.x (X.field Try.runUnderlying25 rfl Try.sizeOf22 rfl) (by decide) ?_
 refine WL.x (X.loadB (k := 2) Try.isAgg22 rfl rfl rfl) (by decide) ?_
 refine WL.x (X.len Try.runUnderlying22 rfl hs2) (by decide) ?_
 refine WL.x (X.move rfl) (by decide) ?_
 refine WL.nil ?_
 refine WK.nThen ?_
 refine WC.block ?_
 refine WC.loop (G := Nat × Value) (fun (k, vo) => r.Values.length - k) (fun (k, vo) => m) (fun (k, vo) => [rowF (vo) 3 ((List.range k).map (evenAt r p.levels p.shifts)), blk b14 151 [v7, v9], blk b13 111 [v1, v3]]) (fun (k, vo) => [(2, .pointer (some ⟨b13, 0, none⟩)), (3, .pointer (some ⟨b14, 0, none⟩)), (5, vo), (13, v1), (14, .int .i64 (↑r.Values.length)), (15, .int .i64 (↑k))]) (fun (k, vo) => k ≤ r.Values.length) ((0, Value.slice none 0 0)) rfl (.refl _) (.cons rfl (.cons rfl (.cons rfl (.cons rfl (.cons rfl (.cons rfl .nil)))))) ?_ ?_
 ·exact Nat.zero_le _
 ·rintro ⟨k, vo⟩ hF15
  show WK _ _ m [rowF (vo) 3 ((List.range k).map (evenAt r p.levels p.shifts)), blk b14 151 [v7, v9], blk b13 111 [v1, v3]] [(2, .pointer (some ⟨b13, 0, none⟩)), (3, .pointer (some ⟨b14, 0, none⟩)), (5, vo), (13, v1), (14, .int .i64 (↑r.Values.length)), (15, .int .i64 (↑k))] _
  replace hF15 : k ≤ r.Values.length := hF15
  have hk := hF15
  refine WC.seq ?_
  refine WC.region ?_
  refine WL.cond (X.lss rfl rfl) (by decide) (fun h16 => ?_) (fun h16 => ?_)
  ·refine WL.nil ?_
   refine WK.nThen ?_
   refine WC.seq ?_
   refine WC.condT rfl ?_
   refine WC.skip ?_
   refine WK.nThen ?_
   refine WC.seq ?_
   refine WC.block ?_
   refine WC.seq ?_
   refine WC.region ?_
   refine WL.x (X.move rfl) (by decide) ?_
   refine WL.xe (E.idxN k Try.runUnderlying22 Try.sizeOf62 rfl rfl hs2 (by omega)) (by decide) (fun p17 hp18 => ?_)
   refine WL.xe (E.loadAgg Try.isAgg62 Try.sizeOf62 rfl hp18) (by decide) (fun c19 hc20 => ?_)
   obtain rfl := hc20
   refine WL.tn (T.alloc Try.zeroValue62 rfl) (by decide) fun b21 => ?_
   refine WL.x (X.assign rfl) (by decide) ?_
   refine WL.ts (T.storeBA (k := 0) Try.sizeOf62 rfl rfl rfl (one_cons rfl (one_cons rfl (one_cons rfl one_nil))) rfl rfl) ?_
   refine WL.nil ?_
   refine WK.nThen ?_
   refine WC.seq ?_
   refine WC.region ?_
   refine WL.x (X.field Try.runUnderlying151 rfl Try.sizeOf28 rfl) (by decide) ?_
   refine WL.x (X.loadB (k := 2) Try.isAgg28 rfl rfl rfl) (by decide) ?_
   refine WL.x (X.move rfl) (by decide) ?_
   refine WL.xe (E.idxN k Try.runUnderlying28 Try.sizeOf3 rfl rfl hs8 (by omega)) (by decide) (fun p22 hp23 => ?_)
   refine WL.x (X.loadInt Try.isAgg3 rfl hp23) (by decide) ?_
   refine WL.x (X.assign rfl) (by decide) ?_
   refine WL.nil ?_
   refine WK.nThen ?_
   refine WC.seq ?_
   refine WC.seq ?_
   refine WC.region ?_
   refine WL.x (X.field Try.runUnderlying111 rfl Try.sizeOf25 rfl) (by decide) ?_
   refine WL.x (X.field Try.runUnderlying25 rfl Try.sizeOf23 rfl) (by decide) ?_
   refine WL.x (X.loadB (k := 3) Try.isAgg23 rfl rfl rfl) (by decide) ?_
   refine WL.x (X.len Try.runUnderlying23 rfl hs4) (by decide) ?_
   refine WL.x (X.move rfl) (by decide) ?_
   refine WL.nil ?_
   refine WK.nThen ?_
   refine WC.block ?_
   refine WC.loop (G := Nat × Int) (fun (i, n) => r.Shifts.length - i) (fun (i, n) => m) (fun (i, n) => [blk b21 62 [.int .i64 ((gt r.Values k).Time), .int .i64 (((gt r.Values k).Levels).Lo), .int .i64 (((gt r.Values k).Levels).Hi)], rowF (vo) 3 ((List.range k).map (evenAt r p.levels p.shifts)), blk b14 151 [v7, v9], blk b13 111 [v1, v3]]) (fun (i, n) => [(2, .pointer (some ⟨b13, 0, none⟩)), (3, .pointer (some ⟨b14, 0, none⟩)), (5, vo), (7, .pointer (some ⟨b21, 0, none⟩)), (8, .int .i64 (n)), (13, v1), (14, .int .i64 (↑r.Values.length)), (15, .int .i64 (↑k)), (27, v3), (28, .int .i64 (↑r.Shifts.length)), (29, .int .i64 (↑i))]) (fun (i, n) => i ≤ r.Shifts.length ∧ n = gt p.levels k - offN r.Shifts p.shifts (gt r.Values k).Time i) ((0, gt p.levels k)) rfl (.refl _) (.cons rfl (.cons rfl (.cons rfl (.cons rfl (.cons rfl (.cons rfl (.cons rfl (.cons rfl (.cons rfl (.cons rfl (.cons rfl .nil))))))))))) ?_ ?_
   ·exact ⟨Nat.zero_le _, (by first | rfl | simp [offN, sumN, totN, btLo, btHi])⟩
   ·rintro ⟨i, n⟩ hF24
    show WK _ _ m [blk b21 62 [.int .i64 ((gt r.Values k).Time), .int .i64 (((gt r.Values k).Levels).Lo), .int .i64 (((gt r.Values k).Levels).Hi)], rowF (vo) 3 ((List.range k).map (evenAt r p.levels p.shifts)), blk b14 151 [v7, v9], blk b13 111 [v1, v3]] [(2, .pointer (some ⟨b13, 0, none⟩)), (3, .pointer (some ⟨b14, 0, none⟩)), (5, vo), (7, .pointer (some ⟨b21, 0, none⟩)), (8, .int .i64 (n)), (13, v1), (14, .int .i64 (↑r.Values.length)), (15, .int .i64 (↑k)), (27, v3), (28, .int .i64 (↑r.Shifts.length)), (29, .int .i64 (↑i))] _
    replace hF24 : i ≤ r.Shifts.length ∧ n = gt p.levels k - offN r.Shifts p.shifts (gt r.Values k).Time i := hF24
    obtain ⟨hi, hn⟩ := hF24
    have hb := offN_bd (xs := r.Shifts) (t := (gt r.Values k).Time) (n := i) (fun j hj => hsh j (by omega))
    have hl := hag.2.1 k (by omega)
    have hvl := hok.vl (i := k) (by omega)
    refine WC.seq ?_
    refine WC.region ?_
    refine WL.cond (X.lss rfl rfl) (by decide) (fun h25 => ?_) (fun h25 => ?_)
    ·refine WL.nil ?_
     refine WK.nThen ?_
     refine WC.seq ?_
     refine WC.condT rfl ?_
     refine WC.skip ?_
     refine WK.nThen ?_
     refine WC.seq ?_
     refine WC.block ?_
     refine WC.seq ?_
     refine WC.region ?_
     refine WL.x (X.move rfl) (by decide) ?_
     refine WL.xe (E.idxN i Try.runUnderlying23 Try.sizeOf72 rfl rfl hs4 (by omega)) (by decide) (fun p26 hp27 => ?_)
     refine WL.xe (E.loadAgg Try.isAgg72 Try.sizeOf72 rfl hp27) (by decide) (fun c28 hc29 => ?_)
     obtain rfl := hc29
     refine WL.tn (T.alloc Try.zeroValue72 rfl) (by decide) fun b30 => ?_
     refine WL.x (X.assign rfl) (by decide) ?_
     refine WL.ts (T.storeBA (k := 0) Try.sizeOf72 rfl rfl rfl (one_cons rfl (one_cons rfl (one_cons rfl one_nil))) rfl rfl) ?_
     refine WL.nil ?_
     refine WK.nThen ?_
     refine WC.seq ?_
     refine WC.region ?_
     refine WL.x (X.field Try.runUnderlying72 rfl Try.sizeOf3 rfl) (by decide) ?_
     refine WL.x (X.loadB (k := 0) Try.isAgg3 rfl rfl rfl) (by decide) ?_
     refine WL.x (X.field Try.runUnderlying62 rfl Try.sizeOf3 rfl) (by decide) ?_
     refine WL.x (X.loadB (k := 1) Try.isAgg3 rfl rfl rfl) (by decide) ?_
     refine WL.cond (X.leq rfl rfl) (by decide) (fun h31 => ?_) (fun h31 => ?_)
     ·refine WL.nil ?_
      refine WK.nThen ?_
      refine WC.condT rfl ?_
      have hs1 := hsh i (by omega)
      refine WC.region ?_
      refine WL.x (X.move rfl) (by decide) ?_
      refine WL.x (X.field Try.runUnderlying151 rfl Try.sizeOf28 rfl) (by decide) ?_
      refine WL.x (X.loadB (k := 3) Try.isAgg28 rfl rfl rfl) (by decide) ?_
      refine WL.x (X.move rfl) (by decide) ?_
      refine WL.xe (E.idxN i Try.runUnderlying28 Try.sizeOf3 rfl rfl hs10 (by omega)) (by decide) (fun p32 hp33 => ?_)
      refine WL.x (X.loadInt Try.isAgg3 rfl hp33) (by decide) ?_
      refine WL.x (X.sub rfl rfl (by omega) (by omega)) (by decide) ?_
      refine WL.x (X.assign rfl) (by decide) ?_
      refine WL.nil ?_
      refine WK.nBlock ?_
      refine WK.nThen ?_
      refine WC.region ?_
      refine WL.x (X.add rfl rfl (by omega) (by omega)) (by decide) ?_
      refine WL.x (X.move rfl) (by decide) ?_
      refine WL.nil ?_
      refine WK.nThen ?_
      refine WK.next ((i + 1, n - (gt p.shifts i))) rfl (.cons _ (.cons_cons _ (.cons_cons _ (.cons_cons _ (.cons_cons _ .slnil))))) (.cons rfl (.cons rfl (.cons rfl (.cons rfl (.cons rfl (.cons rfl (.cons rfl (.cons rfl (.cons rfl (.cons rfl (.cons rfl .nil))))))))))) ?_ ?_
      ·refine ⟨by omega, ?_⟩
       ·have hs_ : gt p.levels k - offN r.Shifts p.shifts (gt r.Values k).Time (i + 1) = gt p.levels k - (offN r.Shifts p.shifts (gt r.Values k).Time i + (if (gt r.Shifts i).Time ≤ (gt r.Values k).Time then gt p.shifts i else 0)) := rfl
        (repeat' split at hs_) <;> (try dsimp only at hs_) <;> first | omega | contradiction
      ·(dsimp only; omega)
     ·refine WL.nil ?_
      refine WK.nThen ?_
      refine WC.condF rfl ?_
      refine WC.skip ?_
      refine WK.nBlock ?_
      refine WK.nThen ?_
      refine WC.region ?_
      refine WL.x (X.add rfl rfl (by omega) (by omega)) (by decide) ?_
      refine WL.x (X.move rfl) (by decide) ?_
      refine WL.nil ?_
      refine WK.nThen ?_
      refine WK.next ((i + 1, n)) rfl (.cons _ (.cons_cons _ (.cons_cons _ (.cons_cons _ (.cons_cons _ .slnil))))) (.cons rfl (.cons rfl (.cons rfl (.cons rfl (.cons rfl (.cons rfl (.cons rfl (.cons rfl (.cons rfl (.cons rfl (.cons rfl .nil))))))))))) ?_ ?_
      ·refine ⟨by omega, ?_⟩
       ·have hs_ : gt p.levels k - offN r.Shifts p.shifts (gt r.Values k).Time (i + 1) = gt p.levels k - (offN r.Shifts p.shifts (gt r.Values k).Time i + (if (gt r.Shifts i).Time ≤ (gt r.Values k).Time then gt p.shifts i else 0)) := rfl
        (repeat' split at hs_) <;> (try dsimp only at hs_) <;> first | omega | contradiction
      ·(dsimp only; omega)
    ·refine WL.nil ?_
     refine WK.nThen ?_
     refine WC.seq ?_
     refine WC.condF rfl ?_
     refine WC.exit ?_
     refine WK.eThen ?_
     refine WK.eThen ?_
     refine WK.eHit ?_
     refine WK.nThen ?_
     refine WC.region ?_
     refine WL.x (X.move rfl) (by decide) ?_
     refine WL.x (X.move rfl) (by decide) ?_
     refine WL.tl (T.lit1 sl28 rfl rfl rfl (by decide)) (by decide) fun b34 => ?_
     refine WL.ta (T.appendF (k := 1) (a := n) sl28 rfl rfl rfl rfl (by first | omega | (simp; done) | (simp; omega)) (by decide)) (by decide) (fun v35 => ?_)
     refine WL.x (X.assign rfl) (by decide) ?_
     refine WL.nil ?_
     refine WK.nBlock ?_
     refine WK.nThen ?_
     refine WC.region ?_
     refine WL.x (X.add rfl rfl (by omega) (by omega)) (by decide) ?_
     refine WL.x (X.move rfl) (by decide) ?_
     refine WL.nil ?_
     refine WK.nThen ?_
     have he36 : (((List.range k).map (evenAt r p.levels p.shifts)) ++ [n]) = ((List.range (k + 1)).map (evenAt r p.levels p.shifts)) := (by rw [show n = evenAt r p.levels p.shifts k by rw [hn, show i = r.Shifts.length by omega]; rfl]; exact map_succ _ _)
     rw [he36]
     refine WK.next ((k + 1, v35)) rfl (.cons _ (.cons_cons _ (.cons_cons _ (.cons_cons _ .slnil)))) (.cons rfl (.cons rfl (.cons rfl (.cons rfl (.cons rfl (.cons rfl .nil)))))) ?_ ?_
     ·omega
     ·(dsimp only; omega)
  ·refine WL.nil ?_
   refine WK.nThen ?_
   refine WC.seq ?_
   refine WC.condF rfl ?_
   refine WC.exit ?_
   refine WK.eThen ?_
   refine WK.eThen ?_
   refine WK.eHit ?_
   refine WK.nThen ?_
   refine WC.seq ?_
   obtain rfl : k = r.Values.length := (by omega)
   refine WC.region ?_
   refine WL.x (X.move rfl) (by decide) ?_
   refine WL.x (X.assign rfl) (by decide) ?_
   refine WL.nil ?_
   refine WK.nThen ?_
   refine WC.ret ?_
   refine WK.freezeF 0 rfl rfl (by simp [lenB]; omega) (fun m37 hle38 hs39 => ?_)
   replace hs2 := hs2.mono hle38
   replace hs4 := hs4.mono hle38
   replace hs8 := hs8.mono hle38
   replace hs10 := hs10.mono hle38
   refine WK.ret1 rfl rfl (fun w' hw' => Ret.mem hw' ?_)
   exact ⟨_, rfl, hs39⟩

theorem even39 (m : Mem) (cs : List Value) (s : Ser) (hs : Enc.rd m cs s) (vlevels : Value) (levels : List Int) (hlevels : Sl m vlevels levels) (vshifts : Value) (shifts : List Int) (hshifts : Sl m vshifts shifts)   : Pure Try.prog 39 #[.agg cs.toArray, vlevels, vshifts] m (fun m' v => ∃ r0, v = .tuple #[r0, .int .i64 ((evenR s levels shifts).2)] ∧ Sl m' r0 ((evenR s levels shifts).1)) := by
 obtain ⟨v1, v3, rfl, hs2, hs4⟩ := hs
 have hl5 := hs2.le
 have hl6 := hs4.le
 have llevels := hlevels.le
 have lshifts := hshifts.le
 refine Pure.start Try.func39 rfl Try.ntmps39 rfl fun wld => ?_
 refine WC.seq ?_
 refine WC.region ?_
 refine WL.tn (T.boxB rfl rfl) (by decide) fun b7 => ?_
 refine WL.x (X.assign rfl) (by decide) ?_
 refine WL.x (X.assign rfl) (by decide) ?_
 refine WL.nil ?_
 refine WK.nThen ?_
 refine WC.seq ?_
 refine WC.seq ?_
 refine WC.region ?_
 refine WL.x (X.loadBA (k := 0) Try.isAgg25 Try.sizeOf25 rfl rfl rfl) (by decide) ?_
 refine WL.x (X.move rfl) (by decide) ?_
 refine WL.x (X.move rfl) (by decide) ?_
 refine WL.x (X.call Try.call52 rfl (keeps52 _ _ s ⟨_, _, rfl, hs2, hs4⟩ _ _ hlevels _ _ hshifts )) (by decide) ?_
 refine WL.x (X.assign rfl) (by decide) ?_
 refine WL.nil ?_
 refine WK.nThen ?_
 refine WC.seq ?_
 refine WC.region ?_
 refine WL.x (X.move rfl) (by decide) ?_
 refine WL.condn (X.neq rfl rfl) (by decide) (fun h8 => ?_) (fun h8 => ?_)
 ·refine WL.nil ?_
  refine WK.nThen ?_
  refine WC.condT rfl ?_
  refine WC.seq ?_
  refine WC.region ?_
  refine WL.x (X.move rfl) (by decide) ?_
  refine WL.x (X.assign rfl) (by decide) ?_
  refine WL.x (X.assign rfl) (by decide) ?_
  refine WL.nil ?_
  refine WK.nThen ?_
  refine WC.ret ?_
  refine WK.rThen ?_
  refine WK.ret2 rfl rfl rfl (fun w' hw' => Ret.mem hw' ?_)
  first | exact ⟨_, tup2 rfl (int_eq (by unfold evenR; rw [if_pos (by omega)])), by unfold evenR; rw [if_pos (by omega)]; exact .nil⟩
 ·refine WL.nil ?_
  refine WK.nThen ?_
  refine WC.condF rfl ?_
  refine WC.skip ?_
  refine WK.nThen ?_
  refine WC.seq ?_
  have hkz := keepsE_zero (s := s) (lv := levels) (sh := shifts) (by omega)
  have hok := hkz.1
  have hag := hkz.2
  refine WC.region ?_
  refine WL.x (X.loadBA (k := 0) Try.isAgg25 Try.sizeOf25 rfl rfl rfl) (by decide) ?_
  refine WL.x (V := Value.agg [v1, v3].toArray) (X.build Try.zeroValue111 Try.runUnderlying111 (places111 _ Try.underlying111) rfl rfl) (by decide) ?_
  refine WL.x (X.move rfl) (by decide) ?_
  refine WL.x (X.move rfl) (by decide) ?_
  refine WL.x (V := Value.agg [vlevels, vshifts].toArray) (X.build Try.zeroValue151 Try.runUnderlying151 (places151 _ Try.underlying151) rfl (by simp only [Instr.fill, one_cells hlevels.one, one_cells hshifts.one]; rfl)) (by decide) ?_
  refine WL.tm (T.call Try.call109 rfl (even109 _ _ s ⟨_, _, rfl, hs2, hs4⟩ _ ((Pick.mk (levels) (shifts))) ⟨_, _, rfl, hlevels, hshifts⟩ (by assumption) (by first | exact agree_low hok | exact agree_high hok | assumption))) (by decide) fun m9 r10 hle11 hR12 => ?_
  obtain ⟨v13, hv_, hs14⟩ := hR12
  rw [← hv_] at hs14
  clear hv_ v13
  replace hs2 := hs2.mono hle11
  replace hs4 := hs4.mono hle11
  replace hlevels := hlevels.mono hle11
  replace hshifts := hshifts.mono hle11
  have hl15 := hs14.le
  refine WL.x (X.assign rfl) (by decide) ?_
  refine WL.x (X.assign rfl) (by decide) ?_
  refine WL.nil ?_
  refine WK.nThen ?_
  refine WC.ret ?_
  refine WK.ret2 rfl rfl rfl (fun w' hw' => Ret.mem hw' ?_)
  first | exact ⟨_, tup2 rfl (int_eq (by unfold evenR; rw [if_neg (by omega)])), by unfold evenR; rw [if_neg (by omega)]; exact hs14⟩

theorem evens107 (m : Mem) (cr : List Value) (r : Ser) (hr : Enc.rd m cr r)  (hok : Ok r) : Pure Try.prog 107 #[.agg cr.toArray] m (fun m' v => ∃ r0, v = r0 ∧ Sl m' r0 (evsL r)) := by
 obtain ⟨v1, v3, rfl, hs2, hs4⟩ := hr
 have hl5 := hs2.le
 have hl6 := hs4.le
 have hnV := hok.nV
 have hnX := hok.nX
 refine Pure.start Try.func107 rfl Try.ntmps107 rfl fun wld => ?_
 refine WC.seq ?_
 refine WC.region ?_
 refine WL.tn (T.boxB rfl rfl) (by decide) fun b7 => ?_
 refine WL.x (X.assign rfl) (by decide) ?_
 refine WL.nil ?_
 refine WK.nThen ?_
 refine WC.seq ?_
 refine WC.draw (π := (.cons 0 (.cons 1 (.cons 4 (.cons 5 (.cons 2 (.cons 3 (.cons 6 (.cons 7 (.cons 8 (.cons 9 .done))))))))))) [2, 3, 6, 7] [] rfl (by kernel_rfl) ?_
 refine DW.x rfl rfl (X.loadBA (k := 0) Try.isAgg111 Try.sizeOf111 rfl rfl rfl) (by decide) ?_
 refine DW.x rfl rfl (X.loadBA (k := 0) Try.isAgg111 Try.sizeOf111 rfl rfl rfl) (by decide) ?_
 refine DW.x rfl rfl (X.loadBA (k := 0) Try.isAgg111 Try.sizeOf111 rfl rfl rfl) (by decide) ?_
 refine DW.x rfl rfl (X.loadBA (k := 0) Try.isAgg111 Try.sizeOf111 rfl rfl rfl) (by decide) ?_
 refine DW.tm rfl rfl rfl (T.call Try.call145 rfl (low145 _ _ r ⟨_, _, rfl, hs2, hs4⟩ (by assumption))) (by decide) fun m8 r9 hle10 hR11 => ?_
 obtain ⟨c12, rfl, hc13⟩ := hR11
 replace hs2 := hs2.mono hle10
 replace hs4 := hs4.mono hle10
 obtain ⟨v14, v16, rfl, hs15, hs17⟩ := hc13
 have hl18 := hs15.le
 have hl19 := hs17.le
 refine DW.tm rfl rfl rfl (T.call Try.call109 rfl (even109 _ _ r ⟨_, _, rfl, hs2, hs4⟩ _ (lowP r) ⟨_, _, rfl, hs15, hs17⟩ (by assumption) (by first | exact agree_low hok | exact agree_high hok | assumption))) (by decide) fun m20 r21 hle22 hR23 => ?_
 obtain ⟨v24, hv_, hs25⟩ := hR23
 rw [← hv_] at hs25
 clear hv_ v24
 replace hs2 := hs2.mono hle22
 replace hs4 := hs4.mono hle22
 replace hs15 := hs15.mono hle22
 replace hs17 := hs17.mono hle22
 have hl26 := hs25.le
 refine DW.tm rfl rfl rfl (T.call Try.call146 rfl (high146 _ _ r ⟨_, _, rfl, hs2, hs4⟩ (by assumption))) (by decide) fun m27 r28 hle29 hR30 => ?_
 obtain ⟨c31, rfl, hc32⟩ := hR30
 replace hs2 := hs2.mono hle29
 replace hs4 := hs4.mono hle29
 replace hs15 := hs15.mono hle29
 replace hs17 := hs17.mono hle29
 replace hs25 := hs25.mono hle29
 obtain ⟨v33, v35, rfl, hs34, hs36⟩ := hc32
 have hl37 := hs34.le
 have hl38 := hs36.le
 refine DW.tm rfl rfl rfl (T.call Try.call109 rfl (even109 _ _ r ⟨_, _, rfl, hs2, hs4⟩ _ (highP r) ⟨_, _, rfl, hs34, hs36⟩ (by assumption) (by first | exact agree_low hok | exact agree_high hok | assumption))) (by decide) fun m39 r40 hle41 hR42 => ?_
 obtain ⟨v43, hv_, hs44⟩ := hR42
 rw [← hv_] at hs44
 clear hv_ v43
 replace hs2 := hs2.mono hle41
 replace hs4 := hs4.mono hle41
 replace hs15 := hs15.mono hle41
 replace hs17 := hs17.mono hle41
 replace hs25 := hs25.mono hle41
 replace hs34 := hs34.mono hle41
 replace hs36 := hs36.mono hle41
 have hl45 := hs44.le
 refine DW.x rfl rfl (X.assign rfl) (by decide) ?_
 refine DW.x rfl rfl (X.assign rfl) (by decide) ?_
 refine DW.nil ?_
 refine WK.nThen ?_
 refine WC.seq ?_
 refine WK.ownF Span 33 ?_
 refine WC.region ?_
 refine WL.x (X.assign rfl) (by decide) ?_
 refine WL.nil ?_
 refine WK.nThen ?_
 refine WC.seq ?_
 refine WC.seq ?_
 refine WC.region ?_
 refine WL.x (X.move rfl) (by decide) ?_
 refine WL.x (X.len Try.runUnderlying28 rfl hs25) (by decide) ?_
 refine WL.x (X.move rfl) (by decide) ?_
 refine WL.nil ?_
 refine WK.nThen ?_
 refine WC.block ?_
 have hel := evenL_len r (lowP r).levels (lowP r).shifts
 have heh := evenL_len r (highP r).levels (highP r).shifts
 refine WC.loop (G := Nat × Value) (fun (k, vo) => r.Values.length - k) (fun (k, vo) => m39) (fun (k, vo) => [rowF (vo) 33 ((List.range k).map (evS r)), blk b7 111 [v1, v3]]) (fun (k, vo) => [(3, r21), (4, r40), (5, vo), (16, .int .i64 (↑(evenL r ((lowP r)).levels ((lowP r)).shifts).length)), (17, .int .i64 (↑k))]) (fun (k, vo) => k ≤ r.Values.length) ((0, Value.slice none 0 0)) rfl (.refl _) (.cons rfl (.cons rfl (.cons rfl (.cons rfl (.cons rfl .nil))))) ?_ ?_
 ·exact Nat.zero_le _
 ·rintro ⟨k, vo⟩ hF46
  show WK _ _ m39 [rowF (vo) 33 ((List.range k).map (evS r)), blk b7 111 [v1, v3]] [(3, r21), (4, r40), (5, vo), (16, .int .i64 (↑(evenL r ((lowP r)).levels ((lowP r)).shifts).length)), (17, .int .i64 (↑k))] _
  replace hF46 : k ≤ r.Values.length := hF46
  have hk := hF46
  refine WC.seq ?_
  refine WC.region ?_
  refine WL.cond (X.lss rfl rfl) (by decide) (fun h47 => ?_) (fun h47 => ?_)
  ·refine WL.nil ?_
   refine WK.nThen ?_
   refine WC.seq ?_
   refine WC.condT rfl ?_
   refine WC.skip ?_
   refine WK.nThen ?_
   refine WC.seq ?_
   refine WC.block ?_
   refine WC.seq ?_
   refine WC.region ?_
   refine WL.x (X.move rfl) (by decide) ?_
   refine WL.x (X.assign rfl) (by decide) ?_
   refine WL.nil ?_
   refine WK.nThen ?_
   refine WC.draw (π := (.cons 0 (.cons 1 (.cons 2 (.cons 3 (.cons 4 (.cons 5 (.cons 6 (.cons 7 (.cons 8 (.cons 9 (.cons 10 (.cons 11 (.cons 12 .done)))))))))))))) [10, 11] [11] rfl (by kernel_rfl) ?_
   refine DW.x rfl rfl (X.move rfl) (by decide) ?_
   refine DW.x rfl rfl (X.move rfl) (by decide) ?_
   refine DW.x rfl rfl (X.move rfl) (by decide) ?_
   refine DW.xe rfl rfl (E.idxN k Try.runUnderlying28 Try.sizeOf3 rfl rfl hs25 (by omega)) (by decide) (fun p48 hp49 => ?_)
   refine DW.x rfl rfl (X.loadInt Try.isAgg3 rfl hp49) (by decide) ?_
   refine DW.x rfl rfl (X.move rfl) (by decide) ?_
   refine DW.x rfl rfl (X.move rfl) (by decide) ?_
   refine DW.xe rfl rfl (E.idxN k Try.runUnderlying28 Try.sizeOf3 rfl rfl hs44 (by omega)) (by decide) (fun p50 hp51 => ?_)
   refine DW.x rfl rfl (X.loadInt Try.isAgg3 rfl hp51) (by decide) ?_
   refine DW.x (V := Value.agg [.int .i64 (gt (evenL r ((lowP r)).levels ((lowP r)).shifts) k), .int .i64 (gt (evenL r ((highP r)).levels ((highP r)).shifts) k)].toArray) rfl rfl (X.build Try.zeroValue33 Try.runUnderlying33 (places33 _ Try.underlying33) rfl rfl) (by decide) ?_
   refine DW.tl rfl rfl rfl (T.lit1 sl74 rfl rfl rfl (by decide)) (by decide) fun b52 => ?_
   refine DW.ta rfl rfl rfl rfl (T.appendF (k := 0) (a := (Span.mk (gt (evenL r ((lowP r)).levels ((lowP r)).shifts) k) (gt (evenL r ((highP r)).levels ((highP r)).shifts) k))) sl74 rfl rfl rfl rfl (by first | omega | (simp; done) | (simp; omega)) (by decide)) (by decide) (fun v53 => ?_)
   refine DW.x rfl rfl (X.assign rfl) (by decide) ?_
   refine DW.nil ?_
   refine WK.nBlock ?_
   refine WK.nThen ?_
   refine WC.region ?_
   refine WL.x (X.add rfl rfl (by omega) (by omega)) (by decide) ?_
   refine WL.x (X.move rfl) (by decide) ?_
   refine WL.nil ?_
   refine WK.nThen ?_
   have he54 : (((List.range k).map (evS r)) ++ [(Span.mk (gt (evenL r ((lowP r)).levels ((lowP r)).shifts) k) (gt (evenL r ((highP r)).levels ((highP r)).shifts) k))]) = ((List.range (k + 1)).map (evS r)) := ev_snoc hok (by omega)
   rw [he54]
   refine WK.next ((k + 1, v53)) rfl (.refl _) (.cons rfl (.cons rfl (.cons rfl (.cons rfl (.cons rfl .nil))))) ?_ ?_
   ·omega
   ·(dsimp only; omega)
  ·refine WL.nil ?_
   refine WK.nThen ?_
   refine WC.seq ?_
   refine WC.condF rfl ?_
   refine WC.exit ?_
   refine WK.eThen ?_
   refine WK.eThen ?_
   refine WK.eHit ?_
   refine WK.nThen ?_
   refine WC.seq ?_
   refine WC.region ?_
   refine WL.x (X.move rfl) (by decide) ?_
   refine WL.x (X.assign rfl) (by decide) ?_
   refine WL.nil ?_
   refine WK.nThen ?_
   refine WC.ret ?_
   refine WK.freezeF 0 rfl rfl (by simp [lenB]; omega) (fun m55 hle56 hs57 => ?_)
   replace hs2 := hs2.mono hle56
   replace hs4 := hs4.mono hle56
   replace hs15 := hs15.mono hle56
   replace hs17 := hs17.mono hle56
   replace hs25 := hs25.mono hle56
   replace hs34 := hs34.mono hle56
   replace hs36 := hs36.mono hle56
   replace hs44 := hs44.mono hle56
   refine WK.ret1 rfl rfl (fun w' hw' => Ret.mem hw' ?_)
   obtain rfl : k = r.Values.length := (by omega)
   exact ⟨_, rfl, hs57⟩

theorem end152 (m : Mem) (cs : List Value) (s : Span) (hs : Enc.rd m cs s) (f : Int) (most : Bool)   : Exact Try.prog 152 #[.agg cs.toArray, .int .i64 (f), .bool (most)] m (.int .i64 (endS s f most)) := by
 obtain rfl := hs
 refine Exact.start Try.func152 rfl Try.ntmps152 rfl fun wld => ?_
 refine WC.seq ?_
 refine WC.region ?_
 refine WL.tn (T.boxB rfl rfl) (by decide) fun b1 => ?_
 refine WL.x (X.assign rfl) (by decide) ?_
 refine WL.nil ?_
 refine WK.nThen ?_
 refine WC.seq ?_
 refine WC.seq ?_
 refine WC.region ?_
 refine WL.x (X.move rfl) (by decide) ?_
 refine WL.x (X.gtr rfl rfl) (by decide) ?_
 refine WL.x (X.move rfl) (by decide) ?_
 refine WL.cond (X.eqlB Try.underlying4 rfl rfl) (by decide) (fun h2 => ?_) (fun h2 => ?_)
 ·refine WL.nil ?_
  refine WK.nThen ?_
  refine WC.condT rfl ?_
  refine WC.seq ?_
  refine WC.region ?_
  refine WL.x (X.field Try.runUnderlying33 rfl Try.sizeOf3 rfl) (by decide) ?_
  refine WL.x (X.loadB (k := 0) Try.isAgg3 rfl rfl rfl) (by decide) ?_
  refine WL.x (X.assign rfl) (by decide) ?_
  refine WL.nil ?_
  refine WK.nThen ?_
  refine WC.ret ?_
  refine WK.rThen ?_
  refine WK.ret1 rfl rfl (fun w' hw' => Ret.exact hw' ?_)
  first | exact int_eq (by unfold endS; rw [if_pos (by assumption)]) | exact int_eq (by unfold endS; rw [if_neg (by assumption)])
 ·refine WL.nil ?_
  refine WK.nThen ?_
  refine WC.condF rfl ?_
  refine WC.skip ?_
  refine WK.nThen ?_
  refine WC.seq ?_
  refine WC.region ?_
  refine WL.x (X.field Try.runUnderlying33 rfl Try.sizeOf3 rfl) (by decide) ?_
  refine WL.x (X.loadB (k := 0) Try.isAgg3 rfl rfl rfl) (by decide) ?_
  refine WL.x (X.assign rfl) (by decide) ?_
  refine WL.nil ?_
  refine WK.nThen ?_
  refine WC.ret ?_
  refine WK.ret1 rfl rfl (fun w' hw' => Ret.exact hw' ?_)
  first | exact int_eq (by unfold endS; rw [if_pos (by assumption)]) | exact int_eq (by unfold endS; rw [if_neg (by assumption)])

theorem sum129 (m : Mem) (cr : List Value) (r : Ser) (hr : Enc.rd m cr r) (vfactors : Value) (factors : List Int) (hfactors : Sl m vfactors factors)  (hok : Ok r) (hf : facW r factors) : Pure Try.prog 129 #[.agg cr.toArray, vfactors] m (fun m' v => ∃ r0, v = .agg r0.toArray ∧ Enc.rd m' r0 (Sum.mk r factors (sumXL r factors))) := by
 obtain ⟨v1, v3, rfl, hs2, hs4⟩ := hr
 have hl5 := hs2.le
 have hl6 := hs4.le
 have lfactors := hfactors.le
 have hnV := hok.nV
 have hnX := hok.nX
 have hfl := hf.1
 refine Pure.start Try.func129 rfl Try.ntmps129 rfl fun wld => ?_
 refine WC.seq ?_
 refine WC.region ?_
 refine WL.tn (T.boxB rfl rfl) (by decide) fun b7 => ?_
 refine WL.tn (T.alloc Try.zeroValue139 rfl) (by decide) fun b8 => ?_
 refine WL.nil ?_
 refine WK.nThen ?_
 refine WC.seq ?_
 refine WC.region ?_
 refine WL.x (X.loadBA (k := 1) Try.isAgg111 Try.sizeOf111 rfl rfl rfl) (by decide) ?_
 refine WL.x (X.move rfl) (by decide) ?_
 refine WL.x (V := Value.agg [v1, v3, vfactors, .slice none 0 0].toArray) (X.build Try.zeroValue139 Try.runUnderlying139 (places139 _ Try.underlying139) rfl (by simp only [Instr.fill, one_cells hfactors.one, one_cells hs2.one, one_cells hs4.one]; rfl)) (by decide) ?_
 refine WL.tn (T.alloc Try.zeroValue139 rfl) (by decide) fun b9 => ?_
 refine WL.ts (T.storeBA (k := 0) Try.sizeOf139 rfl rfl rfl (one_cons hs2.one (one_cons hs4.one (one_cons hfactors.one (one_cons rfl one_nil)))) rfl rfl) ?_
 refine WL.nil ?_
 refine WK.nThen ?_
 refine WC.seq ?_
 refine WC.seq ?_
 refine WK.ownF Int 3 ?_
 refine WC.region ?_
 refine WL.x (X.field Try.runUnderlying111 rfl Try.sizeOf25 rfl) (by decide) ?_
 refine WL.x (X.field Try.runUnderlying25 rfl Try.sizeOf23 rfl) (by decide) ?_
 refine WL.x (X.loadB (k := 3) Try.isAgg23 rfl rfl rfl) (by decide) ?_
 refine WL.x (X.len Try.runUnderlying23 rfl hs4) (by decide) ?_
 refine WL.x (X.move rfl) (by decide) ?_
 refine WL.nil ?_
 refine WK.nThen ?_
 refine WC.block ?_
 refine WC.loop (G := Nat × Value) (fun (k, vo) => r.Shifts.length - k) (fun (k, vo) => m) (fun (k, vo) => [rowF (vo) 3 ((List.range k).map (sumX r factors)), blk b9 139 [v1, v3, vfactors, vo], blk b8 139 [.slice none 0 0, .slice none 0 0, .slice none 0 0, .slice none 0 0], blk b7 111 [v1, v3]]) (fun (k, vo) => [(1, vfactors), (2, .pointer (some ⟨b7, 0, none⟩)), (4, .pointer (some ⟨b8, 0, none⟩)), (5, .pointer (some ⟨b9, 0, none⟩)), (16, v3), (17, .int .i64 (↑r.Shifts.length)), (18, .int .i64 (↑k))]) (fun (k, vo) => k ≤ r.Shifts.length) ((0, Value.slice none 0 0)) rfl (.refl _) (.cons rfl (.cons rfl (.cons rfl (.cons rfl (.cons rfl (.cons rfl (.cons rfl .nil))))))) ?_ ?_
 ·exact Nat.zero_le _
 ·rintro ⟨k, vo⟩ hF10
  show WK _ _ m [rowF (vo) 3 ((List.range k).map (sumX r factors)), blk b9 139 [v1, v3, vfactors, vo], blk b8 139 [.slice none 0 0, .slice none 0 0, .slice none 0 0, .slice none 0 0], blk b7 111 [v1, v3]] [(1, vfactors), (2, .pointer (some ⟨b7, 0, none⟩)), (4, .pointer (some ⟨b8, 0, none⟩)), (5, .pointer (some ⟨b9, 0, none⟩)), (16, v3), (17, .int .i64 (↑r.Shifts.length)), (18, .int .i64 (↑k))] _
  replace hF10 : k ≤ r.Shifts.length := hF10
  have hk := hF10
  refine WC.seq ?_
  refine WC.region ?_
  refine WL.cond (X.lss rfl rfl) (by decide) (fun h11 => ?_) (fun h11 => ?_)
  ·refine WL.nil ?_
   refine WK.nThen ?_
   refine WC.seq ?_
   refine WC.condT rfl ?_
   refine WC.skip ?_
   refine WK.nThen ?_
   refine WC.seq ?_
   refine WC.block ?_
   refine WC.seq ?_
   refine WC.region ?_
   refine WL.xe (E.idxN k Try.runUnderlying23 Try.sizeOf72 rfl rfl hs4 (by omega)) (by decide) (fun p12 hp13 => ?_)
   refine WL.xe (E.loadAgg Try.isAgg72 Try.sizeOf72 rfl hp13) (by decide) (fun c14 hc15 => ?_)
   obtain rfl := hc15
   refine WL.tn (T.alloc Try.zeroValue72 rfl) (by decide) fun b16 => ?_
   refine WL.ts (T.storeBA (k := 0) Try.sizeOf72 rfl rfl rfl (one_cons rfl (one_cons rfl (one_cons rfl one_nil))) rfl rfl) ?_
   refine WL.nil ?_
   refine WK.nThen ?_
   refine WC.seq ?_
   refine WC.region ?_
   refine WL.x (X.assign rfl) (by decide) ?_
   refine WL.nil ?_
   refine WK.nThen ?_
   refine WC.seq ?_
   refine WC.seq ?_
   refine WC.region ?_
   refine WL.x (X.field Try.runUnderlying111 rfl Try.sizeOf25 rfl) (by decide) ?_
   refine WL.x (X.field Try.runUnderlying25 rfl Try.sizeOf22 rfl) (by decide) ?_
   refine WL.x (X.loadB (k := 4) Try.isAgg22 rfl rfl rfl) (by decide) ?_
   refine WL.x (X.len Try.runUnderlying22 rfl hs2) (by decide) ?_
   refine WL.x (X.move rfl) (by decide) ?_
   refine WL.nil ?_
   refine WK.nThen ?_
   refine WC.block ?_
   refine WC.loop (G := Nat × Int) (fun (i, n) => r.Values.length - i) (fun (i, n) => m) (fun (i, n) => [blk b16 72 [.int .i64 ((gt r.Shifts k).Time), .int .i64 (((gt r.Shifts k).Levels).Lo), .int .i64 (((gt r.Shifts k).Levels).Hi)], rowF (vo) 3 ((List.range k).map (sumX r factors)), blk b9 139 [v1, v3, vfactors, vo], blk b8 139 [.slice none 0 0, .slice none 0 0, .slice none 0 0, .slice none 0 0], blk b7 111 [v1, v3]]) (fun (i, n) => [(1, vfactors), (2, .pointer (some ⟨b7, 0, none⟩)), (4, .pointer (some ⟨b8, 0, none⟩)), (5, .pointer (some ⟨b9, 0, none⟩)), (7, .pointer (some ⟨b16, 0, none⟩)), (8, .int .i64 (n)), (16, v3), (17, .int .i64 (↑r.Shifts.length)), (18, .int .i64 (↑k)), (24, v1), (25, .int .i64 (↑r.Values.length)), (26, .int .i64 (↑i))]) (fun (i, n) => i ≤ r.Values.length ∧ n = - sumN (fun i => if (gt r.Shifts k).Time ≤ (gt r.Values i).Time then gt factors i else 0) i) ((0, 0)) rfl (.refl _) (.cons rfl (.cons rfl (.cons rfl (.cons rfl (.cons rfl (.cons rfl (.cons rfl (.cons rfl (.cons rfl (.cons rfl (.cons rfl (.cons rfl .nil)))))))))))) ?_ ?_
   ·exact ⟨Nat.zero_le _, (by first | rfl | simp [offN, sumN, totN, btLo, btHi])⟩
   ·rintro ⟨i, n⟩ hF17
    show WK _ _ m [blk b16 72 [.int .i64 ((gt r.Shifts k).Time), .int .i64 (((gt r.Shifts k).Levels).Lo), .int .i64 (((gt r.Shifts k).Levels).Hi)], rowF (vo) 3 ((List.range k).map (sumX r factors)), blk b9 139 [v1, v3, vfactors, vo], blk b8 139 [.slice none 0 0, .slice none 0 0, .slice none 0 0, .slice none 0 0], blk b7 111 [v1, v3]] [(1, vfactors), (2, .pointer (some ⟨b7, 0, none⟩)), (4, .pointer (some ⟨b8, 0, none⟩)), (5, .pointer (some ⟨b9, 0, none⟩)), (7, .pointer (some ⟨b16, 0, none⟩)), (8, .int .i64 (n)), (16, v3), (17, .int .i64 (↑r.Shifts.length)), (18, .int .i64 (↑k)), (24, v1), (25, .int .i64 (↑r.Values.length)), (26, .int .i64 (↑i))] _
    replace hF17 : i ≤ r.Values.length ∧ n = - sumN (fun i => if (gt r.Shifts k).Time ≤ (gt r.Values i).Time then gt factors i else 0) i := hF17
    obtain ⟨hi, hn⟩ := hF17
    have hb := sumP_bd hf.2 (gt r.Shifts k).Time hi
    refine WC.seq ?_
    refine WC.region ?_
    refine WL.cond (X.lss rfl rfl) (by decide) (fun h18 => ?_) (fun h18 => ?_)
    ·refine WL.nil ?_
     refine WK.nThen ?_
     refine WC.seq ?_
     refine WC.condT rfl ?_
     refine WC.skip ?_
     refine WK.nThen ?_
     refine WC.seq ?_
     refine WC.block ?_
     refine WC.seq ?_
     refine WC.region ?_
     refine WL.x (X.move rfl) (by decide) ?_
     refine WL.xe (E.idxN i Try.runUnderlying22 Try.sizeOf62 rfl rfl hs2 (by omega)) (by decide) (fun p19 hp20 => ?_)
     refine WL.xe (E.loadAgg Try.isAgg62 Try.sizeOf62 rfl hp20) (by decide) (fun c21 hc22 => ?_)
     obtain rfl := hc22
     refine WL.tn (T.alloc Try.zeroValue62 rfl) (by decide) fun b23 => ?_
     refine WL.x (X.assign rfl) (by decide) ?_
     refine WL.ts (T.storeBA (k := 0) Try.sizeOf62 rfl rfl rfl (one_cons rfl (one_cons rfl (one_cons rfl one_nil))) rfl rfl) ?_
     refine WL.nil ?_
     refine WK.nThen ?_
     refine WC.seq ?_
     refine WC.region ?_
     refine WL.x (X.field Try.runUnderlying72 rfl Try.sizeOf3 rfl) (by decide) ?_
     refine WL.x (X.loadB (k := 1) Try.isAgg3 rfl rfl rfl) (by decide) ?_
     refine WL.x (X.field Try.runUnderlying62 rfl Try.sizeOf3 rfl) (by decide) ?_
     refine WL.x (X.loadB (k := 0) Try.isAgg3 rfl rfl rfl) (by decide) ?_
     refine WL.cond (X.leq rfl rfl) (by decide) (fun h24 => ?_) (fun h24 => ?_)
     ·refine WL.nil ?_
      refine WK.nThen ?_
      refine WC.condT rfl ?_
      have hfi := hf.2 i (by omega)
      refine WC.region ?_
      refine WL.x (X.move rfl) (by decide) ?_
      refine WL.x (X.move rfl) (by decide) ?_
      refine WL.x (X.move rfl) (by decide) ?_
      refine WL.xe (E.idxN i Try.runUnderlying28 Try.sizeOf3 rfl rfl hfactors (by omega)) (by decide) (fun p25 hp26 => ?_)
      refine WL.x (X.loadInt Try.isAgg3 rfl hp26) (by decide) ?_
      refine WL.x (X.sub rfl rfl (by omega) (by omega)) (by decide) ?_
      refine WL.x (X.assign rfl) (by decide) ?_
      refine WL.nil ?_
      refine WK.nBlock ?_
      refine WK.nThen ?_
      refine WC.region ?_
      refine WL.x (X.add rfl rfl (by omega) (by omega)) (by decide) ?_
      refine WL.x (X.move rfl) (by decide) ?_
      refine WL.nil ?_
      refine WK.nThen ?_
      refine WK.next ((i + 1, n - (gt factors i))) rfl (.cons _ (.cons_cons _ (.cons_cons _ (.cons_cons _ (.cons_cons _ (.cons_cons _ .slnil)))))) (.cons rfl (.cons rfl (.cons rfl (.cons rfl (.cons rfl (.cons rfl (.cons rfl (.cons rfl (.cons rfl (.cons rfl (.cons rfl (.cons rfl .nil)))))))))))) ?_ ?_
      ·refine ⟨by omega, ?_⟩
       ·have hs_ : - sumN (fun i => if (gt r.Shifts k).Time ≤ (gt r.Values i).Time then gt factors i else 0) (i + 1) = - (sumN (fun i => if (gt r.Shifts k).Time ≤ (gt r.Values i).Time then gt factors i else 0) i + (if (gt r.Shifts k).Time ≤ (gt r.Values i).Time then gt factors i else 0)) := rfl
        (repeat' split at hs_) <;> (try dsimp only at hs_) <;> first | omega | contradiction
      ·(dsimp only; omega)
     ·refine WL.nil ?_
      refine WK.nThen ?_
      refine WC.condF rfl ?_
      refine WC.skip ?_
      refine WK.nBlock ?_
      refine WK.nThen ?_
      refine WC.region ?_
      refine WL.x (X.add rfl rfl (by omega) (by omega)) (by decide) ?_
      refine WL.x (X.move rfl) (by decide) ?_
      refine WL.nil ?_
      refine WK.nThen ?_
      refine WK.next ((i + 1, n)) rfl (.cons _ (.cons_cons _ (.cons_cons _ (.cons_cons _ (.cons_cons _ (.cons_cons _ .slnil)))))) (.cons rfl (.cons rfl (.cons rfl (.cons rfl (.cons rfl (.cons rfl (.cons rfl (.cons rfl (.cons rfl (.cons rfl (.cons rfl (.cons rfl .nil)))))))))))) ?_ ?_
      ·refine ⟨by omega, ?_⟩
       ·have hs_ : - sumN (fun i => if (gt r.Shifts k).Time ≤ (gt r.Values i).Time then gt factors i else 0) (i + 1) = - (sumN (fun i => if (gt r.Shifts k).Time ≤ (gt r.Values i).Time then gt factors i else 0) i + (if (gt r.Shifts k).Time ≤ (gt r.Values i).Time then gt factors i else 0)) := rfl
        (repeat' split at hs_) <;> (try dsimp only at hs_) <;> first | omega | contradiction
      ·(dsimp only; omega)
    ·refine WL.nil ?_
     refine WK.nThen ?_
     refine WC.seq ?_
     refine WC.condF rfl ?_
     refine WC.exit ?_
     refine WK.eThen ?_
     refine WK.eThen ?_
     refine WK.eHit ?_
     refine WK.nThen ?_
     refine WC.region ?_
     refine WL.x (X.field Try.runUnderlying139 rfl Try.sizeOf28 rfl) (by decide) ?_
     refine WL.x (X.loadB (k := 2) Try.isAgg28 rfl rfl rfl) (by decide) ?_
     refine WL.x (X.move rfl) (by decide) ?_
     refine WL.tl (T.lit1 sl28 rfl rfl rfl (by decide)) (by decide) fun b27 => ?_
     refine WL.ta (T.appendF (k := 1) (a := n) sl28 rfl rfl rfl rfl (by first | omega | (simp; done) | (simp; omega)) (by decide)) (by decide) (fun v28 => ?_)
     refine WL.x (X.field Try.runUnderlying139 rfl Try.sizeOf28 rfl) (by decide) ?_
     refine WL.own1 (k := 1) rfl (fun ho29 => ?_)
     refine WL.ts (T.storeB (k := 2) Try.sizeOf28 rfl rfl rfl ho29 (Nat.le_of_ble_eq_true rfl)) ?_
     refine WL.nil ?_
     refine WK.nBlock ?_
     refine WK.nThen ?_
     refine WC.region ?_
     refine WL.x (X.add rfl rfl (by omega) (by omega)) (by decide) ?_
     refine WL.x (X.move rfl) (by decide) ?_
     refine WL.nil ?_
     refine WK.nThen ?_
     have he30 : (((List.range k).map (sumX r factors)) ++ [n]) = ((List.range (k + 1)).map (sumX r factors)) := (by rw [show n = sumX r factors k by rw [hn, show i = r.Values.length by omega]; rfl]; exact map_succ _ _)
     rw [he30]
     refine WK.next ((k + 1, v28)) rfl (.cons _ (.cons_cons _ (.cons_cons _ (.cons_cons _ (.cons_cons _ .slnil))))) (.cons rfl (.cons rfl (.cons rfl (.cons rfl (.cons rfl (.cons rfl (.cons rfl .nil))))))) ?_ ?_
     ·omega
     ·(dsimp only; omega)
  ·refine WL.nil ?_
   refine WK.nThen ?_
   refine WC.seq ?_
   refine WC.condF rfl ?_
   refine WC.exit ?_
   refine WK.eThen ?_
   refine WK.eThen ?_
   refine WK.eHit ?_
   refine WK.nThen ?_
   refine WC.seq ?_
   obtain rfl : k = r.Shifts.length := (by omega)
   refine WC.region ?_
   refine WL.x (X.loadBA (k := 1) Try.isAgg139 Try.sizeOf139 rfl rfl rfl) (by decide) ?_
   refine WL.own1 (k := 0) rfl (fun ho31 => ?_)
   refine WL.ts (T.storeBA (k := 2) Try.sizeOf139 rfl rfl rfl (one_cons hs2.one (one_cons hs4.one (one_cons hfactors.one (one_cons ho31 one_nil)))) rfl rfl) ?_
   refine WL.nil ?_
   refine WK.nThen ?_
   refine WC.ret ?_
   refine WK.freezeF 0 rfl rfl (by simp [lenB]; omega) (fun m32 hle33 hs34 => ?_)
   replace hs2 := hs2.mono hle33
   replace hs4 := hs4.mono hle33
   replace hfactors := hfactors.mono hle33
   refine WK.retC1 1 rfl rfl rfl Try.isAgg139 Try.sizeOf139 (fun w' hw' => Ret.mem hw' ?_)
   exact ⟨_, rfl, ⟨_, _, _, _, rfl, hs2, hs4, hfactors, hs34⟩⟩

theorem at127 (m : Mem) (cx : List Value) (x : Sum) (hx : Enc.rd m cx x) (most : Bool)  (hw : SumW x) : Pure Try.prog 127 #[.agg cx.toArray, .bool (most)] m (fun m' v => ∃ r0, v = .agg r0.toArray ∧ Enc.rd m' r0 (Pick.mk (endV x.run x.levels most) (endX x.run x.shifts most))) := by
 obtain ⟨v1, v3, v5, v7, rfl, hs2, hs4, hs6, hs8⟩ := hx
 have hl9 := hs2.le
 have hl10 := hs4.le
 have hl11 := hs6.le
 have hl12 := hs8.le
 have hnV := hw.ok.nV
 have hnX := hw.ok.nX
 have hl1 := hw.l1
 have hl2 := hw.l2
 refine Pure.start Try.func127 rfl Try.ntmps127 rfl fun wld => ?_
 refine WC.seq ?_
 refine WC.region ?_
 refine WL.tn (T.boxB rfl rfl) (by decide) fun b13 => ?_
 refine WL.tn (T.alloc Try.zeroValue151 rfl) (by decide) fun b14 => ?_
 refine WL.nil ?_
 refine WK.nThen ?_
 refine WC.seq ?_
 refine WC.region ?_
 refine WL.tn (T.alloc Try.zeroValue151 rfl) (by decide) fun b15 => ?_
 refine WL.nil ?_
 refine WK.nThen ?_
 refine WC.seq ?_
 refine WC.seq ?_
 refine WK.ownF Int 3 ?_
 refine WK.ownF Int 3 ?_
 refine WC.region ?_
 refine WL.x (X.field Try.runUnderlying139 rfl Try.sizeOf111 rfl) (by decide) ?_
 refine WL.x (X.field Try.runUnderlying111 rfl Try.sizeOf25 rfl) (by decide) ?_
 refine WL.x (X.field Try.runUnderlying25 rfl Try.sizeOf22 rfl) (by decide) ?_
 refine WL.x (X.loadB (k := 4) Try.isAgg22 rfl rfl rfl) (by decide) ?_
 refine WL.x (X.len Try.runUnderlying22 rfl hs2) (by decide) ?_
 refine WL.x (X.move rfl) (by decide) ?_
 refine WL.nil ?_
 refine WK.nThen ?_
 refine WC.block ?_
 refine WC.loop (G := Nat × Value) (fun (k, va) => x.run.Values.length - k) (fun (k, va) => m) (fun (k, va) => [rowF ((.slice none 0 0)) 3 (([] : List Int)), rowF (va) 3 ((List.range k).map (fun i => endS (gt x.run.Values i).Levels (gt x.levels i) most)), blk b15 151 [va, (.slice none 0 0)], blk b14 151 [.slice none 0 0, .slice none 0 0], blk b13 139 [v1, v3, v5, v7]]) (fun (k, va) => [(1, .bool (most)), (2, .pointer (some ⟨b13, 0, none⟩)), (4, .pointer (some ⟨b14, 0, none⟩)), (5, .pointer (some ⟨b15, 0, none⟩)), (13, v1), (14, .int .i64 (↑x.run.Values.length)), (15, .int .i64 (↑k))]) (fun (k, va) => k ≤ x.run.Values.length) ((0, Value.slice none 0 0)) rfl (.refl _) (.cons rfl (.cons rfl (.cons rfl (.cons rfl (.cons rfl (.cons rfl (.cons rfl .nil))))))) ?_ ?_
 ·exact Nat.zero_le _
 ·rintro ⟨k, va⟩ hF16
  show WK _ _ m [rowF ((.slice none 0 0)) 3 (([] : List Int)), rowF (va) 3 ((List.range k).map (fun i => endS (gt x.run.Values i).Levels (gt x.levels i) most)), blk b15 151 [va, (.slice none 0 0)], blk b14 151 [.slice none 0 0, .slice none 0 0], blk b13 139 [v1, v3, v5, v7]] [(1, .bool (most)), (2, .pointer (some ⟨b13, 0, none⟩)), (4, .pointer (some ⟨b14, 0, none⟩)), (5, .pointer (some ⟨b15, 0, none⟩)), (13, v1), (14, .int .i64 (↑x.run.Values.length)), (15, .int .i64 (↑k))] _
  replace hF16 : k ≤ x.run.Values.length := hF16
  have hk := hF16
  refine WC.seq ?_
  refine WC.region ?_
  refine WL.cond (X.lss rfl rfl) (by decide) (fun h17 => ?_) (fun h17 => ?_)
  ·refine WL.nil ?_
   refine WK.nThen ?_
   refine WC.seq ?_
   refine WC.condT rfl ?_
   refine WC.skip ?_
   refine WK.nThen ?_
   refine WC.seq ?_
   refine WC.block ?_
   refine WC.seq ?_
   refine WC.region ?_
   refine WL.x (X.move rfl) (by decide) ?_
   refine WL.xe (E.idxN k Try.runUnderlying22 Try.sizeOf62 rfl rfl hs2 (by omega)) (by decide) (fun p18 hp19 => ?_)
   refine WL.xe (E.loadAgg Try.isAgg62 Try.sizeOf62 rfl hp19) (by decide) (fun c20 hc21 => ?_)
   obtain rfl := hc21
   refine WL.tn (T.alloc Try.zeroValue62 rfl) (by decide) fun b22 => ?_
   refine WL.x (X.assign rfl) (by decide) ?_
   refine WL.ts (T.storeBA (k := 0) Try.sizeOf62 rfl rfl rfl (one_cons rfl (one_cons rfl (one_cons rfl one_nil))) rfl rfl) ?_
   refine WL.nil ?_
   refine WK.nThen ?_
   refine WC.draw (π := (.cons 0 (.cons 1 (.cons 2 (.cons 3 (.cons 4 (.cons 5 (.cons 6 (.cons 7 (.cons 8 (.cons 9 (.cons 10 (.cons 11 (.cons 12 (.cons 13 (.cons 14 .done)))))))))))))))) [11, 12, 14] [12, 14] rfl (by kernel_rfl) ?_
   refine DW.x rfl rfl (X.field Try.runUnderlying151 rfl Try.sizeOf28 rfl) (by decide) ?_
   refine DW.x rfl rfl (X.loadB (k := 3) Try.isAgg28 rfl rfl rfl) (by decide) ?_
   refine DW.x rfl rfl (X.field Try.runUnderlying62 rfl Try.sizeOf33 rfl) (by decide) ?_
   refine DW.x rfl rfl (X.loadBP (k := 0) (vs := [.int .i64 (((gt x.run.Values k).Levels).Lo), .int .i64 (((gt x.run.Values k).Levels).Hi)]) Try.isAgg33 Try.sizeOf33 rfl rfl rfl rfl) (by decide) ?_
   refine DW.x rfl rfl (X.field Try.runUnderlying139 rfl Try.sizeOf28 rfl) (by decide) ?_
   refine DW.x rfl rfl (X.loadB (k := 5) Try.isAgg28 rfl rfl rfl) (by decide) ?_
   refine DW.x rfl rfl (X.move rfl) (by decide) ?_
   refine DW.xe rfl rfl (E.idxN k Try.runUnderlying28 Try.sizeOf3 rfl rfl hs6 (by omega)) (by decide) (fun p23 hp24 => ?_)
   refine DW.x rfl rfl (X.loadInt Try.isAgg3 rfl hp24) (by decide) ?_
   refine DW.x rfl rfl (X.move rfl) (by decide) ?_
   refine DW.x rfl rfl (X.call Try.call152 rfl (end152 _ _ ((gt x.run.Values k).Levels) rfl _ _ )) (by decide) ?_
   refine DW.tl rfl rfl rfl (T.lit1 sl28 rfl rfl rfl (by decide)) (by decide) fun b25 => ?_
   refine DW.ta rfl rfl rfl rfl (T.appendF (k := 2) (a := endS (((gt x.run.Values k).Levels)) ((gt x.levels k)) most) sl28 rfl rfl rfl rfl (by first | omega | (simp; done) | (simp; omega)) (by decide)) (by decide) (fun v26 => ?_)
   refine DW.x rfl rfl (X.field Try.runUnderlying151 rfl Try.sizeOf28 rfl) (by decide) ?_
   refine DW.ts rfl rfl rfl rfl (OpTo.own1 (k := 2) rfl trivial (defd2 rfl rfl rfl) fun ho27 => T.storeB (k := 3) Try.sizeOf28 rfl rfl rfl ho27 (Nat.le_of_ble_eq_true rfl)) ?_
   refine DW.nil ?_
   refine WK.nBlock ?_
   refine WK.nThen ?_
   refine WC.region ?_
   refine WL.x (X.add rfl rfl (by omega) (by omega)) (by decide) ?_
   refine WL.x (X.move rfl) (by decide) ?_
   refine WL.nil ?_
   refine WK.nThen ?_
   have he28 : (((List.range k).map (fun i => endS (gt x.run.Values i).Levels (gt x.levels i) most)) ++ [endS (((gt x.run.Values k).Levels)) ((gt x.levels k)) most]) = ((List.range (k + 1)).map (fun i => endS (gt x.run.Values i).Levels (gt x.levels i) most)) := map_succ _ _
   rw [he28]
   refine WK.next ((k + 1, v26)) rfl (.cons _ (.cons_cons _ (.cons_cons _ (.cons_cons _ (.cons_cons _ (.cons_cons _ .slnil)))))) (.cons rfl (.cons rfl (.cons rfl (.cons rfl (.cons rfl (.cons rfl (.cons rfl .nil))))))) ?_ ?_
   ·omega
   ·(dsimp only; omega)
  ·refine WL.nil ?_
   refine WK.nThen ?_
   refine WC.seq ?_
   refine WC.condF rfl ?_
   refine WC.exit ?_
   refine WK.eThen ?_
   refine WK.eThen ?_
   refine WK.eHit ?_
   refine WK.nThen ?_
   refine WC.seq ?_
   refine WC.seq ?_
   refine WC.region ?_
   refine WL.x (X.field Try.runUnderlying139 rfl Try.sizeOf111 rfl) (by decide) ?_
   refine WL.x (X.field Try.runUnderlying111 rfl Try.sizeOf25 rfl) (by decide) ?_
   refine WL.x (X.field Try.runUnderlying25 rfl Try.sizeOf23 rfl) (by decide) ?_
   refine WL.x (X.loadB (k := 4) Try.isAgg23 rfl rfl rfl) (by decide) ?_
   refine WL.x (X.len Try.runUnderlying23 rfl hs4) (by decide) ?_
   refine WL.x (X.move rfl) (by decide) ?_
   refine WL.nil ?_
   refine WK.nThen ?_
   refine WC.block ?_
   refine WC.loop (G := Nat × Value) (fun (i, vb) => x.run.Shifts.length - i) (fun (i, vb) => m) (fun (i, vb) => [rowF (vb) 3 ((List.range i).map (fun i => endS (gt x.run.Shifts i).Levels (gt x.shifts i) most)), rowF (va) 3 ((List.range k).map (fun i => endS (gt x.run.Values i).Levels (gt x.levels i) most)), blk b15 151 [va, vb], blk b14 151 [.slice none 0 0, .slice none 0 0], blk b13 139 [v1, v3, v5, v7]]) (fun (i, vb) => [(1, .bool (most)), (2, .pointer (some ⟨b13, 0, none⟩)), (4, .pointer (some ⟨b14, 0, none⟩)), (5, .pointer (some ⟨b15, 0, none⟩)), (38, v3), (39, .int .i64 (↑x.run.Shifts.length)), (40, .int .i64 (↑i))]) (fun (i, vb) => i ≤ x.run.Shifts.length) ((0, (Value.slice none 0 0))) rfl (.refl _) (.cons rfl (.cons rfl (.cons rfl (.cons rfl (.cons rfl (.cons rfl (.cons rfl .nil))))))) ?_ ?_
   ·exact Nat.zero_le _
   ·rintro ⟨i, vb⟩ hF29
    show WK _ _ m [rowF (vb) 3 ((List.range i).map (fun i => endS (gt x.run.Shifts i).Levels (gt x.shifts i) most)), rowF (va) 3 ((List.range k).map (fun i => endS (gt x.run.Values i).Levels (gt x.levels i) most)), blk b15 151 [va, vb], blk b14 151 [.slice none 0 0, .slice none 0 0], blk b13 139 [v1, v3, v5, v7]] [(1, .bool (most)), (2, .pointer (some ⟨b13, 0, none⟩)), (4, .pointer (some ⟨b14, 0, none⟩)), (5, .pointer (some ⟨b15, 0, none⟩)), (38, v3), (39, .int .i64 (↑x.run.Shifts.length)), (40, .int .i64 (↑i))] _
    replace hF29 : i ≤ x.run.Shifts.length := hF29
    have hi := hF29
    refine WC.seq ?_
    refine WC.region ?_
    refine WL.cond (X.lss rfl rfl) (by decide) (fun h30 => ?_) (fun h30 => ?_)
    ·refine WL.nil ?_
     refine WK.nThen ?_
     refine WC.seq ?_
     refine WC.condT rfl ?_
     refine WC.skip ?_
     refine WK.nThen ?_
     refine WC.seq ?_
     refine WC.block ?_
     refine WC.seq ?_
     refine WC.region ?_
     refine WL.x (X.move rfl) (by decide) ?_
     refine WL.xe (E.idxN i Try.runUnderlying23 Try.sizeOf72 rfl rfl hs4 (by omega)) (by decide) (fun p31 hp32 => ?_)
     refine WL.xe (E.loadAgg Try.isAgg72 Try.sizeOf72 rfl hp32) (by decide) (fun c33 hc34 => ?_)
     obtain rfl := hc34
     refine WL.tn (T.alloc Try.zeroValue72 rfl) (by decide) fun b35 => ?_
     refine WL.x (X.assign rfl) (by decide) ?_
     refine WL.ts (T.storeBA (k := 0) Try.sizeOf72 rfl rfl rfl (one_cons rfl (one_cons rfl (one_cons rfl one_nil))) rfl rfl) ?_
     refine WL.nil ?_
     refine WK.nThen ?_
     refine WC.draw (π := (.cons 0 (.cons 1 (.cons 2 (.cons 3 (.cons 4 (.cons 5 (.cons 6 (.cons 7 (.cons 8 (.cons 9 (.cons 10 (.cons 11 (.cons 12 (.cons 13 (.cons 14 .done)))))))))))))))) [11, 12, 14] [12, 14] rfl (by kernel_rfl) ?_
     refine DW.x rfl rfl (X.field Try.runUnderlying151 rfl Try.sizeOf28 rfl) (by decide) ?_
     refine DW.x rfl rfl (X.loadB (k := 3) Try.isAgg28 rfl rfl rfl) (by decide) ?_
     refine DW.x rfl rfl (X.field Try.runUnderlying72 rfl Try.sizeOf33 rfl) (by decide) ?_
     refine DW.x rfl rfl (X.loadBP (k := 0) (vs := [.int .i64 (((gt x.run.Shifts i).Levels).Lo), .int .i64 (((gt x.run.Shifts i).Levels).Hi)]) Try.isAgg33 Try.sizeOf33 rfl rfl rfl rfl) (by decide) ?_
     refine DW.x rfl rfl (X.field Try.runUnderlying139 rfl Try.sizeOf28 rfl) (by decide) ?_
     refine DW.x rfl rfl (X.loadB (k := 5) Try.isAgg28 rfl rfl rfl) (by decide) ?_
     refine DW.x rfl rfl (X.move rfl) (by decide) ?_
     refine DW.xe rfl rfl (E.idxN i Try.runUnderlying28 Try.sizeOf3 rfl rfl hs8 (by omega)) (by decide) (fun p36 hp37 => ?_)
     refine DW.x rfl rfl (X.loadInt Try.isAgg3 rfl hp37) (by decide) ?_
     refine DW.x rfl rfl (X.move rfl) (by decide) ?_
     refine DW.x rfl rfl (X.call Try.call152 rfl (end152 _ _ ((gt x.run.Shifts i).Levels) rfl _ _ )) (by decide) ?_
     refine DW.tl rfl rfl rfl (T.lit1 sl28 rfl rfl rfl (by decide)) (by decide) fun b38 => ?_
     refine DW.ta rfl rfl rfl rfl (T.appendF (k := 1) (a := endS (((gt x.run.Shifts i).Levels)) ((gt x.shifts i)) most) sl28 rfl rfl rfl rfl (by first | omega | (simp; done) | (simp; omega)) (by decide)) (by decide) (fun v39 => ?_)
     refine DW.x rfl rfl (X.field Try.runUnderlying151 rfl Try.sizeOf28 rfl) (by decide) ?_
     refine DW.ts rfl rfl rfl rfl (OpTo.own1 (k := 1) rfl trivial (defd2 rfl rfl rfl) fun ho40 => T.storeB (k := 3) Try.sizeOf28 rfl rfl rfl ho40 (Nat.le_of_ble_eq_true rfl)) ?_
     refine DW.nil ?_
     refine WK.nBlock ?_
     refine WK.nThen ?_
     refine WC.region ?_
     refine WL.x (X.add rfl rfl (by omega) (by omega)) (by decide) ?_
     refine WL.x (X.move rfl) (by decide) ?_
     refine WL.nil ?_
     refine WK.nThen ?_
     have he41 : (((List.range i).map (fun i => endS (gt x.run.Shifts i).Levels (gt x.shifts i) most)) ++ [endS (((gt x.run.Shifts i).Levels)) ((gt x.shifts i)) most]) = ((List.range (i + 1)).map (fun i => endS (gt x.run.Shifts i).Levels (gt x.shifts i) most)) := map_succ _ _
     rw [he41]
     refine WK.next ((i + 1, v39)) rfl (.cons _ (.refl _)) (.cons rfl (.cons rfl (.cons rfl (.cons rfl (.cons rfl (.cons rfl (.cons rfl .nil))))))) ?_ ?_
     ·omega
     ·(dsimp only; omega)
    ·refine WL.nil ?_
     refine WK.nThen ?_
     refine WC.seq ?_
     refine WC.condF rfl ?_
     refine WC.exit ?_
     refine WK.eThen ?_
     refine WK.eThen ?_
     refine WK.eHit ?_
     refine WK.nThen ?_
     refine WC.seq ?_
     obtain rfl : k = x.run.Values.length := (by omega)
     obtain rfl : i = x.run.Shifts.length := (by omega)
     refine WC.region ?_
     refine WL.x (X.loadBA (k := 2) Try.isAgg151 Try.sizeOf151 rfl rfl rfl) (by decide) ?_
     refine WL.own1 (k := 1) rfl (fun ho42 => ?_)
     refine WL.own1 (k := 0) rfl (fun ho43 => ?_)
     refine WL.ts (T.storeBA (k := 3) Try.sizeOf151 rfl rfl rfl (one_cons ho42 (one_cons ho43 one_nil)) rfl rfl) ?_
     refine WL.nil ?_
     refine WK.nThen ?_
     refine WC.ret ?_
     refine WK.freezeF 1 rfl rfl (by simp [lenB]; omega) (fun m44 hle45 hs46 => ?_)
     replace hs2 := hs2.mono hle45
     replace hs4 := hs4.mono hle45
     replace hs6 := hs6.mono hle45
     replace hs8 := hs8.mono hle45
     refine WK.freezeF 0 rfl rfl (by simp [lenB]; omega) (fun m47 hle48 hs49 => ?_)
     replace hs2 := hs2.mono hle48
     replace hs4 := hs4.mono hle48
     replace hs6 := hs6.mono hle48
     replace hs8 := hs8.mono hle48
     replace hs46 := hs46.mono hle48
     refine WK.retC1 1 rfl rfl rfl Try.isAgg151 Try.sizeOf151 (fun w' hw' => Ret.mem hw' ?_)
     exact ⟨_, rfl, ⟨_, _, rfl, hs46, hs49⟩⟩

theorem of144 (m : Mem) {cp : List Value} {p : Pick} (hp : Enc.rd m cp p) {px : Addr} {x : Sum} (hx : At m px x) (hw : SumW x) (hpw : PickW x p) : Exact Try.prog 144 #[.agg cp.toArray, .pointer (some px)] m (.int .i64 (totN x.levels p.levels x.run.Values.length + totN x.shifts p.shifts x.run.Shifts.length)) := by
 obtain ⟨v1, v3, rfl, hs2, hs4⟩ := hp
 have hl5 := hs2.le
 have hl6 := hs4.le
 have hnV := hw.ok.nV
 have hnX := hw.ok.nX
 have hl1 := hw.l1
 have hl2 := hw.l2
 have hl3 := hpw.l1
 have hl4 := hpw.l2
 have hT1 := fun n (hn : n ≤ x.run.Values.length) => totN_bd (f := x.levels) (p := p.levels) (n := n) (fun i hi => hw.f i (by omega)) (fun i hi => hpw.f i (by omega))
 have hT2 := fun n (hn : n ≤ x.run.Shifts.length) => totN_bd (f := x.shifts) (p := p.shifts) (n := n) (fun i hi => hw.g i (by omega)) (fun i hi => hpw.g i (by omega))
 refine Exact.start Try.func144 rfl Try.ntmps144 rfl fun wld => ?_
 refine WC.seq ?_
 refine WC.region ?_
 refine WL.tn (T.boxB rfl rfl) (by decide) fun b7 => ?_
 refine WL.x (X.assign rfl) (by decide) ?_
 refine WL.nil ?_
 refine WK.nThen ?_
 refine WC.seq ?_
 refine WC.region ?_
 refine WL.x (X.assign rfl) (by decide) ?_
 refine WL.nil ?_
 refine WK.nThen ?_
 refine WC.seq ?_
 refine WC.seq ?_
 refine WC.region ?_
 have hp8 := At.Sum_1 hx
 refine WL.x (X.field Try.runUnderlying139 rfl Try.sizeOf28 rfl) (by decide) ?_
 refine WL.xe (E.loadSl Try.isAgg28 rfl hp8) (by decide) (fun v9 hs10 => ?_)
 have hl11 := hs10.le
 refine WL.x (X.len Try.runUnderlying28 rfl hs10) (by decide) ?_
 refine WL.x (X.move rfl) (by decide) ?_
 refine WL.nil ?_
 refine WK.nThen ?_
 refine WC.block ?_
 refine WC.loop (G := Nat × Int) (fun (k, n) => x.levels.length - k) (fun (k, n) => m) (fun (k, n) => [blk b7 151 [v1, v3]]) (fun (k, n) => [(1, .pointer (some (px))), (2, .pointer (some ⟨b7, 0, none⟩)), (4, .int .i64 (n)), (10, v9), (11, .int .i64 (↑x.levels.length)), (12, .int .i64 (↑k))]) (fun (k, n) => k ≤ x.levels.length ∧ n = totN x.levels p.levels k) ((0, 0)) rfl (.refl _) (.cons rfl (.cons rfl (.cons rfl (.cons rfl (.cons rfl (.cons rfl .nil)))))) ?_ ?_
 ·exact ⟨Nat.zero_le _, (by first | rfl | simp [offN, sumN, totN, btLo, btHi])⟩
 ·rintro ⟨k, n⟩ hF12
  show WK _ _ m [blk b7 151 [v1, v3]] [(1, .pointer (some (px))), (2, .pointer (some ⟨b7, 0, none⟩)), (4, .int .i64 (n)), (10, v9), (11, .int .i64 (↑x.levels.length)), (12, .int .i64 (↑k))] _
  replace hF12 : k ≤ x.levels.length ∧ n = totN x.levels p.levels k := hF12
  obtain ⟨hk, hn⟩ := hF12
  have hb := hT1 k (by omega)
  refine WC.seq ?_
  refine WC.region ?_
  refine WL.cond (X.lss rfl rfl) (by decide) (fun h13 => ?_) (fun h13 => ?_)
  ·refine WL.nil ?_
   refine WK.nThen ?_
   refine WC.seq ?_
   refine WC.condT rfl ?_
   refine WC.skip ?_
   refine WK.nThen ?_
   refine WC.seq ?_
   refine WC.block ?_
   refine WC.seq ?_
   refine WC.region ?_
   refine WL.x (X.move rfl) (by decide) ?_
   refine WL.xe (E.idxN k Try.runUnderlying28 Try.sizeOf3 rfl rfl hs10 (by omega)) (by decide) (fun p14 hp15 => ?_)
   refine WL.x (X.loadInt Try.isAgg3 rfl hp15) (by decide) ?_
   refine WL.x (X.assign rfl) (by decide) ?_
   refine WL.x (X.assign rfl) (by decide) ?_
   refine WL.nil ?_
   refine WK.nThen ?_
   have hmb := mul_bd (hw.f k (by omega)) (hpw.f k (by omega))
   refine WC.region ?_
   refine WL.x (X.move rfl) (by decide) ?_
   refine WL.x (X.move rfl) (by decide) ?_
   refine WL.x (X.field Try.runUnderlying151 rfl Try.sizeOf28 rfl) (by decide) ?_
   refine WL.x (X.loadB (k := 0) Try.isAgg28 rfl rfl rfl) (by decide) ?_
   refine WL.x (X.move rfl) (by decide) ?_
   refine WL.xe (E.idxN k Try.runUnderlying28 Try.sizeOf3 rfl rfl hs2 (by omega)) (by decide) (fun p16 hp17 => ?_)
   refine WL.x (X.loadInt Try.isAgg3 rfl hp17) (by decide) ?_
   refine WL.x (X.mul rfl rfl (by omega) (by omega)) (by decide) ?_
   refine WL.x (X.add rfl rfl (by omega) (by omega)) (by decide) ?_
   refine WL.x (X.assign rfl) (by decide) ?_
   refine WL.nil ?_
   refine WK.nBlock ?_
   refine WK.nThen ?_
   refine WC.region ?_
   refine WL.x (X.add rfl rfl (by omega) (by omega)) (by decide) ?_
   refine WL.x (X.move rfl) (by decide) ?_
   refine WL.nil ?_
   refine WK.nThen ?_
   refine WK.next ((k + 1, n + ((gt x.levels k) * (gt p.levels k)))) rfl (.refl _) (.cons rfl (.cons rfl (.cons rfl (.cons rfl (.cons rfl (.cons rfl .nil)))))) ?_ ?_
   ·refine ⟨by omega, ?_⟩
    ·have hs_ : totN x.levels p.levels (k + 1) = totN x.levels p.levels k + gt x.levels k * gt p.levels k := rfl
     (repeat' split at hs_) <;> (try dsimp only at hs_) <;> first | omega | contradiction
   ·(dsimp only; omega)
  ·refine WL.nil ?_
   refine WK.nThen ?_
   refine WC.seq ?_
   refine WC.condF rfl ?_
   refine WC.exit ?_
   refine WK.eThen ?_
   refine WK.eThen ?_
   refine WK.eHit ?_
   refine WK.nThen ?_
   refine WC.seq ?_
   refine WC.seq ?_
   refine WC.region ?_
   have hp18 := At.Sum_2 hx
   refine WL.x (X.field Try.runUnderlying139 rfl Try.sizeOf28 rfl) (by decide) ?_
   refine WL.xe (E.loadSl Try.isAgg28 rfl hp18) (by decide) (fun v19 hs20 => ?_)
   have hl21 := hs20.le
   refine WL.x (X.len Try.runUnderlying28 rfl hs20) (by decide) ?_
   refine WL.x (X.move rfl) (by decide) ?_
   refine WL.nil ?_
   refine WK.nThen ?_
   refine WC.block ?_
   refine WC.loop (G := Nat × Int) (fun (i, n2) => x.shifts.length - i) (fun (i, n2) => m) (fun (i, n2) => [blk b7 151 [v1, v3]]) (fun (i, n2) => [(2, .pointer (some ⟨b7, 0, none⟩)), (4, .int .i64 (n2)), (28, v19), (29, .int .i64 (↑x.shifts.length)), (30, .int .i64 (↑i))]) (fun (i, n2) => i ≤ x.shifts.length ∧ n2 = totN x.levels p.levels x.run.Values.length + totN x.shifts p.shifts i) ((0, n)) rfl (.refl _) (.cons rfl (.cons rfl (.cons rfl (.cons rfl (.cons rfl .nil))))) ?_ ?_
   ·exact ⟨Nat.zero_le _, by rw [hn, show k = x.run.Values.length by omega]; simp [totN, sumN]⟩
   ·rintro ⟨i, n2⟩ hF22
    show WK _ _ m [blk b7 151 [v1, v3]] [(2, .pointer (some ⟨b7, 0, none⟩)), (4, .int .i64 (n2)), (28, v19), (29, .int .i64 (↑x.shifts.length)), (30, .int .i64 (↑i))] _
    replace hF22 : i ≤ x.shifts.length ∧ n2 = totN x.levels p.levels x.run.Values.length + totN x.shifts p.shifts i := hF22
    obtain ⟨hi, hn2⟩ := hF22
    have hb := hT2 i (by omega)
    have hb1 := hT1 x.run.Values.length (Nat.le_refl _)
    refine WC.seq ?_
    refine WC.region ?_
    refine WL.cond (X.lss rfl rfl) (by decide) (fun h23 => ?_) (fun h23 => ?_)
    ·refine WL.nil ?_
     refine WK.nThen ?_
     refine WC.seq ?_
     refine WC.condT rfl ?_
     refine WC.skip ?_
     refine WK.nThen ?_
     refine WC.seq ?_
     refine WC.block ?_
     refine WC.seq ?_
     refine WC.region ?_
     refine WL.x (X.move rfl) (by decide) ?_
     refine WL.xe (E.idxN i Try.runUnderlying28 Try.sizeOf3 rfl rfl hs20 (by omega)) (by decide) (fun p24 hp25 => ?_)
     refine WL.x (X.loadInt Try.isAgg3 rfl hp25) (by decide) ?_
     refine WL.x (X.assign rfl) (by decide) ?_
     refine WL.x (X.assign rfl) (by decide) ?_
     refine WL.nil ?_
     refine WK.nThen ?_
     have hmb := mul_bd (hw.g i (by omega)) (hpw.g i (by omega))
     refine WC.region ?_
     refine WL.x (X.move rfl) (by decide) ?_
     refine WL.x (X.move rfl) (by decide) ?_
     refine WL.x (X.field Try.runUnderlying151 rfl Try.sizeOf28 rfl) (by decide) ?_
     refine WL.x (X.loadB (k := 0) Try.isAgg28 rfl rfl rfl) (by decide) ?_
     refine WL.x (X.move rfl) (by decide) ?_
     refine WL.xe (E.idxN i Try.runUnderlying28 Try.sizeOf3 rfl rfl hs4 (by omega)) (by decide) (fun p26 hp27 => ?_)
     refine WL.x (X.loadInt Try.isAgg3 rfl hp27) (by decide) ?_
     refine WL.x (X.mul rfl rfl (by omega) (by omega)) (by decide) ?_
     refine WL.x (X.add rfl rfl (by omega) (by omega)) (by decide) ?_
     refine WL.x (X.assign rfl) (by decide) ?_
     refine WL.nil ?_
     refine WK.nBlock ?_
     refine WK.nThen ?_
     refine WC.region ?_
     refine WL.x (X.add rfl rfl (by omega) (by omega)) (by decide) ?_
     refine WL.x (X.move rfl) (by decide) ?_
     refine WL.nil ?_
     refine WK.nThen ?_
     refine WK.next ((i + 1, n2 + ((gt x.shifts i) * (gt p.shifts i)))) rfl (.refl _) (.cons rfl (.cons rfl (.cons rfl (.cons rfl (.cons rfl .nil))))) ?_ ?_
     ·refine ⟨by omega, ?_⟩
      ·have hs_ : totN x.levels p.levels x.run.Values.length + totN x.shifts p.shifts (i + 1) = totN x.levels p.levels x.run.Values.length + (totN x.shifts p.shifts i + gt x.shifts i * gt p.shifts i) := rfl
       (repeat' split at hs_) <;> (try dsimp only at hs_) <;> first | omega | contradiction
     ·(dsimp only; omega)
    ·refine WL.nil ?_
     refine WK.nThen ?_
     refine WC.seq ?_
     refine WC.condF rfl ?_
     refine WC.exit ?_
     refine WK.eThen ?_
     refine WK.eThen ?_
     refine WK.eHit ?_
     refine WK.nThen ?_
     refine WC.seq ?_
     refine WC.region ?_
     refine WL.x (X.move rfl) (by decide) ?_
     refine WL.x (X.assign rfl) (by decide) ?_
     refine WL.nil ?_
     refine WK.nThen ?_
     refine WC.ret ?_
     refine WK.ret1 rfl rfl (fun w' hw' => Ret.exact hw' ?_)
     exact int_eq (by rw [hn2, show i = x.run.Shifts.length by omega])

theorem bounds104 (m : Mem) (cx : List Value) (x : Sum) (hx : Enc.rd m cx x)  (hw : SumW x) : Exact Try.prog 104 #[.agg cx.toArray] m (.agg [.int .i64 ((bdS x.run x.levels x.shifts).Lo), .int .i64 ((bdS x.run x.levels x.shifts).Hi)].toArray) := by
 obtain ⟨v1, v3, v5, v7, rfl, hs2, hs4, hs6, hs8⟩ := hx
 have hl9 := hs2.le
 have hl10 := hs4.le
 have hl11 := hs6.le
 have hl12 := hs8.le
 refine Exact.start Try.func104 rfl Try.ntmps104 rfl fun wld => ?_
 refine WC.seq ?_
 refine WC.region ?_
 refine WL.tn (T.boxB rfl rfl) (by decide) fun b13 => ?_
 refine WL.tn (T.alloc Try.zeroValue33 rfl) (by decide) fun b14 => ?_
 refine WL.nil ?_
 refine WK.nThen ?_
 refine WC.seq ?_
 refine WC.region ?_
 refine WL.x (X.loadBA (k := 1) Try.isAgg139 Try.sizeOf139 rfl rfl rfl) (by decide) ?_
 refine WL.x (X.makeFuncB (by intro x hx; simp at hx; subst hx; all_goals exact ⟨_, rfl⟩) rfl) (by decide) ?_
 refine WL.x (X.assign rfl) (by decide) ?_
 refine WL.nil ?_
 refine WK.nThen ?_
 refine WC.seq ?_
 refine WK.freezeS (α := Sum) (x := x) 1 rfl rfl (show Enc.rd (α := Sum) m [v1, v3, v5, v7] x from ⟨_, _, _, _, rfl, hs2, hs4, hs6, hs8⟩) (fun m15 hle16 hp17 => ?_)
 replace hs2 := hs2.mono hle16
 replace hs4 := hs4.mono hle16
 replace hs6 := hs6.mono hle16
 replace hs8 := hs8.mono hle16
 refine WC.region ?_
 refine WL.x (X.makeFunc (by intro x hx; simp at hx; subst hx; all_goals exact ⟨_, rfl⟩) rfl) (by decide) ?_
 refine WL.x (X.assign rfl) (by decide) ?_
 refine WL.nil ?_
 refine WK.nThen ?_
 refine WC.seq ?_
 refine WC.region ?_
 refine WL.x (X.move rfl) (by decide) ?_
 refine WL.x (X.move rfl) (by decide) ?_
 refine WL.tm (T.callb Try.call127 rfl rfl (at127 _ _ x ⟨_, _, _, _, rfl, hs2, hs4, hs6, hs8⟩ _ (by assumption))) (by decide) fun m18 r19 hle20 hR21 => ?_
 obtain ⟨c22, rfl, hc23⟩ := hR21
 replace hs2 := hs2.mono hle20
 replace hs4 := hs4.mono hle20
 replace hs6 := hs6.mono hle20
 replace hs8 := hs8.mono hle20
 replace hp17 := hp17.mono hle20
 obtain ⟨v24, v26, rfl, hs25, hs27⟩ := hc23
 have hl28 := hs25.le
 have hl29 := hs27.le
 refine WL.x (X.callc Try.call144 rfl rfl (of144 _ (p := Pick.mk (endV x.run x.levels false) (endX x.run x.shifts false)) ⟨_, _, rfl, hs25, hs27⟩ hp17 hw (end_pick hw _))) (by decide) ?_
 refine WL.x (X.move rfl) (by decide) ?_
 refine WL.x (X.move rfl) (by decide) ?_
 refine WL.tm (T.callb Try.call127 rfl rfl (at127 _ _ x ⟨_, _, _, _, rfl, hs2, hs4, hs6, hs8⟩ _ (by assumption))) (by decide) fun m30 r31 hle32 hR33 => ?_
 obtain ⟨c34, rfl, hc35⟩ := hR33
 replace hs2 := hs2.mono hle32
 replace hs4 := hs4.mono hle32
 replace hs6 := hs6.mono hle32
 replace hs8 := hs8.mono hle32
 replace hp17 := hp17.mono hle32
 replace hs25 := hs25.mono hle32
 replace hs27 := hs27.mono hle32
 obtain ⟨v36, v38, rfl, hs37, hs39⟩ := hc35
 have hl40 := hs37.le
 have hl41 := hs39.le
 refine WL.x (X.callc Try.call144 rfl rfl (of144 _ (p := Pick.mk (endV x.run x.levels true) (endX x.run x.shifts true)) ⟨_, _, rfl, hs37, hs39⟩ hp17 hw (end_pick hw _))) (by decide) ?_
 refine WL.x (V := Value.agg [.int .i64 (totN x.levels (Pick.mk (endV x.run x.levels false) (endX x.run x.shifts false)).levels x.run.Values.length + totN x.shifts (Pick.mk (endV x.run x.levels false) (endX x.run x.shifts false)).shifts x.run.Shifts.length), .int .i64 (totN x.levels (Pick.mk (endV x.run x.levels true) (endX x.run x.shifts true)).levels x.run.Values.length + totN x.shifts (Pick.mk (endV x.run x.levels true) (endX x.run x.shifts true)).shifts x.run.Shifts.length)].toArray) (X.build Try.zeroValue33 Try.runUnderlying33 (places33 _ Try.underlying33) rfl rfl) (by decide) ?_
 refine WL.ts (T.storeBA (k := 0) Try.sizeOf33 rfl rfl rfl (one_cons rfl (one_cons rfl one_nil)) rfl rfl) ?_
 refine WL.nil ?_
 refine WK.nThen ?_
 refine WC.ret ?_
 refine WK.retC1 0 rfl rfl rfl Try.isAgg33 Try.sizeOf33 (fun w' hw' => Ret.exact hw' ?_)
 rfl

theorem gap84 (m : Mem) {cr : List Value} {r : Ser} (hr : Enc.rd m cr r) (hok : Ok r) (i k : Nat) (ii ik : Int) (hii : ii = i) (hik : ik = k) (hi : i < r.Values.length) (hk : k < r.Values.length) : Exact Try.prog 84 #[.agg cr.toArray, .int .i64 ii, .int .i64 ik] m (.agg #[.int .i64 (gap r i k).Lo, .int .i64 (gap r i k).Hi]) := by
 obtain ⟨v1, v3, rfl, hs2, hs4⟩ := hr
 have hl5 := hs2.le
 have hl6 := hs4.le
 subst hii
 subst hik
 have hnV := hok.nV
 have hnX := hok.nX
 refine Exact.start Try.func84 rfl Try.ntmps84 rfl fun wld => ?_
 refine WC.seq ?_
 refine WC.region ?_
 refine WL.tn (T.boxB rfl rfl) (by decide) fun b7 => ?_
 refine WL.tn (T.alloc Try.zeroValue33 rfl) (by decide) fun b8 => ?_
 refine WL.nil ?_
 refine WK.nThen ?_
 refine WC.seq ?_
 refine WC.region ?_
 refine WL.x (X.field Try.runUnderlying111 rfl Try.sizeOf25 rfl) (by decide) ?_
 refine WL.x (X.field Try.runUnderlying25 rfl Try.sizeOf22 rfl) (by decide) ?_
 refine WL.x (X.loadB (k := 1) Try.isAgg22 rfl rfl rfl) (by decide) ?_
 refine WL.x (X.len Try.runUnderlying22 rfl hs2) (by decide) ?_
 refine WL.ta (T.makeN r.Values.length (a := (0 : Int)) sl28 rfl rfl rfl (by omega) (by decide)) (by decide) (fun v9 => ?_)
 refine WL.x (X.assign rfl) (by decide) ?_
 refine WL.nil ?_
 refine WK.nThen ?_
 refine WC.seq ?_
 have hz1 := gt_rep (j := i) hi
 refine WC.region ?_
 refine WL.x (X.move rfl) (by decide) ?_
 refine WL.x (X.move rfl) (by decide) ?_
 refine WL.x (X.idxI (k := 0) Try.runUnderlying28 Try.sizeOf3 rfl rfl rfl (by first | omega | (simp; omega) | simp) (by first | omega | (simp; omega) | simp)) (by decide) ?_
 refine WL.x (X.loadI (k := 0) (i := i) Try.isAgg3 rfl rfl (by first | omega | (simp; omega) | simp)) (by decide) ?_
 refine WL.x (X.add rfl rfl (by omega) (by omega)) (by decide) ?_
 refine WL.x (X.idxI (k := 0) Try.runUnderlying28 Try.sizeOf3 rfl rfl rfl (by first | omega | (simp; omega) | simp) (by first | omega | (simp; omega) | simp)) (by decide) ?_
 refine WL.ts (T.storeI (k := 0) (i := i) Try.sizeOf3 rfl rfl rfl (by first | omega | (simp; omega) | simp)) ?_
 refine WL.nil ?_
 refine WK.nThen ?_
 refine WC.seq ?_
 have hz2 := gap_mid hi hk
 refine WC.region ?_
 refine WL.x (X.move rfl) (by decide) ?_
 refine WL.x (X.move rfl) (by decide) ?_
 refine WL.x (X.idxI (k := 0) Try.runUnderlying28 Try.sizeOf3 rfl rfl rfl (by first | omega | (simp; omega) | simp) (by first | omega | (simp; omega) | simp)) (by decide) ?_
 refine WL.x (X.loadI (k := 0) (i := k) Try.isAgg3 rfl rfl (by first | omega | (simp; omega) | simp)) (by decide) ?_
 refine WL.x (X.sub rfl rfl (by omega) (by omega)) (by decide) ?_
 refine WL.x (X.idxI (k := 0) Try.runUnderlying28 Try.sizeOf3 rfl rfl rfl (by first | omega | (simp; omega) | simp) (by first | omega | (simp; omega) | simp)) (by decide) ?_
 refine WL.ts (T.storeI (k := 0) (i := k) Try.sizeOf3 rfl rfl rfl (by first | omega | (simp; omega) | simp)) ?_
 refine WL.nil ?_
 refine WK.nThen ?_
 refine WC.seq ?_
 have hgl : (gapL r.Values.length i k).length = r.Values.length := map_len _ _
 have he10 : (((List.replicate r.Values.length (0 : Int)).set i ((gt (List.replicate r.Values.length (0 : Int)) i) + 1)).set k ((gt ((List.replicate r.Values.length (0 : Int)).set i ((gt (List.replicate r.Values.length (0 : Int)) i) + 1)) k) - 1)) = (gapL r.Values.length i k) := gapL_eq hi hk
 rw [he10]
 refine WC.region ?_
 refine WL.x (X.loadBA (k := 2) Try.isAgg111 Try.sizeOf111 rfl rfl rfl) (by decide) ?_
 refine WL.x (X.move rfl) (by decide) ?_
 refine WL.freezeF 0 rfl rfl (by simp [lenB]; omega) (fun m11 hle12 hs13 => ?_)
 replace hs2 := hs2.mono hle12
 replace hs4 := hs4.mono hle12
 refine WL.tm (T.call Try.call129 rfl (sum129 _ _ r ⟨_, _, rfl, hs2, hs4⟩ _ _ hs13 (by assumption) (by first | exact gap_fac | assumption))) (by decide) fun m14 r15 hle16 hR17 => ?_
 obtain ⟨c18, rfl, hc19⟩ := hR17
 replace hs2 := hs2.mono hle16
 replace hs4 := hs4.mono hle16
 replace hs13 := hs13.mono hle16
 obtain ⟨v20, v22, v24, v26, rfl, hs21, hs23, hs25, hs27⟩ := hc19
 have hl28 := hs21.le
 have hl29 := hs23.le
 have hl30 := hs25.le
 have hl31 := hs27.le
 refine WL.x (X.call Try.call104 rfl (bounds104 _ _ (Sum.mk r ((gapL r.Values.length i k)) (sumXL r ((gapL r.Values.length i k)))) ⟨_, _, _, _, rfl, hs21, hs23, hs25, hs27⟩ (by first | exact sum_w (by assumption) (by first | exact gap_fac | assumption) | assumption))) (by decide) ?_
 refine WL.ts (T.storeBA (k := 0) Try.sizeOf33 rfl rfl rfl (one_cons rfl (one_cons rfl one_nil)) rfl rfl) ?_
 refine WL.nil ?_
 refine WK.nThen ?_
 refine WC.ret ?_
 refine WK.retC1 0 rfl rfl rfl Try.isAgg33 Try.sizeOf33 (fun w' hw' => Ret.exact hw' ?_)
 rfl

theorem is149 (m : Mem) {cv : List Value} {v : Val} (hv : Enc.rd m cv v) {pt : Addr} {t : Int} (hpt : At m pt t) : Exact Try.prog 149 #[.agg cv.toArray, .pointer (some pt)] m (.bool (decide (v.Time = t))) := by
 obtain rfl := hv
 refine Exact.start Try.func149 rfl Try.ntmps149 rfl fun wld => ?_
 refine WC.seq ?_
 refine WC.region ?_
 refine WL.tn (T.boxB rfl rfl) (by decide) fun b1 => ?_
 refine WL.x (X.assign rfl) (by decide) ?_
 refine WL.nil ?_
 refine WK.nThen ?_
 refine WC.seq ?_
 refine WC.region ?_
 refine WL.x (X.field Try.runUnderlying62 rfl Try.sizeOf3 rfl) (by decide) ?_
 refine WL.x (X.loadB (k := 0) Try.isAgg3 rfl rfl rfl) (by decide) ?_
 refine WL.x (X.loadInt Try.isAgg3 rfl hpt) (by decide) ?_
 refine WL.x (X.eql rfl rfl) (by decide) ?_
 refine WL.x (X.assign rfl) (by decide) ?_
 refine WL.nil ?_
 refine WK.nThen ?_
 refine WC.ret ?_
 refine WK.ret1 rfl rfl (fun w' hw' => Ret.exact hw' ?_)
 rfl

theorem find148 (m : Mem) {vl : Value} {l : List Val} (hl : Sl m vl l) {pt : Addr} {t : Int} (hpt : At m pt t) : Exact Try.prog 148 #[vl, .func (.func 149) #[] #[.pointer (some pt)]] m (.int .i64 (idxR ⟨l, []⟩ t)) := by
 have hll := hl.le
 refine Exact.start Try.func148 rfl Try.ntmps148 rfl fun wld => ?_
 refine WC.seq ?_
 refine WC.region ?_
 refine WL.x (X.assign rfl) (by decide) ?_
 refine WL.nil ?_
 refine WK.nThen ?_
 refine WC.seq ?_
 refine WC.seq ?_
 refine WC.region ?_
 refine WL.x (X.move rfl) (by decide) ?_
 refine WL.x (X.len Try.runUnderlying22 rfl hl) (by decide) ?_
 refine WL.x (X.move rfl) (by decide) ?_
 refine WL.nil ?_
 refine WK.nThen ?_
 refine WC.block ?_
 refine WC.loop (G := Nat) (fun k => l.length - k) (fun k => m) (fun k => []) (fun k => [(0, vl), (1, .func (.func 149) #[] [.pointer (some (pt))].toArray), (7, .int .i64 (↑l.length)), (8, .int .i64 (↑k))]) (fun k => k ≤ l.length ∧ (∀ j, j < k → (gt l j).Time ≠ t)) 0 rfl (.refl _) (.cons rfl (.cons rfl (.cons rfl (.cons rfl .nil)))) ?_ ?_
 ·exact ⟨Nat.zero_le _, fun j hj => absurd hj (Nat.not_lt_zero _)⟩
 ·rintro k hF1
  show WK _ _ m [] [(0, vl), (1, .func (.func 149) #[] [.pointer (some (pt))].toArray), (7, .int .i64 (↑l.length)), (8, .int .i64 (↑k))] _
  replace hF1 : k ≤ l.length ∧ (∀ j, j < k → (gt l j).Time ≠ t) := hF1
  obtain ⟨hk, hall⟩ := hF1
  refine WC.seq ?_
  refine WC.region ?_
  refine WL.cond (X.lss rfl rfl) (by decide) (fun h2 => ?_) (fun h2 => ?_)
  ·refine WL.nil ?_
   refine WK.nThen ?_
   refine WC.seq ?_
   refine WC.condT rfl ?_
   refine WC.skip ?_
   refine WK.nThen ?_
   refine WC.seq ?_
   refine WC.block ?_
   refine WC.seq ?_
   refine WC.region ?_
   refine WL.x (X.move rfl) (by decide) ?_
   refine WL.x (X.assign rfl) (by decide) ?_
   refine WL.nil ?_
   refine WK.nThen ?_
   refine WC.seq ?_
   refine WC.region ?_
   refine WL.x (X.move rfl) (by decide) ?_
   refine WL.x (X.move rfl) (by decide) ?_
   refine WL.x (X.move rfl) (by decide) ?_
   refine WL.xe (E.idxN k Try.runUnderlying22 Try.sizeOf62 rfl rfl hl (by omega)) (by decide) (fun p3 hp4 => ?_)
   refine WL.xe (E.loadAgg Try.isAgg62 Try.sizeOf62 rfl hp4) (by decide) (fun c5 hc6 => ?_)
   obtain rfl := hc6
   refine WL.cond (X.callc Try.call149 rfl rfl (is149 _ (v := gt l k) rfl hpt)) (by decide) (fun h7 => ?_) (fun h7 => ?_)
   ·refine WL.nil ?_
    refine WK.nThen ?_
    refine WC.condT rfl ?_
    refine WC.seq ?_
    refine WC.region ?_
    refine WL.x (X.move rfl) (by decide) ?_
    refine WL.x (X.assign rfl) (by decide) ?_
    refine WL.nil ?_
    refine WK.nThen ?_
    refine WC.ret ?_
    refine WK.rBlock ?_
    refine WK.rThen ?_
    refine WK.rThen ?_
    refine WK.rBlock ?_
    refine WK.rThen ?_
    refine WK.ret1 rfl rfl (fun w' hw' => Ret.exact hw' ?_)
    first | exact int_eq (idxR_yes (s := ⟨l, []⟩) (k := k) (by show k < l.length; omega) hall (by assumption)).symm | exact int_eq (idxR_no (s := ⟨l, []⟩) (fun j hj => hall j (by have hj2 : j < l.length := hj; omega))).symm
   ·refine WL.nil ?_
    refine WK.nThen ?_
    refine WC.condF rfl ?_
    refine WC.skip ?_
    refine WK.nBlock ?_
    refine WK.nThen ?_
    refine WC.region ?_
    refine WL.x (X.add rfl rfl (by omega) (by omega)) (by decide) ?_
    refine WL.x (X.move rfl) (by decide) ?_
    refine WL.nil ?_
    refine WK.nThen ?_
    refine WK.next (k + 1) rfl (.refl _) (.cons rfl (.cons rfl (.cons rfl (.cons rfl .nil)))) ?_ ?_
    ·exact ⟨by omega, fun j hj => by rcases Nat.lt_succ_iff_lt_or_eq.1 hj with h | h; exact hall j h; subst h; assumption⟩
    ·omega
  ·refine WL.nil ?_
   refine WK.nThen ?_
   refine WC.seq ?_
   refine WC.condF rfl ?_
   refine WC.exit ?_
   refine WK.eThen ?_
   refine WK.eThen ?_
   refine WK.eHit ?_
   refine WK.nThen ?_
   refine WC.seq ?_
   refine WC.region ?_
   refine WL.x (X.assign rfl) (by decide) ?_
   refine WL.nil ?_
   refine WK.nThen ?_
   refine WC.ret ?_
   refine WK.ret1 rfl rfl (fun w' hw' => Ret.exact hw' ?_)
   first | exact int_eq (idxR_yes (s := ⟨l, []⟩) (k := k) (by show k < l.length; omega) hall (by assumption)).symm | exact int_eq (idxR_no (s := ⟨l, []⟩) (fun j hj => hall j (by have hj2 : j < l.length := hj; omega))).symm

theorem index110 (m : Mem) (cr : List Value) (r : Ser) (hr : Enc.rd m cr r) (time : Int)   : Exact Try.prog 110 #[.agg cr.toArray, .int .i64 (time)] m (.int .i64 (idxR r time)) := by
 obtain ⟨v1, v3, rfl, hs2, hs4⟩ := hr
 have hl5 := hs2.le
 have hl6 := hs4.le
 refine Exact.start Try.func110 rfl Try.ntmps110 rfl fun wld => ?_
 refine WC.seq ?_
 refine WC.region ?_
 refine WL.tn (T.boxB rfl rfl) (by decide) fun b7 => ?_
 refine WL.tn (T.boxB rfl rfl) (by decide) fun b8 => ?_
 refine WL.x (X.assign rfl) (by decide) ?_
 refine WL.nil ?_
 refine WK.nThen ?_
 refine WC.seq ?_
 refine WK.freezeS (α := Int) (x := time) 0 rfl rfl (show Enc.rd (α := Int) m [.int .i64 (time)] time from rfl) (fun m9 hle10 hp11 => ?_)
 replace hs2 := hs2.mono hle10
 replace hs4 := hs4.mono hle10
 refine WC.region ?_
 refine WL.x (X.field Try.runUnderlying111 rfl Try.sizeOf25 rfl) (by decide) ?_
 refine WL.x (X.field Try.runUnderlying25 rfl Try.sizeOf22 rfl) (by decide) ?_
 refine WL.x (X.loadB (k := 0) Try.isAgg22 rfl rfl rfl) (by decide) ?_
 refine WL.x (X.makeFunc (by intro x hx; simp at hx; subst hx; all_goals exact ⟨_, rfl⟩) rfl) (by decide) ?_
 refine WL.x (X.call Try.call148 rfl (find148 _ hs2 hp11)) (by decide) ?_
 refine WL.x (X.assign rfl) (by decide) ?_
 refine WL.nil ?_
 refine WK.nThen ?_
 refine WC.ret ?_
 refine WK.ret1 rfl rfl (fun w' hw' => Ret.exact hw' ?_)
 rfl

end Go.Proofs.C8
