import Derived.Test.YtednficclnjmjaaC8LNar
import Derived.Test.YtednficclnjmjaaC8W11
/- Century: walks, twelfth part, by program. -/
namespace Go.Proofs.C8
open Go Go.Kx
set_option linter.unusedSimpArgs false

theorem end156 (m : Mem) (cs : List Value) (s : Span) (hs : Enc.rd m cs s) (f : Int) (c : Int)  (hc : c = 1 ∨ c = -1) (hfb : -2000000000 ≤ f ∧ f ≤ 2000000000) : Exact Try.prog 156 #[.agg cs.toArray, .int .i64 (f), .int .i64 (c)] m (.int .i64 (endQ s f c)) := by
 obtain rfl := hs
 have hfc : -2000000000 ≤ f * c ∧ f * c ≤ 2000000000 := (by rcases hc with h | h <;> subst h <;> omega)
 refine Exact.start Try.func156 rfl Try.ntmps156 rfl fun wld => ?_
 refine WC.seq ?_
 refine WC.region ?_
 refine WL.tn (T.boxB rfl rfl) (by decide) fun b1 => ?_
 refine WL.x (X.assign rfl) (by decide) ?_
 refine WL.nil ?_
 refine WK.nThen ?_
 refine WC.seq ?_
 refine WC.seq ?_
 refine WC.region ?_
 refine WL.x (X.move rfl) (by decide) ?_
 refine WL.x (X.move rfl) (by decide) ?_
 refine WL.x (X.mul rfl rfl (by omega) (by omega)) (by decide) ?_
 refine WL.cond (X.geq rfl rfl) (by decide) (fun h2 => ?_) (fun h2 => ?_)
 ·refine WL.nil ?_
  refine WK.nThen ?_
  refine WC.condT rfl ?_
  refine WC.seq ?_
  refine WC.region ?_
  refine WL.x (X.field Try.runUnderlying33 rfl Try.sizeOf3 rfl) (by decide) ?_
  refine WL.x (X.loadB (k := 0) Try.isAgg3 rfl rfl rfl) (by decide) ?_
  refine WL.x (X.assign rfl) (by decide) ?_
  refine WL.nil ?_
  refine WK.nThen ?_
  refine WC.ret ?_
  refine WK.rThen ?_
  refine WK.ret1 rfl rfl (fun w' hw' => Ret.exact hw' ?_)
  first | exact int_eq (by unfold endQ; rw [if_pos (by assumption)]) | exact int_eq (by unfold endQ; rw [if_neg (by omega)])
 ·refine WL.nil ?_
  refine WK.nThen ?_
  refine WC.condF rfl ?_
  refine WC.skip ?_
  refine WK.nThen ?_
  refine WC.seq ?_
  refine WC.region ?_
  refine WL.x (X.field Try.runUnderlying33 rfl Try.sizeOf3 rfl) (by decide) ?_
  refine WL.x (X.loadB (k := 0) Try.isAgg3 rfl rfl rfl) (by decide) ?_
  refine WL.x (X.assign rfl) (by decide) ?_
  refine WL.nil ?_
  refine WK.nThen ?_
  refine WC.ret ?_
  refine WK.ret1 rfl rfl (fun w' hw' => Ret.exact hw' ?_)
  first | exact int_eq (by unfold endQ; rw [if_pos (by assumption)]) | exact int_eq (by unfold endQ; rw [if_neg (by omega)])

theorem ends151 (m : Mem) (cs : List Value) (s : Ser) (hs : Enc.rd m cs s) (vf : Value) (f : List Int) (hf : Sl m vf f) (c : Int)  (hok : Ok s) (hfw : facW s f) (hc : c = 1 ∨ c = -1) : Pure Try.prog 151 #[.agg cs.toArray, vf, .int .i64 (c)] m (fun m' v => ∃ r0 r1, v = .tuple #[r0, r1, .int .i64 (enVN s f c s.Values.length + enXN s f c s.Shifts.length)] ∧ Sl m' r0 (enVL s f c) ∧ Sl m' r1 (enXL s f c)) := by
 obtain ⟨v1, v3, rfl, hs2, hs4⟩ := hs
 have hl5 := hs2.le
 have hl6 := hs4.le
 have lf := hf.le
 have hnV := hok.nV
 have hnX := hok.nX
 have hfl := hfw.1
 refine Pure.start Try.func151 rfl Try.ntmps151 rfl fun wld => ?_
 refine WC.seq ?_
 refine WC.region ?_
 refine WL.tn (T.boxB rfl rfl) (by decide) fun b7 => ?_
 refine WL.x (X.assign rfl) (by decide) ?_
 refine WL.x (X.assign rfl) (by decide) ?_
 refine WL.x (X.assign rfl) (by decide) ?_
 refine WL.nil ?_
 refine WK.nThen ?_
 refine WC.seq ?_
 refine WK.ownF Int 3 ?_
 refine WC.region ?_
 refine WL.x (X.assign rfl) (by decide) ?_
 refine WL.nil ?_
 refine WK.nThen ?_
 refine WC.seq ?_
 refine WK.ownF Int 3 ?_
 refine WC.region ?_
 refine WL.x (X.assign rfl) (by decide) ?_
 refine WL.nil ?_
 refine WK.nThen ?_
 refine WC.seq ?_
 refine WC.region ?_
 refine WL.x (X.assign rfl) (by decide) ?_
 refine WL.nil ?_
 refine WK.nThen ?_
 refine WC.seq ?_
 refine WC.seq ?_
 refine WC.region ?_
 refine WL.x (X.assign rfl) (by decide) ?_
 refine WL.nil ?_
 refine WK.nThen ?_
 refine WC.block ?_
 refine WC.loop (G := Nat × Value × Int) (fun (k, vo, n) => s.Values.length - k) (fun (k, vo, n) => m) (fun (k, vo, n) => [rowF ((.slice none 0 0)) 3 (([] : List Int)), rowF (vo) 3 ((List.range k).map (enV s f c)), blk b7 25 [v1, v3]]) (fun (k, vo, n) => [(1, vf), (2, .int .i64 (c)), (3, .pointer (some ⟨b7, 0, none⟩)), (9, vo), (10, (.slice none 0 0)), (11, .int .i64 (n)), (12, .int .i64 (↑k))]) (fun (k, vo, n) => k ≤ s.Values.length ∧ n = enVN s f c k) ((0, Value.slice none 0 0, 0)) rfl (.refl _) (.cons rfl (.cons rfl (.cons rfl (.cons rfl (.cons rfl (.cons rfl (.cons rfl .nil))))))) ?_ ?_
 ·exact ⟨Nat.zero_le _, rfl⟩
 ·rintro ⟨k, vo, n⟩ hF8
  show WK _ _ m [rowF ((.slice none 0 0)) 3 (([] : List Int)), rowF (vo) 3 ((List.range k).map (enV s f c)), blk b7 25 [v1, v3]] [(1, vf), (2, .int .i64 (c)), (3, .pointer (some ⟨b7, 0, none⟩)), (9, vo), (10, (.slice none 0 0)), (11, .int .i64 (n)), (12, .int .i64 (↑k))] _
  replace hF8 : k ≤ s.Values.length ∧ n = enVN s f c k := hF8
  obtain ⟨hk, hn⟩ := hF8
  have hfk := fun h => hfw.2 k h
  have hvb := fun h => enV_bd hok (f := f) (c := c) (i := k) h
  have hnb := enVN_bd hok hfw (c := c) (n := k) hk
  have hmb := fun h => mul_bd (hfw.2 k h) (enV_bd hok (f := f) (c := c) (i := k) h)
  refine WC.seq ?_
  refine WC.seq ?_
  refine WC.region ?_
  refine WL.x (X.move rfl) (by decide) ?_
  refine WL.x (X.move rfl) (by decide) ?_
  refine WL.x (X.len Try.runUnderlying28 rfl hf) (by decide) ?_
  refine WL.cond (X.lss rfl rfl) (by decide) (fun h9 => ?_) (fun h9 => ?_)
  ·refine WL.nil ?_
   refine WK.nThen ?_
   refine WC.condT rfl ?_
   refine WC.skip ?_
   refine WK.nThen ?_
   refine WC.seq ?_
   refine WC.block ?_
   refine WC.seq ?_
   have hfk1 := hfk (by omega)
   refine WC.draw (π := (.cons 0 (.cons 1 (.cons 2 (.cons 3 (.cons 4 (.cons 5 (.cons 6 (.cons 7 (.cons 8 (.cons 9 (.cons 10 (.cons 11 (.cons 12 (.cons 13 (.cons 14 (.cons 15 .done))))))))))))))))) [13, 14] [14] rfl (by kernel_rfl) ?_
   refine DW.x rfl rfl (X.move rfl) (by decide) ?_
   refine DW.x rfl rfl (X.field Try.runUnderlying25 rfl Try.sizeOf22 rfl) (by decide) ?_
   refine DW.x rfl rfl (X.loadB (k := 2) Try.isAgg22 rfl rfl rfl) (by decide) ?_
   refine DW.x rfl rfl (X.move rfl) (by decide) ?_
   refine DW.xe rfl rfl (E.idxN k Try.runUnderlying22 Try.sizeOf62 rfl rfl hs2 (by omega)) (by decide) (fun p10 hp11 => ?_)
   have hp12 := At.Val_1 hp11
   refine DW.x rfl rfl (X.field Try.runUnderlying62 rfl Try.sizeOf33 rfl) (by decide) ?_
   refine DW.xe rfl rfl (E.loadAgg Try.isAgg33 Try.sizeOf33 rfl hp12) (by decide) (fun c13 hc14 => ?_)
   obtain rfl := hc14
   refine DW.x rfl rfl (X.move rfl) (by decide) ?_
   refine DW.x rfl rfl (X.move rfl) (by decide) ?_
   refine DW.xe rfl rfl (E.idxN k Try.runUnderlying28 Try.sizeOf3 rfl rfl hf (by omega)) (by decide) (fun p15 hp16 => ?_)
   refine DW.x rfl rfl (X.loadInt Try.isAgg3 rfl hp16) (by decide) ?_
   refine DW.x rfl rfl (X.move rfl) (by decide) ?_
   refine DW.x rfl rfl (X.call Try.call156 rfl (end156 _ _ ((gt s.Values k).Levels) rfl _ _ (by first | assumption | omega) (by omega))) (by decide) ?_
   refine DW.tl rfl rfl rfl (T.lit1 sl28 rfl rfl rfl (by decide)) (by decide) fun b17 => ?_
   refine DW.ta rfl rfl rfl rfl (T.appendF (k := 1) (a := endQ (((gt s.Values k).Levels)) ((gt f k)) c) sl28 rfl rfl rfl rfl (by first | omega | (simp; done) | (simp; omega)) (by decide)) (by decide) (fun v18 => ?_)
   refine DW.x rfl rfl (X.assign rfl) (by decide) ?_
   refine DW.nil ?_
   refine WK.nThen ?_
   have he19 : (((List.range k).map (enV s f c)) ++ [endQ (((gt s.Values k).Levels)) ((gt f k)) c]) = ((List.range (k + 1)).map (enV s f c)) := map_succ _ _
   rw [he19]
   have hq : gt f k * gt ((List.range (k + 1)).map (enV s f c)) k = gt f k * enV s f c k := (by rw [gt_map (by omega)])
   have hqb := hmb (by omega)
   rw [← hq] at hqb
   refine WC.draw (π := (.cons 0 (.cons 1 (.cons 2 (.cons 3 (.cons 4 (.cons 5 (.cons 6 (.cons 7 (.cons 8 (.cons 9 (.cons 10 (.cons 11 .done))))))))))))) [] [] rfl (by kernel_rfl) ?_
   refine DW.x rfl rfl (X.move rfl) (by decide) ?_
   refine DW.x rfl rfl (X.move rfl) (by decide) ?_
   refine DW.x rfl rfl (X.move rfl) (by decide) ?_
   refine DW.xe rfl rfl (E.idxN k Try.runUnderlying28 Try.sizeOf3 rfl rfl hf (by omega)) (by decide) (fun p20 hp21 => ?_)
   refine DW.x rfl rfl (X.loadInt Try.isAgg3 rfl hp21) (by decide) ?_
   refine DW.x rfl rfl (X.move rfl) (by decide) ?_
   refine DW.x rfl rfl (X.move rfl) (by decide) ?_
   refine DW.x rfl rfl (X.idxIE (k := 1) k Try.runUnderlying28 Try.sizeOf3 rfl rfl rfl (by omega) (by first | omega | (simp; omega) | simp)) (by decide) ?_
   refine DW.x rfl rfl (X.loadI (k := 1) (i := k) Try.isAgg3 rfl rfl (by first | omega | (simp; omega) | simp)) (by decide) ?_
   refine DW.x rfl rfl (X.mul rfl rfl (by omega) (by omega)) (by decide) ?_
   refine DW.x rfl rfl (X.add rfl rfl (by omega) (by omega)) (by decide) ?_
   refine DW.x rfl rfl (X.assign rfl) (by decide) ?_
   refine DW.nil ?_
   refine WK.nBlock ?_
   refine WK.nThen ?_
   refine WC.region ?_
   refine WL.x (X.move rfl) (by decide) ?_
   refine WL.x (X.add rfl rfl (by omega) (by omega)) (by decide) ?_
   refine WL.x (X.assign rfl) (by decide) ?_
   refine WL.nil ?_
   refine WK.nThen ?_
   have he22 : ((List.range (k + 1)).map (enV s f c)) = ((List.range (k + 1)).map (enV s f c)) := rfl
   rw [he22]
   refine WK.next ((k + 1, v18, n + ((gt f k) * (gt ((List.range (k + 1)).map (enV s f c)) k)))) rfl (.refl _) (.cons rfl (.cons rfl (.cons rfl (.cons rfl (.cons rfl (.cons rfl (.cons rfl .nil))))))) ?_ ?_
   ·exact ⟨by omega, by rw [hn, hq]; rfl⟩
   ·(dsimp only; omega)
  ·refine WL.nil ?_
   refine WK.nThen ?_
   refine WC.condF rfl ?_
   refine WC.exit ?_
   refine WK.eThen ?_
   refine WK.eThen ?_
   refine WK.eHit ?_
   refine WK.nThen ?_
   refine WC.seq ?_
   refine WC.seq ?_
   refine WC.region ?_
   refine WL.x (X.assign rfl) (by decide) ?_
   refine WL.nil ?_
   refine WK.nThen ?_
   refine WC.block ?_
   have hkn : k = s.Values.length := (by omega)
   refine WC.loop (G := Nat × Value × Int) (fun (j, vp, n2) => s.Shifts.length - j) (fun (j, vp, n2) => m) (fun (j, vp, n2) => [rowF (vp) 3 ((List.range j).map (enX s f c)), rowF (vo) 3 ((List.range k).map (enV s f c)), blk b7 25 [v1, v3]]) (fun (j, vp, n2) => [(1, vf), (2, .int .i64 (c)), (3, .pointer (some ⟨b7, 0, none⟩)), (9, vo), (10, vp), (11, .int .i64 (n2)), (13, .int .i64 (↑j))]) (fun (j, vp, n2) => j ≤ s.Shifts.length ∧ n2 = enVN s f c s.Values.length + enXN s f c j) ((0, (Value.slice none 0 0), n)) rfl (.refl _) (.cons rfl (.cons rfl (.cons rfl (.cons rfl (.cons rfl (.cons rfl (.cons rfl .nil))))))) ?_ ?_
   ·exact ⟨Nat.zero_le _, by rw [hn, hkn]; exact (Int.add_zero _).symm⟩
   ·rintro ⟨j, vp, n2⟩ hF23
    show WK _ _ m [rowF (vp) 3 ((List.range j).map (enX s f c)), rowF (vo) 3 ((List.range k).map (enV s f c)), blk b7 25 [v1, v3]] [(1, vf), (2, .int .i64 (c)), (3, .pointer (some ⟨b7, 0, none⟩)), (9, vo), (10, vp), (11, .int .i64 (n2)), (13, .int .i64 (↑j))] _
    replace hF23 : j ≤ s.Shifts.length ∧ n2 = enVN s f c s.Values.length + enXN s f c j := hF23
    obtain ⟨hj, hn2⟩ := hF23
    have hxb := fun h => enX_bd hok (f := f) (c := c) (i := j) h
    have hnb := enXN_bd hok hfw (c := c) (n := j) hj
    have hnv := enVN_bd hok hfw (c := c) (Nat.le_refl s.Values.length)
    have hmb := fun h => mul_bd (sumX_bd hok hfw j) (enX_bd hok (f := f) (c := c) (i := j) h)
    refine WC.seq ?_
    refine WC.seq ?_
    refine WC.region ?_
    refine WL.x (X.move rfl) (by decide) ?_
    refine WL.x (X.field Try.runUnderlying25 rfl Try.sizeOf23 rfl) (by decide) ?_
    refine WL.x (X.loadB (k := 2) Try.isAgg23 rfl rfl rfl) (by decide) ?_
    refine WL.x (X.len Try.runUnderlying23 rfl hs4) (by decide) ?_
    refine WL.cond (X.lss rfl rfl) (by decide) (fun h24 => ?_) (fun h24 => ?_)
    ·refine WL.nil ?_
     refine WK.nThen ?_
     refine WC.condT rfl ?_
     refine WC.skip ?_
     refine WK.nThen ?_
     refine WC.seq ?_
     refine WC.block ?_
     refine WC.seq ?_
     refine WC.region ?_
     refine WL.x (X.assign rfl) (by decide) ?_
     refine WL.nil ?_
     refine WK.nThen ?_
     refine WC.seq ?_
     refine WC.seq ?_
     refine WC.region ?_
     refine WL.x (X.assign rfl) (by decide) ?_
     refine WL.nil ?_
     refine WK.nThen ?_
     refine WC.block ?_
     refine WC.loop (G := Nat × Int) (fun (i, w) => s.Values.length - i) (fun (i, w) => m) (fun (i, w) => [rowF (vp) 3 ((List.range j).map (enX s f c)), rowF (vo) 3 ((List.range k).map (enV s f c)), blk b7 25 [v1, v3]]) (fun (i, w) => [(1, vf), (2, .int .i64 (c)), (3, .pointer (some ⟨b7, 0, none⟩)), (9, vo), (10, vp), (11, .int .i64 (n2)), (13, .int .i64 (↑j)), (14, .int .i64 (w)), (15, .int .i64 (↑i))]) (fun (i, w) => i ≤ s.Values.length ∧ w = - sumN (fun i => if (gt s.Shifts j).Time ≤ (gt s.Values i).Time then gt f i else 0) i) ((0, 0)) rfl (.refl _) (.cons rfl (.cons rfl (.cons rfl (.cons rfl (.cons rfl (.cons rfl (.cons rfl (.cons rfl (.cons rfl .nil))))))))) ?_ ?_
     ·exact ⟨Nat.zero_le _, (by first | rfl | simp [offN, sumN, totN, btLo, btHi])⟩
     ·rintro ⟨i, w⟩ hF25
      show WK _ _ m [rowF (vp) 3 ((List.range j).map (enX s f c)), rowF (vo) 3 ((List.range k).map (enV s f c)), blk b7 25 [v1, v3]] [(1, vf), (2, .int .i64 (c)), (3, .pointer (some ⟨b7, 0, none⟩)), (9, vo), (10, vp), (11, .int .i64 (n2)), (13, .int .i64 (↑j)), (14, .int .i64 (w)), (15, .int .i64 (↑i))] _
      replace hF25 : i ≤ s.Values.length ∧ w = - sumN (fun i => if (gt s.Shifts j).Time ≤ (gt s.Values i).Time then gt f i else 0) i := hF25
      obtain ⟨hi, hw⟩ := hF25
      have hb := sumP_bd hfw.2 (gt s.Shifts j).Time hi
      have hfi := fun h => hfw.2 i h
      refine WC.seq ?_
      refine WC.seq ?_
      refine WC.region ?_
      refine WL.x (X.move rfl) (by decide) ?_
      refine WL.x (X.move rfl) (by decide) ?_
      refine WL.x (X.len Try.runUnderlying28 rfl hf) (by decide) ?_
      refine WL.cond (X.lss rfl rfl) (by decide) (fun h26 => ?_) (fun h26 => ?_)
      ·refine WL.nil ?_
       refine WK.nThen ?_
       refine WC.condT rfl ?_
       refine WC.skip ?_
       refine WK.nThen ?_
       refine WC.seq ?_
       refine WC.block ?_
       refine WC.seq ?_
       refine WC.draw (π := (.cons 0 (.cons 1 (.cons 2 (.cons 3 (.cons 4 (.cons 5 (.cons 6 (.cons 7 (.cons 8 (.cons 9 (.cons 10 (.cons 11 (.cons 12 .done)))))))))))))) [] [] rfl (by kernel_rfl) ?_
       refine DW.x rfl rfl (X.field Try.runUnderlying25 rfl Try.sizeOf23 rfl) (by decide) ?_
       refine DW.x rfl rfl (X.loadB (k := 2) Try.isAgg23 rfl rfl rfl) (by decide) ?_
       refine DW.x rfl rfl (X.move rfl) (by decide) ?_
       refine DW.xe rfl rfl (E.idxN j Try.runUnderlying23 Try.sizeOf72 rfl rfl hs4 (by omega)) (by decide) (fun p27 hp28 => ?_)
       have hp29 := At.Shf_0 hp28
       refine DW.x rfl rfl (X.field Try.runUnderlying72 rfl Try.sizeOf3 rfl) (by decide) ?_
       refine DW.x rfl rfl (X.loadInt Try.isAgg3 rfl hp29) (by decide) ?_
       refine DW.x rfl rfl (X.field Try.runUnderlying25 rfl Try.sizeOf22 rfl) (by decide) ?_
       refine DW.x rfl rfl (X.loadB (k := 2) Try.isAgg22 rfl rfl rfl) (by decide) ?_
       refine DW.x rfl rfl (X.move rfl) (by decide) ?_
       refine DW.xe rfl rfl (E.idxN i Try.runUnderlying22 Try.sizeOf62 rfl rfl hs2 (by omega)) (by decide) (fun p30 hp31 => ?_)
       have hp32 := At.Val_0 hp31
       refine DW.x rfl rfl (X.field Try.runUnderlying62 rfl Try.sizeOf3 rfl) (by decide) ?_
       refine DW.x rfl rfl (X.loadInt Try.isAgg3 rfl hp32) (by decide) ?_
       refine DW.cond rfl rfl (X.leq rfl rfl) (by decide) (fun h33 => ?_) (fun h33 => ?_)
       ·refine DW.nil ?_
        refine WK.nThen ?_
        refine WC.condT rfl ?_
        refine WC.region ?_
        refine WL.x (X.move rfl) (by decide) ?_
        refine WL.x (X.move rfl) (by decide) ?_
        refine WL.x (X.move rfl) (by decide) ?_
        refine WL.xe (E.idxN i Try.runUnderlying28 Try.sizeOf3 rfl rfl hf (by omega)) (by decide) (fun p34 hp35 => ?_)
        refine WL.x (X.loadInt Try.isAgg3 rfl hp35) (by decide) ?_
        refine WL.x (X.sub rfl rfl (by omega) (by omega)) (by decide) ?_
        refine WL.x (X.assign rfl) (by decide) ?_
        refine WL.nil ?_
        refine WK.nBlock ?_
        refine WK.nThen ?_
        refine WC.region ?_
        refine WL.x (X.move rfl) (by decide) ?_
        refine WL.x (X.add rfl rfl (by omega) (by omega)) (by decide) ?_
        refine WL.x (X.assign rfl) (by decide) ?_
        refine WL.nil ?_
        refine WK.nThen ?_
        refine WK.next ((i + 1, w - (gt f i))) rfl (.refl _) (.cons rfl (.cons rfl (.cons rfl (.cons rfl (.cons rfl (.cons rfl (.cons rfl (.cons rfl (.cons rfl .nil))))))))) ?_ ?_
        ·refine ⟨by omega, ?_⟩
         ·have hs_ : - sumN (fun i => if (gt s.Shifts j).Time ≤ (gt s.Values i).Time then gt f i else 0) (i + 1) = - (sumN (fun i => if (gt s.Shifts j).Time ≤ (gt s.Values i).Time then gt f i else 0) i + (if (gt s.Shifts j).Time ≤ (gt s.Values i).Time then gt f i else 0)) := rfl
          (repeat' split at hs_) <;> (try dsimp only at hs_) <;> first | omega | contradiction
        ·(dsimp only; omega)
       ·refine DW.nil ?_
        refine WK.nThen ?_
        refine WC.condF rfl ?_
        refine WC.skip ?_
        refine WK.nBlock ?_
        refine WK.nThen ?_
        refine WC.region ?_
        refine WL.x (X.move rfl) (by decide) ?_
        refine WL.x (X.add rfl rfl (by omega) (by omega)) (by decide) ?_
        refine WL.x (X.assign rfl) (by decide) ?_
        refine WL.nil ?_
        refine WK.nThen ?_
        refine WK.next ((i + 1, w)) rfl (.refl _) (.cons rfl (.cons rfl (.cons rfl (.cons rfl (.cons rfl (.cons rfl (.cons rfl (.cons rfl (.cons rfl .nil))))))))) ?_ ?_
        ·refine ⟨by omega, ?_⟩
         ·have hs_ : - sumN (fun i => if (gt s.Shifts j).Time ≤ (gt s.Values i).Time then gt f i else 0) (i + 1) = - (sumN (fun i => if (gt s.Shifts j).Time ≤ (gt s.Values i).Time then gt f i else 0) i + (if (gt s.Shifts j).Time ≤ (gt s.Values i).Time then gt f i else 0)) := rfl
          (repeat' split at hs_) <;> (try dsimp only at hs_) <;> first | omega | contradiction
        ·(dsimp only; omega)
      ·refine WL.nil ?_
       refine WK.nThen ?_
       refine WC.condF rfl ?_
       refine WC.exit ?_
       refine WK.eThen ?_
       refine WK.eThen ?_
       refine WK.eHit ?_
       refine WK.nThen ?_
       refine WC.seq ?_
       have hw2 : w = sumX s f j := (by rw [hw, show i = s.Values.length by omega]; rfl)
       have hwb := sumX_bd hok hfw j
       rw [← hw2] at hwb
       refine WC.region ?_
       refine WL.x (X.move rfl) (by decide) ?_
       refine WL.x (X.field Try.runUnderlying25 rfl Try.sizeOf23 rfl) (by decide) ?_
       refine WL.x (X.loadB (k := 2) Try.isAgg23 rfl rfl rfl) (by decide) ?_
       refine WL.x (X.move rfl) (by decide) ?_
       refine WL.xe (E.idxN j Try.runUnderlying23 Try.sizeOf72 rfl rfl hs4 (by omega)) (by decide) (fun p36 hp37 => ?_)
       have hp38 := At.Shf_1 hp37
       refine WL.x (X.field Try.runUnderlying72 rfl Try.sizeOf33 rfl) (by decide) ?_
       refine WL.xe (E.loadAgg Try.isAgg33 Try.sizeOf33 rfl hp38) (by decide) (fun c39 hc40 => ?_)
       obtain rfl := hc40
       refine WL.x (X.move rfl) (by decide) ?_
       refine WL.x (X.move rfl) (by decide) ?_
       refine WL.x (X.call Try.call156 rfl (end156 _ _ ((gt s.Shifts j).Levels) rfl _ _ (by first | assumption | omega) (by omega))) (by decide) ?_
       refine WL.tl (T.lit1 sl28 rfl rfl rfl (by decide)) (by decide) fun b41 => ?_
       refine WL.ta (T.appendF (k := 0) (a := endQ (((gt s.Shifts j).Levels)) w c) sl28 rfl rfl rfl rfl (by first | omega | (simp; done) | (simp; omega)) (by decide)) (by decide) (fun v42 => ?_)
       refine WL.x (X.assign rfl) (by decide) ?_
       refine WL.nil ?_
       refine WK.nThen ?_
       have he43 : (((List.range j).map (enX s f c)) ++ [endQ (((gt s.Shifts j).Levels)) w c]) = ((List.range (j + 1)).map (enX s f c)) := (by rw [hw2]; exact map_succ _ _)
       rw [he43]
       have hq : w * gt ((List.range (j + 1)).map (enX s f c)) j = w * enX s f c j := (by rw [gt_map (by omega)])
       have hqb := hmb (by omega)
       rw [← hw2, ← hq] at hqb
       refine WC.region ?_
       refine WL.x (X.move rfl) (by decide) ?_
       refine WL.x (X.move rfl) (by decide) ?_
       refine WL.x (X.move rfl) (by decide) ?_
       refine WL.x (X.move rfl) (by decide) ?_
       refine WL.x (X.idxIE (k := 0) j Try.runUnderlying28 Try.sizeOf3 rfl rfl rfl (by omega) (by first | omega | (simp; omega) | simp)) (by decide) ?_
       refine WL.x (X.loadI (k := 0) (i := j) Try.isAgg3 rfl rfl (by first | omega | (simp; omega) | simp)) (by decide) ?_
       refine WL.x (X.mul rfl rfl (by omega) (by omega)) (by decide) ?_
       refine WL.x (X.add rfl rfl (by omega) (by omega)) (by decide) ?_
       refine WL.x (X.assign rfl) (by decide) ?_
       refine WL.nil ?_
       refine WK.nBlock ?_
       refine WK.nThen ?_
       refine WC.region ?_
       refine WL.x (X.move rfl) (by decide) ?_
       refine WL.x (X.add rfl rfl (by omega) (by omega)) (by decide) ?_
       refine WL.x (X.assign rfl) (by decide) ?_
       refine WL.nil ?_
       refine WK.nThen ?_
       have he44 : ((List.range (j + 1)).map (enX s f c)) = ((List.range (j + 1)).map (enX s f c)) := rfl
       rw [he44]
       refine WK.next ((j + 1, v42, n2 + (w * (gt ((List.range (j + 1)).map (enX s f c)) j)))) rfl (.refl _) (.cons rfl (.cons rfl (.cons rfl (.cons rfl (.cons rfl (.cons rfl (.cons rfl .nil))))))) ?_ ?_
       ·exact ⟨by omega, by rw [hn2, hq, hw2, Int.add_assoc]; rfl⟩
       ·(dsimp only; omega)
    ·refine WL.nil ?_
     refine WK.nThen ?_
     refine WC.condF rfl ?_
     refine WC.exit ?_
     refine WK.eThen ?_
     refine WK.eThen ?_
     refine WK.eHit ?_
     refine WK.nThen ?_
     refine WC.seq ?_
     subst hkn
     obtain rfl : j = s.Shifts.length := (by omega)
     refine WC.region ?_
     refine WL.x (X.move rfl) (by decide) ?_
     refine WL.x (X.move rfl) (by decide) ?_
     refine WL.x (X.move rfl) (by decide) ?_
     refine WL.x (X.assign rfl) (by decide) ?_
     refine WL.x (X.assign rfl) (by decide) ?_
     refine WL.x (X.assign rfl) (by decide) ?_
     refine WL.nil ?_
     refine WK.nThen ?_
     refine WC.ret ?_
     refine WK.freezeF 1 rfl rfl (by simp [lenB]; omega) (fun m45 hle46 hs47 => ?_)
     replace hs2 := hs2.mono hle46
     replace hs4 := hs4.mono hle46
     replace hf := hf.mono hle46
     refine WK.freezeF 0 rfl rfl (by simp [lenB]; omega) (fun m48 hle49 hs50 => ?_)
     replace hs2 := hs2.mono hle49
     replace hs4 := hs4.mono hle49
     replace hf := hf.mono hle49
     replace hs47 := hs47.mono hle49
     refine WK.ret3 rfl rfl rfl rfl (fun w' hw' => Ret.mem hw' ?_)
     exact ⟨_, _, tup3 rfl rfl (int_eq hn2), hs47, hs50⟩

theorem bounds123 (m : Mem) (cs : List Value) (s : Ser) (hs : Enc.rd m cs s) (vf : Value) (f : List Int) (hf : Sl m vf f)  (hok : Ok s) (hfw : facW s f) : Exact Try.prog 123 #[.agg cs.toArray, vf] m (.agg [.int .i64 ((bd s f).Lo), .int .i64 ((bd s f).Hi)].toArray) := by
 obtain ⟨v1, v3, rfl, hs2, hs4⟩ := hs
 have hl5 := hs2.le
 have hl6 := hs4.le
 have lf := hf.le
 refine Exact.start Try.func123 rfl Try.ntmps123 rfl fun wld => ?_
 refine WC.seq ?_
 refine WC.region ?_
 refine WL.tn (T.boxB rfl rfl) (by decide) fun b7 => ?_
 refine WL.tn (T.alloc Try.zeroValue33 rfl) (by decide) fun b8 => ?_
 refine WL.nil ?_
 refine WK.nThen ?_
 refine WC.seq ?_
 refine WC.region ?_
 refine WL.x (X.loadBA (k := 1) Try.isAgg25 Try.sizeOf25 rfl rfl rfl) (by decide) ?_
 refine WL.x (X.move rfl) (by decide) ?_
 refine WL.tm (T.call Try.call151 rfl (ends151 _ _ s ⟨_, _, rfl, hs2, hs4⟩ _ _ hf _ (by assumption) (by first | assumption) (by first | assumption | omega))) (by decide) fun m9 r10 hle11 hR12 => ?_
 obtain ⟨v13, v15, rfl, hs14, hs16⟩ := hR12
 replace hs2 := hs2.mono hle11
 replace hs4 := hs4.mono hle11
 replace hf := hf.mono hle11
 have hl17 := hs14.le
 have hl18 := hs16.le
 refine WL.x (X.move rfl) (by decide) ?_
 refine WL.x (X.extract rfl rfl) (by decide) ?_
 refine WL.x (X.extract rfl rfl) (by decide) ?_
 refine WL.x (X.extract rfl rfl) (by decide) ?_
 refine WL.x (X.assign rfl) (by decide) ?_
 refine WL.x (X.assign rfl) (by decide) ?_
 refine WL.x (X.assign rfl) (by decide) ?_
 refine WL.nil ?_
 refine WK.nThen ?_
 refine WC.seq ?_
 refine WC.region ?_
 refine WL.x (X.loadBA (k := 1) Try.isAgg25 Try.sizeOf25 rfl rfl rfl) (by decide) ?_
 refine WL.x (X.move rfl) (by decide) ?_
 refine WL.tm (T.call Try.call151 rfl (ends151 _ _ s ⟨_, _, rfl, hs2, hs4⟩ _ _ hf _ (by assumption) (by first | assumption) (by first | assumption | omega))) (by decide) fun m19 r20 hle21 hR22 => ?_
 obtain ⟨v23, v25, rfl, hs24, hs26⟩ := hR22
 replace hs2 := hs2.mono hle21
 replace hs4 := hs4.mono hle21
 replace hf := hf.mono hle21
 replace hs14 := hs14.mono hle21
 replace hs16 := hs16.mono hle21
 have hl27 := hs24.le
 have hl28 := hs26.le
 refine WL.x (X.move rfl) (by decide) ?_
 refine WL.x (X.extract rfl rfl) (by decide) ?_
 refine WL.x (X.extract rfl rfl) (by decide) ?_
 refine WL.x (X.extract rfl rfl) (by decide) ?_
 refine WL.x (X.assign rfl) (by decide) ?_
 refine WL.x (X.assign rfl) (by decide) ?_
 refine WL.x (X.assign rfl) (by decide) ?_
 refine WL.nil ?_
 refine WK.nThen ?_
 refine WC.seq ?_
 refine WC.region ?_
 refine WL.x (X.move rfl) (by decide) ?_
 refine WL.x (X.move rfl) (by decide) ?_
 refine WL.x (V := Value.agg [.int .i64 (enVN s f 1 s.Values.length + enXN s f 1 s.Shifts.length), .int .i64 (enVN s f ((-1)) s.Values.length + enXN s f ((-1)) s.Shifts.length)].toArray) (X.build Try.zeroValue33 Try.runUnderlying33 (places33 _ Try.underlying33) rfl rfl) (by decide) ?_
 refine WL.ts (T.storeBA (k := 0) Try.sizeOf33 rfl rfl rfl (one_cons rfl (one_cons rfl one_nil)) rfl rfl) ?_
 refine WL.nil ?_
 refine WK.nThen ?_
 refine WC.ret ?_
 refine WK.retC1 0 rfl rfl rfl Try.isAgg33 Try.sizeOf33 (fun w' hw' => Ret.exact hw' ?_)
 exact agg2i (enN_lo s f) (enN_hi s f)

end Go.Proofs.C8
