import Derived.Test.YtednficclnjmjaaC8Lin
import Derived.Test.YtednficclnjmjaaC8W9
/- Century: walks, tenth part, by program. -/
namespace Go.Proofs.C8
open Go Go.Kx
set_option linter.unusedSimpArgs false

theorem nan155 (m : Mem) (x : Int)   : Exact Try.prog 155 #[.int .i64 (x)] m (.bool false) := by
 refine Exact.start Try.func155 rfl Try.ntmps155 rfl fun wld => ?_
 refine WC.seq ?_
 refine WC.region ?_
 refine WL.x (X.assign rfl) (by decide) ?_
 refine WL.nil ?_
 refine WK.nThen ?_
 refine WC.seq ?_
 refine WC.region ?_
 refine WL.x (X.move rfl) (by decide) ?_
 refine WL.x (X.move rfl) (by decide) ?_
 refine WL.x (OpX.f (X.neq rfl rfl) (fun h => h rfl)) (by decide) ?_
 refine WL.x (X.assign rfl) (by decide) ?_
 refine WL.nil ?_
 refine WK.nThen ?_
 refine WC.ret ?_
 refine WK.ret1 rfl rfl (fun w' hw' => Ret.exact hw' ?_)
 rfl

theorem cmp139 (m : Mem) (x : Int) (y : Int)   : Exact Try.prog 139 #[.int .i64 (x), .int .i64 (y)] m (.int .i64 (cmpR x y)) := by
 refine Exact.start Try.func139 rfl Try.ntmps139 rfl fun wld => ?_
 refine WC.seq ?_
 refine WC.region ?_
 refine WL.x (X.assign rfl) (by decide) ?_
 refine WL.nil ?_
 refine WK.nThen ?_
 refine WC.seq ?_
 refine WC.region ?_
 refine WL.x (X.move rfl) (by decide) ?_
 refine WL.x (X.call Try.call155 rfl (nan155 _ _ )) (by decide) ?_
 refine WL.x (X.assign rfl) (by decide) ?_
 refine WL.nil ?_
 refine WK.nThen ?_
 refine WC.seq ?_
 refine WC.region ?_
 refine WL.x (X.move rfl) (by decide) ?_
 refine WL.x (X.call Try.call155 rfl (nan155 _ _ )) (by decide) ?_
 refine WL.x (X.assign rfl) (by decide) ?_
 refine WL.nil ?_
 refine WK.nThen ?_
 refine WC.seq ?_
 refine WC.seq ?_
 refine WC.region ?_
 refine WL.x (X.move rfl) (by decide) ?_
 refine WL.nil ?_
 refine WK.nThen ?_
 refine WC.condF rfl ?_
 refine WC.skip ?_
 refine WK.nThen ?_
 refine WC.seq ?_
 refine WC.seq ?_
 refine WC.region ?_
 refine WL.x (X.move rfl) (by decide) ?_
 refine WL.nil ?_
 refine WK.nThen ?_
 refine WC.condF rfl ?_
 refine WC.skip ?_
 refine WK.nThen ?_
 refine WC.seq ?_
 refine WC.seq ?_
 refine WC.region ?_
 refine WL.x (X.move rfl) (by decide) ?_
 refine WL.x (X.move rfl) (by decide) ?_
 refine WL.cond (X.lss rfl rfl) (by decide) (fun h1 => ?_) (fun h1 => ?_)
 ·refine WL.nil ?_
  refine WK.nThen ?_
  refine WC.condT rfl ?_
  refine WC.seq ?_
  refine WC.region ?_
  refine WL.x (X.assign rfl) (by decide) ?_
  refine WL.nil ?_
  refine WK.nThen ?_
  refine WC.ret ?_
  refine WK.rThen ?_
  refine WK.ret1 rfl rfl (fun w' hw' => Ret.exact hw' ?_)
  first | exact int_eq (by unfold cmpR; rw [if_pos (by omega)]) | exact int_eq (by unfold cmpR; rw [if_neg (by omega), if_pos (by omega)]) | exact int_eq (by unfold cmpR; rw [if_neg (by omega), if_neg (by omega)])
 ·refine WL.nil ?_
  refine WK.nThen ?_
  refine WC.condF rfl ?_
  refine WC.skip ?_
  refine WK.nThen ?_
  refine WC.seq ?_
  refine WC.seq ?_
  refine WC.region ?_
  refine WL.x (X.move rfl) (by decide) ?_
  refine WL.x (X.move rfl) (by decide) ?_
  refine WL.cond (X.gtr rfl rfl) (by decide) (fun h2 => ?_) (fun h2 => ?_)
  ·refine WL.nil ?_
   refine WK.nThen ?_
   refine WC.condT rfl ?_
   refine WC.seq ?_
   refine WC.region ?_
   refine WL.x (X.assign rfl) (by decide) ?_
   refine WL.nil ?_
   refine WK.nThen ?_
   refine WC.ret ?_
   refine WK.rThen ?_
   refine WK.ret1 rfl rfl (fun w' hw' => Ret.exact hw' ?_)
   first | exact int_eq (by unfold cmpR; rw [if_pos (by omega)]) | exact int_eq (by unfold cmpR; rw [if_neg (by omega), if_pos (by omega)]) | exact int_eq (by unfold cmpR; rw [if_neg (by omega), if_neg (by omega)])
  ·refine WL.nil ?_
   refine WK.nThen ?_
   refine WC.condF rfl ?_
   refine WC.skip ?_
   refine WK.nThen ?_
   refine WC.seq ?_
   refine WC.region ?_
   refine WL.x (X.assign rfl) (by decide) ?_
   refine WL.nil ?_
   refine WK.nThen ?_
   refine WC.ret ?_
   refine WK.ret1 rfl rfl (fun w' hw' => Ret.exact hw' ?_)
   first | exact int_eq (by unfold cmpR; rw [if_pos (by omega)]) | exact int_eq (by unfold cmpR; rw [if_neg (by omega), if_pos (by omega)]) | exact int_eq (by unfold cmpR; rw [if_neg (by omega), if_neg (by omega)])

theorem weights128 (m : Mem) {cr : List Value} {r : Ser} (hr : Enc.rd m cr r) {cx : List Value} {x : Span} (hx : Enc.rd m cx x) {c : Int} (hnV : r.Values.length ≤ 200) : Mut Try.prog 128 #[.agg cr.toArray, .agg cx.toArray, .int .i64 c] m [] (fun _ Es u => ∃ v, u = .tuple #[v, .int .i64 ↑(wtC r x)] ∧ Es = [rowF v 3 (wtL r x c)] ∧ v.oneCell' = true) := by
 obtain ⟨v1, v3, rfl, hs2, hs4⟩ := hr
 have hl5 := hs2.le
 have hl6 := hs4.le
 obtain rfl := hx
 refine Mut.start Try.func128 rfl Try.ntmps128 rfl fun wld => ?_
 refine WC.seq ?_
 refine WC.region ?_
 refine WL.tn (T.boxB rfl rfl) (by decide) fun b7 => ?_
 refine WL.tn (T.boxB rfl rfl) (by decide) fun b8 => ?_
 refine WL.tn (T.boxB rfl rfl) (by decide) fun b9 => ?_
 refine WL.x (X.assign rfl) (by decide) ?_
 refine WL.x (X.assign rfl) (by decide) ?_
 refine WL.nil ?_
 refine WK.nThen ?_
 refine WC.seq ?_
 refine WC.region ?_
 refine WL.x (X.field Try.runUnderlying111 rfl Try.sizeOf25 rfl) (by decide) ?_
 refine WL.x (X.field Try.runUnderlying25 rfl Try.sizeOf22 rfl) (by decide) ?_
 refine WL.x (X.loadB (k := 2) Try.isAgg22 rfl rfl rfl) (by decide) ?_
 refine WL.x (X.len Try.runUnderlying22 rfl hs2) (by decide) ?_
 refine WL.ta (T.makeN r.Values.length (a := (0 : Int)) sl28 rfl rfl rfl (by omega) (by decide)) (by decide) (fun v10 => ?_)
 refine WL.tn (T.alloc Try.zeroValue28 rfl) (by decide) fun b11 => ?_
 refine WL.tn (T.alloc Try.zeroValue3 rfl) (by decide) fun b12 => ?_
 refine WL.own1 (k := 2) rfl (fun ho13 => ?_)
 refine WL.ts (T.storeB (k := 1) Try.sizeOf28 rfl rfl rfl ho13 (Nat.le_of_ble_eq_true rfl)) ?_
 refine WL.ts (T.storeB (k := 0) Try.sizeOf3 rfl rfl rfl rfl (Nat.le_of_ble_eq_true rfl)) ?_
 refine WL.nil ?_
 refine WK.nThen ?_
 refine WC.seq ?_
 refine WC.seq ?_
 have he14 : (List.replicate r.Values.length (0 : Int)) = (wtP r x c 0) := (wtP_zero r x c).symm
 rw [he14]
 refine WC.region ?_
 refine WL.x (X.loadBA (k := 5) Try.isAgg111 Try.sizeOf111 rfl rfl rfl) (by decide) ?_
 refine WL.x (X.loadBA (k := 4) Try.isAgg33 Try.sizeOf33 rfl rfl rfl) (by decide) ?_
 refine WL.tm (T.call Try.call108 rfl (chosen108 _ (r := r) ⟨_, _, rfl, hs2, hs4⟩ (x := x) rfl)) (by decide) (fun m15 _ hle16 hR_ => ?_)
 obtain ⟨lb17, rfl, hit18⟩ := hR_
 replace hs2 := hs2.mono hle16
 replace hs4 := hs4.mono hle16
 refine WL.nil ?_
 refine WK.nThen ?_
 refine WC.block ?_
 refine WC.rangeFunc (S := List Int × Int) (G := Unit) (ps := [19]) (n := wtC r x) (A := fun i _ args => ∃ k : Nat, k < r.Values.length ∧ inT x (gt r.Values k).Time ∧ wtN r x k = i ∧ args = #[.int .i64 ↑k]) rfl Try.call147 hit18 (fun q : List Int × Int => [blk b12 3 [.int .i64 (q.2)], blk b11 28 [v10], rowF (v10) 3 (q.1), blk b9 3 [.int .i64 (c)], blk b8 33 [.int .i64 (x.Lo), .int .i64 (x.Hi)], blk b7 111 [v1, v3]]) (fun i _ q => ∃ k, k ≤ r.Values.length ∧ wtN r x k = i ∧ q = (wtP r x c k, (wtN r x k : Int))) (fun _ _ _ _ => False) ((wtP r x c 0, (wtN r x 0 : Int)) : List Int × Int) rfl ⟨0, Nat.zero_le _, rfl, rfl⟩ (fun h => by cases h) (fun _ _ _ _ _ h => h) (by simp) (fun i m1 args h => by obtain ⟨k, _, _, _, rfl⟩ := h; rfl) (fun _ gh => (fun q : List Int × Int => [blk b12 3 [.int .i64 (q.2)], blk b11 28 [v10], rowF (v10) 3 (q.1), blk b9 3 [.int .i64 (c)], blk b8 33 [.int .i64 (x.Lo), .int .i64 (x.Hi)], blk b7 111 [v1, v3]]) gh) (fun _ args => (10, args.headD undef) :: [(0, .agg [v1, v3].toArray), (1, .agg [.int .i64 (x.Lo), .int .i64 (x.Hi)].toArray), (2, .int .i64 (c)), (3, .pointer (some ⟨b7, 0, none⟩)), (4, .pointer (some ⟨b8, 0, none⟩)), (5, .pointer (some ⟨b9, 0, none⟩)), (6, .slice none 0 0), (7, .int .i64 (0)), (11, .pointer (some ⟨b7, 0, none⟩)), (12, .pointer (some ⟨b7, 0, none⟩)), (13, v1), (14, .int .i64 (↑r.Values.length)), (15, v10), (8, .pointer (some ⟨b11, 0, none⟩)), (9, .pointer (some ⟨b12, 0, none⟩)), (16, .agg [v1, v3].toArray), (17, .agg [.int .i64 (x.Lo), .int .i64 (x.Hi)].toArray), (18, .func (.func 147) #[] lb17.toArray)]) ?_ ?_ ?_ ?_ ?_
 ·intro lo B1 m1 gh args KK hlen hKK
  obtain ⟨y, rfl⟩ := len1 hlen
  refine WC.region ?_
  refine WL.x (X.assign rfl) (by decide) ?_
  refine WL.nil ?_
  refine WK.nThen ?_
  exact WK.keep (.cons rfl (.cons rfl (.cons rfl (.cons rfl (.cons rfl (.cons rfl (.cons rfl (.cons rfl (.cons rfl (.cons rfl (.cons rfl (.cons rfl (.cons rfl (.cons rfl (.cons rfl (.cons rfl (.cons rfl (.cons rfl (.cons rfl .nil))))))))))))))))))) (hKK ())
 ·intro lo B1 i m1 gh args _ hlen hi hm1 hA1 hI1
  obtain ⟨y, rfl⟩ := len1 hlen
  obtain ⟨k, hk, hin, hw, hx_⟩ := hA1
  obtain rfl : y = .int .i64 ↑k := (by simpa using hx_)
  obtain ⟨k', hk', hw', hq⟩ := hI1
  rw [show ((wtP r x c k', (wtN r x k' : Int)) : List Int × Int) = (wtP r x c k, (wtN r x k : Int)) by rw [wtP_eq (hw'.trans hw.symm), hw'.trans hw.symm]] at hq
  subst hq
  have hwl := wtP_len r x c k
  have hwn := wtN_len r x k
  replace hs2 := hs2.mono hm1
  replace hs4 := hs4.mono hm1
  show WK _ _ m1 [blk b12 3 [.int .i64 (↑(wtN r x k))], blk b11 28 [v10], rowF (v10) 3 (wtP r x c k), blk b9 3 [.int .i64 (c)], blk b8 33 [.int .i64 (x.Lo), .int .i64 (x.Hi)], blk b7 111 [v1, v3]] ((10, .int .i64 ↑k) :: [(0, .agg [v1, v3].toArray), (1, .agg [.int .i64 (x.Lo), .int .i64 (x.Hi)].toArray), (2, .int .i64 (c)), (3, .pointer (some ⟨b7, 0, none⟩)), (4, .pointer (some ⟨b8, 0, none⟩)), (5, .pointer (some ⟨b9, 0, none⟩)), (6, .slice none 0 0), (7, .int .i64 (0)), (11, .pointer (some ⟨b7, 0, none⟩)), (12, .pointer (some ⟨b7, 0, none⟩)), (13, v1), (14, .int .i64 (↑r.Values.length)), (15, v10), (8, .pointer (some ⟨b11, 0, none⟩)), (9, .pointer (some ⟨b12, 0, none⟩)), (16, .agg [v1, v3].toArray), (17, .agg [.int .i64 (x.Lo), .int .i64 (x.Hi)].toArray), (18, .func (.func 147) #[] lb17.toArray)]) _
  refine WC.block ?_
  refine WC.seq ?_
  refine WC.region ?_
  refine WL.x (X.loadB (k := 1) Try.isAgg28 rfl rfl rfl) (by decide) ?_
  refine WL.x (X.move rfl) (by decide) ?_
  refine WL.x (X.loadB (k := 3) Try.isAgg3 rfl rfl rfl) (by decide) ?_
  refine WL.x (X.idxI (k := 2) Try.runUnderlying28 Try.sizeOf3 rfl rfl rfl (by first | omega | (simp; omega) | simp) (by first | omega | (simp; omega) | simp)) (by decide) ?_
  refine WL.ts (T.storeI (k := 2) (i := k) Try.sizeOf3 rfl rfl rfl (by first | omega | (simp; omega) | simp)) ?_
  refine WL.nil ?_
  refine WK.nThen ?_
  refine WC.region ?_
  refine WL.x (X.loadB (k := 0) Try.isAgg3 rfl rfl rfl) (by decide) ?_
  refine WL.x (X.add rfl rfl (by omega) (by omega)) (by decide) ?_
  refine WL.ts (T.storeB (k := 0) Try.sizeOf3 rfl rfl rfl rfl (Nat.le_of_ble_eq_true rfl)) ?_
  refine WL.nil ?_
  refine WK.nBlock ?_
  refine WK.goOn (wtP r x c (k + 1), (wtN r x (k + 1) : Int)) (Mem.le_refl _) ?_ ⟨k + 1, by omega, by rw [wtN_yes hin, hw], rfl⟩
  rw [← wtP_yes hin, wtN_yes hin]
  exact (.refl _)
 ·intro m1 gh hm1 hI1
  obtain ⟨k', _, hw', hq⟩ := hI1
  rw [show ((wtP r x c k', (wtN r x k' : Int)) : List Int × Int) = (wtL r x c, (wtC r x : Int)) by rw [wtP_eq (b := r.Values.length) hw', wtP_all, hw']] at hq
  subst hq
  replace hs2 := hs2.mono hm1
  replace hs4 := hs4.mono hm1
  refine WK.keep (σ' := [(0, .agg [v1, v3].toArray), (1, .agg [.int .i64 (x.Lo), .int .i64 (x.Hi)].toArray), (2, .int .i64 (c)), (3, .pointer (some ⟨b7, 0, none⟩)), (4, .pointer (some ⟨b8, 0, none⟩)), (5, .pointer (some ⟨b9, 0, none⟩)), (6, .slice none 0 0), (7, .int .i64 (0)), (11, .pointer (some ⟨b7, 0, none⟩)), (12, .pointer (some ⟨b7, 0, none⟩)), (13, v1), (14, .int .i64 (↑r.Values.length)), (15, v10), (8, .pointer (some ⟨b11, 0, none⟩)), (9, .pointer (some ⟨b12, 0, none⟩)), (16, .agg [v1, v3].toArray), (17, .agg [.int .i64 (x.Lo), .int .i64 (x.Hi)].toArray), (18, .func (.func 147) #[] lb17.toArray)]) (.cons rfl (.cons rfl (.cons rfl (.cons rfl (.cons rfl (.cons rfl (.cons rfl (.cons rfl (.cons rfl (.cons rfl (.cons rfl (.cons rfl (.cons rfl (.cons rfl (.cons rfl (.cons rfl (.cons rfl (.cons rfl .nil)))))))))))))))))) ?_
  show WK _ _ m1 [blk b12 3 [.int .i64 (↑(wtC r x))], blk b11 28 [v10], rowF (v10) 3 (wtL r x c), blk b9 3 [.int .i64 (c)], blk b8 33 [.int .i64 (x.Lo), .int .i64 (x.Hi)], blk b7 111 [v1, v3]] [(0, .agg [v1, v3].toArray), (1, .agg [.int .i64 (x.Lo), .int .i64 (x.Hi)].toArray), (2, .int .i64 (c)), (3, .pointer (some ⟨b7, 0, none⟩)), (4, .pointer (some ⟨b8, 0, none⟩)), (5, .pointer (some ⟨b9, 0, none⟩)), (6, .slice none 0 0), (7, .int .i64 (0)), (11, .pointer (some ⟨b7, 0, none⟩)), (12, .pointer (some ⟨b7, 0, none⟩)), (13, v1), (14, .int .i64 (↑r.Values.length)), (15, v10), (8, .pointer (some ⟨b11, 0, none⟩)), (9, .pointer (some ⟨b12, 0, none⟩)), (16, .agg [v1, v3].toArray), (17, .agg [.int .i64 (x.Lo), .int .i64 (x.Hi)].toArray), (18, .func (.func 147) #[] lb17.toArray)] _
  refine WK.nBlock ?_
  refine WK.nThen ?_
  refine WC.seq ?_
  refine WC.draw (π := (.cons 0 (.cons 1 (.cons 2 (.cons 3 .done))))) [] [] rfl (by kernel_rfl) ?_
  refine DW.x rfl rfl (X.loadB (k := 1) Try.isAgg28 rfl rfl rfl) (by decide) ?_
  refine DW.x rfl rfl (X.loadB (k := 0) Try.isAgg3 rfl rfl rfl) (by decide) ?_
  refine DW.x rfl rfl (X.assign rfl) (by decide) ?_
  refine DW.x rfl rfl (X.assign rfl) (by decide) ?_
  refine DW.nil ?_
  refine WK.nThen ?_
  refine WC.ret ?_
  refine WK.ret2 rfl rfl rfl (fun w' hw' => Ret.mut (hw'.weaken (.cons _ (.cons _ (.cons_cons _ (.cons _ (.cons _ (.cons _ .slnil))))))) ?_)
  exact ⟨_, rfl, rfl, ho13⟩
 ·intro i m1 gh hm1 hi hI1
  exact hI1.elim
 ·intro id i m1 gh hm1 hi hI1
  exact hI1.elim

theorem mean66 (m : Mem) (cs : List Value) (s : Ser) (hs : Enc.rd m cs s) (cx : List Value) (x : Span) (hx : Enc.rd m cx x)   : Exact Try.prog 66 #[.agg cs.toArray, .agg cx.toArray] m (.tuple #[.agg [.int .i64 ((mbR s x).1.Num), .int .i64 ((mbR s x).1.Den)].toArray, .agg [.int .i64 ((mbR s x).2.1.Num), .int .i64 ((mbR s x).2.1.Den)].toArray, .int .i64 ((mbR s x).2.2)]) := by
 obtain ⟨v1, v3, rfl, hs2, hs4⟩ := hs
 have hl5 := hs2.le
 have hl6 := hs4.le
 obtain rfl := hx
 refine Exact.start Try.func66 rfl Try.ntmps66 rfl fun wld => ?_
 refine WC.seq ?_
 refine WC.region ?_
 refine WL.tn (T.boxB rfl rfl) (by decide) fun b7 => ?_
 refine WL.tn (T.boxB rfl rfl) (by decide) fun b8 => ?_
 refine WL.tn (T.alloc Try.zeroValue45 rfl) (by decide) fun b9 => ?_
 refine WL.tn (T.alloc Try.zeroValue45 rfl) (by decide) fun b10 => ?_
 refine WL.x (X.assign rfl) (by decide) ?_
 refine WL.nil ?_
 refine WK.nThen ?_
 refine WC.seq ?_
 refine WC.seq ?_
 refine WC.region ?_
 refine WL.x (X.loadBA (k := 3) Try.isAgg25 Try.sizeOf25 rfl rfl rfl) (by decide) ?_
 refine WL.tm (T.litM (α := Ser) (vals := [.agg [v1, v3].toArray]) (L := [s]) sl179 rfl (.cons rfl ⟨_, _, rfl, hs2, hs4⟩ .nil) rfl rfl) (by decide) (fun m11 v12 hle13 hs14 => ?_)
 replace hs2 := hs2.mono hle13
 replace hs4 := hs4.mono hle13
 refine WL.x (X.call Try.call81 rfl (checked81_1 _ _ hs14)) (by decide) ?_
 refine WL.x (X.assign rfl) (by decide) ?_
 refine WL.nil ?_
 refine WK.nThen ?_
 refine WC.seq ?_
 refine WC.region ?_
 refine WL.x (X.move rfl) (by decide) ?_
 refine WL.condn (X.neq rfl rfl) (by decide) (fun h15 => ?_) (fun h15 => ?_)
 ·refine WL.nil ?_
  refine WK.nThen ?_
  refine WC.condT rfl ?_
  refine WC.cut (G := Mem) (fun m16 => m16) (fun m16 => [blk b10 45 [.int .i64 (0), .int .i64 (0)], blk b9 45 [.int .i64 (0), .int .i64 (0)], blk b8 33 [.int .i64 (x.Lo), .int .i64 (x.Hi)], blk b7 25 [v1, v3]]) (fun m16 => [(4, .pointer (some ⟨b9, 0, none⟩)), (5, .pointer (some ⟨b10, 0, none⟩)), (6, .int .i64 (chkE s))]) (fun m16 => m11.le m16 ∧ Sl (α := Val) m16 v1 s.Values ∧ Sl (α := Shf) m16 v3 s.Shifts) ?_ ?_
  ·refine WC.draw (π := (.cons 0 (.cons 2 (.fork (.cons 1 (.cons 3 (.cons 4 (.cons 5 .done)))) (.cons 3 (.cons 1 (.cons 4 (.cons 5 .done)))))))) [1, 3, 4] [3, 4] rfl (by kernel_rfl) ?_
   refine DW.x rfl rfl (X.loadBA (k := 1) Try.isAgg45 Try.sizeOf45 rfl rfl rfl) (by decide) ?_
   refine DW.x rfl rfl (X.move rfl) (by decide) ?_
   refine DW.fork (List.cons_ne_nil _ _) ?_ ?_
   ·refine DW.xp rfl rfl rfl (fun _ => (X.loadBA (k := 0) Try.isAgg45 Try.sizeOf45 rfl rfl rfl)) (by decide) ?_
    refine DW.ts rfl rfl rfl rfl (T.storeBA (k := 1) Try.sizeOf45 rfl rfl rfl (one_cons rfl (one_cons rfl one_nil)) rfl rfl) ?_
    refine DW.ts rfl rfl rfl rfl (T.storeBA (k := 0) Try.sizeOf45 rfl rfl rfl (one_cons rfl (one_cons rfl one_nil)) rfl rfl) ?_
    refine DW.x rfl rfl (X.assign rfl) (by decide) ?_
    refine DW.nil ?_
    refine WK.nThen ?_
    exact WK.meet m11 rfl (.refl _) (.cons rfl (.cons rfl (.cons rfl .nil))) ⟨(Mem.le_refl _), hs2, hs4⟩
   ·refine DW.ts rfl rfl rfl rfl (T.storeBA (k := 1) Try.sizeOf45 rfl rfl rfl (one_cons rfl (one_cons rfl one_nil)) rfl rfl) ?_
    refine DW.xp rfl rfl rfl (fun _ => (X.loadBA (k := 0) Try.isAgg45 Try.sizeOf45 rfl rfl rfl)) (by decide) ?_
    refine DW.ts rfl rfl rfl rfl (T.storeBA (k := 0) Try.sizeOf45 rfl rfl rfl (one_cons rfl (one_cons rfl one_nil)) rfl rfl) ?_
    refine DW.x rfl rfl (X.assign rfl) (by decide) ?_
    refine DW.nil ?_
    refine WK.nThen ?_
    exact WK.meet m11 rfl (.refl _) (.cons rfl (.cons rfl (.cons rfl .nil))) ⟨(Mem.le_refl _), hs2, hs4⟩
  ·rintro m16 ⟨hle17, hs18, hs19⟩
   show WK _ _ m16 [blk b10 45 [.int .i64 (0), .int .i64 (0)], blk b9 45 [.int .i64 (0), .int .i64 (0)], blk b8 33 [.int .i64 (x.Lo), .int .i64 (x.Hi)], blk b7 25 [v1, v3]] [(4, .pointer (some ⟨b9, 0, none⟩)), (5, .pointer (some ⟨b10, 0, none⟩)), (6, .int .i64 (chkE s))] _
   replace hs2 := hs2.mono hle17
   replace hs4 := hs4.mono hle17
   replace hs14 := hs14.mono hle17
   have hl20 := hs18.le
   have hl21 := hs19.le
   refine WC.ret ?_
   refine WK.rThen ?_
   refine WK.retC3 1 0 rfl rfl rfl rfl rfl rfl Try.isAgg45 Try.sizeOf45 Try.isAgg45 Try.sizeOf45 (fun w' hw' => Ret.exact hw' ?_)
   first | exact tup3 (agg2i (by rw [mbR_err (by omega)]) (by rw [mbR_err (by omega)])) (agg2i (by rw [mbR_err (by omega)]) (by rw [mbR_err (by omega)])) (int_eq (by rw [mbR_err (by omega)])) | exact tup3 (agg2i (by rw [mbR_arg (by omega) (by assumption)]) (by rw [mbR_arg (by omega) (by assumption)])) (agg2i (by rw [mbR_arg (by omega) (by assumption)]) (by rw [mbR_arg (by omega) (by assumption)])) (int_eq (by rw [mbR_arg (by omega) (by assumption)])) | exact tup3 (agg2i (by rw [mbR_none (by omega) (by assumption) (by omega)]) (by rw [mbR_none (by omega) (by assumption) (by omega)])) (agg2i (by rw [mbR_none (by omega) (by assumption) (by omega)]) (by rw [mbR_none (by omega) (by assumption) (by omega)])) (int_eq (by rw [mbR_none (by omega) (by assumption) (by omega)])) | (have hq_ := mbR_ok (s := s) (x := x) (by omega) (by assumption) (by omega); unfold bd at hq_; exact tup3 (agg2i (by rw [hq_]) (by rw [hq_])) (agg2i (by rw [hq_]) (by rw [hq_])) (int_eq (by rw [hq_])))
 ·refine WL.nil ?_
  refine WK.nThen ?_
  refine WC.condF rfl ?_
  refine WC.skip ?_
  refine WK.nThen ?_
  refine WC.seq ?_
  refine WC.seq ?_
  refine WC.region ?_
  refine WL.x (X.loadBA (k := 2) Try.isAgg33 Try.sizeOf33 rfl rfl rfl) (by decide) ?_
  refine WL.cond (X.call Try.call106 rfl (times106 _ _ x rfl )) (by decide) (fun h22 => ?_) (fun h22 => ?_)
  ·refine WL.x (X.not rfl) (by decide) ?_
   refine WL.nil ?_
   refine WK.nThen ?_
   refine WC.condF rfl ?_
   refine WC.skip ?_
   refine WK.nThen ?_
   refine WC.seq ?_
   have hok := Ok.of (s := s) (by omega)
   have hnV := hok.nV
   have hwc := wtC_le s x
   have hfw := wt_fac (s := s) (x := x) (c := 1) (by omega)
   have hbb := bd_bd hok hfw
   unfold bd at hbb
   have hwl := wtL_len s x 1
   refine WC.region ?_
   refine WL.x (X.loadBA (k := 3) Try.isAgg25 Try.sizeOf25 rfl rfl rfl) (by decide) ?_
   refine WL.x (V := Value.agg [v1, v3].toArray) (X.build Try.zeroValue111 Try.runUnderlying111 (places111 _ Try.underlying111) rfl rfl) (by decide) ?_
   refine WL.tn (T.alloc Try.zeroValue111 rfl) (by decide) fun b23 => ?_
   refine WL.ts (T.storeBA (k := 0) Try.sizeOf111 rfl rfl rfl (one_cons hs2.one (one_cons hs4.one one_nil)) rfl rfl) ?_
   refine WL.nil ?_
   refine WK.nThen ?_
   refine WC.seq ?_
   refine WC.region ?_
   refine WL.x (X.loadBA (k := 0) Try.isAgg111 Try.sizeOf111 rfl rfl rfl) (by decide) ?_
   refine WL.x (X.loadBA (k := 3) Try.isAgg33 Try.sizeOf33 rfl rfl rfl) (by decide) ?_
   refine WL.tM (T.callO Try.call128 rfl (weights128 _ (r := s) ⟨_, _, rfl, hs2, hs4⟩ (x := x) rfl (c := 1) (by omega))) (by decide) (fun m24 Es25 u26 hle28 hR_ => ?_)
   obtain ⟨v27, rfl, rfl, ho29⟩ := hR_
   replace hs2 := hs2.mono hle28
   replace hs4 := hs4.mono hle28
   replace hs14 := hs14.mono hle28
   refine WL.x (X.move rfl) (by decide) ?_
   refine WL.x (X.extract rfl rfl) (by decide) ?_
   refine WL.x (X.extract rfl rfl) (by decide) ?_
   refine WL.x (X.assign rfl) (by decide) ?_
   refine WL.x (X.assign rfl) (by decide) ?_
   refine WL.nil ?_
   refine WK.nThen ?_
   refine WC.seq ?_
   refine WC.seq ?_
   refine WC.region ?_
   refine WL.x (X.move rfl) (by decide) ?_
   refine WL.cond (X.eql rfl rfl) (by decide) (fun h30 => ?_) (fun h30 => ?_)
   ·refine WL.nil ?_
    refine WK.nThen ?_
    refine WC.condT rfl ?_
    refine WC.cut (G := Mem) (fun m31 => m31) (fun m31 => [rowF (v27) 3 (wtL s x 1), blk b23 111 [v1, v3], blk b10 45 [.int .i64 (0), .int .i64 (0)], blk b9 45 [.int .i64 (0), .int .i64 (0)], blk b8 33 [.int .i64 (x.Lo), .int .i64 (x.Hi)], blk b7 25 [v1, v3]]) (fun m31 => [(4, .pointer (some ⟨b9, 0, none⟩)), (5, .pointer (some ⟨b10, 0, none⟩)), (6, .int .i64 (3))]) (fun m31 => m24.le m31 ∧ Sl (α := Val) m31 v1 s.Values ∧ Sl (α := Shf) m31 v3 s.Shifts ∧ Sl (α := Val) m31 v1 s.Values ∧ Sl (α := Shf) m31 v3 s.Shifts) ?_ ?_
    ·refine WC.draw (π := (.cons 0 (.fork (.cons 1 (.cons 2 (.cons 3 (.cons 4 .done)))) (.cons 2 (.cons 1 (.cons 3 (.cons 4 .done))))))) [1, 2, 3] [2, 3] rfl (by kernel_rfl) ?_
     refine DW.x rfl rfl (X.loadBA (k := 3) Try.isAgg45 Try.sizeOf45 rfl rfl rfl) (by decide) ?_
     refine DW.fork (List.cons_ne_nil _ _) ?_ ?_
     ·refine DW.xp rfl rfl rfl (fun _ => (X.loadBA (k := 2) Try.isAgg45 Try.sizeOf45 rfl rfl rfl)) (by decide) ?_
      refine DW.ts rfl rfl rfl rfl (T.storeBA (k := 3) Try.sizeOf45 rfl rfl rfl (one_cons rfl (one_cons rfl one_nil)) rfl rfl) ?_
      refine DW.ts rfl rfl rfl rfl (T.storeBA (k := 2) Try.sizeOf45 rfl rfl rfl (one_cons rfl (one_cons rfl one_nil)) rfl rfl) ?_
      refine DW.x rfl rfl (X.assign rfl) (by decide) ?_
      refine DW.nil ?_
      refine WK.nThen ?_
      exact WK.meet m24 rfl (.refl _) (.cons rfl (.cons rfl (.cons rfl .nil))) ⟨(Mem.le_refl _), hs2, hs4, hs2, hs4⟩
     ·refine DW.ts rfl rfl rfl rfl (T.storeBA (k := 3) Try.sizeOf45 rfl rfl rfl (one_cons rfl (one_cons rfl one_nil)) rfl rfl) ?_
      refine DW.xp rfl rfl rfl (fun _ => (X.loadBA (k := 2) Try.isAgg45 Try.sizeOf45 rfl rfl rfl)) (by decide) ?_
      refine DW.ts rfl rfl rfl rfl (T.storeBA (k := 2) Try.sizeOf45 rfl rfl rfl (one_cons rfl (one_cons rfl one_nil)) rfl rfl) ?_
      refine DW.x rfl rfl (X.assign rfl) (by decide) ?_
      refine DW.nil ?_
      refine WK.nThen ?_
      exact WK.meet m24 rfl (.refl _) (.cons rfl (.cons rfl (.cons rfl .nil))) ⟨(Mem.le_refl _), hs2, hs4, hs2, hs4⟩
    ·rintro m31 ⟨hle32, hs33, hs34, hs35, hs36⟩
     show WK _ _ m31 [rowF (v27) 3 (wtL s x 1), blk b23 111 [v1, v3], blk b10 45 [.int .i64 (0), .int .i64 (0)], blk b9 45 [.int .i64 (0), .int .i64 (0)], blk b8 33 [.int .i64 (x.Lo), .int .i64 (x.Hi)], blk b7 25 [v1, v3]] [(4, .pointer (some ⟨b9, 0, none⟩)), (5, .pointer (some ⟨b10, 0, none⟩)), (6, .int .i64 (3))] _
     replace hs2 := hs2.mono hle32
     replace hs4 := hs4.mono hle32
     replace hs14 := hs14.mono hle32
     have hl37 := hs33.le
     have hl38 := hs34.le
     have hl39 := hs35.le
     have hl40 := hs36.le
     refine WC.ret ?_
     refine WK.rThen ?_
     refine WK.retC3 3 2 rfl rfl rfl rfl rfl rfl Try.isAgg45 Try.sizeOf45 Try.isAgg45 Try.sizeOf45 (fun w' hw' => Ret.exact hw' ?_)
     first | exact tup3 (agg2i (by rw [mbR_err (by omega)]) (by rw [mbR_err (by omega)])) (agg2i (by rw [mbR_err (by omega)]) (by rw [mbR_err (by omega)])) (int_eq (by rw [mbR_err (by omega)])) | exact tup3 (agg2i (by rw [mbR_arg (by omega) (by assumption)]) (by rw [mbR_arg (by omega) (by assumption)])) (agg2i (by rw [mbR_arg (by omega) (by assumption)]) (by rw [mbR_arg (by omega) (by assumption)])) (int_eq (by rw [mbR_arg (by omega) (by assumption)])) | exact tup3 (agg2i (by rw [mbR_none (by omega) (by assumption) (by omega)]) (by rw [mbR_none (by omega) (by assumption) (by omega)])) (agg2i (by rw [mbR_none (by omega) (by assumption) (by omega)]) (by rw [mbR_none (by omega) (by assumption) (by omega)])) (int_eq (by rw [mbR_none (by omega) (by assumption) (by omega)])) | (have hq_ := mbR_ok (s := s) (x := x) (by omega) (by assumption) (by omega); unfold bd at hq_; exact tup3 (agg2i (by rw [hq_]) (by rw [hq_])) (agg2i (by rw [hq_]) (by rw [hq_])) (int_eq (by rw [hq_])))
   ·refine WL.nil ?_
    refine WK.nThen ?_
    refine WC.condF rfl ?_
    refine WC.skip ?_
    refine WK.nThen ?_
    refine WC.seq ?_
    refine WC.region ?_
    refine WL.x (X.loadBA (k := 1) Try.isAgg111 Try.sizeOf111 rfl rfl rfl) (by decide) ?_
    refine WL.x (X.move rfl) (by decide) ?_
    refine WL.freezeF 0 rfl rfl (by simp [lenB]; omega) (fun m41 hle42 hs43 => ?_)
    replace hs2 := hs2.mono hle42
    replace hs4 := hs4.mono hle42
    replace hs14 := hs14.mono hle42
    refine WL.tm (T.call Try.call129 rfl (sum129 _ _ s ⟨_, _, rfl, hs2, hs4⟩ _ _ hs43 (by assumption) (by first | exact gap_fac | assumption))) (by decide) fun m44 r45 hle46 hR47 => ?_
    obtain ⟨c48, rfl, hc49⟩ := hR47
    replace hs2 := hs2.mono hle46
    replace hs4 := hs4.mono hle46
    replace hs14 := hs14.mono hle46
    replace hs43 := hs43.mono hle46
    obtain ⟨v50, v52, v54, v56, rfl, hs51, hs53, hs55, hs57⟩ := hc49
    have hl58 := hs51.le
    have hl59 := hs53.le
    have hl60 := hs55.le
    have hl61 := hs57.le
    refine WL.x (X.call Try.call104 rfl (bounds104 _ _ (Sum.mk s ((wtL s x 1)) (sumXL s ((wtL s x 1)))) ⟨_, _, _, _, rfl, hs51, hs53, hs55, hs57⟩ (by first | exact sum_w (by assumption) (by first | exact gap_fac | assumption) | assumption))) (by decide) ?_
    refine WL.tn (T.alloc Try.zeroValue33 rfl) (by decide) fun b62 => ?_
    refine WL.ts (T.storeBA (k := 0) Try.sizeOf33 rfl rfl rfl (one_cons rfl (one_cons rfl one_nil)) rfl rfl) ?_
    refine WL.nil ?_
    refine WK.nThen ?_
    refine WC.seq ?_
    refine WC.draw (π := (.cons 0 (.cons 1 (.cons 2 (.cons 3 (.cons 4 (.cons 5 (.cons 6 (.cons 7 (.cons 8 (.cons 9 (.cons 10 .done)))))))))))) [8, 9] [8, 9] rfl (by kernel_rfl) ?_
    refine DW.x rfl rfl (X.field Try.runUnderlying33 rfl Try.sizeOf3 rfl) (by decide) ?_
    refine DW.x rfl rfl (X.loadB (k := 0) Try.isAgg3 rfl rfl rfl) (by decide) ?_
    refine DW.x rfl rfl (X.move rfl) (by decide) ?_
    refine DW.x rfl rfl (X.call Try.call105 rfl (lowest105 _ _ _ (by first | omega | (dsimp only; omega)) (by first | omega | (dsimp only; omega)))) (by decide) ?_
    refine DW.x rfl rfl (X.field Try.runUnderlying33 rfl Try.sizeOf3 rfl) (by decide) ?_
    refine DW.x rfl rfl (X.loadB (k := 0) Try.isAgg3 rfl rfl rfl) (by decide) ?_
    refine DW.x rfl rfl (X.move rfl) (by decide) ?_
    refine DW.x rfl rfl (X.call Try.call105 rfl (lowest105 _ _ _ (by first | omega | (dsimp only; omega)) (by first | omega | (dsimp only; omega)))) (by decide) ?_
    refine DW.ts rfl rfl rfl rfl (T.storeBA (k := 3) Try.sizeOf45 rfl rfl rfl (one_cons rfl (one_cons rfl one_nil)) rfl rfl) ?_
    refine DW.ts rfl rfl rfl rfl (T.storeBA (k := 2) Try.sizeOf45 rfl rfl rfl (one_cons rfl (one_cons rfl one_nil)) rfl rfl) ?_
    refine DW.x rfl rfl (X.assign rfl) (by decide) ?_
    refine DW.nil ?_
    refine WK.nThen ?_
    refine WC.ret ?_
    refine WK.retC3 3 2 rfl rfl rfl rfl rfl rfl Try.isAgg45 Try.sizeOf45 Try.isAgg45 Try.sizeOf45 (fun w' hw' => Ret.exact hw' ?_)
    first | exact tup3 (agg2i (by rw [mbR_err (by omega)]) (by rw [mbR_err (by omega)])) (agg2i (by rw [mbR_err (by omega)]) (by rw [mbR_err (by omega)])) (int_eq (by rw [mbR_err (by omega)])) | exact tup3 (agg2i (by rw [mbR_arg (by omega) (by assumption)]) (by rw [mbR_arg (by omega) (by assumption)])) (agg2i (by rw [mbR_arg (by omega) (by assumption)]) (by rw [mbR_arg (by omega) (by assumption)])) (int_eq (by rw [mbR_arg (by omega) (by assumption)])) | exact tup3 (agg2i (by rw [mbR_none (by omega) (by assumption) (by omega)]) (by rw [mbR_none (by omega) (by assumption) (by omega)])) (agg2i (by rw [mbR_none (by omega) (by assumption) (by omega)]) (by rw [mbR_none (by omega) (by assumption) (by omega)])) (int_eq (by rw [mbR_none (by omega) (by assumption) (by omega)])) | (have hq_ := mbR_ok (s := s) (x := x) (by omega) (by assumption) (by omega); unfold bd at hq_; exact tup3 (agg2i (by rw [hq_]) (by rw [hq_])) (agg2i (by rw [hq_]) (by rw [hq_])) (int_eq (by rw [hq_])))
  ·refine WL.x (X.not rfl) (by decide) ?_
   refine WL.nil ?_
   refine WK.nThen ?_
   refine WC.condT rfl ?_
   refine WC.cut (G := Mem) (fun m63 => m63) (fun m63 => [blk b10 45 [.int .i64 (0), .int .i64 (0)], blk b9 45 [.int .i64 (0), .int .i64 (0)], blk b8 33 [.int .i64 (x.Lo), .int .i64 (x.Hi)], blk b7 25 [v1, v3]]) (fun m63 => [(4, .pointer (some ⟨b9, 0, none⟩)), (5, .pointer (some ⟨b10, 0, none⟩)), (6, .int .i64 (1))]) (fun m63 => m11.le m63 ∧ Sl (α := Val) m63 v1 s.Values ∧ Sl (α := Shf) m63 v3 s.Shifts) ?_ ?_
   ·refine WC.draw (π := (.cons 0 (.fork (.cons 1 (.cons 2 (.cons 3 (.cons 4 .done)))) (.cons 2 (.cons 1 (.cons 3 (.cons 4 .done))))))) [1, 2, 3] [2, 3] rfl (by kernel_rfl) ?_
    refine DW.x rfl rfl (X.loadBA (k := 1) Try.isAgg45 Try.sizeOf45 rfl rfl rfl) (by decide) ?_
    refine DW.fork (List.cons_ne_nil _ _) ?_ ?_
    ·refine DW.xp rfl rfl rfl (fun _ => (X.loadBA (k := 0) Try.isAgg45 Try.sizeOf45 rfl rfl rfl)) (by decide) ?_
     refine DW.ts rfl rfl rfl rfl (T.storeBA (k := 1) Try.sizeOf45 rfl rfl rfl (one_cons rfl (one_cons rfl one_nil)) rfl rfl) ?_
     refine DW.ts rfl rfl rfl rfl (T.storeBA (k := 0) Try.sizeOf45 rfl rfl rfl (one_cons rfl (one_cons rfl one_nil)) rfl rfl) ?_
     refine DW.x rfl rfl (X.assign rfl) (by decide) ?_
     refine DW.nil ?_
     refine WK.nThen ?_
     exact WK.meet m11 rfl (.refl _) (.cons rfl (.cons rfl (.cons rfl .nil))) ⟨(Mem.le_refl _), hs2, hs4⟩
    ·refine DW.ts rfl rfl rfl rfl (T.storeBA (k := 1) Try.sizeOf45 rfl rfl rfl (one_cons rfl (one_cons rfl one_nil)) rfl rfl) ?_
     refine DW.xp rfl rfl rfl (fun _ => (X.loadBA (k := 0) Try.isAgg45 Try.sizeOf45 rfl rfl rfl)) (by decide) ?_
     refine DW.ts rfl rfl rfl rfl (T.storeBA (k := 0) Try.sizeOf45 rfl rfl rfl (one_cons rfl (one_cons rfl one_nil)) rfl rfl) ?_
     refine DW.x rfl rfl (X.assign rfl) (by decide) ?_
     refine DW.nil ?_
     refine WK.nThen ?_
     exact WK.meet m11 rfl (.refl _) (.cons rfl (.cons rfl (.cons rfl .nil))) ⟨(Mem.le_refl _), hs2, hs4⟩
   ·rintro m63 ⟨hle64, hs65, hs66⟩
    show WK _ _ m63 [blk b10 45 [.int .i64 (0), .int .i64 (0)], blk b9 45 [.int .i64 (0), .int .i64 (0)], blk b8 33 [.int .i64 (x.Lo), .int .i64 (x.Hi)], blk b7 25 [v1, v3]] [(4, .pointer (some ⟨b9, 0, none⟩)), (5, .pointer (some ⟨b10, 0, none⟩)), (6, .int .i64 (1))] _
    replace hs2 := hs2.mono hle64
    replace hs4 := hs4.mono hle64
    replace hs14 := hs14.mono hle64
    have hl67 := hs65.le
    have hl68 := hs66.le
    refine WC.ret ?_
    refine WK.rThen ?_
    refine WK.retC3 1 0 rfl rfl rfl rfl rfl rfl Try.isAgg45 Try.sizeOf45 Try.isAgg45 Try.sizeOf45 (fun w' hw' => Ret.exact hw' ?_)
    first | exact tup3 (agg2i (by rw [mbR_err (by omega)]) (by rw [mbR_err (by omega)])) (agg2i (by rw [mbR_err (by omega)]) (by rw [mbR_err (by omega)])) (int_eq (by rw [mbR_err (by omega)])) | exact tup3 (agg2i (by rw [mbR_arg (by omega) (by assumption)]) (by rw [mbR_arg (by omega) (by assumption)])) (agg2i (by rw [mbR_arg (by omega) (by assumption)]) (by rw [mbR_arg (by omega) (by assumption)])) (int_eq (by rw [mbR_arg (by omega) (by assumption)])) | exact tup3 (agg2i (by rw [mbR_none (by omega) (by assumption) (by omega)]) (by rw [mbR_none (by omega) (by assumption) (by omega)])) (agg2i (by rw [mbR_none (by omega) (by assumption) (by omega)]) (by rw [mbR_none (by omega) (by assumption) (by omega)])) (int_eq (by rw [mbR_none (by omega) (by assumption) (by omega)])) | (have hq_ := mbR_ok (s := s) (x := x) (by omega) (by assumption) (by omega); unfold bd at hq_; exact tup3 (agg2i (by rw [hq_]) (by rw [hq_])) (agg2i (by rw [hq_]) (by rw [hq_])) (int_eq (by rw [hq_])))

end Go.Proofs.C8
