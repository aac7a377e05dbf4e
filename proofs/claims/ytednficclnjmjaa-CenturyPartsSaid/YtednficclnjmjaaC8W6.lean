import Derived.Test.YtednficclnjmjaaC8Spec4
import Derived.Test.YtednficclnjmjaaC8W5
/- Century: walks, sixth part, by program. -/
namespace Go.Proofs.C8
open Go Go.Kx
set_option linter.unusedSimpArgs false

theorem chosen147 (m : Mem) {r : Ser} {x : Span} {pr px : Addr} (hpr : At m pr r) (hpx : At m px x) : Iter Try.prog 147 [.pointer (some pr), .pointer (some px)] m false (wtC r x) (fun i _ args => ∃ k : Nat, k < r.Values.length ∧ inT x (gt r.Values k).Time ∧ wtN r x k = i ∧ args = #[.int .i64 ↑k]) := by
 intro lo S HS I Ix s0 hone hmono hy h0
 refine Mut.start Try.func147 rfl Try.ntmps147 rfl fun wld => ?_
 refine WC.seq ?_
 refine WC.region ?_
 have hp1 := At.zero hpr
 refine WL.x (X.field Try.runUnderlying111 rfl Try.sizeOf25 rfl) (by decide) ?_
 have hp2 := At.Ser_0 hp1
 refine WL.x (X.field Try.runUnderlying25 rfl Try.sizeOf22 rfl) (by decide) ?_
 refine WL.xe (E.loadSl Try.isAgg22 rfl hp2) (by decide) (fun v3 hs4 => ?_)
 have hl5 := hs4.le
 refine WL.x (X.len Try.runUnderlying22 rfl hs4) (by decide) ?_
 refine WL.x (X.move rfl) (by decide) ?_
 refine WL.nil ?_
 refine WK.nThen ?_
 refine WC.block ?_
 refine WC.loop (G := Nat × Mem × S) (fun (k, mm, ss) => r.Values.length - k) (fun (k, mm, ss) => mm) (fun (k, mm, ss) => ([] ++ HS ss)) (fun (k, mm, ss) => [(0, .func (.yield lo) #[] #[]), (2, .pointer (some (px))), (8, v3), (9, .int .i64 (↑r.Values.length)), (10, .int .i64 (↑k))]) (fun (k, mm, ss) => m.le mm ∧ I (wtN r x k) mm ss ∧ k ≤ r.Values.length) ((0, m, s0)) rfl (.refl _) (.cons rfl (.cons rfl (.cons rfl (.cons rfl (.cons rfl .nil))))) ?_ ?_
 ·exact ⟨Mem.le_refl _, h0, Nat.zero_le _⟩
 ·rintro ⟨k, mm, ss⟩ hF6
  show WK _ _ mm ([] ++ HS ss) [(0, .func (.yield lo) #[] #[]), (2, .pointer (some (px))), (8, v3), (9, .int .i64 (↑r.Values.length)), (10, .int .i64 (↑k))] _
  replace hF6 : m.le mm ∧ I (wtN r x k) mm ss ∧ k ≤ r.Values.length := hF6
  obtain ⟨hmm, hI, hk⟩ := hF6
  replace hpr := hpr.mono hmm
  replace hpx := hpx.mono hmm
  replace hp1 := hp1.mono hmm
  replace hp2 := hp2.mono hmm
  replace hs4 := hs4.mono hmm
  refine WC.seq ?_
  refine WC.region ?_
  refine WL.cond (X.lss rfl rfl) (by decide) (fun h7 => ?_) (fun h7 => ?_)
  ·refine WL.nil ?_
   refine WK.nThen ?_
   refine WC.seq ?_
   refine WC.condT rfl ?_
   refine WC.skip ?_
   refine WK.nThen ?_
   refine WC.seq ?_
   refine WC.block ?_
   refine WC.seq ?_
   refine WC.region ?_
   refine WL.x (X.move rfl) (by decide) ?_
   refine WL.xe (E.idxN k Try.runUnderlying22 Try.sizeOf62 rfl rfl hs4 (by omega)) (by decide) (fun p8 hp9 => ?_)
   refine WL.xe (E.loadAgg Try.isAgg62 Try.sizeOf62 rfl hp9) (by decide) (fun c10 hc11 => ?_)
   obtain rfl := hc11
   refine WL.tn (T.alloc Try.zeroValue62 rfl) (by decide) fun b12 => ?_
   refine WL.x (X.assign rfl) (by decide) ?_
   refine WL.ts (T.storeBA (k := 0) Try.sizeOf62 rfl rfl rfl (one_cons rfl (one_cons rfl (one_cons rfl one_nil))) rfl rfl) ?_
   refine WL.nil ?_
   refine WK.nThen ?_
   refine WC.seq ?_
   refine WC.region ?_
   refine WL.x (X.field Try.runUnderlying62 rfl Try.sizeOf3 rfl) (by decide) ?_
   refine WL.x (X.loadB (k := 0) Try.isAgg3 rfl rfl rfl) (by decide) ?_
   have hp13 := At.Span_0 hpx
   refine WL.x (X.field Try.runUnderlying33 rfl Try.sizeOf3 rfl) (by decide) ?_
   refine WL.x (X.loadInt Try.isAgg3 rfl hp13) (by decide) ?_
   have hp14 := At.Span_1 hpx
   refine WL.x (X.field Try.runUnderlying33 rfl Try.sizeOf3 rfl) (by decide) ?_
   refine WL.x (X.loadInt Try.isAgg3 rfl hp14) (by decide) ?_
   refine WL.cond (X.call Try.call82 rfl (within82 _ _ _ _ )) (by decide) (fun h15 => ?_) (fun h15 => ?_)
   ·refine WL.x (X.move rfl) (by decide) ?_
    refine WL.yes rfl rfl ?_
    refine WL.x (X.move rfl) (by decide) ?_
    refine WL.yes rfl rfl ?_
    refine WL.x (X.move rfl) (by decide) ?_
    refine WL.yes rfl rfl ?_
    have hin_ : inT x (gt r.Values k).Time := (by unfold inT; assumption)
    refine WL.tY (T.yield (A := [blk b12 62 [.int .i64 ((gt r.Values k).Time), .int .i64 (((gt r.Values k).Levels).Lo), .int .i64 (((gt r.Values k).Levels).Hi)]]) rfl rfl rfl (hy (wtN r x k) _ ss _ (wtN_lt (by omega) hin_) hmm ⟨k, by omega, hin_, rfl, rfl⟩ hI)) (by decide) (fun m2_ H2_ hT_ => ?_) (fun m2_ H2_ hT_ => ?_)
    ·obtain ⟨hle2_, s2_, rfl, hI2_⟩ := hT_
     replace hpr := hpr.mono hle2_
     replace hpx := hpx.mono hle2_
     replace hp1 := hp1.mono hle2_
     replace hp2 := hp2.mono hle2_
     replace hs4 := hs4.mono hle2_
     replace hp9 := hp9.mono hle2_
     replace hp13 := hp13.mono hle2_
     replace hp14 := hp14.mono hle2_
     refine WL.yes rfl rfl ?_
     refine WL.x (X.not rfl) (by decide) ?_
     refine WL.x (X.pickT rfl rfl rfl) (by decide) ?_
     refine WL.nil ?_
     refine WK.nThen ?_
     refine WC.condF rfl ?_
     refine WC.skip ?_
     refine WK.nBlock ?_
     refine WK.nThen ?_
     refine WC.region ?_
     refine WL.x (X.add rfl rfl (by omega) (by omega)) (by decide) ?_
     refine WL.x (X.move rfl) (by decide) ?_
     refine WL.nil ?_
     refine WK.nThen ?_
     refine WK.next ((k + 1, m2_, s2_)) rfl (.cons _ (.refl _)) (.cons rfl (.cons rfl (.cons rfl (.cons rfl (.cons rfl .nil))))) ?_ ?_
     ·exact ⟨Mem.le_trans hmm hle2_, by rw [wtN_yes hin_]; exact hI2_, by omega⟩
     ·(dsimp only; omega)
    ·obtain ⟨hle2_, s2_, rfl, hI2_⟩ := hT_
     replace hpr := hpr.mono hle2_
     replace hpx := hpx.mono hle2_
     replace hp1 := hp1.mono hle2_
     replace hp2 := hp2.mono hle2_
     replace hs4 := hs4.mono hle2_
     replace hp9 := hp9.mono hle2_
     replace hp13 := hp13.mono hle2_
     replace hp14 := hp14.mono hle2_
     refine WL.drop (H' := HS s2_) ((List.Sublist.cons _ (.refl _))) ?_
     refine WL.yes rfl rfl ?_
     refine WL.x (X.not rfl) (by decide) ?_
     refine WL.x (X.pickT rfl rfl rfl) (by decide) ?_
     refine WL.nil ?_
     refine WK.nThen ?_
     refine WC.condT rfl ?_
     refine WC.ret ?_
     refine WK.rBlock ?_
     refine WK.rThen ?_
     refine WK.rThen ?_
     refine WK.rBlock ?_
     refine WK.ret0 rfl (fun w' hw' => Ret.mut hw' ?_)
     exact ⟨s2_, rfl, .inr ⟨wtN r x k + 1, by have := wtN_lt (s := r) (x := x) (k := k) (n := r.Values.length) (by omega) hin_; unfold wtC; omega, hI2_⟩⟩
   ·refine WL.x (X.move rfl) (by decide) ?_
    refine WL.no rfl rfl rfl (by decide) ?_
    refine WL.no rfl rfl rfl (by decide) ?_
    refine WL.no rfl rfl rfl (by decide) ?_
    refine WL.no rfl rfl rfl (by decide) ?_
    refine WL.x (X.pickF rfl rfl rfl) (by decide) ?_
    refine WL.nil ?_
    refine WK.nThen ?_
    refine WC.condF rfl ?_
    refine WC.skip ?_
    refine WK.nBlock ?_
    refine WK.nThen ?_
    refine WC.region ?_
    refine WL.x (X.add rfl rfl (by omega) (by omega)) (by decide) ?_
    refine WL.x (X.move rfl) (by decide) ?_
    refine WL.nil ?_
    refine WK.nThen ?_
    refine WK.next ((k + 1, mm, ss)) rfl (.cons _ (.refl _)) (.cons rfl (.cons rfl (.cons rfl (.cons rfl (.cons rfl .nil))))) ?_ ?_
    ·exact ⟨hmm, by rw [wtN_no (by unfold inT; assumption)]; exact hI, by omega⟩
    ·(dsimp only; omega)
  ·refine WL.nil ?_
   refine WK.nThen ?_
   refine WC.seq ?_
   refine WC.condF rfl ?_
   refine WC.exit ?_
   refine WK.eThen ?_
   refine WK.eThen ?_
   refine WK.eHit ?_
   refine WK.end0 rfl (fun w' hw' => Ret.mut hw' ?_)
   obtain rfl : k = r.Values.length := (by omega)
   exact ⟨ss, rfl, .inl hI⟩

theorem chosen108 (m : Mem) {cr : List Value} {r : Ser} (hr : Enc.rd m cr r) {cx : List Value} {x : Span} (hx : Enc.rd m cx x) : Pure Try.prog 108 #[.agg cr.toArray, .agg cx.toArray] m (fun m' v => ∃ lb, v = .func (.func 147) #[] lb.toArray ∧ Iter Try.prog 147 lb m' false (wtC r x) (fun i _ args => ∃ k : Nat, k < r.Values.length ∧ inT x (gt r.Values k).Time ∧ wtN r x k = i ∧ args = #[.int .i64 ↑k])) := by
 obtain ⟨v1, v3, rfl, hs2, hs4⟩ := hr
 have hl5 := hs2.le
 have hl6 := hs4.le
 obtain rfl := hx
 refine Pure.start Try.func108 rfl Try.ntmps108 rfl fun wld => ?_
 refine WC.seq ?_
 refine WC.region ?_
 refine WL.tn (T.boxB rfl rfl) (by decide) fun b7 => ?_
 refine WL.tn (T.boxB rfl rfl) (by decide) fun b8 => ?_
 refine WL.x (X.assign rfl) (by decide) ?_
 refine WL.nil ?_
 refine WK.nThen ?_
 refine WC.seq ?_
 refine WK.freezeS (α := Ser) (x := r) 1 rfl rfl (show Enc.rd (α := Ser) m [v1, v3] r from ⟨_, _, rfl, hs2, hs4⟩) (fun m9 hle10 hp11 => ?_)
 replace hs2 := hs2.mono hle10
 replace hs4 := hs4.mono hle10
 refine WK.freezeS (α := Span) (x := x) 0 rfl rfl (show Enc.rd (α := Span) m9 [.int .i64 (x.Lo), .int .i64 (x.Hi)] x from rfl) (fun m12 hle13 hp14 => ?_)
 replace hs2 := hs2.mono hle13
 replace hs4 := hs4.mono hle13
 replace hp11 := hp11.mono hle13
 refine WC.region ?_
 refine WL.x (X.makeFunc (by intro x hx; simp at hx; rcases hx with rfl | rfl; all_goals exact ⟨_, rfl⟩) rfl) (by decide) ?_
 refine WL.x (X.assign rfl) (by decide) ?_
 refine WL.nil ?_
 refine WK.nThen ?_
 refine WC.ret ?_
 refine WK.ret1 rfl rfl (fun w' hw' => Ret.mem hw' ?_)
 exact ⟨_, rfl, chosen147 _ hp11 hp14⟩

theorem extremes37 (m : Mem) (cs : List Value) (s : Ser) (hs : Enc.rd m cs s) (ctimes : List Value) (times : Span) (htimes : Enc.rd m ctimes times)   : Exact Try.prog 37 #[.agg cs.toArray, .agg ctimes.toArray] m (.tuple #[.agg [.int .i64 ((extR s times).1.Lo), .int .i64 ((extR s times).1.Hi)].toArray, .agg [.int .i64 ((extR s times).2.1.Lo), .int .i64 ((extR s times).2.1.Hi)].toArray, .int .i64 ((extR s times).2.2)]) := by
 obtain ⟨v1, v3, rfl, hs2, hs4⟩ := hs
 have hl5 := hs2.le
 have hl6 := hs4.le
 obtain rfl := htimes
 refine Exact.start Try.func37 rfl Try.ntmps37 rfl fun wld => ?_
 refine WC.seq ?_
 refine WC.region ?_
 refine WL.tn (T.boxB rfl rfl) (by decide) fun b7 => ?_
 refine WL.tn (T.boxB rfl rfl) (by decide) fun b8 => ?_
 refine WL.tn (T.alloc Try.zeroValue33 rfl) (by decide) fun b9 => ?_
 refine WL.tn (T.alloc Try.zeroValue33 rfl) (by decide) fun b10 => ?_
 refine WL.x (X.assign rfl) (by decide) ?_
 refine WL.nil ?_
 refine WK.nThen ?_
 refine WC.seq ?_
 refine WC.seq ?_
 refine WC.region ?_
 refine WL.x (X.loadBA (k := 3) Try.isAgg25 Try.sizeOf25 rfl rfl rfl) (by decide) ?_
 refine WL.tm (T.litM (α := Ser) (vals := [.agg [v1, v3].toArray]) (L := [s]) sl179 rfl (.cons rfl ⟨_, _, rfl, hs2, hs4⟩ .nil) rfl rfl) (by decide) (fun m11 v12 hle13 hs14 => ?_)
 replace hs2 := hs2.mono hle13
 replace hs4 := hs4.mono hle13
 refine WL.x (X.call Try.call81 rfl (checked81_1 _ _ hs14)) (by decide) ?_
 refine WL.x (X.assign rfl) (by decide) ?_
 refine WL.nil ?_
 refine WK.nThen ?_
 refine WC.seq ?_
 refine WC.region ?_
 refine WL.x (X.move rfl) (by decide) ?_
 refine WL.condn (X.neq rfl rfl) (by decide) (fun h15 => ?_) (fun h15 => ?_)
 ·refine WL.nil ?_
  refine WK.nThen ?_
  refine WC.condT rfl ?_
  refine WC.cut (G := Mem) (fun m16 => m16) (fun m16 => [blk b10 33 [.int .i64 (0), .int .i64 (0)], blk b9 33 [.int .i64 (0), .int .i64 (0)], blk b8 33 [.int .i64 (times.Lo), .int .i64 (times.Hi)], blk b7 25 [v1, v3]]) (fun m16 => [(4, .pointer (some ⟨b9, 0, none⟩)), (5, .pointer (some ⟨b10, 0, none⟩)), (6, .int .i64 (chkE s))]) (fun m16 => m11.le m16 ∧ Sl (α := Val) m16 v1 s.Values ∧ Sl (α := Shf) m16 v3 s.Shifts) ?_ ?_
  ·refine WC.draw (π := (.cons 0 (.cons 2 (.fork (.cons 1 (.cons 3 (.cons 4 (.cons 5 .done)))) (.cons 3 (.cons 1 (.cons 4 (.cons 5 .done)))))))) [1, 3, 4] [3, 4] rfl (by kernel_rfl) ?_
   refine DW.x rfl rfl (X.loadBA (k := 1) Try.isAgg33 Try.sizeOf33 rfl rfl rfl) (by decide) ?_
   refine DW.x rfl rfl (X.move rfl) (by decide) ?_
   refine DW.fork (List.cons_ne_nil _ _) ?_ ?_
   ·refine DW.xp rfl rfl rfl (fun _ => (X.loadBA (k := 0) Try.isAgg33 Try.sizeOf33 rfl rfl rfl)) (by decide) ?_
    refine DW.ts rfl rfl rfl rfl (T.storeBA (k := 1) Try.sizeOf33 rfl rfl rfl (one_cons rfl (one_cons rfl one_nil)) rfl rfl) ?_
    refine DW.ts rfl rfl rfl rfl (T.storeBA (k := 0) Try.sizeOf33 rfl rfl rfl (one_cons rfl (one_cons rfl one_nil)) rfl rfl) ?_
    refine DW.x rfl rfl (X.assign rfl) (by decide) ?_
    refine DW.nil ?_
    refine WK.nThen ?_
    exact WK.meet m11 rfl (.refl _) (.cons rfl (.cons rfl (.cons rfl .nil))) ⟨(Mem.le_refl _), hs2, hs4⟩
   ·refine DW.ts rfl rfl rfl rfl (T.storeBA (k := 1) Try.sizeOf33 rfl rfl rfl (one_cons rfl (one_cons rfl one_nil)) rfl rfl) ?_
    refine DW.xp rfl rfl rfl (fun _ => (X.loadBA (k := 0) Try.isAgg33 Try.sizeOf33 rfl rfl rfl)) (by decide) ?_
    refine DW.ts rfl rfl rfl rfl (T.storeBA (k := 0) Try.sizeOf33 rfl rfl rfl (one_cons rfl (one_cons rfl one_nil)) rfl rfl) ?_
    refine DW.x rfl rfl (X.assign rfl) (by decide) ?_
    refine DW.nil ?_
    refine WK.nThen ?_
    exact WK.meet m11 rfl (.refl _) (.cons rfl (.cons rfl (.cons rfl .nil))) ⟨(Mem.le_refl _), hs2, hs4⟩
  ·rintro m16 ⟨hle17, hs18, hs19⟩
   show WK _ _ m16 [blk b10 33 [.int .i64 (0), .int .i64 (0)], blk b9 33 [.int .i64 (0), .int .i64 (0)], blk b8 33 [.int .i64 (times.Lo), .int .i64 (times.Hi)], blk b7 25 [v1, v3]] [(4, .pointer (some ⟨b9, 0, none⟩)), (5, .pointer (some ⟨b10, 0, none⟩)), (6, .int .i64 (chkE s))] _
   replace hs2 := hs2.mono hle17
   replace hs4 := hs4.mono hle17
   replace hs14 := hs14.mono hle17
   have hl20 := hs18.le
   have hl21 := hs19.le
   refine WC.ret ?_
   refine WK.rThen ?_
   refine WK.retC3 1 0 rfl rfl rfl rfl rfl rfl Try.isAgg33 Try.sizeOf33 Try.isAgg33 Try.sizeOf33 (fun w' hw' => Ret.exact hw' ?_)
   first | exact tup3 (agg2i (by rw [extR_err (by omega)]) (by rw [extR_err (by omega)])) (agg2i (by rw [extR_err (by omega)]) (by rw [extR_err (by omega)])) (int_eq (by rw [extR_err (by omega)])) | exact tup3 (agg2i (by rw [extR_arg (by omega) (by assumption)]) (by rw [extR_arg (by omega) (by assumption)])) (agg2i (by rw [extR_arg (by omega) (by assumption)]) (by rw [extR_arg (by omega) (by assumption)])) (int_eq (by rw [extR_arg (by omega) (by assumption)])) | exact tup3 (agg2i (by rw [extR_ok (by omega) (by assumption) (by assumption)]) (by rw [extR_ok (by omega) (by assumption) (by assumption)])) (agg2i (by rw [extR_ok (by omega) (by assumption) (by assumption)]) (by rw [extR_ok (by omega) (by assumption) (by assumption)])) (int_eq (by rw [extR_ok (by omega) (by assumption) (by assumption)])) | exact tup3 (agg2i (by rw [extR_none (by omega) (by assumption) (by assumption)]) (by rw [extR_none (by omega) (by assumption) (by assumption)])) (agg2i (by rw [extR_none (by omega) (by assumption) (by assumption)]) (by rw [extR_none (by omega) (by assumption) (by assumption)])) (int_eq (by rw [extR_none (by omega) (by assumption) (by assumption)]))
 ·refine WL.nil ?_
  refine WK.nThen ?_
  refine WC.condF rfl ?_
  refine WC.skip ?_
  refine WK.nThen ?_
  refine WC.seq ?_
  refine WC.seq ?_
  refine WC.region ?_
  refine WL.x (X.loadBA (k := 2) Try.isAgg33 Try.sizeOf33 rfl rfl rfl) (by decide) ?_
  refine WL.cond (X.call Try.call106 rfl (times106 _ _ times rfl )) (by decide) (fun h22 => ?_) (fun h22 => ?_)
  ·refine WL.x (X.not rfl) (by decide) ?_
   refine WL.nil ?_
   refine WK.nThen ?_
   refine WC.condF rfl ?_
   refine WC.skip ?_
   refine WK.nThen ?_
   refine WC.seq ?_
   have hok := Ok.of (s := s) (by omega)
   have hnV := hok.nV
   refine WC.region ?_
   refine WL.x (X.loadBA (k := 3) Try.isAgg25 Try.sizeOf25 rfl rfl rfl) (by decide) ?_
   refine WL.x (V := Value.agg [v1, v3].toArray) (X.build Try.zeroValue111 Try.runUnderlying111 (places111 _ Try.underlying111) rfl rfl) (by decide) ?_
   refine WL.tn (T.alloc Try.zeroValue111 rfl) (by decide) fun b23 => ?_
   refine WL.ts (T.storeBA (k := 0) Try.sizeOf111 rfl rfl rfl (one_cons hs2.one (one_cons hs4.one one_nil)) rfl rfl) ?_
   refine WL.nil ?_
   refine WK.nThen ?_
   refine WC.seq ?_
   refine WC.region ?_
   refine WL.x (X.loadBA (k := 0) Try.isAgg111 Try.sizeOf111 rfl rfl rfl) (by decide) ?_
   refine WL.tm (T.call Try.call107 rfl (evens107 _ _ s ⟨_, _, rfl, hs2, hs4⟩ (by assumption))) (by decide) fun m24 r25 hle26 hR27 => ?_
   obtain ⟨v28, hv_, hs29⟩ := hR27
   rw [← hv_] at hs29
   clear hv_ v28
   replace hs2 := hs2.mono hle26
   replace hs4 := hs4.mono hle26
   replace hs14 := hs14.mono hle26
   have hl30 := hs29.le
   refine WL.tn (T.alloc Try.zeroValue74 rfl) (by decide) fun b31 => ?_
   refine WL.ts (T.storeB (k := 0) Try.sizeOf74 rfl rfl rfl hs29.one (Nat.le_of_ble_eq_true rfl)) ?_
   refine WL.nil ?_
   refine WK.nThen ?_
   refine WC.seq ?_
   have hel : (evsL s).length = s.Values.length := map_len _ _
   refine WC.region ?_
   refine WL.tn (T.alloc Try.zeroValue4 rfl) (by decide) fun b32 => ?_
   refine WL.ts (T.storeB (k := 0) Try.sizeOf4 rfl rfl rfl rfl (Nat.le_of_ble_eq_true rfl)) ?_
   refine WL.nil ?_
   refine WK.nThen ?_
   refine WC.seq ?_
   refine WC.seq ?_
   refine WC.region ?_
   refine WL.x (X.loadBA (k := 2) Try.isAgg111 Try.sizeOf111 rfl rfl rfl) (by decide) ?_
   refine WL.x (X.loadBA (k := 5) Try.isAgg33 Try.sizeOf33 rfl rfl rfl) (by decide) ?_
   refine WL.tm (T.call Try.call108 rfl (chosen108 _ (r := s) ⟨_, _, rfl, hs2, hs4⟩ (x := times) rfl)) (by decide) (fun m33 _ hle34 hR_ => ?_)
   obtain ⟨lb35, rfl, hit36⟩ := hR_
   replace hs2 := hs2.mono hle34
   replace hs4 := hs4.mono hle34
   replace hs14 := hs14.mono hle34
   replace hs29 := hs29.mono hle34
   refine WL.nil ?_
   refine WK.nThen ?_
   refine WC.block ?_
   refine WC.rangeFunc (S := Span × Span × Bool) (G := Unit) (ps := [32]) (n := wtC s times) (A := fun i _ args => ∃ k : Nat, k < s.Values.length ∧ inT times (gt s.Values k).Time ∧ wtN s times k = i ∧ args = #[.int .i64 ↑k]) rfl Try.call147 hit36 (fun q : Span × Span × Bool => [blk b32 4 [.bool (q.2.2)], blk b31 74 [r25], blk b23 111 [v1, v3], blk b10 33 [.int .i64 (q.2.1.Lo), .int .i64 (q.2.1.Hi)], blk b9 33 [.int .i64 (q.1.Lo), .int .i64 (q.1.Hi)], blk b8 33 [.int .i64 (times.Lo), .int .i64 (times.Hi)], blk b7 25 [v1, v3]]) (fun i _ q => ∃ k, k ≤ s.Values.length ∧ wtN s times k = i ∧ q = extN s times k) (fun _ _ _ _ => False) ((⟨0, 0⟩, ⟨0, 0⟩, false) : Span × Span × Bool) rfl ⟨0, Nat.zero_le _, rfl, rfl⟩ (fun h => by cases h) (fun _ _ _ _ _ h => h) (by simp) (fun i m1 args h => by obtain ⟨k, _, _, _, rfl⟩ := h; rfl) (fun _ gh => (fun q : Span × Span × Bool => [blk b32 4 [.bool (q.2.2)], blk b31 74 [r25], blk b23 111 [v1, v3], blk b10 33 [.int .i64 (q.2.1.Lo), .int .i64 (q.2.1.Hi)], blk b9 33 [.int .i64 (q.1.Lo), .int .i64 (q.1.Hi)], blk b8 33 [.int .i64 (times.Lo), .int .i64 (times.Hi)], blk b7 25 [v1, v3]]) gh) (fun _ args => (11, args.headD undef) :: [(0, .agg [v1, v3].toArray), (1, .agg [.int .i64 (times.Lo), .int .i64 (times.Hi)].toArray), (2, .pointer (some ⟨b7, 0, none⟩)), (3, .pointer (some ⟨b8, 0, none⟩)), (4, .pointer (some ⟨b9, 0, none⟩)), (5, .pointer (some ⟨b10, 0, none⟩)), (6, .int .i64 (0)), (12, .agg [v1, v3].toArray), (13, v12), (14, .int .i64 (chkE s)), (7, .int .i64 (chkE s)), (15, .int .i64 (chkE s)), (16, .bool false), (20, .agg [.int .i64 (times.Lo), .int .i64 (times.Hi)].toArray), (21, .bool true), (22, .bool false), (25, .agg [v1, v3].toArray), (26, .agg [v1, v3].toArray), (8, .pointer (some ⟨b23, 0, none⟩)), (27, .agg [v1, v3].toArray), (28, r25), (9, .pointer (some ⟨b31, 0, none⟩)), (10, .pointer (some ⟨b32, 0, none⟩)), (29, .agg [v1, v3].toArray), (30, .agg [.int .i64 (times.Lo), .int .i64 (times.Hi)].toArray), (31, .func (.func 147) #[] lb35.toArray)]) ?_ ?_ ?_ ?_ ?_
   ·intro lo B1 m1 gh args KK hlen hKK
    obtain ⟨x, rfl⟩ := len1 hlen
    refine WC.region ?_
    refine WL.x (X.assign rfl) (by decide) ?_
    refine WL.nil ?_
    refine WK.nThen ?_
    exact WK.keep (.cons rfl (.cons rfl (.cons rfl (.cons rfl (.cons rfl (.cons rfl (.cons rfl (.cons rfl (.cons rfl (.cons rfl (.cons rfl (.cons rfl (.cons rfl (.cons rfl (.cons rfl (.cons rfl (.cons rfl (.cons rfl (.cons rfl (.cons rfl (.cons rfl (.cons rfl (.cons rfl (.cons rfl (.cons rfl (.cons rfl (.cons rfl .nil))))))))))))))))))))))))))) (hKK ())
   ·intro lo B1 i m1 gh args _ hlen hi hm1 hA1 hI1
    obtain ⟨x, rfl⟩ := len1 hlen
    obtain ⟨k, hk, hin, hw, hx⟩ := hA1
    obtain rfl : x = .int .i64 ↑k := (by simpa using hx)
    obtain ⟨k', hk', hw', hq⟩ := hI1
    rw [ext_eq (hw'.trans hw.symm)] at hq
    subst hq
    replace hs2 := hs2.mono hm1
    replace hs4 := hs4.mono hm1
    replace hs14 := hs14.mono hm1
    replace hs29 := hs29.mono hm1
    show WK _ _ m1 [blk b32 4 [.bool ((extN s times k).2.2)], blk b31 74 [r25], blk b23 111 [v1, v3], blk b10 33 [.int .i64 ((extN s times k).2.1.Lo), .int .i64 ((extN s times k).2.1.Hi)], blk b9 33 [.int .i64 ((extN s times k).1.Lo), .int .i64 ((extN s times k).1.Hi)], blk b8 33 [.int .i64 (times.Lo), .int .i64 (times.Hi)], blk b7 25 [v1, v3]] ((11, .int .i64 ↑k) :: [(0, .agg [v1, v3].toArray), (1, .agg [.int .i64 (times.Lo), .int .i64 (times.Hi)].toArray), (2, .pointer (some ⟨b7, 0, none⟩)), (3, .pointer (some ⟨b8, 0, none⟩)), (4, .pointer (some ⟨b9, 0, none⟩)), (5, .pointer (some ⟨b10, 0, none⟩)), (6, .int .i64 (0)), (12, .agg [v1, v3].toArray), (13, v12), (14, .int .i64 (chkE s)), (7, .int .i64 (chkE s)), (15, .int .i64 (chkE s)), (16, .bool false), (20, .agg [.int .i64 (times.Lo), .int .i64 (times.Hi)].toArray), (21, .bool true), (22, .bool false), (25, .agg [v1, v3].toArray), (26, .agg [v1, v3].toArray), (8, .pointer (some ⟨b23, 0, none⟩)), (27, .agg [v1, v3].toArray), (28, r25), (9, .pointer (some ⟨b31, 0, none⟩)), (10, .pointer (some ⟨b32, 0, none⟩)), (29, .agg [v1, v3].toArray), (30, .agg [.int .i64 (times.Lo), .int .i64 (times.Hi)].toArray), (31, .func (.func 147) #[] lb35.toArray)]) _
    refine WC.block ?_
    refine WC.seq ?_
    refine WC.seq ?_
    refine WC.region ?_
    refine WL.condb (X.loadB (k := 0) Try.isAgg4 rfl rfl rfl) (by decide) (fun h37 => ?_) (fun h37 => ?_)
    ·refine WL.x (X.not rfl) (by decide) ?_
     refine WL.nil ?_
     refine WK.nThen ?_
     refine WC.condF rfl ?_
     refine WC.skip ?_
     refine WK.nThen ?_
     refine WC.seq ?_
     refine WC.region ?_
     refine WL.ts (T.storeB (k := 0) Try.sizeOf4 rfl rfl rfl rfl (Nat.le_of_ble_eq_true rfl)) ?_
     refine WL.nil ?_
     refine WK.nThen ?_
     refine WC.seq ?_
     refine WC.draw (π := (.cons 0 (.cons 1 (.cons 2 (.cons 3 (.cons 4 (.cons 5 (.cons 6 (.cons 7 (.cons 8 (.cons 9 (.cons 10 (.cons 11 (.cons 12 (.cons 13 (.cons 14 (.cons 15 (.cons 16 (.cons 17 .done))))))))))))))))))) [17] [17] rfl (by kernel_rfl) ?_
     refine DW.x rfl rfl (X.field Try.runUnderlying33 rfl Try.sizeOf3 rfl) (by decide) ?_
     refine DW.x rfl rfl (X.loadB (k := 4) Try.isAgg3 rfl rfl rfl) (by decide) ?_
     refine DW.x rfl rfl (X.loadB (k := 1) Try.isAgg74 rfl rfl rfl) (by decide) ?_
     refine DW.x rfl rfl (X.move rfl) (by decide) ?_
     refine DW.xe rfl rfl (E.idxN k Try.runUnderlying74 Try.sizeOf33 rfl rfl hs29 (by omega)) (by decide) (fun p38 hp39 => ?_)
     have hp40 := At.Span_0 hp39
     refine DW.x rfl rfl (X.field Try.runUnderlying33 rfl Try.sizeOf3 rfl) (by decide) ?_
     refine DW.x rfl rfl (X.loadInt Try.isAgg3 rfl hp40) (by decide) ?_
     refine DW.x rfl rfl (X.mn rfl rfl) (by decide) ?_
     refine DW.x rfl rfl (X.field Try.runUnderlying33 rfl Try.sizeOf3 rfl) (by decide) ?_
     refine DW.x rfl rfl (X.loadB (k := 4) Try.isAgg3 rfl rfl rfl) (by decide) ?_
     refine DW.x rfl rfl (X.loadB (k := 1) Try.isAgg74 rfl rfl rfl) (by decide) ?_
     refine DW.x rfl rfl (X.move rfl) (by decide) ?_
     refine DW.xe rfl rfl (E.idxN k Try.runUnderlying74 Try.sizeOf33 rfl rfl hs29 (by omega)) (by decide) (fun p41 hp42 => ?_)
     have hp43 := At.Span_1 hp42
     refine DW.x rfl rfl (X.field Try.runUnderlying33 rfl Try.sizeOf3 rfl) (by decide) ?_
     refine DW.x rfl rfl (X.loadInt Try.isAgg3 rfl hp43) (by decide) ?_
     refine DW.x rfl rfl (X.mn rfl rfl) (by decide) ?_
     refine DW.x (V := Value.agg [.int .i64 (min ((extN s times k).1.Lo) ((gt (evsL s) k).Lo)), .int .i64 (min ((extN s times k).1.Hi) ((gt (evsL s) k).Hi))].toArray) rfl rfl (X.build Try.zeroValue33 Try.runUnderlying33 (places33 _ Try.underlying33) rfl rfl) (by decide) ?_
     refine DW.ts rfl rfl rfl rfl (T.storeBA (k := 4) Try.sizeOf33 rfl rfl rfl (one_cons rfl (one_cons rfl one_nil)) rfl rfl) ?_
     refine DW.nil ?_
     refine WK.nThen ?_
     refine WC.draw (π := (.cons 0 (.cons 1 (.cons 2 (.cons 3 (.cons 4 (.cons 5 (.cons 6 (.cons 7 (.cons 8 (.cons 9 (.cons 10 (.cons 11 (.cons 12 (.cons 13 (.cons 14 (.cons 15 (.cons 16 (.cons 17 .done))))))))))))))))))) [17] [17] rfl (by kernel_rfl) ?_
     refine DW.x rfl rfl (X.field Try.runUnderlying33 rfl Try.sizeOf3 rfl) (by decide) ?_
     refine DW.x rfl rfl (X.loadB (k := 3) Try.isAgg3 rfl rfl rfl) (by decide) ?_
     refine DW.x rfl rfl (X.loadB (k := 1) Try.isAgg74 rfl rfl rfl) (by decide) ?_
     refine DW.x rfl rfl (X.move rfl) (by decide) ?_
     refine DW.xe rfl rfl (E.idxN k Try.runUnderlying74 Try.sizeOf33 rfl rfl hs29 (by omega)) (by decide) (fun p44 hp45 => ?_)
     have hp46 := At.Span_0 hp45
     refine DW.x rfl rfl (X.field Try.runUnderlying33 rfl Try.sizeOf3 rfl) (by decide) ?_
     refine DW.x rfl rfl (X.loadInt Try.isAgg3 rfl hp46) (by decide) ?_
     refine DW.x rfl rfl (X.mx rfl rfl) (by decide) ?_
     refine DW.x rfl rfl (X.field Try.runUnderlying33 rfl Try.sizeOf3 rfl) (by decide) ?_
     refine DW.x rfl rfl (X.loadB (k := 3) Try.isAgg3 rfl rfl rfl) (by decide) ?_
     refine DW.x rfl rfl (X.loadB (k := 1) Try.isAgg74 rfl rfl rfl) (by decide) ?_
     refine DW.x rfl rfl (X.move rfl) (by decide) ?_
     refine DW.xe rfl rfl (E.idxN k Try.runUnderlying74 Try.sizeOf33 rfl rfl hs29 (by omega)) (by decide) (fun p47 hp48 => ?_)
     have hp49 := At.Span_1 hp48
     refine DW.x rfl rfl (X.field Try.runUnderlying33 rfl Try.sizeOf3 rfl) (by decide) ?_
     refine DW.x rfl rfl (X.loadInt Try.isAgg3 rfl hp49) (by decide) ?_
     refine DW.x rfl rfl (X.mx rfl rfl) (by decide) ?_
     refine DW.x (V := Value.agg [.int .i64 (max ((extN s times k).2.1.Lo) ((gt (evsL s) k).Lo)), .int .i64 (max ((extN s times k).2.1.Hi) ((gt (evsL s) k).Hi))].toArray) rfl rfl (X.build Try.zeroValue33 Try.runUnderlying33 (places33 _ Try.underlying33) rfl rfl) (by decide) ?_
     refine DW.ts rfl rfl rfl rfl (T.storeBA (k := 3) Try.sizeOf33 rfl rfl rfl (one_cons rfl (one_cons rfl one_nil)) rfl rfl) ?_
     refine DW.nil ?_
     refine WK.nBlock ?_
     first | have hx_ := ext_one' hk hin (by assumption) | have hx_ := ext_more' hk hin (by assumption)
     refine WK.goOn (extN s times (k + 1)) (Mem.le_refl _) ?_ ⟨k + 1, by omega, by rw [wtN_yes hin, hw], rfl⟩
     rw [hx_]
     exact (.refl _)
    ·refine WL.x (X.not rfl) (by decide) ?_
     refine WL.nil ?_
     refine WK.nThen ?_
     refine WC.condT rfl ?_
     refine WC.draw (π := (.cons 0 (.cons 1 (.cons 2 (.cons 3 (.cons 5 (.fork (.cons 4 (.cons 6 (.cons 7 (.cons 8 (.cons 9 .done))))) (.cons 8 (.cons 4 (.cons 6 (.cons 7 (.cons 9 .done)))))))))))) [4, 8, 9] [8, 9, 100006, 100007] rfl (by kernel_rfl) ?_
     refine DW.x rfl rfl (X.loadB (k := 1) Try.isAgg74 rfl rfl rfl) (by decide) ?_
     refine DW.x rfl rfl (X.move rfl) (by decide) ?_
     refine DW.xe rfl rfl (E.idxN k Try.runUnderlying74 Try.sizeOf33 rfl rfl hs29 (by omega)) (by decide) (fun p50 hp51 => ?_)
     refine DW.xe rfl rfl (E.loadAgg Try.isAgg33 Try.sizeOf33 rfl hp51) (by decide) (fun c52 hc53 => ?_)
     obtain rfl := hc53
     refine DW.x rfl rfl (X.move rfl) (by decide) ?_
     refine DW.fork (List.cons_ne_nil _ _) ?_ ?_
     ·refine DW.xp rfl rfl rfl (fun _ => (X.loadB (k := 1) Try.isAgg74 rfl rfl rfl)) (by decide) ?_
      refine DW.xfe rfl rfl rfl (EF.idxN k Try.runUnderlying74 Try.sizeOf33 rfl rfl hs29 (by omega)) (by decide) (fun p54 hp55 => ?_)
      refine DW.xfe rfl rfl rfl (EF.loadAgg Try.isAgg33 Try.sizeOf33 rfl hp55) (by decide) (fun c56 hc57 => ?_)
      obtain rfl := hc57
      refine DW.ts rfl rfl rfl rfl (T.storeBA (k := 4) Try.sizeOf33 rfl rfl rfl (one_cons rfl (one_cons rfl one_nil)) rfl rfl) ?_
      refine DW.ts rfl rfl rfl rfl (T.storeBA (k := 3) Try.sizeOf33 rfl rfl rfl (one_cons rfl (one_cons rfl one_nil)) rfl rfl) ?_
      refine DW.nil ?_
      refine WK.nThen ?_
      refine WC.seq ?_
      refine WC.region ?_
      refine WL.ts (T.storeB (k := 0) Try.sizeOf4 rfl rfl rfl rfl (Nat.le_of_ble_eq_true rfl)) ?_
      refine WL.nil ?_
      refine WK.nThen ?_
      refine WC.seq ?_
      refine WC.draw (π := (.cons 0 (.cons 1 (.cons 2 (.cons 3 (.cons 4 (.cons 5 (.cons 6 (.cons 7 (.cons 8 (.cons 9 (.cons 10 (.cons 11 (.cons 12 (.cons 13 (.cons 14 (.cons 15 (.cons 16 (.cons 17 .done))))))))))))))))))) [17] [17] rfl (by kernel_rfl) ?_
      refine DW.x rfl rfl (X.field Try.runUnderlying33 rfl Try.sizeOf3 rfl) (by decide) ?_
      refine DW.x rfl rfl (X.loadB (k := 4) Try.isAgg3 rfl rfl rfl) (by decide) ?_
      refine DW.x rfl rfl (X.loadB (k := 1) Try.isAgg74 rfl rfl rfl) (by decide) ?_
      refine DW.x rfl rfl (X.move rfl) (by decide) ?_
      refine DW.xe rfl rfl (E.idxN k Try.runUnderlying74 Try.sizeOf33 rfl rfl hs29 (by omega)) (by decide) (fun p58 hp59 => ?_)
      have hp60 := At.Span_0 hp59
      refine DW.x rfl rfl (X.field Try.runUnderlying33 rfl Try.sizeOf3 rfl) (by decide) ?_
      refine DW.x rfl rfl (X.loadInt Try.isAgg3 rfl hp60) (by decide) ?_
      refine DW.x rfl rfl (X.mn rfl rfl) (by decide) ?_
      refine DW.x rfl rfl (X.field Try.runUnderlying33 rfl Try.sizeOf3 rfl) (by decide) ?_
      refine DW.x rfl rfl (X.loadB (k := 4) Try.isAgg3 rfl rfl rfl) (by decide) ?_
      refine DW.x rfl rfl (X.loadB (k := 1) Try.isAgg74 rfl rfl rfl) (by decide) ?_
      refine DW.x rfl rfl (X.move rfl) (by decide) ?_
      refine DW.xe rfl rfl (E.idxN k Try.runUnderlying74 Try.sizeOf33 rfl rfl hs29 (by omega)) (by decide) (fun p61 hp62 => ?_)
      have hp63 := At.Span_1 hp62
      refine DW.x rfl rfl (X.field Try.runUnderlying33 rfl Try.sizeOf3 rfl) (by decide) ?_
      refine DW.x rfl rfl (X.loadInt Try.isAgg3 rfl hp63) (by decide) ?_
      refine DW.x rfl rfl (X.mn rfl rfl) (by decide) ?_
      refine DW.x (V := Value.agg [.int .i64 (min ((gt (evsL s) k).Lo) ((gt (evsL s) k).Lo)), .int .i64 (min ((gt (evsL s) k).Hi) ((gt (evsL s) k).Hi))].toArray) rfl rfl (X.build Try.zeroValue33 Try.runUnderlying33 (places33 _ Try.underlying33) rfl rfl) (by decide) ?_
      refine DW.ts rfl rfl rfl rfl (T.storeBA (k := 4) Try.sizeOf33 rfl rfl rfl (one_cons rfl (one_cons rfl one_nil)) rfl rfl) ?_
      refine DW.nil ?_
      refine WK.nThen ?_
      refine WC.draw (π := (.cons 0 (.cons 1 (.cons 2 (.cons 3 (.cons 4 (.cons 5 (.cons 6 (.cons 7 (.cons 8 (.cons 9 (.cons 10 (.cons 11 (.cons 12 (.cons 13 (.cons 14 (.cons 15 (.cons 16 (.cons 17 .done))))))))))))))))))) [17] [17] rfl (by kernel_rfl) ?_
      refine DW.x rfl rfl (X.field Try.runUnderlying33 rfl Try.sizeOf3 rfl) (by decide) ?_
      refine DW.x rfl rfl (X.loadB (k := 3) Try.isAgg3 rfl rfl rfl) (by decide) ?_
      refine DW.x rfl rfl (X.loadB (k := 1) Try.isAgg74 rfl rfl rfl) (by decide) ?_
      refine DW.x rfl rfl (X.move rfl) (by decide) ?_
      refine DW.xe rfl rfl (E.idxN k Try.runUnderlying74 Try.sizeOf33 rfl rfl hs29 (by omega)) (by decide) (fun p64 hp65 => ?_)
      have hp66 := At.Span_0 hp65
      refine DW.x rfl rfl (X.field Try.runUnderlying33 rfl Try.sizeOf3 rfl) (by decide) ?_
      refine DW.x rfl rfl (X.loadInt Try.isAgg3 rfl hp66) (by decide) ?_
      refine DW.x rfl rfl (X.mx rfl rfl) (by decide) ?_
      refine DW.x rfl rfl (X.field Try.runUnderlying33 rfl Try.sizeOf3 rfl) (by decide) ?_
      refine DW.x rfl rfl (X.loadB (k := 3) Try.isAgg3 rfl rfl rfl) (by decide) ?_
      refine DW.x rfl rfl (X.loadB (k := 1) Try.isAgg74 rfl rfl rfl) (by decide) ?_
      refine DW.x rfl rfl (X.move rfl) (by decide) ?_
      refine DW.xe rfl rfl (E.idxN k Try.runUnderlying74 Try.sizeOf33 rfl rfl hs29 (by omega)) (by decide) (fun p67 hp68 => ?_)
      have hp69 := At.Span_1 hp68
      refine DW.x rfl rfl (X.field Try.runUnderlying33 rfl Try.sizeOf3 rfl) (by decide) ?_
      refine DW.x rfl rfl (X.loadInt Try.isAgg3 rfl hp69) (by decide) ?_
      refine DW.x rfl rfl (X.mx rfl rfl) (by decide) ?_
      refine DW.x (V := Value.agg [.int .i64 (max ((gt (evsL s) k).Lo) ((gt (evsL s) k).Lo)), .int .i64 (max ((gt (evsL s) k).Hi) ((gt (evsL s) k).Hi))].toArray) rfl rfl (X.build Try.zeroValue33 Try.runUnderlying33 (places33 _ Try.underlying33) rfl rfl) (by decide) ?_
      refine DW.ts rfl rfl rfl rfl (T.storeBA (k := 3) Try.sizeOf33 rfl rfl rfl (one_cons rfl (one_cons rfl one_nil)) rfl rfl) ?_
      refine DW.nil ?_
      refine WK.nBlock ?_
      first | have hx_ := ext_one' hk hin (by assumption) | have hx_ := ext_more' hk hin (by assumption)
      refine WK.goOn (extN s times (k + 1)) (Mem.le_refl _) ?_ ⟨k + 1, by omega, by rw [wtN_yes hin, hw], rfl⟩
      rw [hx_]
      exact (.refl _)
     ·refine DW.ts rfl rfl rfl rfl (T.storeBA (k := 4) Try.sizeOf33 rfl rfl rfl (one_cons rfl (one_cons rfl one_nil)) rfl rfl) ?_
      refine DW.xp rfl rfl rfl (fun _ => (X.loadB (k := 1) Try.isAgg74 rfl rfl rfl)) (by decide) ?_
      refine DW.xfe rfl rfl rfl (EF.idxN k Try.runUnderlying74 Try.sizeOf33 rfl rfl hs29 (by omega)) (by decide) (fun p70 hp71 => ?_)
      refine DW.xfe rfl rfl rfl (EF.loadAgg Try.isAgg33 Try.sizeOf33 rfl hp71) (by decide) (fun c72 hc73 => ?_)
      obtain rfl := hc73
      refine DW.ts rfl rfl rfl rfl (T.storeBA (k := 3) Try.sizeOf33 rfl rfl rfl (one_cons rfl (one_cons rfl one_nil)) rfl rfl) ?_
      refine DW.nil ?_
      refine WK.nThen ?_
      refine WC.seq ?_
      refine WC.region ?_
      refine WL.ts (T.storeB (k := 0) Try.sizeOf4 rfl rfl rfl rfl (Nat.le_of_ble_eq_true rfl)) ?_
      refine WL.nil ?_
      refine WK.nThen ?_
      refine WC.seq ?_
      refine WC.draw (π := (.cons 0 (.cons 1 (.cons 2 (.cons 3 (.cons 4 (.cons 5 (.cons 6 (.cons 7 (.cons 8 (.cons 9 (.cons 10 (.cons 11 (.cons 12 (.cons 13 (.cons 14 (.cons 15 (.cons 16 (.cons 17 .done))))))))))))))))))) [17] [17] rfl (by kernel_rfl) ?_
      refine DW.x rfl rfl (X.field Try.runUnderlying33 rfl Try.sizeOf3 rfl) (by decide) ?_
      refine DW.x rfl rfl (X.loadB (k := 4) Try.isAgg3 rfl rfl rfl) (by decide) ?_
      refine DW.x rfl rfl (X.loadB (k := 1) Try.isAgg74 rfl rfl rfl) (by decide) ?_
      refine DW.x rfl rfl (X.move rfl) (by decide) ?_
      refine DW.xe rfl rfl (E.idxN k Try.runUnderlying74 Try.sizeOf33 rfl rfl hs29 (by omega)) (by decide) (fun p74 hp75 => ?_)
      have hp76 := At.Span_0 hp75
      refine DW.x rfl rfl (X.field Try.runUnderlying33 rfl Try.sizeOf3 rfl) (by decide) ?_
      refine DW.x rfl rfl (X.loadInt Try.isAgg3 rfl hp76) (by decide) ?_
      refine DW.x rfl rfl (X.mn rfl rfl) (by decide) ?_
      refine DW.x rfl rfl (X.field Try.runUnderlying33 rfl Try.sizeOf3 rfl) (by decide) ?_
      refine DW.x rfl rfl (X.loadB (k := 4) Try.isAgg3 rfl rfl rfl) (by decide) ?_
      refine DW.x rfl rfl (X.loadB (k := 1) Try.isAgg74 rfl rfl rfl) (by decide) ?_
      refine DW.x rfl rfl (X.move rfl) (by decide) ?_
      refine DW.xe rfl rfl (E.idxN k Try.runUnderlying74 Try.sizeOf33 rfl rfl hs29 (by omega)) (by decide) (fun p77 hp78 => ?_)
      have hp79 := At.Span_1 hp78
      refine DW.x rfl rfl (X.field Try.runUnderlying33 rfl Try.sizeOf3 rfl) (by decide) ?_
      refine DW.x rfl rfl (X.loadInt Try.isAgg3 rfl hp79) (by decide) ?_
      refine DW.x rfl rfl (X.mn rfl rfl) (by decide) ?_
      refine DW.x (V := Value.agg [.int .i64 (min ((gt (evsL s) k).Lo) ((gt (evsL s) k).Lo)), .int .i64 (min ((gt (evsL s) k).Hi) ((gt (evsL s) k).Hi))].toArray) rfl rfl (X.build Try.zeroValue33 Try.runUnderlying33 (places33 _ Try.underlying33) rfl rfl) (by decide) ?_
      refine DW.ts rfl rfl rfl rfl (T.storeBA (k := 4) Try.sizeOf33 rfl rfl rfl (one_cons rfl (one_cons rfl one_nil)) rfl rfl) ?_
      refine DW.nil ?_
      refine WK.nThen ?_
      refine WC.draw (π := (.cons 0 (.cons 1 (.cons 2 (.cons 3 (.cons 4 (.cons 5 (.cons 6 (.cons 7 (.cons 8 (.cons 9 (.cons 10 (.cons 11 (.cons 12 (.cons 13 (.cons 14 (.cons 15 (.cons 16 (.cons 17 .done))))))))))))))))))) [17] [17] rfl (by kernel_rfl) ?_
      refine DW.x rfl rfl (X.field Try.runUnderlying33 rfl Try.sizeOf3 rfl) (by decide) ?_
      refine DW.x rfl rfl (X.loadB (k := 3) Try.isAgg3 rfl rfl rfl) (by decide) ?_
      refine DW.x rfl rfl (X.loadB (k := 1) Try.isAgg74 rfl rfl rfl) (by decide) ?_
      refine DW.x rfl rfl (X.move rfl) (by decide) ?_
      refine DW.xe rfl rfl (E.idxN k Try.runUnderlying74 Try.sizeOf33 rfl rfl hs29 (by omega)) (by decide) (fun p80 hp81 => ?_)
      have hp82 := At.Span_0 hp81
      refine DW.x rfl rfl (X.field Try.runUnderlying33 rfl Try.sizeOf3 rfl) (by decide) ?_
      refine DW.x rfl rfl (X.loadInt Try.isAgg3 rfl hp82) (by decide) ?_
      refine DW.x rfl rfl (X.mx rfl rfl) (by decide) ?_
      refine DW.x rfl rfl (X.field Try.runUnderlying33 rfl Try.sizeOf3 rfl) (by decide) ?_
      refine DW.x rfl rfl (X.loadB (k := 3) Try.isAgg3 rfl rfl rfl) (by decide) ?_
      refine DW.x rfl rfl (X.loadB (k := 1) Try.isAgg74 rfl rfl rfl) (by decide) ?_
      refine DW.x rfl rfl (X.move rfl) (by decide) ?_
      refine DW.xe rfl rfl (E.idxN k Try.runUnderlying74 Try.sizeOf33 rfl rfl hs29 (by omega)) (by decide) (fun p83 hp84 => ?_)
      have hp85 := At.Span_1 hp84
      refine DW.x rfl rfl (X.field Try.runUnderlying33 rfl Try.sizeOf3 rfl) (by decide) ?_
      refine DW.x rfl rfl (X.loadInt Try.isAgg3 rfl hp85) (by decide) ?_
      refine DW.x rfl rfl (X.mx rfl rfl) (by decide) ?_
      refine DW.x (V := Value.agg [.int .i64 (max ((gt (evsL s) k).Lo) ((gt (evsL s) k).Lo)), .int .i64 (max ((gt (evsL s) k).Hi) ((gt (evsL s) k).Hi))].toArray) rfl rfl (X.build Try.zeroValue33 Try.runUnderlying33 (places33 _ Try.underlying33) rfl rfl) (by decide) ?_
      refine DW.ts rfl rfl rfl rfl (T.storeBA (k := 3) Try.sizeOf33 rfl rfl rfl (one_cons rfl (one_cons rfl one_nil)) rfl rfl) ?_
      refine DW.nil ?_
      refine WK.nBlock ?_
      first | have hx_ := ext_one' hk hin (by assumption) | have hx_ := ext_more' hk hin (by assumption)
      refine WK.goOn (extN s times (k + 1)) (Mem.le_refl _) ?_ ⟨k + 1, by omega, by rw [wtN_yes hin, hw], rfl⟩
      rw [hx_]
      exact (.refl _)
   ·intro m1 gh hm1 hI1
    obtain ⟨k', _, hw', hq⟩ := hI1
    rw [ext_eq (b := s.Values.length) hw'] at hq
    subst hq
    replace hs2 := hs2.mono hm1
    replace hs4 := hs4.mono hm1
    replace hs14 := hs14.mono hm1
    replace hs29 := hs29.mono hm1
    refine WK.keep (σ' := [(0, .agg [v1, v3].toArray), (1, .agg [.int .i64 (times.Lo), .int .i64 (times.Hi)].toArray), (2, .pointer (some ⟨b7, 0, none⟩)), (3, .pointer (some ⟨b8, 0, none⟩)), (4, .pointer (some ⟨b9, 0, none⟩)), (5, .pointer (some ⟨b10, 0, none⟩)), (6, .int .i64 (0)), (12, .agg [v1, v3].toArray), (13, v12), (14, .int .i64 (chkE s)), (7, .int .i64 (chkE s)), (15, .int .i64 (chkE s)), (16, .bool false), (20, .agg [.int .i64 (times.Lo), .int .i64 (times.Hi)].toArray), (21, .bool true), (22, .bool false), (25, .agg [v1, v3].toArray), (26, .agg [v1, v3].toArray), (8, .pointer (some ⟨b23, 0, none⟩)), (27, .agg [v1, v3].toArray), (28, r25), (9, .pointer (some ⟨b31, 0, none⟩)), (10, .pointer (some ⟨b32, 0, none⟩)), (29, .agg [v1, v3].toArray), (30, .agg [.int .i64 (times.Lo), .int .i64 (times.Hi)].toArray), (31, .func (.func 147) #[] lb35.toArray)]) (.cons rfl (.cons rfl (.cons rfl (.cons rfl (.cons rfl (.cons rfl (.cons rfl (.cons rfl (.cons rfl (.cons rfl (.cons rfl (.cons rfl (.cons rfl (.cons rfl (.cons rfl (.cons rfl (.cons rfl (.cons rfl (.cons rfl (.cons rfl (.cons rfl (.cons rfl (.cons rfl (.cons rfl (.cons rfl (.cons rfl .nil)))))))))))))))))))))))))) ?_
    show WK _ _ m1 [blk b32 4 [.bool ((extN s times s.Values.length).2.2)], blk b31 74 [r25], blk b23 111 [v1, v3], blk b10 33 [.int .i64 ((extN s times s.Values.length).2.1.Lo), .int .i64 ((extN s times s.Values.length).2.1.Hi)], blk b9 33 [.int .i64 ((extN s times s.Values.length).1.Lo), .int .i64 ((extN s times s.Values.length).1.Hi)], blk b8 33 [.int .i64 (times.Lo), .int .i64 (times.Hi)], blk b7 25 [v1, v3]] [(0, .agg [v1, v3].toArray), (1, .agg [.int .i64 (times.Lo), .int .i64 (times.Hi)].toArray), (2, .pointer (some ⟨b7, 0, none⟩)), (3, .pointer (some ⟨b8, 0, none⟩)), (4, .pointer (some ⟨b9, 0, none⟩)), (5, .pointer (some ⟨b10, 0, none⟩)), (6, .int .i64 (0)), (12, .agg [v1, v3].toArray), (13, v12), (14, .int .i64 (chkE s)), (7, .int .i64 (chkE s)), (15, .int .i64 (chkE s)), (16, .bool false), (20, .agg [.int .i64 (times.Lo), .int .i64 (times.Hi)].toArray), (21, .bool true), (22, .bool false), (25, .agg [v1, v3].toArray), (26, .agg [v1, v3].toArray), (8, .pointer (some ⟨b23, 0, none⟩)), (27, .agg [v1, v3].toArray), (28, r25), (9, .pointer (some ⟨b31, 0, none⟩)), (10, .pointer (some ⟨b32, 0, none⟩)), (29, .agg [v1, v3].toArray), (30, .agg [.int .i64 (times.Lo), .int .i64 (times.Hi)].toArray), (31, .func (.func 147) #[] lb35.toArray)] _
    refine WK.nBlock ?_
    refine WK.nThen ?_
    refine WC.seq ?_
    refine WC.seq ?_
    refine WC.region ?_
    refine WL.condb (X.loadB (k := 0) Try.isAgg4 rfl rfl rfl) (by decide) (fun h86 => ?_) (fun h86 => ?_)
    ·refine WL.x (X.not rfl) (by decide) ?_
     refine WL.nil ?_
     refine WK.nThen ?_
     refine WC.condF rfl ?_
     refine WC.skip ?_
     refine WK.nThen ?_
     refine WC.cut (G := Mem) (fun m87 => m87) (fun m87 => [blk b32 4 [.bool ((extN s times s.Values.length).2.2)], blk b31 74 [r25], blk b23 111 [v1, v3], blk b10 33 [.int .i64 ((extN s times s.Values.length).2.1.Lo), .int .i64 ((extN s times s.Values.length).2.1.Hi)], blk b9 33 [.int .i64 ((extN s times s.Values.length).1.Lo), .int .i64 ((extN s times s.Values.length).1.Hi)], blk b8 33 [.int .i64 (times.Lo), .int .i64 (times.Hi)], blk b7 25 [v1, v3]]) (fun m87 => [(4, .pointer (some ⟨b9, 0, none⟩)), (5, .pointer (some ⟨b10, 0, none⟩)), (6, .int .i64 (0))]) (fun m87 => m1.le m87 ∧ Sl (α := Span) m87 r25 (evsL s) ∧ Sl (α := Val) m87 v1 s.Values ∧ Sl (α := Shf) m87 v3 s.Shifts ∧ Sl (α := Val) m87 v1 s.Values ∧ Sl (α := Shf) m87 v3 s.Shifts) ?_ ?_
     ·refine WC.draw (π := (.cons 0 (.fork (.cons 1 (.cons 2 (.cons 3 (.cons 4 .done)))) (.cons 2 (.cons 1 (.cons 3 (.cons 4 .done))))))) [1, 2, 3] [2, 3] rfl (by kernel_rfl) ?_
      refine DW.x rfl rfl (X.loadBA (k := 4) Try.isAgg33 Try.sizeOf33 rfl rfl rfl) (by decide) ?_
      refine DW.fork (List.cons_ne_nil _ _) ?_ ?_
      ·refine DW.xp rfl rfl rfl (fun _ => (X.loadBA (k := 3) Try.isAgg33 Try.sizeOf33 rfl rfl rfl)) (by decide) ?_
       refine DW.ts rfl rfl rfl rfl (T.storeBA (k := 4) Try.sizeOf33 rfl rfl rfl (one_cons rfl (one_cons rfl one_nil)) rfl rfl) ?_
       refine DW.ts rfl rfl rfl rfl (T.storeBA (k := 3) Try.sizeOf33 rfl rfl rfl (one_cons rfl (one_cons rfl one_nil)) rfl rfl) ?_
       refine DW.x rfl rfl (X.assign rfl) (by decide) ?_
       refine DW.nil ?_
       refine WK.nThen ?_
       exact WK.meet m1 rfl (.refl _) (.cons rfl (.cons rfl (.cons rfl .nil))) ⟨(Mem.le_refl _), hs29, hs2, hs4, hs2, hs4⟩
      ·refine DW.ts rfl rfl rfl rfl (T.storeBA (k := 4) Try.sizeOf33 rfl rfl rfl (one_cons rfl (one_cons rfl one_nil)) rfl rfl) ?_
       refine DW.xp rfl rfl rfl (fun _ => (X.loadBA (k := 3) Try.isAgg33 Try.sizeOf33 rfl rfl rfl)) (by decide) ?_
       refine DW.ts rfl rfl rfl rfl (T.storeBA (k := 3) Try.sizeOf33 rfl rfl rfl (one_cons rfl (one_cons rfl one_nil)) rfl rfl) ?_
       refine DW.x rfl rfl (X.assign rfl) (by decide) ?_
       refine DW.nil ?_
       refine WK.nThen ?_
       exact WK.meet m1 rfl (.refl _) (.cons rfl (.cons rfl (.cons rfl .nil))) ⟨(Mem.le_refl _), hs29, hs2, hs4, hs2, hs4⟩
     ·rintro m87 ⟨hle88, hs89, hs90, hs91, hs92, hs93⟩
      show WK _ _ m87 [blk b32 4 [.bool ((extN s times s.Values.length).2.2)], blk b31 74 [r25], blk b23 111 [v1, v3], blk b10 33 [.int .i64 ((extN s times s.Values.length).2.1.Lo), .int .i64 ((extN s times s.Values.length).2.1.Hi)], blk b9 33 [.int .i64 ((extN s times s.Values.length).1.Lo), .int .i64 ((extN s times s.Values.length).1.Hi)], blk b8 33 [.int .i64 (times.Lo), .int .i64 (times.Hi)], blk b7 25 [v1, v3]] [(4, .pointer (some ⟨b9, 0, none⟩)), (5, .pointer (some ⟨b10, 0, none⟩)), (6, .int .i64 (0))] _
      replace hs2 := hs2.mono hle88
      replace hs4 := hs4.mono hle88
      replace hs14 := hs14.mono hle88
      replace hs29 := hs29.mono hle88
      have hl94 := hs89.le
      have hl95 := hs90.le
      have hl96 := hs91.le
      have hl97 := hs92.le
      have hl98 := hs93.le
      refine WC.ret ?_
      refine WK.retC3 4 3 rfl rfl rfl rfl rfl rfl Try.isAgg33 Try.sizeOf33 Try.isAgg33 Try.sizeOf33 (fun w' hw' => Ret.exact hw' ?_)
      first | exact tup3 (agg2i (by rw [extR_err (by omega)]) (by rw [extR_err (by omega)])) (agg2i (by rw [extR_err (by omega)]) (by rw [extR_err (by omega)])) (int_eq (by rw [extR_err (by omega)])) | exact tup3 (agg2i (by rw [extR_arg (by omega) (by assumption)]) (by rw [extR_arg (by omega) (by assumption)])) (agg2i (by rw [extR_arg (by omega) (by assumption)]) (by rw [extR_arg (by omega) (by assumption)])) (int_eq (by rw [extR_arg (by omega) (by assumption)])) | exact tup3 (agg2i (by rw [extR_ok (by omega) (by assumption) (by assumption)]) (by rw [extR_ok (by omega) (by assumption) (by assumption)])) (agg2i (by rw [extR_ok (by omega) (by assumption) (by assumption)]) (by rw [extR_ok (by omega) (by assumption) (by assumption)])) (int_eq (by rw [extR_ok (by omega) (by assumption) (by assumption)])) | exact tup3 (agg2i (by rw [extR_none (by omega) (by assumption) (by assumption)]) (by rw [extR_none (by omega) (by assumption) (by assumption)])) (agg2i (by rw [extR_none (by omega) (by assumption) (by assumption)]) (by rw [extR_none (by omega) (by assumption) (by assumption)])) (int_eq (by rw [extR_none (by omega) (by assumption) (by assumption)]))
    ·refine WL.x (X.not rfl) (by decide) ?_
     refine WL.nil ?_
     refine WK.nThen ?_
     refine WC.condT rfl ?_
     refine WC.seq ?_
     refine WC.region ?_
     refine WL.x (V := Value.agg [.int .i64 (0), .int .i64 (0)].toArray) (X.build Try.zeroValue33 Try.runUnderlying33 (places33 _ Try.underlying33) rfl rfl) (by decide) ?_
     refine WL.x (V := Value.agg [.int .i64 (0), .int .i64 (0)].toArray) (X.build Try.zeroValue33 Try.runUnderlying33 (places33 _ Try.underlying33) rfl rfl) (by decide) ?_
     refine WL.ts (T.storeBA (k := 4) Try.sizeOf33 rfl rfl rfl (one_cons rfl (one_cons rfl one_nil)) rfl rfl) ?_
     refine WL.ts (T.storeBA (k := 3) Try.sizeOf33 rfl rfl rfl (one_cons rfl (one_cons rfl one_nil)) rfl rfl) ?_
     refine WL.x (X.assign rfl) (by decide) ?_
     refine WL.nil ?_
     refine WK.nThen ?_
     refine WC.ret ?_
     refine WK.rThen ?_
     refine WK.retC3 4 3 rfl rfl rfl rfl rfl rfl Try.isAgg33 Try.sizeOf33 Try.isAgg33 Try.sizeOf33 (fun w' hw' => Ret.exact hw' ?_)
     first | exact tup3 (agg2i (by rw [extR_err (by omega)]) (by rw [extR_err (by omega)])) (agg2i (by rw [extR_err (by omega)]) (by rw [extR_err (by omega)])) (int_eq (by rw [extR_err (by omega)])) | exact tup3 (agg2i (by rw [extR_arg (by omega) (by assumption)]) (by rw [extR_arg (by omega) (by assumption)])) (agg2i (by rw [extR_arg (by omega) (by assumption)]) (by rw [extR_arg (by omega) (by assumption)])) (int_eq (by rw [extR_arg (by omega) (by assumption)])) | exact tup3 (agg2i (by rw [extR_ok (by omega) (by assumption) (by assumption)]) (by rw [extR_ok (by omega) (by assumption) (by assumption)])) (agg2i (by rw [extR_ok (by omega) (by assumption) (by assumption)]) (by rw [extR_ok (by omega) (by assumption) (by assumption)])) (int_eq (by rw [extR_ok (by omega) (by assumption) (by assumption)])) | exact tup3 (agg2i (by rw [extR_none (by omega) (by assumption) (by assumption)]) (by rw [extR_none (by omega) (by assumption) (by assumption)])) (agg2i (by rw [extR_none (by omega) (by assumption) (by assumption)]) (by rw [extR_none (by omega) (by assumption) (by assumption)])) (int_eq (by rw [extR_none (by omega) (by assumption) (by assumption)]))
   ·intro i m1 gh hm1 hi hI1
    exact hI1.elim
   ·intro id i m1 gh hm1 hi hI1
    exact hI1.elim
  ·refine WL.x (X.not rfl) (by decide) ?_
   refine WL.nil ?_
   refine WK.nThen ?_
   refine WC.condT rfl ?_
   refine WC.cut (G := Mem) (fun m99 => m99) (fun m99 => [blk b10 33 [.int .i64 (0), .int .i64 (0)], blk b9 33 [.int .i64 (0), .int .i64 (0)], blk b8 33 [.int .i64 (times.Lo), .int .i64 (times.Hi)], blk b7 25 [v1, v3]]) (fun m99 => [(4, .pointer (some ⟨b9, 0, none⟩)), (5, .pointer (some ⟨b10, 0, none⟩)), (6, .int .i64 (1))]) (fun m99 => m11.le m99 ∧ Sl (α := Val) m99 v1 s.Values ∧ Sl (α := Shf) m99 v3 s.Shifts) ?_ ?_
   ·refine WC.draw (π := (.cons 0 (.fork (.cons 1 (.cons 2 (.cons 3 (.cons 4 .done)))) (.cons 2 (.cons 1 (.cons 3 (.cons 4 .done))))))) [1, 2, 3] [2, 3] rfl (by kernel_rfl) ?_
    refine DW.x rfl rfl (X.loadBA (k := 1) Try.isAgg33 Try.sizeOf33 rfl rfl rfl) (by decide) ?_
    refine DW.fork (List.cons_ne_nil _ _) ?_ ?_
    ·refine DW.xp rfl rfl rfl (fun _ => (X.loadBA (k := 0) Try.isAgg33 Try.sizeOf33 rfl rfl rfl)) (by decide) ?_
     refine DW.ts rfl rfl rfl rfl (T.storeBA (k := 1) Try.sizeOf33 rfl rfl rfl (one_cons rfl (one_cons rfl one_nil)) rfl rfl) ?_
     refine DW.ts rfl rfl rfl rfl (T.storeBA (k := 0) Try.sizeOf33 rfl rfl rfl (one_cons rfl (one_cons rfl one_nil)) rfl rfl) ?_
     refine DW.x rfl rfl (X.assign rfl) (by decide) ?_
     refine DW.nil ?_
     refine WK.nThen ?_
     exact WK.meet m11 rfl (.refl _) (.cons rfl (.cons rfl (.cons rfl .nil))) ⟨(Mem.le_refl _), hs2, hs4⟩
    ·refine DW.ts rfl rfl rfl rfl (T.storeBA (k := 1) Try.sizeOf33 rfl rfl rfl (one_cons rfl (one_cons rfl one_nil)) rfl rfl) ?_
     refine DW.xp rfl rfl rfl (fun _ => (X.loadBA (k := 0) Try.isAgg33 Try.sizeOf33 rfl rfl rfl)) (by decide) ?_
     refine DW.ts rfl rfl rfl rfl (T.storeBA (k := 0) Try.sizeOf33 rfl rfl rfl (one_cons rfl (one_cons rfl one_nil)) rfl rfl) ?_
     refine DW.x rfl rfl (X.assign rfl) (by decide) ?_
     refine DW.nil ?_
     refine WK.nThen ?_
     exact WK.meet m11 rfl (.refl _) (.cons rfl (.cons rfl (.cons rfl .nil))) ⟨(Mem.le_refl _), hs2, hs4⟩
   ·rintro m99 ⟨hle100, hs101, hs102⟩
    show WK _ _ m99 [blk b10 33 [.int .i64 (0), .int .i64 (0)], blk b9 33 [.int .i64 (0), .int .i64 (0)], blk b8 33 [.int .i64 (times.Lo), .int .i64 (times.Hi)], blk b7 25 [v1, v3]] [(4, .pointer (some ⟨b9, 0, none⟩)), (5, .pointer (some ⟨b10, 0, none⟩)), (6, .int .i64 (1))] _
    replace hs2 := hs2.mono hle100
    replace hs4 := hs4.mono hle100
    replace hs14 := hs14.mono hle100
    have hl103 := hs101.le
    have hl104 := hs102.le
    refine WC.ret ?_
    refine WK.rThen ?_
    refine WK.retC3 1 0 rfl rfl rfl rfl rfl rfl Try.isAgg33 Try.sizeOf33 Try.isAgg33 Try.sizeOf33 (fun w' hw' => Ret.exact hw' ?_)
    first | exact tup3 (agg2i (by rw [extR_err (by omega)]) (by rw [extR_err (by omega)])) (agg2i (by rw [extR_err (by omega)]) (by rw [extR_err (by omega)])) (int_eq (by rw [extR_err (by omega)])) | exact tup3 (agg2i (by rw [extR_arg (by omega) (by assumption)]) (by rw [extR_arg (by omega) (by assumption)])) (agg2i (by rw [extR_arg (by omega) (by assumption)]) (by rw [extR_arg (by omega) (by assumption)])) (int_eq (by rw [extR_arg (by omega) (by assumption)])) | exact tup3 (agg2i (by rw [extR_ok (by omega) (by assumption) (by assumption)]) (by rw [extR_ok (by omega) (by assumption) (by assumption)])) (agg2i (by rw [extR_ok (by omega) (by assumption) (by assumption)]) (by rw [extR_ok (by omega) (by assumption) (by assumption)])) (int_eq (by rw [extR_ok (by omega) (by assumption) (by assumption)])) | exact tup3 (agg2i (by rw [extR_none (by omega) (by assumption) (by assumption)]) (by rw [extR_none (by omega) (by assumption) (by assumption)])) (agg2i (by rw [extR_none (by omega) (by assumption) (by assumption)]) (by rw [extR_none (by omega) (by assumption) (by assumption)])) (int_eq (by rw [extR_none (by omega) (by assumption) (by assumption)]))

end Go.Proofs.C8
