import Derived.Test.YtednficclnjmjaaC8Spec
/- Century: walks, by program. -/
namespace Go.Proofs.C8
open Go Go.Kx

theorem within82 (m : Mem) (n : Int) (lo : Int) (hi : Int)   : Exact Try.prog 82 #[.int .i64 (n), .int .i64 (lo), .int .i64 (hi)] m (.bool (decide (lo ≤ n ∧ n ≤ hi))) := by
 refine Exact.start Try.func82 rfl Try.ntmps82 rfl fun wld => ?_
 refine WC.seq ?_
 refine WC.region ?_
 refine WL.x (X.assign rfl) (by decide) ?_
 refine WL.nil ?_
 refine WK.nThen ?_
 refine WC.seq ?_
 refine WC.region ?_
 refine WL.x (X.move rfl) (by decide) ?_
 refine WL.x (X.move rfl) (by decide) ?_
 refine WL.cond (X.geq rfl rfl) (by decide) (fun h1 => ?_) (fun h1 => ?_)
 ·refine WL.x (X.move rfl) (by decide) ?_
  refine WL.yes rfl rfl ?_
  refine WL.x (X.move rfl) (by decide) ?_
  refine WL.yes rfl rfl ?_
  refine WL.x (X.move rfl) (by decide) ?_
  refine WL.yes rfl rfl ?_
  refine WL.x (X.leq rfl rfl) (by decide) ?_
  refine WL.x (X.pickT rfl rfl rfl) (by decide) ?_
  refine WL.x (X.assign rfl) (by decide) ?_
  refine WL.nil ?_
  refine WK.nThen ?_
  refine WC.ret ?_
  refine WK.ret1 rfl rfl (fun w' hw' => Ret.exact hw' ?_)
  first | exact bool_true (by omega) | exact bool_false (by omega) | exact dec_eq (by omega)
 ·refine WL.x (X.move rfl) (by decide) ?_
  refine WL.no rfl rfl rfl (by decide) ?_
  refine WL.no rfl rfl rfl (by decide) ?_
  refine WL.no rfl rfl rfl (by decide) ?_
  refine WL.x (X.pickF rfl rfl rfl) (by decide) ?_
  refine WL.x (X.assign rfl) (by decide) ?_
  refine WL.nil ?_
  refine WK.nThen ?_
  refine WC.ret ?_
  refine WK.ret1 rfl rfl (fun w' hw' => Ret.exact hw' ?_)
  first | exact bool_true (by omega) | exact bool_false (by omega) | exact dec_eq (by omega)

theorem span102 (m : Mem) (cs : List Value) (s : Span) (hs : Enc.rd m cs s) (lo : Int) (hi : Int)   : Exact Try.prog 102 #[.agg cs.toArray, .int .i64 (lo), .int .i64 (hi)] m (.bool (decide ((lo ≤ s.Lo ∧ s.Lo ≤ s.Hi) ∧ s.Hi ≤ hi))) := by
 obtain rfl := hs
 refine Exact.start Try.func102 rfl Try.ntmps102 rfl fun wld => ?_
 refine WC.seq ?_
 refine WC.region ?_
 refine WL.tn (T.boxB rfl rfl) (by decide) fun b1 => ?_
 refine WL.x (X.assign rfl) (by decide) ?_
 refine WL.nil ?_
 refine WK.nThen ?_
 refine WC.seq ?_
 refine WC.region ?_
 refine WL.x (X.field Try.runUnderlying33 rfl Try.sizeOf3 rfl) (by decide) ?_
 refine WL.x (X.loadB (k := 0) Try.isAgg3 rfl rfl rfl) (by decide) ?_
 refine WL.x (X.move rfl) (by decide) ?_
 refine WL.x (X.field Try.runUnderlying33 rfl Try.sizeOf3 rfl) (by decide) ?_
 refine WL.x (X.loadB (k := 0) Try.isAgg3 rfl rfl rfl) (by decide) ?_
 refine WL.cond (X.call Try.call82 rfl (within82 _ _ _ _ )) (by decide) (fun h2 => ?_) (fun h2 => ?_)
 ·refine WL.x (X.move rfl) (by decide) ?_
  refine WL.yes rfl rfl ?_
  refine WL.x (X.field Try.runUnderlying33 rfl Try.sizeOf3 rfl) (by decide) ?_
  refine WL.yes rfl rfl ?_
  refine WL.x (X.loadB (k := 0) Try.isAgg3 rfl rfl rfl) (by decide) ?_
  refine WL.yes rfl rfl ?_
  refine WL.x (X.move rfl) (by decide) ?_
  refine WL.yes rfl rfl ?_
  refine WL.x (X.leq rfl rfl) (by decide) ?_
  refine WL.x (X.pickT rfl rfl rfl) (by decide) ?_
  refine WL.x (X.assign rfl) (by decide) ?_
  refine WL.nil ?_
  refine WK.nThen ?_
  refine WC.ret ?_
  refine WK.ret1 rfl rfl (fun w' hw' => Ret.exact hw' ?_)
  first | exact bool_true (by omega) | exact bool_false (by omega) | exact dec_eq (by omega)
 ·refine WL.x (X.move rfl) (by decide) ?_
  refine WL.no rfl rfl rfl (by decide) ?_
  refine WL.no rfl rfl rfl (by decide) ?_
  refine WL.no rfl rfl rfl (by decide) ?_
  refine WL.no rfl rfl rfl (by decide) ?_
  refine WL.x (X.pickF rfl rfl rfl) (by decide) ?_
  refine WL.x (X.assign rfl) (by decide) ?_
  refine WL.nil ?_
  refine WK.nThen ?_
  refine WC.ret ?_
  refine WK.ret1 rfl rfl (fun w' hw' => Ret.exact hw' ?_)
  first | exact bool_true (by omega) | exact bool_false (by omega) | exact dec_eq (by omega)

theorem times106 (m : Mem) (cs : List Value) (s : Span) (hs : Enc.rd m cs s)   : Exact Try.prog 106 #[.agg cs.toArray] m (.bool (decide (spOk s 0 10000))) := by
 obtain rfl := hs
 refine Exact.start Try.func106 rfl Try.ntmps106 rfl fun wld => ?_
 refine WC.seq ?_
 refine WC.region ?_
 refine WL.tn (T.boxB rfl rfl) (by decide) fun b1 => ?_
 refine WL.x (X.assign rfl) (by decide) ?_
 refine WL.nil ?_
 refine WK.nThen ?_
 refine WC.seq ?_
 refine WC.region ?_
 refine WL.x (X.loadBA (k := 0) Try.isAgg33 Try.sizeOf33 rfl rfl rfl) (by decide) ?_
 refine WL.x (X.call Try.call102 rfl (span102 _ _ s rfl _ _ )) (by decide) ?_
 refine WL.x (X.assign rfl) (by decide) ?_
 refine WL.nil ?_
 refine WK.nThen ?_
 refine WC.ret ?_
 refine WK.ret1 rfl rfl (fun w' hw' => Ret.exact hw' ?_)
 first | exact bool_true (by unfold spOk; omega) | exact bool_false (by unfold spOk; omega) | exact dec_eq (by unfold spOk; omega)

theorem check34 (m : Mem) (cs : List Value) (s : Ser) (hs : Enc.rd m cs s)   : Exact Try.prog 34 #[.agg cs.toArray] m (.tuple #[.int .i64 ((chk s).1), .int .i64 ((chk s).2)]) := by
 obtain ⟨v1, v3, rfl, hs2, hs4⟩ := hs
 have hl5 := hs2.le
 have hl6 := hs4.le
 refine Exact.start Try.func34 rfl Try.ntmps34 rfl fun wld => ?_
 refine WC.seq ?_
 refine WC.region ?_
 refine WL.tn (T.boxB rfl rfl) (by decide) fun b7 => ?_
 refine WL.x (X.assign rfl) (by decide) ?_
 refine WL.x (X.assign rfl) (by decide) ?_
 refine WL.nil ?_
 refine WK.nThen ?_
 refine WC.seq ?_
 refine WC.seq ?_
 refine WC.region ?_
 refine WL.x (X.field Try.runUnderlying25 rfl Try.sizeOf22 rfl) (by decide) ?_
 refine WL.x (X.loadB (k := 0) Try.isAgg22 rfl rfl rfl) (by decide) ?_
 refine WL.x (X.len Try.runUnderlying22 rfl hs2) (by decide) ?_
 refine WL.cond (X.gtr rfl rfl) (by decide) (fun h8 => ?_) (fun h8 => ?_)
 ·refine WL.x (X.move rfl) (by decide) ?_
  refine WL.no rfl rfl rfl (by decide) ?_
  refine WL.no rfl rfl rfl (by decide) ?_
  refine WL.no rfl rfl rfl (by decide) ?_
  refine WL.no rfl rfl rfl (by decide) ?_
  refine WL.x (X.pickT rfl rfl rfl) (by decide) ?_
  refine WL.nil ?_
  refine WK.nThen ?_
  refine WC.condT rfl ?_
  refine WC.seq ?_
  refine WC.region ?_
  refine WL.x (X.assign rfl) (by decide) ?_
  refine WL.x (X.assign rfl) (by decide) ?_
  refine WL.nil ?_
  refine WK.nThen ?_
  refine WC.ret ?_
  refine WK.rThen ?_
  refine WK.ret2 rfl rfl rfl (fun w' hw' => Ret.exact hw' ?_)
  first | (have hc := chk_big (s := s) (by omega); exact tup2 (int_eq (by rw [hc])) (int_eq (by rw [hc]))) | (have hc := chk_v (s := s) (k := k) (by omega) (by omega) hall (by unfold badV; omega); exact tup2 (int_eq (by rw [hc])) (int_eq (by rw [hc]))) | (have hc := chk_x (s := s) (k := i) (by omega) hV (by omega) hall2 (by unfold badX; omega); exact tup2 (int_eq (by rw [hc])) (int_eq (by rw [hc]))) | (have hc := chk_ok (s := s) (by omega) hV (fun j hj => hall2 j (by omega)); exact tup2 (int_eq (by rw [hc])) (int_eq (by rw [hc])))
 ·refine WL.x (X.move rfl) (by decide) ?_
  refine WL.yes rfl rfl ?_
  refine WL.x (X.field Try.runUnderlying25 rfl Try.sizeOf23 rfl) (by decide) ?_
  refine WL.yes rfl rfl ?_
  refine WL.x (X.loadB (k := 0) Try.isAgg23 rfl rfl rfl) (by decide) ?_
  refine WL.yes rfl rfl ?_
  refine WL.x (X.len Try.runUnderlying23 rfl hs4) (by decide) ?_
  refine WL.yes rfl rfl ?_
  refine WL.cond (X.gtr rfl rfl) (by decide) (fun h9 => ?_) (fun h9 => ?_)
  ·refine WL.x (X.pickF rfl rfl rfl) (by decide) ?_
   refine WL.nil ?_
   refine WK.nThen ?_
   refine WC.condT rfl ?_
   refine WC.seq ?_
   refine WC.region ?_
   refine WL.x (X.assign rfl) (by decide) ?_
   refine WL.x (X.assign rfl) (by decide) ?_
   refine WL.nil ?_
   refine WK.nThen ?_
   refine WC.ret ?_
   refine WK.rThen ?_
   refine WK.ret2 rfl rfl rfl (fun w' hw' => Ret.exact hw' ?_)
   first | (have hc := chk_big (s := s) (by omega); exact tup2 (int_eq (by rw [hc])) (int_eq (by rw [hc]))) | (have hc := chk_v (s := s) (k := k) (by omega) (by omega) hall (by unfold badV; omega); exact tup2 (int_eq (by rw [hc])) (int_eq (by rw [hc]))) | (have hc := chk_x (s := s) (k := i) (by omega) hV (by omega) hall2 (by unfold badX; omega); exact tup2 (int_eq (by rw [hc])) (int_eq (by rw [hc]))) | (have hc := chk_ok (s := s) (by omega) hV (fun j hj => hall2 j (by omega)); exact tup2 (int_eq (by rw [hc])) (int_eq (by rw [hc])))
  ·refine WL.x (X.pickF rfl rfl rfl) (by decide) ?_
   refine WL.nil ?_
   refine WK.nThen ?_
   refine WC.condF rfl ?_
   refine WC.skip ?_
   refine WK.nThen ?_
   refine WC.seq ?_
   refine WC.seq ?_
   refine WC.region ?_
   refine WL.x (X.field Try.runUnderlying25 rfl Try.sizeOf22 rfl) (by decide) ?_
   refine WL.x (X.loadB (k := 0) Try.isAgg22 rfl rfl rfl) (by decide) ?_
   refine WL.x (X.len Try.runUnderlying22 rfl hs2) (by decide) ?_
   refine WL.x (X.move rfl) (by decide) ?_
   refine WL.nil ?_
   refine WK.nThen ?_
   refine WC.block ?_
   refine WC.loop (G := Nat) (fun k => s.Values.length - k) (fun k => m) (fun k => [blk b7 25 [v1, v3]]) (fun k => [(1, .pointer (some ⟨b7, 0, none⟩)), (19, v1), (20, .int .i64 (↑s.Values.length)), (21, .int .i64 (↑k))]) (fun k => k ≤ s.Values.length ∧ (∀ j, j < k → ¬ badV s.Values j)) 0 rfl (.refl _) (.cons rfl (.cons rfl (.cons rfl (.cons rfl .nil)))) ?_ ?_
   ·exact ⟨Nat.zero_le _, fun j hj => absurd hj (Nat.not_lt_zero _)⟩
   ·rintro k hF10
    show WK _ _ m [blk b7 25 [v1, v3]] [(1, .pointer (some ⟨b7, 0, none⟩)), (19, v1), (20, .int .i64 (↑s.Values.length)), (21, .int .i64 (↑k))] _
    replace hF10 : k ≤ s.Values.length ∧ (∀ j, j < k → ¬ badV s.Values j) := hF10
    obtain ⟨hk, hall⟩ := hF10
    refine WC.seq ?_
    refine WC.region ?_
    refine WL.cond (X.lss rfl rfl) (by decide) (fun h11 => ?_) (fun h11 => ?_)
    ·refine WL.nil ?_
     refine WK.nThen ?_
     refine WC.seq ?_
     refine WC.condT rfl ?_
     refine WC.skip ?_
     refine WK.nThen ?_
     refine WC.seq ?_
     refine WC.block ?_
     refine WC.seq ?_
     refine WC.region ?_
     refine WL.x (X.move rfl) (by decide) ?_
     refine WL.xe (E.idxN k Try.runUnderlying22 Try.sizeOf62 rfl rfl hs2 (by omega)) (by decide) (fun p12 hp13 => ?_)
     refine WL.xe (E.loadAgg Try.isAgg62 Try.sizeOf62 rfl hp13) (by decide) (fun c14 hc15 => ?_)
     obtain rfl := hc15
     refine WL.tn (T.alloc Try.zeroValue62 rfl) (by decide) fun b16 => ?_
     refine WL.x (X.assign rfl) (by decide) ?_
     refine WL.ts (T.storeBA (k := 0) Try.sizeOf62 rfl rfl rfl (one_cons rfl (one_cons rfl (one_cons rfl one_nil))) rfl rfl) ?_
     refine WL.nil ?_
     refine WK.nThen ?_
     refine WC.seq ?_
     refine WC.draw (π := (.cons 0 (.cons 1 (.cons 2 (.cons 3 (.cons 4 (.cons 5 (.cons 6 (.cons 7 (.cons 8 (.cons 9 (.cons 10 (.cons 11 (.cons 12 (.cons 13 (.cons 14 (.cons 15 (.cons 16 (.cons 17 (.cons 18 (.cons 19 (.cons 20 (.cons 21 (.cons 22 (.cons 23 (.cons 24 (.cons 25 .done))))))))))))))))))))))))))) [] [] rfl (by kernel_rfl) ?_
     refine DW.x rfl rfl (X.field Try.runUnderlying62 rfl Try.sizeOf3 rfl) (by decide) ?_
     refine DW.x rfl rfl (X.loadB (k := 0) Try.isAgg3 rfl rfl rfl) (by decide) ?_
     refine DW.cond rfl rfl (X.call Try.call82 rfl (within82 _ _ _ _ )) (by decide) (fun h17 => ?_) (fun h17 => ?_)
     ·refine DW.x rfl rfl (X.not rfl) (by decide) ?_
      refine DW.x rfl rfl (X.move rfl) (by decide) ?_
      refine DW.x rfl rfl (X.move rfl) (by decide) ?_
      refine DW.cond rfl rfl (X.gtr rfl rfl) (by decide) (fun h18 => ?_) (fun h18 => ?_)
      ·refine DW.x rfl rfl (X.move rfl) (by decide) ?_
       refine DW.x rfl rfl (X.field Try.runUnderlying62 rfl Try.sizeOf3 rfl) (by decide) ?_
       refine DW.x rfl rfl (X.loadB (k := 0) Try.isAgg3 rfl rfl rfl) (by decide) ?_
       refine DW.x rfl rfl (X.field Try.runUnderlying25 rfl Try.sizeOf22 rfl) (by decide) ?_
       refine DW.x rfl rfl (X.loadB (k := 1) Try.isAgg22 rfl rfl rfl) (by decide) ?_
       refine DW.x rfl rfl (X.move rfl) (by decide) ?_
       refine DW.x rfl rfl (X.sub rfl rfl (by omega) (by omega)) (by decide) ?_
       refine DW.xe rfl rfl (E.idxE (k - 1) Try.runUnderlying22 Try.sizeOf62 rfl rfl hs2 (by omega) (by omega)) (by decide) (fun p19 hp20 => ?_)
       have hp21 := At.Val_0 hp20
       refine DW.x rfl rfl (X.field Try.runUnderlying62 rfl Try.sizeOf3 rfl) (by decide) ?_
       refine DW.x rfl rfl (X.loadInt Try.isAgg3 rfl hp21) (by decide) ?_
       refine DW.cond rfl rfl (X.leq rfl rfl) (by decide) (fun h22 => ?_) (fun h22 => ?_)
       ·refine DW.x rfl rfl (X.pickT rfl rfl rfl) (by decide) ?_
        refine DW.x rfl rfl (X.pickF rfl rfl rfl) (by decide) ?_
        refine DW.x rfl rfl (X.move rfl) (by decide) ?_
        refine DW.no rfl rfl (by decide) ?_
        refine DW.no rfl rfl (by decide) ?_
        refine DW.no rfl rfl (by decide) ?_
        refine DW.no rfl rfl (by decide) ?_
        refine DW.x rfl rfl (X.pickT rfl rfl rfl) (by decide) ?_
        refine DW.nil ?_
        refine WK.nThen ?_
        refine WC.condT rfl ?_
        refine WC.seq ?_
        refine WC.region ?_
        refine WL.x (X.move rfl) (by decide) ?_
        refine WL.x (X.assign rfl) (by decide) ?_
        refine WL.x (X.assign rfl) (by decide) ?_
        refine WL.nil ?_
        refine WK.nThen ?_
        refine WC.ret ?_
        refine WK.rBlock ?_
        refine WK.rThen ?_
        refine WK.rThen ?_
        refine WK.rBlock ?_
        refine WK.rThen ?_
        refine WK.ret2 rfl rfl rfl (fun w' hw' => Ret.exact hw' ?_)
        first | (have hc := chk_big (s := s) (by omega); exact tup2 (int_eq (by rw [hc])) (int_eq (by rw [hc]))) | (have hc := chk_v (s := s) (k := k) (by omega) (by omega) hall (by unfold badV; omega); exact tup2 (int_eq (by rw [hc])) (int_eq (by rw [hc]))) | (have hc := chk_x (s := s) (k := i) (by omega) hV (by omega) hall2 (by unfold badX; omega); exact tup2 (int_eq (by rw [hc])) (int_eq (by rw [hc]))) | (have hc := chk_ok (s := s) (by omega) hV (fun j hj => hall2 j (by omega)); exact tup2 (int_eq (by rw [hc])) (int_eq (by rw [hc])))
       ·refine DW.x rfl rfl (X.pickT rfl rfl rfl) (by decide) ?_
        refine DW.x rfl rfl (X.pickF rfl rfl rfl) (by decide) ?_
        refine DW.x rfl rfl (X.move rfl) (by decide) ?_
        refine DW.x rfl rfl (X.field Try.runUnderlying62 rfl Try.sizeOf33 rfl) (by decide) ?_
        refine DW.x rfl rfl (X.loadBP (k := 0) (vs := [.int .i64 (((gt s.Values k).Levels).Lo), .int .i64 (((gt s.Values k).Levels).Hi)]) Try.isAgg33 Try.sizeOf33 rfl rfl rfl rfl) (by decide) ?_
        refine DW.cond rfl rfl (X.call Try.call102 rfl (span102 _ _ ((gt s.Values k).Levels) rfl _ _ )) (by decide) (fun h23 => ?_) (fun h23 => ?_)
        ·refine DW.x rfl rfl (X.not rfl) (by decide) ?_
         refine DW.x rfl rfl (X.pickF rfl rfl rfl) (by decide) ?_
         refine DW.nil ?_
         refine WK.nThen ?_
         refine WC.condF rfl ?_
         refine WC.skip ?_
         refine WK.nBlock ?_
         refine WK.nThen ?_
         refine WC.region ?_
         refine WL.x (X.add rfl rfl (by omega) (by omega)) (by decide) ?_
         refine WL.x (X.move rfl) (by decide) ?_
         refine WL.nil ?_
         refine WK.nThen ?_
         refine WK.next (k + 1) rfl (.cons _ (.cons_cons _ .slnil)) (.cons rfl (.cons rfl (.cons rfl (.cons rfl .nil)))) ?_ ?_
         ·exact ⟨by omega, fun j hj => by rcases Nat.lt_succ_iff_lt_or_eq.1 hj with h | h; exact hall j h; subst h; (unfold badV; omega)⟩
         ·omega
        ·refine DW.x rfl rfl (X.not rfl) (by decide) ?_
         refine DW.x rfl rfl (X.pickF rfl rfl rfl) (by decide) ?_
         refine DW.nil ?_
         refine WK.nThen ?_
         refine WC.condT rfl ?_
         refine WC.seq ?_
         refine WC.region ?_
         refine WL.x (X.move rfl) (by decide) ?_
         refine WL.x (X.assign rfl) (by decide) ?_
         refine WL.x (X.assign rfl) (by decide) ?_
         refine WL.nil ?_
         refine WK.nThen ?_
         refine WC.ret ?_
         refine WK.rBlock ?_
         refine WK.rThen ?_
         refine WK.rThen ?_
         refine WK.rBlock ?_
         refine WK.rThen ?_
         refine WK.ret2 rfl rfl rfl (fun w' hw' => Ret.exact hw' ?_)
         first | (have hc := chk_big (s := s) (by omega); exact tup2 (int_eq (by rw [hc])) (int_eq (by rw [hc]))) | (have hc := chk_v (s := s) (k := k) (by omega) (by omega) hall (by unfold badV; omega); exact tup2 (int_eq (by rw [hc])) (int_eq (by rw [hc]))) | (have hc := chk_x (s := s) (k := i) (by omega) hV (by omega) hall2 (by unfold badX; omega); exact tup2 (int_eq (by rw [hc])) (int_eq (by rw [hc]))) | (have hc := chk_ok (s := s) (by omega) hV (fun j hj => hall2 j (by omega)); exact tup2 (int_eq (by rw [hc])) (int_eq (by rw [hc])))
      ·refine DW.x rfl rfl (X.move rfl) (by decide) ?_
       refine DW.no rfl rfl (by decide) ?_
       refine DW.no rfl rfl (by decide) ?_
       refine DW.no rfl rfl (by decide) ?_
       refine DW.no rfl rfl (by decide) ?_
       refine DW.no rfl rfl (by decide) ?_
       refine DW.no rfl rfl (by decide) ?_
       refine DW.no rfl rfl (by decide) ?_
       refine DW.no rfl rfl (by decide) ?_
       refine DW.no rfl rfl (by decide) ?_
       refine DW.no rfl rfl (by decide) ?_
       refine DW.x rfl rfl (X.pickF rfl rfl rfl) (by decide) ?_
       refine DW.x rfl rfl (X.pickF rfl rfl rfl) (by decide) ?_
       refine DW.x rfl rfl (X.move rfl) (by decide) ?_
       refine DW.x rfl rfl (X.field Try.runUnderlying62 rfl Try.sizeOf33 rfl) (by decide) ?_
       refine DW.x rfl rfl (X.loadBP (k := 0) (vs := [.int .i64 (((gt s.Values k).Levels).Lo), .int .i64 (((gt s.Values k).Levels).Hi)]) Try.isAgg33 Try.sizeOf33 rfl rfl rfl rfl) (by decide) ?_
       refine DW.cond rfl rfl (X.call Try.call102 rfl (span102 _ _ ((gt s.Values k).Levels) rfl _ _ )) (by decide) (fun h24 => ?_) (fun h24 => ?_)
       ·refine DW.x rfl rfl (X.not rfl) (by decide) ?_
        refine DW.x rfl rfl (X.pickF rfl rfl rfl) (by decide) ?_
        refine DW.nil ?_
        refine WK.nThen ?_
        refine WC.condF rfl ?_
        refine WC.skip ?_
        refine WK.nBlock ?_
        refine WK.nThen ?_
        refine WC.region ?_
        refine WL.x (X.add rfl rfl (by omega) (by omega)) (by decide) ?_
        refine WL.x (X.move rfl) (by decide) ?_
        refine WL.nil ?_
        refine WK.nThen ?_
        refine WK.next (k + 1) rfl (.cons _ (.cons_cons _ .slnil)) (.cons rfl (.cons rfl (.cons rfl (.cons rfl .nil)))) ?_ ?_
        ·exact ⟨by omega, fun j hj => by rcases Nat.lt_succ_iff_lt_or_eq.1 hj with h | h; exact hall j h; subst h; (unfold badV; omega)⟩
        ·omega
       ·refine DW.x rfl rfl (X.not rfl) (by decide) ?_
        refine DW.x rfl rfl (X.pickF rfl rfl rfl) (by decide) ?_
        refine DW.nil ?_
        refine WK.nThen ?_
        refine WC.condT rfl ?_
        refine WC.seq ?_
        refine WC.region ?_
        refine WL.x (X.move rfl) (by decide) ?_
        refine WL.x (X.assign rfl) (by decide) ?_
        refine WL.x (X.assign rfl) (by decide) ?_
        refine WL.nil ?_
        refine WK.nThen ?_
        refine WC.ret ?_
        refine WK.rBlock ?_
        refine WK.rThen ?_
        refine WK.rThen ?_
        refine WK.rBlock ?_
        refine WK.rThen ?_
        refine WK.ret2 rfl rfl rfl (fun w' hw' => Ret.exact hw' ?_)
        first | (have hc := chk_big (s := s) (by omega); exact tup2 (int_eq (by rw [hc])) (int_eq (by rw [hc]))) | (have hc := chk_v (s := s) (k := k) (by omega) (by omega) hall (by unfold badV; omega); exact tup2 (int_eq (by rw [hc])) (int_eq (by rw [hc]))) | (have hc := chk_x (s := s) (k := i) (by omega) hV (by omega) hall2 (by unfold badX; omega); exact tup2 (int_eq (by rw [hc])) (int_eq (by rw [hc]))) | (have hc := chk_ok (s := s) (by omega) hV (fun j hj => hall2 j (by omega)); exact tup2 (int_eq (by rw [hc])) (int_eq (by rw [hc])))
     ·refine DW.x rfl rfl (X.not rfl) (by decide) ?_
      refine DW.x rfl rfl (X.move rfl) (by decide) ?_
      refine DW.no rfl rfl (by decide) ?_
      refine DW.no rfl rfl (by decide) ?_
      refine DW.no rfl rfl (by decide) ?_
      refine DW.no rfl rfl (by decide) ?_
      refine DW.no rfl rfl (by decide) ?_
      refine DW.no rfl rfl (by decide) ?_
      refine DW.no rfl rfl (by decide) ?_
      refine DW.no rfl rfl (by decide) ?_
      refine DW.no rfl rfl (by decide) ?_
      refine DW.no rfl rfl (by decide) ?_
      refine DW.no rfl rfl (by decide) ?_
      refine DW.no rfl rfl (by decide) ?_
      refine DW.no rfl rfl (by decide) ?_
      refine DW.no rfl rfl (by decide) ?_
      refine DW.x rfl rfl (X.pickT rfl rfl rfl) (by decide) ?_
      refine DW.x rfl rfl (X.move rfl) (by decide) ?_
      refine DW.no rfl rfl (by decide) ?_
      refine DW.no rfl rfl (by decide) ?_
      refine DW.no rfl rfl (by decide) ?_
      refine DW.no rfl rfl (by decide) ?_
      refine DW.x rfl rfl (X.pickT rfl rfl rfl) (by decide) ?_
      refine DW.nil ?_
      refine WK.nThen ?_
      refine WC.condT rfl ?_
      refine WC.seq ?_
      refine WC.region ?_
      refine WL.x (X.move rfl) (by decide) ?_
      refine WL.x (X.assign rfl) (by decide) ?_
      refine WL.x (X.assign rfl) (by decide) ?_
      refine WL.nil ?_
      refine WK.nThen ?_
      refine WC.ret ?_
      refine WK.rBlock ?_
      refine WK.rThen ?_
      refine WK.rThen ?_
      refine WK.rBlock ?_
      refine WK.rThen ?_
      refine WK.ret2 rfl rfl rfl (fun w' hw' => Ret.exact hw' ?_)
      first | (have hc := chk_big (s := s) (by omega); exact tup2 (int_eq (by rw [hc])) (int_eq (by rw [hc]))) | (have hc := chk_v (s := s) (k := k) (by omega) (by omega) hall (by unfold badV; omega); exact tup2 (int_eq (by rw [hc])) (int_eq (by rw [hc]))) | (have hc := chk_x (s := s) (k := i) (by omega) hV (by omega) hall2 (by unfold badX; omega); exact tup2 (int_eq (by rw [hc])) (int_eq (by rw [hc]))) | (have hc := chk_ok (s := s) (by omega) hV (fun j hj => hall2 j (by omega)); exact tup2 (int_eq (by rw [hc])) (int_eq (by rw [hc])))
    ·refine WL.nil ?_
     refine WK.nThen ?_
     refine WC.seq ?_
     refine WC.condF rfl ?_
     refine WC.exit ?_
     refine WK.eThen ?_
     refine WK.eThen ?_
     refine WK.eHit ?_
     refine WK.nThen ?_
     refine WC.seq ?_
     refine WC.seq ?_
     refine WC.region ?_
     refine WL.x (X.field Try.runUnderlying25 rfl Try.sizeOf23 rfl) (by decide) ?_
     refine WL.x (X.loadB (k := 0) Try.isAgg23 rfl rfl rfl) (by decide) ?_
     refine WL.x (X.len Try.runUnderlying23 rfl hs4) (by decide) ?_
     refine WL.x (X.move rfl) (by decide) ?_
     refine WL.nil ?_
     refine WK.nThen ?_
     refine WC.block ?_
     have hV : ∀ j, j < s.Values.length → ¬ badV s.Values j := fun j hj => hall j (by omega)
     refine WC.loop (G := Nat) (fun i => s.Shifts.length - i) (fun i => m) (fun i => [blk b7 25 [v1, v3]]) (fun i => [(1, .pointer (some ⟨b7, 0, none⟩)), (55, v3), (56, .int .i64 (↑s.Shifts.length)), (57, .int .i64 (↑i))]) (fun i => i ≤ s.Shifts.length ∧ (∀ j, j < i → ¬ badX s.Shifts j)) 0 rfl (.refl _) (.cons rfl (.cons rfl (.cons rfl (.cons rfl .nil)))) ?_ ?_
     ·exact ⟨Nat.zero_le _, fun j hj => absurd hj (Nat.not_lt_zero _)⟩
     ·rintro i hF25
      show WK _ _ m [blk b7 25 [v1, v3]] [(1, .pointer (some ⟨b7, 0, none⟩)), (55, v3), (56, .int .i64 (↑s.Shifts.length)), (57, .int .i64 (↑i))] _
      replace hF25 : i ≤ s.Shifts.length ∧ (∀ j, j < i → ¬ badX s.Shifts j) := hF25
      obtain ⟨hi, hall2⟩ := hF25
      refine WC.seq ?_
      refine WC.region ?_
      refine WL.cond (X.lss rfl rfl) (by decide) (fun h26 => ?_) (fun h26 => ?_)
      ·refine WL.nil ?_
       refine WK.nThen ?_
       refine WC.seq ?_
       refine WC.condT rfl ?_
       refine WC.skip ?_
       refine WK.nThen ?_
       refine WC.seq ?_
       refine WC.block ?_
       refine WC.seq ?_
       refine WC.region ?_
       refine WL.x (X.move rfl) (by decide) ?_
       refine WL.xe (E.idxN i Try.runUnderlying23 Try.sizeOf72 rfl rfl hs4 (by omega)) (by decide) (fun p27 hp28 => ?_)
       refine WL.xe (E.loadAgg Try.isAgg72 Try.sizeOf72 rfl hp28) (by decide) (fun c29 hc30 => ?_)
       obtain rfl := hc30
       refine WL.tn (T.alloc Try.zeroValue72 rfl) (by decide) fun b31 => ?_
       refine WL.x (X.assign rfl) (by decide) ?_
       refine WL.ts (T.storeBA (k := 0) Try.sizeOf72 rfl rfl rfl (one_cons rfl (one_cons rfl (one_cons rfl one_nil))) rfl rfl) ?_
       refine WL.nil ?_
       refine WK.nThen ?_
       refine WC.seq ?_
       refine WC.draw (π := (.cons 0 (.cons 1 (.cons 2 (.cons 3 (.cons 4 (.cons 5 (.cons 6 (.cons 7 (.cons 8 (.cons 9 (.cons 10 (.cons 11 (.cons 12 (.cons 13 (.cons 14 (.cons 15 (.cons 16 (.cons 17 (.cons 18 (.cons 19 (.cons 20 (.cons 21 (.cons 22 (.cons 23 (.cons 24 (.cons 25 .done))))))))))))))))))))))))))) [] [] rfl (by kernel_rfl) ?_
       refine DW.x rfl rfl (X.field Try.runUnderlying72 rfl Try.sizeOf3 rfl) (by decide) ?_
       refine DW.x rfl rfl (X.loadB (k := 0) Try.isAgg3 rfl rfl rfl) (by decide) ?_
       refine DW.cond rfl rfl (X.call Try.call82 rfl (within82 _ _ _ _ )) (by decide) (fun h32 => ?_) (fun h32 => ?_)
       ·refine DW.x rfl rfl (X.not rfl) (by decide) ?_
        refine DW.x rfl rfl (X.move rfl) (by decide) ?_
        refine DW.x rfl rfl (X.move rfl) (by decide) ?_
        refine DW.cond rfl rfl (X.gtr rfl rfl) (by decide) (fun h33 => ?_) (fun h33 => ?_)
        ·refine DW.x rfl rfl (X.move rfl) (by decide) ?_
         refine DW.x rfl rfl (X.field Try.runUnderlying72 rfl Try.sizeOf3 rfl) (by decide) ?_
         refine DW.x rfl rfl (X.loadB (k := 0) Try.isAgg3 rfl rfl rfl) (by decide) ?_
         refine DW.x rfl rfl (X.field Try.runUnderlying25 rfl Try.sizeOf23 rfl) (by decide) ?_
         refine DW.x rfl rfl (X.loadB (k := 1) Try.isAgg23 rfl rfl rfl) (by decide) ?_
         refine DW.x rfl rfl (X.move rfl) (by decide) ?_
         refine DW.x rfl rfl (X.sub rfl rfl (by omega) (by omega)) (by decide) ?_
         refine DW.xe rfl rfl (E.idxE (i - 1) Try.runUnderlying23 Try.sizeOf72 rfl rfl hs4 (by omega) (by omega)) (by decide) (fun p34 hp35 => ?_)
         have hp36 := At.Shf_0 hp35
         refine DW.x rfl rfl (X.field Try.runUnderlying72 rfl Try.sizeOf3 rfl) (by decide) ?_
         refine DW.x rfl rfl (X.loadInt Try.isAgg3 rfl hp36) (by decide) ?_
         refine DW.cond rfl rfl (X.lss rfl rfl) (by decide) (fun h37 => ?_) (fun h37 => ?_)
         ·refine DW.x rfl rfl (X.pickT rfl rfl rfl) (by decide) ?_
          refine DW.x rfl rfl (X.pickF rfl rfl rfl) (by decide) ?_
          refine DW.x rfl rfl (X.move rfl) (by decide) ?_
          refine DW.no rfl rfl (by decide) ?_
          refine DW.no rfl rfl (by decide) ?_
          refine DW.no rfl rfl (by decide) ?_
          refine DW.no rfl rfl (by decide) ?_
          refine DW.x rfl rfl (X.pickT rfl rfl rfl) (by decide) ?_
          refine DW.nil ?_
          refine WK.nThen ?_
          refine WC.condT rfl ?_
          refine WC.seq ?_
          refine WC.region ?_
          refine WL.x (X.move rfl) (by decide) ?_
          refine WL.x (X.assign rfl) (by decide) ?_
          refine WL.x (X.assign rfl) (by decide) ?_
          refine WL.nil ?_
          refine WK.nThen ?_
          refine WC.ret ?_
          refine WK.rBlock ?_
          refine WK.rThen ?_
          refine WK.rThen ?_
          refine WK.rBlock ?_
          refine WK.rThen ?_
          refine WK.ret2 rfl rfl rfl (fun w' hw' => Ret.exact hw' ?_)
          first | (have hc := chk_big (s := s) (by omega); exact tup2 (int_eq (by rw [hc])) (int_eq (by rw [hc]))) | (have hc := chk_v (s := s) (k := k) (by omega) (by omega) hall (by unfold badV; omega); exact tup2 (int_eq (by rw [hc])) (int_eq (by rw [hc]))) | (have hc := chk_x (s := s) (k := i) (by omega) hV (by omega) hall2 (by unfold badX; omega); exact tup2 (int_eq (by rw [hc])) (int_eq (by rw [hc]))) | (have hc := chk_ok (s := s) (by omega) hV (fun j hj => hall2 j (by omega)); exact tup2 (int_eq (by rw [hc])) (int_eq (by rw [hc])))
         ·refine DW.x rfl rfl (X.pickT rfl rfl rfl) (by decide) ?_
          refine DW.x rfl rfl (X.pickF rfl rfl rfl) (by decide) ?_
          refine DW.x rfl rfl (X.move rfl) (by decide) ?_
          refine DW.x rfl rfl (X.field Try.runUnderlying72 rfl Try.sizeOf33 rfl) (by decide) ?_
          refine DW.x rfl rfl (X.loadBP (k := 0) (vs := [.int .i64 (((gt s.Shifts i).Levels).Lo), .int .i64 (((gt s.Shifts i).Levels).Hi)]) Try.isAgg33 Try.sizeOf33 rfl rfl rfl rfl) (by decide) ?_
          refine DW.cond rfl rfl (X.call Try.call102 rfl (span102 _ _ ((gt s.Shifts i).Levels) rfl _ _ )) (by decide) (fun h38 => ?_) (fun h38 => ?_)
          ·refine DW.x rfl rfl (X.not rfl) (by decide) ?_
           refine DW.x rfl rfl (X.pickF rfl rfl rfl) (by decide) ?_
           refine DW.nil ?_
           refine WK.nThen ?_
           refine WC.condF rfl ?_
           refine WC.skip ?_
           refine WK.nBlock ?_
           refine WK.nThen ?_
           refine WC.region ?_
           refine WL.x (X.add rfl rfl (by omega) (by omega)) (by decide) ?_
           refine WL.x (X.move rfl) (by decide) ?_
           refine WL.nil ?_
           refine WK.nThen ?_
           refine WK.next (i + 1) rfl (.cons _ (.cons_cons _ .slnil)) (.cons rfl (.cons rfl (.cons rfl (.cons rfl .nil)))) ?_ ?_
           ·exact ⟨by omega, fun j hj => by rcases Nat.lt_succ_iff_lt_or_eq.1 hj with h | h; exact hall2 j h; subst h; (unfold badX; omega)⟩
           ·omega
          ·refine DW.x rfl rfl (X.not rfl) (by decide) ?_
           refine DW.x rfl rfl (X.pickF rfl rfl rfl) (by decide) ?_
           refine DW.nil ?_
           refine WK.nThen ?_
           refine WC.condT rfl ?_
           refine WC.seq ?_
           refine WC.region ?_
           refine WL.x (X.move rfl) (by decide) ?_
           refine WL.x (X.assign rfl) (by decide) ?_
           refine WL.x (X.assign rfl) (by decide) ?_
           refine WL.nil ?_
           refine WK.nThen ?_
           refine WC.ret ?_
           refine WK.rBlock ?_
           refine WK.rThen ?_
           refine WK.rThen ?_
           refine WK.rBlock ?_
           refine WK.rThen ?_
           refine WK.ret2 rfl rfl rfl (fun w' hw' => Ret.exact hw' ?_)
           first | (have hc := chk_big (s := s) (by omega); exact tup2 (int_eq (by rw [hc])) (int_eq (by rw [hc]))) | (have hc := chk_v (s := s) (k := k) (by omega) (by omega) hall (by unfold badV; omega); exact tup2 (int_eq (by rw [hc])) (int_eq (by rw [hc]))) | (have hc := chk_x (s := s) (k := i) (by omega) hV (by omega) hall2 (by unfold badX; omega); exact tup2 (int_eq (by rw [hc])) (int_eq (by rw [hc]))) | (have hc := chk_ok (s := s) (by omega) hV (fun j hj => hall2 j (by omega)); exact tup2 (int_eq (by rw [hc])) (int_eq (by rw [hc])))
        ·refine DW.x rfl rfl (X.move rfl) (by decide) ?_
         refine DW.no rfl rfl (by decide) ?_
         refine DW.no rfl rfl (by decide) ?_
         refine DW.no rfl rfl (by decide) ?_
         refine DW.no rfl rfl (by decide) ?_
         refine DW.no rfl rfl (by decide) ?_
         refine DW.no rfl rfl (by decide) ?_
         refine DW.no rfl rfl (by decide) ?_
         refine DW.no rfl rfl (by decide) ?_
         refine DW.no rfl rfl (by decide) ?_
         refine DW.no rfl rfl (by decide) ?_
         refine DW.x rfl rfl (X.pickF rfl rfl rfl) (by decide) ?_
         refine DW.x rfl rfl (X.pickF rfl rfl rfl) (by decide) ?_
         refine DW.x rfl rfl (X.move rfl) (by decide) ?_
         refine DW.x rfl rfl (X.field Try.runUnderlying72 rfl Try.sizeOf33 rfl) (by decide) ?_
         refine DW.x rfl rfl (X.loadBP (k := 0) (vs := [.int .i64 (((gt s.Shifts i).Levels).Lo), .int .i64 (((gt s.Shifts i).Levels).Hi)]) Try.isAgg33 Try.sizeOf33 rfl rfl rfl rfl) (by decide) ?_
         refine DW.cond rfl rfl (X.call Try.call102 rfl (span102 _ _ ((gt s.Shifts i).Levels) rfl _ _ )) (by decide) (fun h39 => ?_) (fun h39 => ?_)
         ·refine DW.x rfl rfl (X.not rfl) (by decide) ?_
          refine DW.x rfl rfl (X.pickF rfl rfl rfl) (by decide) ?_
          refine DW.nil ?_
          refine WK.nThen ?_
          refine WC.condF rfl ?_
          refine WC.skip ?_
          refine WK.nBlock ?_
          refine WK.nThen ?_
          refine WC.region ?_
          refine WL.x (X.add rfl rfl (by omega) (by omega)) (by decide) ?_
          refine WL.x (X.move rfl) (by decide) ?_
          refine WL.nil ?_
          refine WK.nThen ?_
          refine WK.next (i + 1) rfl (.cons _ (.cons_cons _ .slnil)) (.cons rfl (.cons rfl (.cons rfl (.cons rfl .nil)))) ?_ ?_
          ·exact ⟨by omega, fun j hj => by rcases Nat.lt_succ_iff_lt_or_eq.1 hj with h | h; exact hall2 j h; subst h; (unfold badX; omega)⟩
          ·omega
         ·refine DW.x rfl rfl (X.not rfl) (by decide) ?_
          refine DW.x rfl rfl (X.pickF rfl rfl rfl) (by decide) ?_
          refine DW.nil ?_
          refine WK.nThen ?_
          refine WC.condT rfl ?_
          refine WC.seq ?_
          refine WC.region ?_
          refine WL.x (X.move rfl) (by decide) ?_
          refine WL.x (X.assign rfl) (by decide) ?_
          refine WL.x (X.assign rfl) (by decide) ?_
          refine WL.nil ?_
          refine WK.nThen ?_
          refine WC.ret ?_
          refine WK.rBlock ?_
          refine WK.rThen ?_
          refine WK.rThen ?_
          refine WK.rBlock ?_
          refine WK.rThen ?_
          refine WK.ret2 rfl rfl rfl (fun w' hw' => Ret.exact hw' ?_)
          first | (have hc := chk_big (s := s) (by omega); exact tup2 (int_eq (by rw [hc])) (int_eq (by rw [hc]))) | (have hc := chk_v (s := s) (k := k) (by omega) (by omega) hall (by unfold badV; omega); exact tup2 (int_eq (by rw [hc])) (int_eq (by rw [hc]))) | (have hc := chk_x (s := s) (k := i) (by omega) hV (by omega) hall2 (by unfold badX; omega); exact tup2 (int_eq (by rw [hc])) (int_eq (by rw [hc]))) | (have hc := chk_ok (s := s) (by omega) hV (fun j hj => hall2 j (by omega)); exact tup2 (int_eq (by rw [hc])) (int_eq (by rw [hc])))
       ·refine DW.x rfl rfl (X.not rfl) (by decide) ?_
        refine DW.x rfl rfl (X.move rfl) (by decide) ?_
        refine DW.no rfl rfl (by decide) ?_
        refine DW.no rfl rfl (by decide) ?_
        refine DW.no rfl rfl (by decide) ?_
        refine DW.no rfl rfl (by decide) ?_
        refine DW.no rfl rfl (by decide) ?_
        refine DW.no rfl rfl (by decide) ?_
        refine DW.no rfl rfl (by decide) ?_
        refine DW.no rfl rfl (by decide) ?_
        refine DW.no rfl rfl (by decide) ?_
        refine DW.no rfl rfl (by decide) ?_
        refine DW.no rfl rfl (by decide) ?_
        refine DW.no rfl rfl (by decide) ?_
        refine DW.no rfl rfl (by decide) ?_
        refine DW.no rfl rfl (by decide) ?_
        refine DW.x rfl rfl (X.pickT rfl rfl rfl) (by decide) ?_
        refine DW.x rfl rfl (X.move rfl) (by decide) ?_
        refine DW.no rfl rfl (by decide) ?_
        refine DW.no rfl rfl (by decide) ?_
        refine DW.no rfl rfl (by decide) ?_
        refine DW.no rfl rfl (by decide) ?_
        refine DW.x rfl rfl (X.pickT rfl rfl rfl) (by decide) ?_
        refine DW.nil ?_
        refine WK.nThen ?_
        refine WC.condT rfl ?_
        refine WC.seq ?_
        refine WC.region ?_
        refine WL.x (X.move rfl) (by decide) ?_
        refine WL.x (X.assign rfl) (by decide) ?_
        refine WL.x (X.assign rfl) (by decide) ?_
        refine WL.nil ?_
        refine WK.nThen ?_
        refine WC.ret ?_
        refine WK.rBlock ?_
        refine WK.rThen ?_
        refine WK.rThen ?_
        refine WK.rBlock ?_
        refine WK.rThen ?_
        refine WK.ret2 rfl rfl rfl (fun w' hw' => Ret.exact hw' ?_)
        first | (have hc := chk_big (s := s) (by omega); exact tup2 (int_eq (by rw [hc])) (int_eq (by rw [hc]))) | (have hc := chk_v (s := s) (k := k) (by omega) (by omega) hall (by unfold badV; omega); exact tup2 (int_eq (by rw [hc])) (int_eq (by rw [hc]))) | (have hc := chk_x (s := s) (k := i) (by omega) hV (by omega) hall2 (by unfold badX; omega); exact tup2 (int_eq (by rw [hc])) (int_eq (by rw [hc]))) | (have hc := chk_ok (s := s) (by omega) hV (fun j hj => hall2 j (by omega)); exact tup2 (int_eq (by rw [hc])) (int_eq (by rw [hc])))
      ·refine WL.nil ?_
       refine WK.nThen ?_
       refine WC.seq ?_
       refine WC.condF rfl ?_
       refine WC.exit ?_
       refine WK.eThen ?_
       refine WK.eThen ?_
       refine WK.eHit ?_
       refine WK.nThen ?_
       refine WC.seq ?_
       refine WC.region ?_
       refine WL.x (X.assign rfl) (by decide) ?_
       refine WL.x (X.assign rfl) (by decide) ?_
       refine WL.nil ?_
       refine WK.nThen ?_
       refine WC.ret ?_
       refine WK.ret2 rfl rfl rfl (fun w' hw' => Ret.exact hw' ?_)
       first | (have hc := chk_big (s := s) (by omega); exact tup2 (int_eq (by rw [hc])) (int_eq (by rw [hc]))) | (have hc := chk_v (s := s) (k := k) (by omega) (by omega) hall (by unfold badV; omega); exact tup2 (int_eq (by rw [hc])) (int_eq (by rw [hc]))) | (have hc := chk_x (s := s) (k := i) (by omega) hV (by omega) hall2 (by unfold badX; omega); exact tup2 (int_eq (by rw [hc])) (int_eq (by rw [hc]))) | (have hc := chk_ok (s := s) (by omega) hV (fun j hj => hall2 j (by omega)); exact tup2 (int_eq (by rw [hc])) (int_eq (by rw [hc])))

theorem checked81 (m : Mem) (vl : Value) (l : List Ser) (hl : Sl m vl l)   : Exact Try.prog 81 #[vl] m (.int .i64 (seq0 l)) := by
 have ll := hl.le
 refine Exact.start Try.func81 rfl Try.ntmps81 rfl fun wld => ?_
 refine WC.seq ?_
 refine WC.region ?_
 refine WL.x (X.assign rfl) (by decide) ?_
 refine WL.nil ?_
 refine WK.nThen ?_
 refine WC.seq ?_
 refine WC.seq ?_
 refine WC.region ?_
 refine WL.x (X.move rfl) (by decide) ?_
 refine WL.x (X.len Try.runUnderlying179 rfl hl) (by decide) ?_
 refine WL.x (X.move rfl) (by decide) ?_
 refine WL.nil ?_
 refine WK.nThen ?_
 refine WC.block ?_
 refine WC.loop (G := Nat) (fun k => l.length - k) (fun k => m) (fun k => []) (fun k => [(7, vl), (8, .int .i64 (↑l.length)), (9, .int .i64 (↑k))]) (fun k => k ≤ l.length ∧ (∀ j, j < k → chkE (gt l j) = 0)) 0 rfl (.refl _) (.cons rfl (.cons rfl (.cons rfl .nil))) ?_ ?_
 ·exact ⟨Nat.zero_le _, fun j hj => absurd hj (Nat.not_lt_zero _)⟩
 ·rintro k hF1
  show WK _ _ m [] [(7, vl), (8, .int .i64 (↑l.length)), (9, .int .i64 (↑k))] _
  replace hF1 : k ≤ l.length ∧ (∀ j, j < k → chkE (gt l j) = 0) := hF1
  obtain ⟨hk, hall⟩ := hF1
  refine WC.seq ?_
  refine WC.region ?_
  refine WL.cond (X.lss rfl rfl) (by decide) (fun h2 => ?_) (fun h2 => ?_)
  ·refine WL.nil ?_
   refine WK.nThen ?_
   refine WC.seq ?_
   refine WC.condT rfl ?_
   refine WC.skip ?_
   refine WK.nThen ?_
   refine WC.seq ?_
   refine WC.block ?_
   refine WC.seq ?_
   refine WC.region ?_
   refine WL.xe (E.idxN k Try.runUnderlying179 Try.sizeOf25 rfl rfl hl (by omega)) (by decide) (fun p3 hp4 => ?_)
   refine WL.xe (E.loadAgg Try.isAgg25 Try.sizeOf25 rfl hp4) (by decide) (fun c5 hc6 => ?_)
   obtain ⟨v7, v9, rfl, hs8, hs10⟩ := hc6
   have hl11 := hs8.le
   have hl12 := hs10.le
   refine WL.tn (T.alloc Try.zeroValue25 rfl) (by decide) fun b13 => ?_
   refine WL.ts (T.storeBA (k := 0) Try.sizeOf25 rfl rfl rfl (one_cons hs8.one (one_cons hs10.one one_nil)) rfl rfl) ?_
   refine WL.nil ?_
   refine WK.nThen ?_
   refine WC.seq ?_
   refine WC.region ?_
   refine WL.x (X.loadBA (k := 0) Try.isAgg25 Try.sizeOf25 rfl rfl rfl) (by decide) ?_
   refine WL.x (X.call Try.call34 rfl (check34 _ _ (gt l k) ⟨_, _, rfl, hs8, hs10⟩ )) (by decide) ?_
   refine WL.x (X.move rfl) (by decide) ?_
   refine WL.x (X.extract rfl rfl) (by decide) ?_
   refine WL.x (X.extract rfl rfl) (by decide) ?_
   refine WL.x (X.assign rfl) (by decide) ?_
   refine WL.x (X.assign rfl) (by decide) ?_
   refine WL.nil ?_
   refine WK.nThen ?_
   refine WC.seq ?_
   refine WC.region ?_
   refine WL.x (X.move rfl) (by decide) ?_
   refine WL.condn (X.neq rfl rfl) (by decide) (fun h14 => ?_) (fun h14 => ?_)
   ·refine WL.nil ?_
    refine WK.nThen ?_
    refine WC.condT rfl ?_
    refine WC.seq ?_
    refine WC.region ?_
    refine WL.x (X.move rfl) (by decide) ?_
    refine WL.x (X.assign rfl) (by decide) ?_
    refine WL.nil ?_
    refine WK.nThen ?_
    refine WC.ret ?_
    refine WK.rBlock ?_
    refine WK.rThen ?_
    refine WK.rThen ?_
    refine WK.rBlock ?_
    refine WK.rThen ?_
    refine WK.ret1 rfl rfl (fun w' hw' => Ret.exact hw' ?_)
    first | exact int_eq (seq0_bad (by omega) hall (by assumption)).symm | exact int_eq (seq0_ok (fun j hj => hall j (by omega))).symm
   ·refine WL.nil ?_
    refine WK.nThen ?_
    refine WC.condF rfl ?_
    refine WC.skip ?_
    refine WK.nBlock ?_
    refine WK.nThen ?_
    refine WC.region ?_
    refine WL.x (X.add rfl rfl (by omega) (by omega)) (by decide) ?_
    refine WL.x (X.move rfl) (by decide) ?_
    refine WL.nil ?_
    refine WK.nThen ?_
    refine WK.next (k + 1) rfl (.cons _ .slnil) (.cons rfl (.cons rfl (.cons rfl .nil))) ?_ ?_
    ·exact ⟨by omega, fun j hj => by rcases Nat.lt_succ_iff_lt_or_eq.1 hj with h | h; exact hall j h; subst h; (have h0 : (chk (gt l j)).1 = 0 := (by omega); exact h0)⟩
    ·omega
  ·refine WL.nil ?_
   refine WK.nThen ?_
   refine WC.seq ?_
   refine WC.condF rfl ?_
   refine WC.exit ?_
   refine WK.eThen ?_
   refine WK.eThen ?_
   refine WK.eHit ?_
   refine WK.nThen ?_
   refine WC.seq ?_
   refine WC.region ?_
   refine WL.x (X.assign rfl) (by decide) ?_
   refine WL.nil ?_
   refine WK.nThen ?_
   refine WC.ret ?_
   refine WK.ret1 rfl rfl (fun w' hw' => Ret.exact hw' ?_)
   first | exact int_eq (seq0_bad (by omega) hall (by assumption)).symm | exact int_eq (seq0_ok (fun j hj => hall j (by omega))).symm

theorem checked81_1 (m : Mem) (v : Value) {s : Ser} (h : Sl m v [s]) : Exact Try.prog 81 #[v] m (.int .i64 (chkE s)) := by have := checked81 m v _ h; rwa [seq0_one] at this
theorem checked81_2 (m : Mem) (v : Value) {s t : Ser} (h : Sl m v [s, t]) : Exact Try.prog 81 #[v] m (.int .i64 (twoE s t)) := by have := checked81 m v _ h; rwa [seq0_two] at this

theorem agree112 (m : Mem) (cr : List Value) (r : Ser) (hr : Enc.rd m cr r) (cp : List Value) (p : Pick) (hp : Enc.rd m cp p)   : Exact Try.prog 112 #[.agg cr.toArray, .agg cp.toArray] m (.bool (decide (agreeP r p.levels p.shifts))) := by
 obtain ⟨v1, v3, rfl, hs2, hs4⟩ := hr
 have hl5 := hs2.le
 have hl6 := hs4.le
 obtain ⟨v7, v9, rfl, hs8, hs10⟩ := hp
 have hl11 := hs8.le
 have hl12 := hs10.le
 refine Exact.start Try.func112 rfl Try.ntmps112 rfl fun wld => ?_
 refine WC.seq ?_
 refine WC.region ?_
 refine WL.tn (T.boxB rfl rfl) (by decide) fun b13 => ?_
 refine WL.tn (T.boxB rfl rfl) (by decide) fun b14 => ?_
 refine WL.x (X.assign rfl) (by decide) ?_
 refine WL.nil ?_
 refine WK.nThen ?_
 refine WC.seq ?_
 refine WC.seq ?_
 refine WC.region ?_
 refine WL.x (X.field Try.runUnderlying151 rfl Try.sizeOf28 rfl) (by decide) ?_
 refine WL.x (X.loadB (k := 0) Try.isAgg28 rfl rfl rfl) (by decide) ?_
 refine WL.x (X.len Try.runUnderlying28 rfl hs8) (by decide) ?_
 refine WL.x (X.field Try.runUnderlying111 rfl Try.sizeOf25 rfl) (by decide) ?_
 refine WL.x (X.field Try.runUnderlying25 rfl Try.sizeOf22 rfl) (by decide) ?_
 refine WL.x (X.loadB (k := 1) Try.isAgg22 rfl rfl rfl) (by decide) ?_
 refine WL.x (X.len Try.runUnderlying22 rfl hs2) (by decide) ?_
 refine WL.condn (X.neq rfl rfl) (by decide) (fun h15 => ?_) (fun h15 => ?_)
 ·refine WL.x (X.move rfl) (by decide) ?_
  refine WL.no rfl rfl rfl (by decide) ?_
  refine WL.no rfl rfl rfl (by decide) ?_
  refine WL.no rfl rfl rfl (by decide) ?_
  refine WL.no rfl rfl rfl (by decide) ?_
  refine WL.no rfl rfl rfl (by decide) ?_
  refine WL.no rfl rfl rfl (by decide) ?_
  refine WL.no rfl rfl rfl (by decide) ?_
  refine WL.no rfl rfl rfl (by decide) ?_
  refine WL.x (X.pickT rfl rfl rfl) (by decide) ?_
  refine WL.nil ?_
  refine WK.nThen ?_
  refine WC.condT rfl ?_
  refine WC.seq ?_
  refine WC.region ?_
  refine WL.x (X.assign rfl) (by decide) ?_
  refine WL.nil ?_
  refine WK.nThen ?_
  refine WC.ret ?_
  refine WK.rThen ?_
  refine WK.ret1 rfl rfl (fun w' hw' => Ret.exact hw' ?_)
  first | exact bool_false (fun h => by have h1 := h.1; omega) | exact bool_false (fun h => by have h1 := h.2.1 k (by omega); omega) | exact bool_false (fun h => by have h1 := h.2.2 i (by omega); omega) | exact bool_true ⟨by omega, hV, fun j hj => hall2 j (by omega)⟩
 ·refine WL.x (X.move rfl) (by decide) ?_
  refine WL.yes rfl rfl ?_
  refine WL.x (X.field Try.runUnderlying151 rfl Try.sizeOf28 rfl) (by decide) ?_
  refine WL.yes rfl rfl ?_
  refine WL.x (X.loadB (k := 0) Try.isAgg28 rfl rfl rfl) (by decide) ?_
  refine WL.yes rfl rfl ?_
  refine WL.x (X.len Try.runUnderlying28 rfl hs10) (by decide) ?_
  refine WL.yes rfl rfl ?_
  refine WL.x (X.field Try.runUnderlying111 rfl Try.sizeOf25 rfl) (by decide) ?_
  refine WL.yes rfl rfl ?_
  refine WL.x (X.field Try.runUnderlying25 rfl Try.sizeOf23 rfl) (by decide) ?_
  refine WL.yes rfl rfl ?_
  refine WL.x (X.loadB (k := 1) Try.isAgg23 rfl rfl rfl) (by decide) ?_
  refine WL.yes rfl rfl ?_
  refine WL.x (X.len Try.runUnderlying23 rfl hs4) (by decide) ?_
  refine WL.yes rfl rfl ?_
  refine WL.condn (X.neq rfl rfl) (by decide) (fun h16 => ?_) (fun h16 => ?_)
  ·refine WL.x (X.pickF rfl rfl rfl) (by decide) ?_
   refine WL.nil ?_
   refine WK.nThen ?_
   refine WC.condT rfl ?_
   refine WC.seq ?_
   refine WC.region ?_
   refine WL.x (X.assign rfl) (by decide) ?_
   refine WL.nil ?_
   refine WK.nThen ?_
   refine WC.ret ?_
   refine WK.rThen ?_
   refine WK.ret1 rfl rfl (fun w' hw' => Ret.exact hw' ?_)
   first | exact bool_false (fun h => by have h1 := h.1; omega) | exact bool_false (fun h => by have h1 := h.2.1 k (by omega); omega) | exact bool_false (fun h => by have h1 := h.2.2 i (by omega); omega) | exact bool_true ⟨by omega, hV, fun j hj => hall2 j (by omega)⟩
  ·refine WL.x (X.pickF rfl rfl rfl) (by decide) ?_
   refine WL.nil ?_
   refine WK.nThen ?_
   refine WC.condF rfl ?_
   refine WC.skip ?_
   refine WK.nThen ?_
   refine WC.seq ?_
   refine WC.seq ?_
   refine WC.region ?_
   refine WL.x (X.field Try.runUnderlying111 rfl Try.sizeOf25 rfl) (by decide) ?_
   refine WL.x (X.field Try.runUnderlying25 rfl Try.sizeOf22 rfl) (by decide) ?_
   refine WL.x (X.loadB (k := 1) Try.isAgg22 rfl rfl rfl) (by decide) ?_
   refine WL.x (X.len Try.runUnderlying22 rfl hs2) (by decide) ?_
   refine WL.x (X.move rfl) (by decide) ?_
   refine WL.nil ?_
   refine WK.nThen ?_
   refine WC.block ?_
   refine WC.loop (G := Nat) (fun k => r.Values.length - k) (fun k => m) (fun k => [blk b14 151 [v7, v9], blk b13 111 [v1, v3]]) (fun k => [(2, .pointer (some ⟨b13, 0, none⟩)), (3, .pointer (some ⟨b14, 0, none⟩)), (29, v1), (30, .int .i64 (↑r.Values.length)), (31, .int .i64 (↑k))]) (fun k => k ≤ r.Values.length ∧ (∀ j, j < k → (gt r.Values j).Levels.Lo ≤ gt p.levels j ∧ gt p.levels j ≤ (gt r.Values j).Levels.Hi)) 0 rfl (.refl _) (.cons rfl (.cons rfl (.cons rfl (.cons rfl (.cons rfl .nil))))) ?_ ?_
   ·exact ⟨Nat.zero_le _, fun j hj => absurd hj (Nat.not_lt_zero _)⟩
   ·rintro k hF17
    show WK _ _ m [blk b14 151 [v7, v9], blk b13 111 [v1, v3]] [(2, .pointer (some ⟨b13, 0, none⟩)), (3, .pointer (some ⟨b14, 0, none⟩)), (29, v1), (30, .int .i64 (↑r.Values.length)), (31, .int .i64 (↑k))] _
    replace hF17 : k ≤ r.Values.length ∧ (∀ j, j < k → (gt r.Values j).Levels.Lo ≤ gt p.levels j ∧ gt p.levels j ≤ (gt r.Values j).Levels.Hi) := hF17
    obtain ⟨hk, hall⟩ := hF17
    refine WC.seq ?_
    refine WC.region ?_
    refine WL.cond (X.lss rfl rfl) (by decide) (fun h18 => ?_) (fun h18 => ?_)
    ·refine WL.nil ?_
     refine WK.nThen ?_
     refine WC.seq ?_
     refine WC.condT rfl ?_
     refine WC.skip ?_
     refine WK.nThen ?_
     refine WC.seq ?_
     refine WC.block ?_
     refine WC.seq ?_
     refine WC.region ?_
     refine WL.x (X.move rfl) (by decide) ?_
     refine WL.xe (E.idxN k Try.runUnderlying22 Try.sizeOf62 rfl rfl hs2 (by omega)) (by decide) (fun p19 hp20 => ?_)
     refine WL.xe (E.loadAgg Try.isAgg62 Try.sizeOf62 rfl hp20) (by decide) (fun c21 hc22 => ?_)
     obtain rfl := hc22
     refine WL.tn (T.alloc Try.zeroValue62 rfl) (by decide) fun b23 => ?_
     refine WL.x (X.assign rfl) (by decide) ?_
     refine WL.ts (T.storeBA (k := 0) Try.sizeOf62 rfl rfl rfl (one_cons rfl (one_cons rfl (one_cons rfl one_nil))) rfl rfl) ?_
     refine WL.nil ?_
     refine WK.nThen ?_
     refine WC.seq ?_
     refine WC.draw (π := (.cons 0 (.cons 1 (.cons 2 (.cons 3 (.cons 4 (.cons 5 (.cons 6 (.cons 7 (.cons 8 (.cons 9 (.cons 10 (.cons 11 (.cons 12 .done)))))))))))))) [] [] rfl (by kernel_rfl) ?_
     refine DW.x rfl rfl (X.field Try.runUnderlying151 rfl Try.sizeOf28 rfl) (by decide) ?_
     refine DW.x rfl rfl (X.loadB (k := 1) Try.isAgg28 rfl rfl rfl) (by decide) ?_
     refine DW.x rfl rfl (X.move rfl) (by decide) ?_
     refine DW.xe rfl rfl (E.idxN k Try.runUnderlying28 Try.sizeOf3 rfl rfl hs8 (by omega)) (by decide) (fun p24 hp25 => ?_)
     refine DW.x rfl rfl (X.loadInt Try.isAgg3 rfl hp25) (by decide) ?_
     refine DW.x rfl rfl (X.field Try.runUnderlying62 rfl Try.sizeOf33 rfl) (by decide) ?_
     refine DW.x rfl rfl (X.field Try.runUnderlying33 rfl Try.sizeOf3 rfl) (by decide) ?_
     refine DW.x rfl rfl (X.loadB (k := 0) Try.isAgg3 rfl rfl rfl) (by decide) ?_
     refine DW.x rfl rfl (X.field Try.runUnderlying62 rfl Try.sizeOf33 rfl) (by decide) ?_
     refine DW.x rfl rfl (X.field Try.runUnderlying33 rfl Try.sizeOf3 rfl) (by decide) ?_
     refine DW.x rfl rfl (X.loadB (k := 0) Try.isAgg3 rfl rfl rfl) (by decide) ?_
     refine DW.cond rfl rfl (X.call Try.call82 rfl (within82 _ _ _ _ )) (by decide) (fun h26 => ?_) (fun h26 => ?_)
     ·refine DW.x rfl rfl (X.not rfl) (by decide) ?_
      refine DW.nil ?_
      refine WK.nThen ?_
      refine WC.condF rfl ?_
      refine WC.skip ?_
      refine WK.nBlock ?_
      refine WK.nThen ?_
      refine WC.region ?_
      refine WL.x (X.add rfl rfl (by omega) (by omega)) (by decide) ?_
      refine WL.x (X.move rfl) (by decide) ?_
      refine WL.nil ?_
      refine WK.nThen ?_
      refine WK.next (k + 1) rfl (.cons _ (.cons_cons _ (.cons_cons _ .slnil))) (.cons rfl (.cons rfl (.cons rfl (.cons rfl (.cons rfl .nil))))) ?_ ?_
      ·exact ⟨by omega, fun j hj => by rcases Nat.lt_succ_iff_lt_or_eq.1 hj with h | h; exact hall j h; subst h; omega⟩
      ·omega
     ·refine DW.x rfl rfl (X.not rfl) (by decide) ?_
      refine DW.nil ?_
      refine WK.nThen ?_
      refine WC.condT rfl ?_
      refine WC.seq ?_
      refine WC.region ?_
      refine WL.x (X.assign rfl) (by decide) ?_
      refine WL.nil ?_
      refine WK.nThen ?_
      refine WC.ret ?_
      refine WK.rBlock ?_
      refine WK.rThen ?_
      refine WK.rThen ?_
      refine WK.rBlock ?_
      refine WK.rThen ?_
      refine WK.ret1 rfl rfl (fun w' hw' => Ret.exact hw' ?_)
      first | exact bool_false (fun h => by have h1 := h.1; omega) | exact bool_false (fun h => by have h1 := h.2.1 k (by omega); omega) | exact bool_false (fun h => by have h1 := h.2.2 i (by omega); omega) | exact bool_true ⟨by omega, hV, fun j hj => hall2 j (by omega)⟩
    ·refine WL.nil ?_
     refine WK.nThen ?_
     refine WC.seq ?_
     refine WC.condF rfl ?_
     refine WC.exit ?_
     refine WK.eThen ?_
     refine WK.eThen ?_
     refine WK.eHit ?_
     refine WK.nThen ?_
     refine WC.seq ?_
     refine WC.seq ?_
     have hV : ∀ j, j < r.Values.length → (gt r.Values j).Levels.Lo ≤ gt p.levels j ∧ gt p.levels j ≤ (gt r.Values j).Levels.Hi := fun j hj => hall j (by omega)
     refine WC.region ?_
     refine WL.x (X.field Try.runUnderlying111 rfl Try.sizeOf25 rfl) (by decide) ?_
     refine WL.x (X.field Try.runUnderlying25 rfl Try.sizeOf23 rfl) (by decide) ?_
     refine WL.x (X.loadB (k := 1) Try.isAgg23 rfl rfl rfl) (by decide) ?_
     refine WL.x (X.len Try.runUnderlying23 rfl hs4) (by decide) ?_
     refine WL.x (X.move rfl) (by decide) ?_
     refine WL.nil ?_
     refine WK.nThen ?_
     refine WC.block ?_
     refine WC.loop (G := Nat) (fun i => r.Shifts.length - i) (fun i => m) (fun i => [blk b14 151 [v7, v9], blk b13 111 [v1, v3]]) (fun i => [(3, .pointer (some ⟨b14, 0, none⟩)), (52, v3), (53, .int .i64 (↑r.Shifts.length)), (54, .int .i64 (↑i))]) (fun i => i ≤ r.Shifts.length ∧ (∀ j, j < i → (gt r.Shifts j).Levels.Lo ≤ gt p.shifts j ∧ gt p.shifts j ≤ (gt r.Shifts j).Levels.Hi)) 0 rfl (.refl _) (.cons rfl (.cons rfl (.cons rfl (.cons rfl .nil)))) ?_ ?_
     ·exact ⟨Nat.zero_le _, fun j hj => absurd hj (Nat.not_lt_zero _)⟩
     ·rintro i hF27
      show WK _ _ m [blk b14 151 [v7, v9], blk b13 111 [v1, v3]] [(3, .pointer (some ⟨b14, 0, none⟩)), (52, v3), (53, .int .i64 (↑r.Shifts.length)), (54, .int .i64 (↑i))] _
      replace hF27 : i ≤ r.Shifts.length ∧ (∀ j, j < i → (gt r.Shifts j).Levels.Lo ≤ gt p.shifts j ∧ gt p.shifts j ≤ (gt r.Shifts j).Levels.Hi) := hF27
      obtain ⟨hi, hall2⟩ := hF27
      refine WC.seq ?_
      refine WC.region ?_
      refine WL.cond (X.lss rfl rfl) (by decide) (fun h28 => ?_) (fun h28 => ?_)
      ·refine WL.nil ?_
       refine WK.nThen ?_
       refine WC.seq ?_
       refine WC.condT rfl ?_
       refine WC.skip ?_
       refine WK.nThen ?_
       refine WC.seq ?_
       refine WC.block ?_
       refine WC.seq ?_
       refine WC.region ?_
       refine WL.x (X.move rfl) (by decide) ?_
       refine WL.xe (E.idxN i Try.runUnderlying23 Try.sizeOf72 rfl rfl hs4 (by omega)) (by decide) (fun p29 hp30 => ?_)
       refine WL.xe (E.loadAgg Try.isAgg72 Try.sizeOf72 rfl hp30) (by decide) (fun c31 hc32 => ?_)
       obtain rfl := hc32
       refine WL.tn (T.alloc Try.zeroValue72 rfl) (by decide) fun b33 => ?_
       refine WL.x (X.assign rfl) (by decide) ?_
       refine WL.ts (T.storeBA (k := 0) Try.sizeOf72 rfl rfl rfl (one_cons rfl (one_cons rfl (one_cons rfl one_nil))) rfl rfl) ?_
       refine WL.nil ?_
       refine WK.nThen ?_
       refine WC.seq ?_
       refine WC.draw (π := (.cons 0 (.cons 1 (.cons 2 (.cons 3 (.cons 4 (.cons 5 (.cons 6 (.cons 7 (.cons 8 (.cons 9 (.cons 10 (.cons 11 (.cons 12 .done)))))))))))))) [] [] rfl (by kernel_rfl) ?_
       refine DW.x rfl rfl (X.field Try.runUnderlying151 rfl Try.sizeOf28 rfl) (by decide) ?_
       refine DW.x rfl rfl (X.loadB (k := 1) Try.isAgg28 rfl rfl rfl) (by decide) ?_
       refine DW.x rfl rfl (X.move rfl) (by decide) ?_
       refine DW.xe rfl rfl (E.idxN i Try.runUnderlying28 Try.sizeOf3 rfl rfl hs10 (by omega)) (by decide) (fun p34 hp35 => ?_)
       refine DW.x rfl rfl (X.loadInt Try.isAgg3 rfl hp35) (by decide) ?_
       refine DW.x rfl rfl (X.field Try.runUnderlying72 rfl Try.sizeOf33 rfl) (by decide) ?_
       refine DW.x rfl rfl (X.field Try.runUnderlying33 rfl Try.sizeOf3 rfl) (by decide) ?_
       refine DW.x rfl rfl (X.loadB (k := 0) Try.isAgg3 rfl rfl rfl) (by decide) ?_
       refine DW.x rfl rfl (X.field Try.runUnderlying72 rfl Try.sizeOf33 rfl) (by decide) ?_
       refine DW.x rfl rfl (X.field Try.runUnderlying33 rfl Try.sizeOf3 rfl) (by decide) ?_
       refine DW.x rfl rfl (X.loadB (k := 0) Try.isAgg3 rfl rfl rfl) (by decide) ?_
       refine DW.cond rfl rfl (X.call Try.call82 rfl (within82 _ _ _ _ )) (by decide) (fun h36 => ?_) (fun h36 => ?_)
       ·refine DW.x rfl rfl (X.not rfl) (by decide) ?_
        refine DW.nil ?_
        refine WK.nThen ?_
        refine WC.condF rfl ?_
        refine WC.skip ?_
        refine WK.nBlock ?_
        refine WK.nThen ?_
        refine WC.region ?_
        refine WL.x (X.add rfl rfl (by omega) (by omega)) (by decide) ?_
        refine WL.x (X.move rfl) (by decide) ?_
        refine WL.nil ?_
        refine WK.nThen ?_
        refine WK.next (i + 1) rfl (.cons _ (.cons_cons _ (.cons_cons _ .slnil))) (.cons rfl (.cons rfl (.cons rfl (.cons rfl .nil)))) ?_ ?_
        ·exact ⟨by omega, fun j hj => by rcases Nat.lt_succ_iff_lt_or_eq.1 hj with h | h; exact hall2 j h; subst h; omega⟩
        ·omega
       ·refine DW.x rfl rfl (X.not rfl) (by decide) ?_
        refine DW.nil ?_
        refine WK.nThen ?_
        refine WC.condT rfl ?_
        refine WC.seq ?_
        refine WC.region ?_
        refine WL.x (X.assign rfl) (by decide) ?_
        refine WL.nil ?_
        refine WK.nThen ?_
        refine WC.ret ?_
        refine WK.rBlock ?_
        refine WK.rThen ?_
        refine WK.rThen ?_
        refine WK.rBlock ?_
        refine WK.rThen ?_
        refine WK.ret1 rfl rfl (fun w' hw' => Ret.exact hw' ?_)
        first | exact bool_false (fun h => by have h1 := h.1; omega) | exact bool_false (fun h => by have h1 := h.2.1 k (by omega); omega) | exact bool_false (fun h => by have h1 := h.2.2 i (by omega); omega) | exact bool_true ⟨by omega, hV, fun j hj => hall2 j (by omega)⟩
      ·refine WL.nil ?_
       refine WK.nThen ?_
       refine WC.seq ?_
       refine WC.condF rfl ?_
       refine WC.exit ?_
       refine WK.eThen ?_
       refine WK.eThen ?_
       refine WK.eHit ?_
       refine WK.nThen ?_
       refine WC.seq ?_
       refine WC.region ?_
       refine WL.x (X.assign rfl) (by decide) ?_
       refine WL.nil ?_
       refine WK.nThen ?_
       refine WC.ret ?_
       refine WK.ret1 rfl rfl (fun w' hw' => Ret.exact hw' ?_)
       first | exact bool_false (fun h => by have h1 := h.1; omega) | exact bool_false (fun h => by have h1 := h.2.1 k (by omega); omega) | exact bool_false (fun h => by have h1 := h.2.2 i (by omega); omega) | exact bool_true ⟨by omega, hV, fun j hj => hall2 j (by omega)⟩

theorem keeps52 (m : Mem) (cs : List Value) (s : Ser) (hs : Enc.rd m cs s) (vlevels : Value) (levels : List Int) (hlevels : Sl m vlevels levels) (vshifts : Value) (shifts : List Int) (hshifts : Sl m vshifts shifts)   : Exact Try.prog 52 #[.agg cs.toArray, vlevels, vshifts] m (.int .i64 (keepsE s levels shifts)) := by
 obtain ⟨v1, v3, rfl, hs2, hs4⟩ := hs
 have hl5 := hs2.le
 have hl6 := hs4.le
 have llevels := hlevels.le
 have lshifts := hshifts.le
 refine Exact.start Try.func52 rfl Try.ntmps52 rfl fun wld => ?_
 refine WC.seq ?_
 refine WC.region ?_
 refine WL.tn (T.boxB rfl rfl) (by decide) fun b7 => ?_
 refine WL.x (X.assign rfl) (by decide) ?_
 refine WL.nil ?_
 refine WK.nThen ?_
 refine WC.seq ?_
 refine WC.seq ?_
 refine WC.region ?_
 refine WL.x (X.loadBA (k := 0) Try.isAgg25 Try.sizeOf25 rfl rfl rfl) (by decide) ?_
 refine WL.tm (T.litM (α := Ser) (vals := [.agg [v1, v3].toArray]) (L := [s]) sl179 rfl (.cons rfl ⟨_, _, rfl, hs2, hs4⟩ .nil) rfl rfl) (by decide) (fun m8 v9 hle10 hs11 => ?_)
 replace hs2 := hs2.mono hle10
 replace hs4 := hs4.mono hle10
 replace hlevels := hlevels.mono hle10
 replace hshifts := hshifts.mono hle10
 refine WL.x (X.call Try.call81 rfl (checked81_1 _ _ hs11)) (by decide) ?_
 refine WL.x (X.assign rfl) (by decide) ?_
 refine WL.nil ?_
 refine WK.nThen ?_
 refine WC.seq ?_
 refine WC.region ?_
 refine WL.x (X.move rfl) (by decide) ?_
 refine WL.condn (X.neq rfl rfl) (by decide) (fun h12 => ?_) (fun h12 => ?_)
 ·refine WL.nil ?_
  refine WK.nThen ?_
  refine WC.condT rfl ?_
  refine WC.seq ?_
  refine WC.region ?_
  refine WL.x (X.move rfl) (by decide) ?_
  refine WL.x (X.assign rfl) (by decide) ?_
  refine WL.nil ?_
  refine WK.nThen ?_
  refine WC.ret ?_
  refine WK.rThen ?_
  refine WK.ret1 rfl rfl (fun w' hw' => Ret.exact hw' ?_)
  first | exact int_eq (by unfold keepsE; rw [if_pos (by omega)]) | exact int_eq (by unfold keepsE; rw [if_neg (by omega), if_neg (by assumption)]) | exact int_eq (by unfold keepsE; rw [if_neg (by omega), if_pos (by assumption)])
 ·refine WL.nil ?_
  refine WK.nThen ?_
  refine WC.condF rfl ?_
  refine WC.skip ?_
  refine WK.nThen ?_
  refine WC.seq ?_
  refine WC.seq ?_
  refine WC.region ?_
  refine WL.x (X.loadBA (k := 0) Try.isAgg25 Try.sizeOf25 rfl rfl rfl) (by decide) ?_
  refine WL.x (V := Value.agg [v1, v3].toArray) (X.build Try.zeroValue111 Try.runUnderlying111 (places111 _ Try.underlying111) rfl rfl) (by decide) ?_
  refine WL.x (X.move rfl) (by decide) ?_
  refine WL.x (X.move rfl) (by decide) ?_
  refine WL.x (V := Value.agg [vlevels, vshifts].toArray) (X.build Try.zeroValue151 Try.runUnderlying151 (places151 _ Try.underlying151) rfl (by simp only [Instr.fill, one_cells hlevels.one, one_cells hshifts.one]; rfl)) (by decide) ?_
  refine WL.cond (X.call Try.call112 rfl (agree112 _ _ s ⟨_, _, rfl, hs2, hs4⟩ _ ((Pick.mk (levels) (shifts))) ⟨_, _, rfl, hlevels, hshifts⟩ )) (by decide) (fun h13 => ?_) (fun h13 => ?_)
  ·refine WL.x (X.not rfl) (by decide) ?_
   refine WL.nil ?_
   refine WK.nThen ?_
   refine WC.condF rfl ?_
   refine WC.skip ?_
   refine WK.nThen ?_
   refine WC.seq ?_
   refine WC.region ?_
   refine WL.x (X.assign rfl) (by decide) ?_
   refine WL.nil ?_
   refine WK.nThen ?_
   refine WC.ret ?_
   refine WK.ret1 rfl rfl (fun w' hw' => Ret.exact hw' ?_)
   first | exact int_eq (by unfold keepsE; rw [if_pos (by omega)]) | exact int_eq (by unfold keepsE; rw [if_neg (by omega), if_neg (by assumption)]) | exact int_eq (by unfold keepsE; rw [if_neg (by omega), if_pos (by assumption)])
  ·refine WL.x (X.not rfl) (by decide) ?_
   refine WL.nil ?_
   refine WK.nThen ?_
   refine WC.condT rfl ?_
   refine WC.seq ?_
   refine WC.region ?_
   refine WL.x (X.assign rfl) (by decide) ?_
   refine WL.nil ?_
   refine WK.nThen ?_
   refine WC.ret ?_
   refine WK.rThen ?_
   refine WK.ret1 rfl rfl (fun w' hw' => Ret.exact hw' ?_)
   first | exact int_eq (by unfold keepsE; rw [if_pos (by omega)]) | exact int_eq (by unfold keepsE; rw [if_neg (by omega), if_neg (by assumption)]) | exact int_eq (by unfold keepsE; rw [if_neg (by omega), if_pos (by assumption)])

theorem low145 (m : Mem) (cr : List Value) (r : Ser) (hr : Enc.rd m cr r)  (hok : Ok r) : Pure Try.prog 145 #[.agg cr.toArray] m (fun m' v => ∃ r0, v = .agg r0.toArray ∧ Enc.rd m' r0 (lowP r)) := by
 obtain ⟨v1, v3, rfl, hs2, hs4⟩ := hr
 have hl5 := hs2.le
 have hl6 := hs4.le
 have hnV := hok.nV
 have hnX := hok.nX
 refine Pure.start Try.func145 rfl Try.ntmps145 rfl fun wld => ?_
 refine WC.seq ?_
 refine WC.region ?_
 refine WL.tn (T.boxB rfl rfl) (by decide) fun b7 => ?_
 refine WL.tn (T.alloc Try.zeroValue151 rfl) (by decide) fun b8 => ?_
 refine WL.nil ?_
 refine WK.nThen ?_
 refine WC.seq ?_
 refine WC.region ?_
 refine WL.tn (T.alloc Try.zeroValue151 rfl) (by decide) fun b9 => ?_
 refine WL.nil ?_
 refine WK.nThen ?_
 refine WC.seq ?_
 refine WC.seq ?_
 refine WK.ownF Int 3 ?_
 refine WK.ownF Int 3 ?_
 refine WC.region ?_
 refine WL.x (X.field Try.runUnderlying111 rfl Try.sizeOf25 rfl) (by decide) ?_
 refine WL.x (X.field Try.runUnderlying25 rfl Try.sizeOf22 rfl) (by decide) ?_
 refine WL.x (X.loadB (k := 4) Try.isAgg22 rfl rfl rfl) (by decide) ?_
 refine WL.x (X.len Try.runUnderlying22 rfl hs2) (by decide) ?_
 refine WL.x (X.move rfl) (by decide) ?_
 refine WL.nil ?_
 refine WK.nThen ?_
 refine WC.block ?_
 refine WC.loop (G := Nat × Value) (fun (k, va) => r.Values.length - k) (fun (k, va) => m) (fun (k, va) => [rowF ((.slice none 0 0)) 3 (([] : List Int)), rowF (va) 3 ((List.range k).map (fun i => (gt r.Values i).Levels.Lo)), blk b9 151 [va, (.slice none 0 0)], blk b8 151 [.slice none 0 0, .slice none 0 0], blk b7 111 [v1, v3]]) (fun (k, va) => [(1, .pointer (some ⟨b7, 0, none⟩)), (2, .pointer (some ⟨b8, 0, none⟩)), (3, .pointer (some ⟨b9, 0, none⟩)), (10, v1), (11, .int .i64 (↑r.Values.length)), (12, .int .i64 (↑k))]) (fun (k, va) => k ≤ r.Values.length) ((0, Value.slice none 0 0)) rfl (.refl _) (.cons rfl (.cons rfl (.cons rfl (.cons rfl (.cons rfl (.cons rfl .nil)))))) ?_ ?_
 ·exact Nat.zero_le _
 ·rintro ⟨k, va⟩ hF10
  show WK _ _ m [rowF ((.slice none 0 0)) 3 (([] : List Int)), rowF (va) 3 ((List.range k).map (fun i => (gt r.Values i).Levels.Lo)), blk b9 151 [va, (.slice none 0 0)], blk b8 151 [.slice none 0 0, .slice none 0 0], blk b7 111 [v1, v3]] [(1, .pointer (some ⟨b7, 0, none⟩)), (2, .pointer (some ⟨b8, 0, none⟩)), (3, .pointer (some ⟨b9, 0, none⟩)), (10, v1), (11, .int .i64 (↑r.Values.length)), (12, .int .i64 (↑k))] _
  replace hF10 : k ≤ r.Values.length := hF10
  have hk := hF10
  refine WC.seq ?_
  refine WC.region ?_
  refine WL.cond (X.lss rfl rfl) (by decide) (fun h11 => ?_) (fun h11 => ?_)
  ·refine WL.nil ?_
   refine WK.nThen ?_
   refine WC.seq ?_
   refine WC.condT rfl ?_
   refine WC.skip ?_
   refine WK.nThen ?_
   refine WC.seq ?_
   refine WC.block ?_
   refine WC.seq ?_
   refine WC.region ?_
   refine WL.xe (E.idxN k Try.runUnderlying22 Try.sizeOf62 rfl rfl hs2 (by omega)) (by decide) (fun p12 hp13 => ?_)
   refine WL.xe (E.loadAgg Try.isAgg62 Try.sizeOf62 rfl hp13) (by decide) (fun c14 hc15 => ?_)
   obtain rfl := hc15
   refine WL.tn (T.alloc Try.zeroValue62 rfl) (by decide) fun b16 => ?_
   refine WL.ts (T.storeBA (k := 0) Try.sizeOf62 rfl rfl rfl (one_cons rfl (one_cons rfl (one_cons rfl one_nil))) rfl rfl) ?_
   refine WL.nil ?_
   refine WK.nThen ?_
   refine WC.region ?_
   refine WL.x (X.field Try.runUnderlying151 rfl Try.sizeOf28 rfl) (by decide) ?_
   refine WL.x (X.loadB (k := 3) Try.isAgg28 rfl rfl rfl) (by decide) ?_
   refine WL.x (X.field Try.runUnderlying62 rfl Try.sizeOf33 rfl) (by decide) ?_
   refine WL.x (X.field Try.runUnderlying33 rfl Try.sizeOf3 rfl) (by decide) ?_
   refine WL.x (X.loadB (k := 0) Try.isAgg3 rfl rfl rfl) (by decide) ?_
   refine WL.tl (T.lit1 sl28 rfl rfl rfl (by decide)) (by decide) fun b17 => ?_
   refine WL.ta (T.appendF (k := 2) (a := ((gt r.Values k).Levels).Lo) sl28 rfl rfl rfl rfl (by first | omega | (simp; done) | (simp; omega)) (by decide)) (by decide) (fun v18 => ?_)
   refine WL.x (X.field Try.runUnderlying151 rfl Try.sizeOf28 rfl) (by decide) ?_
   refine WL.own1 (k := 2) rfl (fun ho19 => ?_)
   refine WL.ts (T.storeB (k := 3) Try.sizeOf28 rfl rfl rfl ho19 (Nat.le_of_ble_eq_true rfl)) ?_
   refine WL.nil ?_
   refine WK.nBlock ?_
   refine WK.nThen ?_
   refine WC.region ?_
   refine WL.x (X.add rfl rfl (by omega) (by omega)) (by decide) ?_
   refine WL.x (X.move rfl) (by decide) ?_
   refine WL.nil ?_
   refine WK.nThen ?_
   have he20 : (((List.range k).map (fun i => (gt r.Values i).Levels.Lo)) ++ [((gt r.Values k).Levels).Lo]) = ((List.range (k + 1)).map (fun i => (gt r.Values i).Levels.Lo)) := map_succ _ _
   rw [he20]
   refine WK.next ((k + 1, v18)) rfl (.cons _ (.cons_cons _ (.cons_cons _ (.cons_cons _ (.cons_cons _ (.cons_cons _ .slnil)))))) (.cons rfl (.cons rfl (.cons rfl (.cons rfl (.cons rfl (.cons rfl .nil)))))) ?_ ?_
   ·omega
   ·(dsimp only; omega)
  ·refine WL.nil ?_
   refine WK.nThen ?_
   refine WC.seq ?_
   refine WC.condF rfl ?_
   refine WC.exit ?_
   refine WK.eThen ?_
   refine WK.eThen ?_
   refine WK.eHit ?_
   refine WK.nThen ?_
   refine WC.seq ?_
   refine WC.seq ?_
   refine WC.region ?_
   refine WL.x (X.field Try.runUnderlying111 rfl Try.sizeOf25 rfl) (by decide) ?_
   refine WL.x (X.field Try.runUnderlying25 rfl Try.sizeOf23 rfl) (by decide) ?_
   refine WL.x (X.loadB (k := 4) Try.isAgg23 rfl rfl rfl) (by decide) ?_
   refine WL.x (X.len Try.runUnderlying23 rfl hs4) (by decide) ?_
   refine WL.x (X.move rfl) (by decide) ?_
   refine WL.nil ?_
   refine WK.nThen ?_
   refine WC.block ?_
   refine WC.loop (G := Nat × Value) (fun (i, vb) => r.Shifts.length - i) (fun (i, vb) => m) (fun (i, vb) => [rowF (vb) 3 ((List.range i).map (fun i => (gt r.Shifts i).Levels.Hi)), rowF (va) 3 ((List.range k).map (fun i => (gt r.Values i).Levels.Lo)), blk b9 151 [va, vb], blk b8 151 [.slice none 0 0, .slice none 0 0], blk b7 111 [v1, v3]]) (fun (i, vb) => [(2, .pointer (some ⟨b8, 0, none⟩)), (3, .pointer (some ⟨b9, 0, none⟩)), (27, v3), (28, .int .i64 (↑r.Shifts.length)), (29, .int .i64 (↑i))]) (fun (i, vb) => i ≤ r.Shifts.length) ((0, (Value.slice none 0 0))) rfl (.refl _) (.cons rfl (.cons rfl (.cons rfl (.cons rfl (.cons rfl .nil))))) ?_ ?_
   ·exact Nat.zero_le _
   ·rintro ⟨i, vb⟩ hF21
    show WK _ _ m [rowF (vb) 3 ((List.range i).map (fun i => (gt r.Shifts i).Levels.Hi)), rowF (va) 3 ((List.range k).map (fun i => (gt r.Values i).Levels.Lo)), blk b9 151 [va, vb], blk b8 151 [.slice none 0 0, .slice none 0 0], blk b7 111 [v1, v3]] [(2, .pointer (some ⟨b8, 0, none⟩)), (3, .pointer (some ⟨b9, 0, none⟩)), (27, v3), (28, .int .i64 (↑r.Shifts.length)), (29, .int .i64 (↑i))] _
    replace hF21 : i ≤ r.Shifts.length := hF21
    have hi := hF21
    refine WC.seq ?_
    refine WC.region ?_
    refine WL.cond (X.lss rfl rfl) (by decide) (fun h22 => ?_) (fun h22 => ?_)
    ·refine WL.nil ?_
     refine WK.nThen ?_
     refine WC.seq ?_
     refine WC.condT rfl ?_
     refine WC.skip ?_
     refine WK.nThen ?_
     refine WC.seq ?_
     refine WC.block ?_
     refine WC.seq ?_
     refine WC.region ?_
     refine WL.xe (E.idxN i Try.runUnderlying23 Try.sizeOf72 rfl rfl hs4 (by omega)) (by decide) (fun p23 hp24 => ?_)
     refine WL.xe (E.loadAgg Try.isAgg72 Try.sizeOf72 rfl hp24) (by decide) (fun c25 hc26 => ?_)
     obtain rfl := hc26
     refine WL.tn (T.alloc Try.zeroValue72 rfl) (by decide) fun b27 => ?_
     refine WL.ts (T.storeBA (k := 0) Try.sizeOf72 rfl rfl rfl (one_cons rfl (one_cons rfl (one_cons rfl one_nil))) rfl rfl) ?_
     refine WL.nil ?_
     refine WK.nThen ?_
     refine WC.region ?_
     refine WL.x (X.field Try.runUnderlying151 rfl Try.sizeOf28 rfl) (by decide) ?_
     refine WL.x (X.loadB (k := 3) Try.isAgg28 rfl rfl rfl) (by decide) ?_
     refine WL.x (X.field Try.runUnderlying72 rfl Try.sizeOf33 rfl) (by decide) ?_
     refine WL.x (X.field Try.runUnderlying33 rfl Try.sizeOf3 rfl) (by decide) ?_
     refine WL.x (X.loadB (k := 0) Try.isAgg3 rfl rfl rfl) (by decide) ?_
     refine WL.tl (T.lit1 sl28 rfl rfl rfl (by decide)) (by decide) fun b28 => ?_
     refine WL.ta (T.appendF (k := 1) (a := ((gt r.Shifts i).Levels).Hi) sl28 rfl rfl rfl rfl (by first | omega | (simp; done) | (simp; omega)) (by decide)) (by decide) (fun v29 => ?_)
     refine WL.x (X.field Try.runUnderlying151 rfl Try.sizeOf28 rfl) (by decide) ?_
     refine WL.own1 (k := 1) rfl (fun ho30 => ?_)
     refine WL.ts (T.storeB (k := 3) Try.sizeOf28 rfl rfl rfl ho30 (Nat.le_of_ble_eq_true rfl)) ?_
     refine WL.nil ?_
     refine WK.nBlock ?_
     refine WK.nThen ?_
     refine WC.region ?_
     refine WL.x (X.add rfl rfl (by omega) (by omega)) (by decide) ?_
     refine WL.x (X.move rfl) (by decide) ?_
     refine WL.nil ?_
     refine WK.nThen ?_
     have he31 : (((List.range i).map (fun i => (gt r.Shifts i).Levels.Hi)) ++ [((gt r.Shifts i).Levels).Hi]) = ((List.range (i + 1)).map (fun i => (gt r.Shifts i).Levels.Hi)) := map_succ _ _
     rw [he31]
     refine WK.next ((i + 1, v29)) rfl (.cons _ (.refl _)) (.cons rfl (.cons rfl (.cons rfl (.cons rfl (.cons rfl .nil))))) ?_ ?_
     ·omega
     ·(dsimp only; omega)
    ·refine WL.nil ?_
     refine WK.nThen ?_
     refine WC.seq ?_
     refine WC.condF rfl ?_
     refine WC.exit ?_
     refine WK.eThen ?_
     refine WK.eThen ?_
     refine WK.eHit ?_
     refine WK.nThen ?_
     refine WC.seq ?_
     obtain rfl : k = r.Values.length := (by omega)
     obtain rfl : i = r.Shifts.length := (by omega)
     refine WC.region ?_
     refine WL.x (X.loadBA (k := 2) Try.isAgg151 Try.sizeOf151 rfl rfl rfl) (by decide) ?_
     refine WL.own1 (k := 1) rfl (fun ho32 => ?_)
     refine WL.own1 (k := 0) rfl (fun ho33 => ?_)
     refine WL.ts (T.storeBA (k := 3) Try.sizeOf151 rfl rfl rfl (one_cons ho32 (one_cons ho33 one_nil)) rfl rfl) ?_
     refine WL.nil ?_
     refine WK.nThen ?_
     refine WC.ret ?_
     refine WK.freezeF 1 rfl rfl (by simp [lenB]; omega) (fun m34 hle35 hs36 => ?_)
     replace hs2 := hs2.mono hle35
     replace hs4 := hs4.mono hle35
     refine WK.freezeF 0 rfl rfl (by simp [lenB]; omega) (fun m37 hle38 hs39 => ?_)
     replace hs2 := hs2.mono hle38
     replace hs4 := hs4.mono hle38
     replace hs36 := hs36.mono hle38
     refine WK.retC1 1 rfl rfl rfl Try.isAgg151 Try.sizeOf151 (fun w' hw' => Ret.mem hw' ?_)
     exact ⟨_, rfl, ⟨_, _, rfl, hs36, hs39⟩⟩

theorem high146 (m : Mem) (cr : List Value) (r : Ser) (hr : Enc.rd m cr r)  (hok : Ok r) : Pure Try.prog 146 #[.agg cr.toArray] m (fun m' v => ∃ r0, v = .agg r0.toArray ∧ Enc.rd m' r0 (highP r)) := by
 obtain ⟨v1, v3, rfl, hs2, hs4⟩ := hr
 have hl5 := hs2.le
 have hl6 := hs4.le
 have hnV := hok.nV
 have hnX := hok.nX
 refine Pure.start Try.func146 rfl Try.ntmps146 rfl fun wld => ?_
 refine WC.seq ?_
 refine WC.region ?_
 refine WL.tn (T.boxB rfl rfl) (by decide) fun b7 => ?_
 refine WL.tn (T.alloc Try.zeroValue151 rfl) (by decide) fun b8 => ?_
 refine WL.nil ?_
 refine WK.nThen ?_
 refine WC.seq ?_
 refine WC.region ?_
 refine WL.tn (T.alloc Try.zeroValue151 rfl) (by decide) fun b9 => ?_
 refine WL.nil ?_
 refine WK.nThen ?_
 refine WC.seq ?_
 refine WC.seq ?_
 refine WK.ownF Int 3 ?_
 refine WK.ownF Int 3 ?_
 refine WC.region ?_
 refine WL.x (X.field Try.runUnderlying111 rfl Try.sizeOf25 rfl) (by decide) ?_
 refine WL.x (X.field Try.runUnderlying25 rfl Try.sizeOf22 rfl) (by decide) ?_
 refine WL.x (X.loadB (k := 4) Try.isAgg22 rfl rfl rfl) (by decide) ?_
 refine WL.x (X.len Try.runUnderlying22 rfl hs2) (by decide) ?_
 refine WL.x (X.move rfl) (by decide) ?_
 refine WL.nil ?_
 refine WK.nThen ?_
 refine WC.block ?_
 refine WC.loop (G := Nat × Value) (fun (k, va) => r.Values.length - k) (fun (k, va) => m) (fun (k, va) => [rowF ((.slice none 0 0)) 3 (([] : List Int)), rowF (va) 3 ((List.range k).map (fun i => (gt r.Values i).Levels.Hi)), blk b9 151 [va, (.slice none 0 0)], blk b8 151 [.slice none 0 0, .slice none 0 0], blk b7 111 [v1, v3]]) (fun (k, va) => [(1, .pointer (some ⟨b7, 0, none⟩)), (2, .pointer (some ⟨b8, 0, none⟩)), (3, .pointer (some ⟨b9, 0, none⟩)), (10, v1), (11, .int .i64 (↑r.Values.length)), (12, .int .i64 (↑k))]) (fun (k, va) => k ≤ r.Values.length) ((0, Value.slice none 0 0)) rfl (.refl _) (.cons rfl (.cons rfl (.cons rfl (.cons rfl (.cons rfl (.cons rfl .nil)))))) ?_ ?_
 ·exact Nat.zero_le _
 ·rintro ⟨k, va⟩ hF10
  show WK _ _ m [rowF ((.slice none 0 0)) 3 (([] : List Int)), rowF (va) 3 ((List.range k).map (fun i => (gt r.Values i).Levels.Hi)), blk b9 151 [va, (.slice none 0 0)], blk b8 151 [.slice none 0 0, .slice none 0 0], blk b7 111 [v1, v3]] [(1, .pointer (some ⟨b7, 0, none⟩)), (2, .pointer (some ⟨b8, 0, none⟩)), (3, .pointer (some ⟨b9, 0, none⟩)), (10, v1), (11, .int .i64 (↑r.Values.length)), (12, .int .i64 (↑k))] _
  replace hF10 : k ≤ r.Values.length := hF10
  have hk := hF10
  refine WC.seq ?_
  refine WC.region ?_
  refine WL.cond (X.lss rfl rfl) (by decide) (fun h11 => ?_) (fun h11 => ?_)
  ·refine WL.nil ?_
   refine WK.nThen ?_
   refine WC.seq ?_
   refine WC.condT rfl ?_
   refine WC.skip ?_
   refine WK.nThen ?_
   refine WC.seq ?_
   refine WC.block ?_
   refine WC.seq ?_
   refine WC.region ?_
   refine WL.xe (E.idxN k Try.runUnderlying22 Try.sizeOf62 rfl rfl hs2 (by omega)) (by decide) (fun p12 hp13 => ?_)
   refine WL.xe (E.loadAgg Try.isAgg62 Try.sizeOf62 rfl hp13) (by decide) (fun c14 hc15 => ?_)
   obtain rfl := hc15
   refine WL.tn (T.alloc Try.zeroValue62 rfl) (by decide) fun b16 => ?_
   refine WL.ts (T.storeBA (k := 0) Try.sizeOf62 rfl rfl rfl (one_cons rfl (one_cons rfl (one_cons rfl one_nil))) rfl rfl) ?_
   refine WL.nil ?_
   refine WK.nThen ?_
   refine WC.region ?_
   refine WL.x (X.field Try.runUnderlying151 rfl Try.sizeOf28 rfl) (by decide) ?_
   refine WL.x (X.loadB (k := 3) Try.isAgg28 rfl rfl rfl) (by decide) ?_
   refine WL.x (X.field Try.runUnderlying62 rfl Try.sizeOf33 rfl) (by decide) ?_
   refine WL.x (X.field Try.runUnderlying33 rfl Try.sizeOf3 rfl) (by decide) ?_
   refine WL.x (X.loadB (k := 0) Try.isAgg3 rfl rfl rfl) (by decide) ?_
   refine WL.tl (T.lit1 sl28 rfl rfl rfl (by decide)) (by decide) fun b17 => ?_
   refine WL.ta (T.appendF (k := 2) (a := ((gt r.Values k).Levels).Hi) sl28 rfl rfl rfl rfl (by first | omega | (simp; done) | (simp; omega)) (by decide)) (by decide) (fun v18 => ?_)
   refine WL.x (X.field Try.runUnderlying151 rfl Try.sizeOf28 rfl) (by decide) ?_
   refine WL.own1 (k := 2) rfl (fun ho19 => ?_)
   refine WL.ts (T.storeB (k := 3) Try.sizeOf28 rfl rfl rfl ho19 (Nat.le_of_ble_eq_true rfl)) ?_
   refine WL.nil ?_
   refine WK.nBlock ?_
   refine WK.nThen ?_
   refine WC.region ?_
   refine WL.x (X.add rfl rfl (by omega) (by omega)) (by decide) ?_
   refine WL.x (X.move rfl) (by decide) ?_
   refine WL.nil ?_
   refine WK.nThen ?_
   have he20 : (((List.range k).map (fun i => (gt r.Values i).Levels.Hi)) ++ [((gt r.Values k).Levels).Hi]) = ((List.range (k + 1)).map (fun i => (gt r.Values i).Levels.Hi)) := map_succ _ _
   rw [he20]
   refine WK.next ((k + 1, v18)) rfl (.cons _ (.cons_cons _ (.cons_cons _ (.cons_cons _ (.cons_cons _ (.cons_cons _ .slnil)))))) (.cons rfl (.cons rfl (.cons rfl (.cons rfl (.cons rfl (.cons rfl .nil)))))) ?_ ?_
   ·omega
   ·(dsimp only; omega)
  ·refine WL.nil ?_
   refine WK.nThen ?_
   refine WC.seq ?_
   refine WC.condF rfl ?_
   refine WC.exit ?_
   refine WK.eThen ?_
   refine WK.eThen ?_
   refine WK.eHit ?_
   refine WK.nThen ?_
   refine WC.seq ?_
   refine WC.seq ?_
   refine WC.region ?_
   refine WL.x (X.field Try.runUnderlying111 rfl Try.sizeOf25 rfl) (by decide) ?_
   refine WL.x (X.field Try.runUnderlying25 rfl Try.sizeOf23 rfl) (by decide) ?_
   refine WL.x (X.loadB (k := 4) Try.isAgg23 rfl rfl rfl) (by decide) ?_
   refine WL.x (X.len Try.runUnderlying23 rfl hs4) (by decide) ?_
   refine WL.x (X.move rfl) (by decide) ?_
   refine WL.nil ?_
   refine WK.nThen ?_
   refine WC.block ?_
   refine WC.loop (G := Nat × Value) (fun (i, vb) => r.Shifts.length - i) (fun (i, vb) => m) (fun (i, vb) => [rowF (vb) 3 ((List.range i).map (fun i => (gt r.Shifts i).Levels.Lo)), rowF (va) 3 ((List.range k).map (fun i => (gt r.Values i).Levels.Hi)), blk b9 151 [va, vb], blk b8 151 [.slice none 0 0, .slice none 0 0], blk b7 111 [v1, v3]]) (fun (i, vb) => [(2, .pointer (some ⟨b8, 0, none⟩)), (3, .pointer (some ⟨b9, 0, none⟩)), (27, v3), (28, .int .i64 (↑r.Shifts.length)), (29, .int .i64 (↑i))]) (fun (i, vb) => i ≤ r.Shifts.length) ((0, (Value.slice none 0 0))) rfl (.refl _) (.cons rfl (.cons rfl (.cons rfl (.cons rfl (.cons rfl .nil))))) ?_ ?_
   ·exact Nat.zero_le _
   ·rintro ⟨i, vb⟩ hF21
    show WK _ _ m [rowF (vb) 3 ((List.range i).map (fun i => (gt r.Shifts i).Levels.Lo)), rowF (va) 3 ((List.range k).map (fun i => (gt r.Values i).Levels.Hi)), blk b9 151 [va, vb], blk b8 151 [.slice none 0 0, .slice none 0 0], blk b7 111 [v1, v3]] [(2, .pointer (some ⟨b8, 0, none⟩)), (3, .pointer (some ⟨b9, 0, none⟩)), (27, v3), (28, .int .i64 (↑r.Shifts.length)), (29, .int .i64 (↑i))] _
    replace hF21 : i ≤ r.Shifts.length := hF21
    have hi := hF21
    refine WC.seq ?_
    refine WC.region ?_
    refine WL.cond (X.lss rfl rfl) (by decide) (fun h22 => ?_) (fun h22 => ?_)
    ·refine WL.nil ?_
     refine WK.nThen ?_
     refine WC.seq ?_
     refine WC.condT rfl ?_
     refine WC.skip ?_
     refine WK.nThen ?_
     refine WC.seq ?_
     refine WC.block ?_
     refine WC.seq ?_
     refine WC.region ?_
     refine WL.xe (E.idxN i Try.runUnderlying23 Try.sizeOf72 rfl rfl hs4 (by omega)) (by decide) (fun p23 hp24 => ?_)
     refine WL.xe (E.loadAgg Try.isAgg72 Try.sizeOf72 rfl hp24) (by decide) (fun c25 hc26 => ?_)
     obtain rfl := hc26
     refine WL.tn (T.alloc Try.zeroValue72 rfl) (by decide) fun b27 => ?_
     refine WL.ts (T.storeBA (k := 0) Try.sizeOf72 rfl rfl rfl (one_cons rfl (one_cons rfl (one_cons rfl one_nil))) rfl rfl) ?_
     refine WL.nil ?_
     refine WK.nThen ?_
     refine WC.region ?_
     refine WL.x (X.field Try.runUnderlying151 rfl Try.sizeOf28 rfl) (by decide) ?_
     refine WL.x (X.loadB (k := 3) Try.isAgg28 rfl rfl rfl) (by decide) ?_
     refine WL.x (X.field Try.runUnderlying72 rfl Try.sizeOf33 rfl) (by decide) ?_
     refine WL.x (X.field Try.runUnderlying33 rfl Try.sizeOf3 rfl) (by decide) ?_
     refine WL.x (X.loadB (k := 0) Try.isAgg3 rfl rfl rfl) (by decide) ?_
     refine WL.tl (T.lit1 sl28 rfl rfl rfl (by decide)) (by decide) fun b28 => ?_
     refine WL.ta (T.appendF (k := 1) (a := ((gt r.Shifts i).Levels).Lo) sl28 rfl rfl rfl rfl (by first | omega | (simp; done) | (simp; omega)) (by decide)) (by decide) (fun v29 => ?_)
     refine WL.x (X.field Try.runUnderlying151 rfl Try.sizeOf28 rfl) (by decide) ?_
     refine WL.own1 (k := 1) rfl (fun ho30 => ?_)
     refine WL.ts (T.storeB (k := 3) Try.sizeOf28 rfl rfl rfl ho30 (Nat.le_of_ble_eq_true rfl)) ?_
     refine WL.nil ?_
     refine WK.nBlock ?_
     refine WK.nThen ?_
     refine WC.region ?_
     refine WL.x (X.add rfl rfl (by omega) (by omega)) (by decide) ?_
     refine WL.x (X.move rfl) (by decide) ?_
     refine WL.nil ?_
     refine WK.nThen ?_
     have he31 : (((List.range i).map (fun i => (gt r.Shifts i).Levels.Lo)) ++ [((gt r.Shifts i).Levels).Lo]) = ((List.range (i + 1)).map (fun i => (gt r.Shifts i).Levels.Lo)) := map_succ _ _
     rw [he31]
     refine WK.next ((i + 1, v29)) rfl (.cons _ (.refl _)) (.cons rfl (.cons rfl (.cons rfl (.cons rfl (.cons rfl .nil))))) ?_ ?_
     ·omega
     ·(dsimp only; omega)
    ·refine WL.nil ?_
     refine WK.nThen ?_
     refine WC.seq ?_
     refine WC.condF rfl ?_
     refine WC.exit ?_
     refine WK.eThen ?_
     refine WK.eThen ?_
     refine WK.eHit ?_
     refine WK.nThen ?_
     refine WC.seq ?_
     obtain rfl : k = r.Values.length := (by omega)
     obtain rfl : i = r.Shifts.length := (by omega)
     refine WC.region ?_
     refine WL.x (X.loadBA (k := 2) Try.isAgg151 Try.sizeOf151 rfl rfl rfl) (by decide) ?_
     refine WL.own1 (k := 1) rfl (fun ho32 => ?_)
     refine WL.own1 (k := 0) rfl (fun ho33 => ?_)
     refine WL.ts (T.storeBA (k := 3) Try.sizeOf151 rfl rfl rfl (one_cons ho32 (one_cons ho33 one_nil)) rfl rfl) ?_
     refine WL.nil ?_
     refine WK.nThen ?_
     refine WC.ret ?_
     refine WK.freezeF 1 rfl rfl (by simp [lenB]; omega) (fun m34 hle35 hs36 => ?_)
     replace hs2 := hs2.mono hle35
     replace hs4 := hs4.mono hle35
     refine WK.freezeF 0 rfl rfl (by simp [lenB]; omega) (fun m37 hle38 hs39 => ?_)
     replace hs2 := hs2.mono hle38
     replace hs4 := hs4.mono hle38
     replace hs36 := hs36.mono hle38
     refine WK.retC1 1 rfl rfl rfl Try.isAgg151 Try.sizeOf151 (fun w' hw' => Ret.mem hw' ?_)
     exact ⟨_, rfl, ⟨_, _, rfl, hs36, hs39⟩⟩

end Go.Proofs.C8
