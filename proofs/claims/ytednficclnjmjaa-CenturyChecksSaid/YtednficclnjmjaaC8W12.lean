import Derived.Test.YtednficclnjmjaaC8Ref
import Derived.Test.YtednficclnjmjaaC8W11
/- Century: walks, twelfth part, by program. -/
namespace Go.Proofs.C8
open Go Go.Kx
set_option linter.unusedSimpArgs false

theorem agree113 (m : Mem) (cs : List Value) (s : Ser) (hs : Enc.rd m cs s) (vlevels : Value) (levels : List Int) (hlevels : Sl m vlevels levels) (vshifts : Value) (shifts : List Int) (hshifts : Sl m vshifts shifts)   : Exact Try.prog 113 #[.agg cs.toArray, vlevels, vshifts] m (.bool (decide (agreeP s levels shifts))) := by
 obtain ⟨v1, v3, rfl, hs2, hs4⟩ := hs
 have hl5 := hs2.le
 have hl6 := hs4.le
 have llevels := hlevels.le
 have lshifts := hshifts.le
 refine Exact.start Try.func113 rfl Try.ntmps113 rfl fun wld => ?_
 refine WC.seq ?_
 refine WC.region ?_
 refine WL.tn (T.boxB rfl rfl) (by decide) fun b7 => ?_
 refine WL.x (X.assign rfl) (by decide) ?_
 refine WL.nil ?_
 refine WK.nThen ?_
 refine WC.seq ?_
 refine WC.seq ?_
 refine WC.region ?_
 refine WL.x (X.move rfl) (by decide) ?_
 refine WL.x (X.len Try.runUnderlying28 rfl hlevels) (by decide) ?_
 refine WL.x (X.field Try.runUnderlying25 rfl Try.sizeOf22 rfl) (by decide) ?_
 refine WL.x (X.loadB (k := 0) Try.isAgg22 rfl rfl rfl) (by decide) ?_
 refine WL.x (X.len Try.runUnderlying22 rfl hs2) (by decide) ?_
 refine WL.condn (X.neq rfl rfl) (by decide) (fun h8 => ?_) (fun h8 => ?_)
 ·refine WL.x (X.move rfl) (by decide) ?_
  refine WL.no rfl rfl rfl (by decide) ?_
  refine WL.no rfl rfl rfl (by decide) ?_
  refine WL.no rfl rfl rfl (by decide) ?_
  refine WL.no rfl rfl rfl (by decide) ?_
  refine WL.no rfl rfl rfl (by decide) ?_
  refine WL.no rfl rfl rfl (by decide) ?_
  refine WL.x (X.pickT rfl rfl rfl) (by decide) ?_
  refine WL.nil ?_
  refine WK.nThen ?_
  refine WC.condT rfl ?_
  refine WC.seq ?_
  refine WC.region ?_
  refine WL.x (X.assign rfl) (by decide) ?_
  refine WL.nil ?_
  refine WK.nThen ?_
  refine WC.ret ?_
  refine WK.rThen ?_
  refine WK.ret1 rfl rfl (fun w' hw' => Ret.exact hw' ?_)
  first | exact bool_false (fun h => by have h1 := h.1; omega) | exact bool_false (fun h => by have h1 := h.2.1 k (by omega); omega) | exact bool_false (fun h => by have h1 := h.2.2 i (by omega); omega) | exact bool_true ⟨by omega, hV, fun j hj => hall2 j (by omega)⟩
 ·refine WL.x (X.move rfl) (by decide) ?_
  refine WL.yes rfl rfl ?_
  refine WL.x (X.move rfl) (by decide) ?_
  refine WL.yes rfl rfl ?_
  refine WL.x (X.len Try.runUnderlying28 rfl hshifts) (by decide) ?_
  refine WL.yes rfl rfl ?_
  refine WL.x (X.field Try.runUnderlying25 rfl Try.sizeOf23 rfl) (by decide) ?_
  refine WL.yes rfl rfl ?_
  refine WL.x (X.loadB (k := 0) Try.isAgg23 rfl rfl rfl) (by decide) ?_
  refine WL.yes rfl rfl ?_
  refine WL.x (X.len Try.runUnderlying23 rfl hs4) (by decide) ?_
  refine WL.yes rfl rfl ?_
  refine WL.condn (X.neq rfl rfl) (by decide) (fun h9 => ?_) (fun h9 => ?_)
  ·refine WL.x (X.pickF rfl rfl rfl) (by decide) ?_
   refine WL.nil ?_
   refine WK.nThen ?_
   refine WC.condT rfl ?_
   refine WC.seq ?_
   refine WC.region ?_
   refine WL.x (X.assign rfl) (by decide) ?_
   refine WL.nil ?_
   refine WK.nThen ?_
   refine WC.ret ?_
   refine WK.rThen ?_
   refine WK.ret1 rfl rfl (fun w' hw' => Ret.exact hw' ?_)
   first | exact bool_false (fun h => by have h1 := h.1; omega) | exact bool_false (fun h => by have h1 := h.2.1 k (by omega); omega) | exact bool_false (fun h => by have h1 := h.2.2 i (by omega); omega) | exact bool_true ⟨by omega, hV, fun j hj => hall2 j (by omega)⟩
  ·refine WL.x (X.pickF rfl rfl rfl) (by decide) ?_
   refine WL.nil ?_
   refine WK.nThen ?_
   refine WC.condF rfl ?_
   refine WC.skip ?_
   refine WK.nThen ?_
   refine WC.seq ?_
   refine WC.seq ?_
   refine WC.region ?_
   refine WL.x (X.assign rfl) (by decide) ?_
   refine WL.nil ?_
   refine WK.nThen ?_
   refine WC.block ?_
   refine WC.loop (G := Nat) (fun k => s.Values.length - k) (fun k => m) (fun k => [blk b7 25 [v1, v3]]) (fun k => [(1, vlevels), (2, vshifts), (3, .pointer (some ⟨b7, 0, none⟩)), (7, .int .i64 (↑k))]) (fun k => k ≤ s.Values.length ∧ (∀ j, j < k → (gt s.Values j).Levels.Lo ≤ gt levels j ∧ gt levels j ≤ (gt s.Values j).Levels.Hi)) 0 rfl (.refl _) (.cons rfl (.cons rfl (.cons rfl (.cons rfl .nil)))) ?_ ?_
   ·exact ⟨Nat.zero_le _, fun j hj => absurd hj (Nat.not_lt_zero _)⟩
   ·rintro k hF10
    show WK _ _ m [blk b7 25 [v1, v3]] [(1, vlevels), (2, vshifts), (3, .pointer (some ⟨b7, 0, none⟩)), (7, .int .i64 (↑k))] _
    replace hF10 : k ≤ s.Values.length ∧ (∀ j, j < k → (gt s.Values j).Levels.Lo ≤ gt levels j ∧ gt levels j ≤ (gt s.Values j).Levels.Hi) := hF10
    obtain ⟨hk, hall⟩ := hF10
    refine WC.seq ?_
    refine WC.seq ?_
    refine WC.region ?_
    refine WL.x (X.move rfl) (by decide) ?_
    refine WL.x (X.move rfl) (by decide) ?_
    refine WL.x (X.len Try.runUnderlying28 rfl hlevels) (by decide) ?_
    refine WL.cond (X.lss rfl rfl) (by decide) (fun h11 => ?_) (fun h11 => ?_)
    ·refine WL.nil ?_
     refine WK.nThen ?_
     refine WC.condT rfl ?_
     refine WC.skip ?_
     refine WK.nThen ?_
     refine WC.seq ?_
     refine WC.block ?_
     refine WC.seq ?_
     refine WC.draw (π := (.cons 0 (.cons 1 (.cons 2 (.cons 3 (.cons 4 (.cons 5 (.cons 6 (.cons 7 (.cons 8 (.cons 9 (.cons 10 (.cons 11 (.cons 12 (.cons 13 (.cons 14 (.cons 15 (.cons 16 (.cons 17 (.cons 18 (.cons 19 .done))))))))))))))))))))) [] [] rfl (by kernel_rfl) ?_
     refine DW.x rfl rfl (X.move rfl) (by decide) ?_
     refine DW.x rfl rfl (X.move rfl) (by decide) ?_
     refine DW.xe rfl rfl (E.idxN k Try.runUnderlying28 Try.sizeOf3 rfl rfl hlevels (by omega)) (by decide) (fun p12 hp13 => ?_)
     refine DW.x rfl rfl (X.loadInt Try.isAgg3 rfl hp13) (by decide) ?_
     refine DW.x rfl rfl (X.field Try.runUnderlying25 rfl Try.sizeOf22 rfl) (by decide) ?_
     refine DW.x rfl rfl (X.loadB (k := 0) Try.isAgg22 rfl rfl rfl) (by decide) ?_
     refine DW.x rfl rfl (X.move rfl) (by decide) ?_
     refine DW.xe rfl rfl (E.idxN k Try.runUnderlying22 Try.sizeOf62 rfl rfl hs2 (by omega)) (by decide) (fun p14 hp15 => ?_)
     have hp16 := At.Val_1 hp15
     refine DW.x rfl rfl (X.field Try.runUnderlying62 rfl Try.sizeOf33 rfl) (by decide) ?_
     have hp17 := At.Span_0 hp16
     refine DW.x rfl rfl (X.field Try.runUnderlying33 rfl Try.sizeOf3 rfl) (by decide) ?_
     refine DW.x rfl rfl (X.loadInt Try.isAgg3 rfl hp17) (by decide) ?_
     refine DW.x rfl rfl (X.field Try.runUnderlying25 rfl Try.sizeOf22 rfl) (by decide) ?_
     refine DW.x rfl rfl (X.loadB (k := 0) Try.isAgg22 rfl rfl rfl) (by decide) ?_
     refine DW.x rfl rfl (X.move rfl) (by decide) ?_
     refine DW.xe rfl rfl (E.idxN k Try.runUnderlying22 Try.sizeOf62 rfl rfl hs2 (by omega)) (by decide) (fun p18 hp19 => ?_)
     have hp20 := At.Val_1 hp19
     refine DW.x rfl rfl (X.field Try.runUnderlying62 rfl Try.sizeOf33 rfl) (by decide) ?_
     have hp21 := At.Span_1 hp20
     refine DW.x rfl rfl (X.field Try.runUnderlying33 rfl Try.sizeOf3 rfl) (by decide) ?_
     refine DW.x rfl rfl (X.loadInt Try.isAgg3 rfl hp21) (by decide) ?_
     refine DW.cond rfl rfl (X.call Try.call86 rfl (within86 _ _ _ _ )) (by decide) (fun h22 => ?_) (fun h22 => ?_)
     ·refine DW.x rfl rfl (X.not rfl) (by decide) ?_
      refine DW.nil ?_
      refine WK.nThen ?_
      refine WC.condF rfl ?_
      refine WC.skip ?_
      refine WK.nBlock ?_
      refine WK.nThen ?_
      refine WC.region ?_
      refine WL.x (X.move rfl) (by decide) ?_
      refine WL.x (X.add rfl rfl (by omega) (by omega)) (by decide) ?_
      refine WL.x (X.assign rfl) (by decide) ?_
      refine WL.nil ?_
      refine WK.nThen ?_
      refine WK.next (k + 1) rfl (.refl _) (.cons rfl (.cons rfl (.cons rfl (.cons rfl .nil)))) ?_ ?_
      ·exact ⟨by omega, fun j hj => by rcases Nat.lt_succ_iff_lt_or_eq.1 hj with h | h; exact hall j h; subst h; omega⟩
      ·omega
     ·refine DW.x rfl rfl (X.not rfl) (by decide) ?_
      refine DW.nil ?_
      refine WK.nThen ?_
      refine WC.condT rfl ?_
      refine WC.seq ?_
      refine WC.region ?_
      refine WL.x (X.assign rfl) (by decide) ?_
      refine WL.nil ?_
      refine WK.nThen ?_
      refine WC.ret ?_
      refine WK.rBlock ?_
      refine WK.rThen ?_
      refine WK.rThen ?_
      refine WK.rBlock ?_
      refine WK.rThen ?_
      refine WK.ret1 rfl rfl (fun w' hw' => Ret.exact hw' ?_)
      first | exact bool_false (fun h => by have h1 := h.1; omega) | exact bool_false (fun h => by have h1 := h.2.1 k (by omega); omega) | exact bool_false (fun h => by have h1 := h.2.2 i (by omega); omega) | exact bool_true ⟨by omega, hV, fun j hj => hall2 j (by omega)⟩
    ·refine WL.nil ?_
     refine WK.nThen ?_
     refine WC.condF rfl ?_
     refine WC.exit ?_
     refine WK.eThen ?_
     refine WK.eThen ?_
     refine WK.eHit ?_
     refine WK.nThen ?_
     refine WC.seq ?_
     refine WC.seq ?_
     refine WC.region ?_
     refine WL.x (X.assign rfl) (by decide) ?_
     refine WL.nil ?_
     refine WK.nThen ?_
     refine WC.block ?_
     have hV : ∀ j, j < s.Values.length → (gt s.Values j).Levels.Lo ≤ gt levels j ∧ gt levels j ≤ (gt s.Values j).Levels.Hi := fun j hj => hall j (by omega)
     refine WC.loop (G := Nat) (fun i => s.Shifts.length - i) (fun i => m) (fun i => [blk b7 25 [v1, v3]]) (fun i => [(2, vshifts), (3, .pointer (some ⟨b7, 0, none⟩)), (8, .int .i64 (↑i))]) (fun i => i ≤ s.Shifts.length ∧ (∀ j, j < i → (gt s.Shifts j).Levels.Lo ≤ gt shifts j ∧ gt shifts j ≤ (gt s.Shifts j).Levels.Hi)) 0 rfl (.refl _) (.cons rfl (.cons rfl (.cons rfl .nil))) ?_ ?_
     ·exact ⟨Nat.zero_le _, fun j hj => absurd hj (Nat.not_lt_zero _)⟩
     ·rintro i hF23
      show WK _ _ m [blk b7 25 [v1, v3]] [(2, vshifts), (3, .pointer (some ⟨b7, 0, none⟩)), (8, .int .i64 (↑i))] _
      replace hF23 : i ≤ s.Shifts.length ∧ (∀ j, j < i → (gt s.Shifts j).Levels.Lo ≤ gt shifts j ∧ gt shifts j ≤ (gt s.Shifts j).Levels.Hi) := hF23
      obtain ⟨hi, hall2⟩ := hF23
      refine WC.seq ?_
      refine WC.seq ?_
      refine WC.region ?_
      refine WL.x (X.move rfl) (by decide) ?_
      refine WL.x (X.move rfl) (by decide) ?_
      refine WL.x (X.len Try.runUnderlying28 rfl hshifts) (by decide) ?_
      refine WL.cond (X.lss rfl rfl) (by decide) (fun h24 => ?_) (fun h24 => ?_)
      ·refine WL.nil ?_
       refine WK.nThen ?_
       refine WC.condT rfl ?_
       refine WC.skip ?_
       refine WK.nThen ?_
       refine WC.seq ?_
       refine WC.block ?_
       refine WC.seq ?_
       refine WC.draw (π := (.cons 0 (.cons 1 (.cons 2 (.cons 3 (.cons 4 (.cons 5 (.cons 6 (.cons 7 (.cons 8 (.cons 9 (.cons 10 (.cons 11 (.cons 12 (.cons 13 (.cons 14 (.cons 15 (.cons 16 (.cons 17 (.cons 18 (.cons 19 .done))))))))))))))))))))) [] [] rfl (by kernel_rfl) ?_
       refine DW.x rfl rfl (X.move rfl) (by decide) ?_
       refine DW.x rfl rfl (X.move rfl) (by decide) ?_
       refine DW.xe rfl rfl (E.idxN i Try.runUnderlying28 Try.sizeOf3 rfl rfl hshifts (by omega)) (by decide) (fun p25 hp26 => ?_)
       refine DW.x rfl rfl (X.loadInt Try.isAgg3 rfl hp26) (by decide) ?_
       refine DW.x rfl rfl (X.field Try.runUnderlying25 rfl Try.sizeOf23 rfl) (by decide) ?_
       refine DW.x rfl rfl (X.loadB (k := 0) Try.isAgg23 rfl rfl rfl) (by decide) ?_
       refine DW.x rfl rfl (X.move rfl) (by decide) ?_
       refine DW.xe rfl rfl (E.idxN i Try.runUnderlying23 Try.sizeOf72 rfl rfl hs4 (by omega)) (by decide) (fun p27 hp28 => ?_)
       have hp29 := At.Shf_1 hp28
       refine DW.x rfl rfl (X.field Try.runUnderlying72 rfl Try.sizeOf33 rfl) (by decide) ?_
       have hp30 := At.Span_0 hp29
       refine DW.x rfl rfl (X.field Try.runUnderlying33 rfl Try.sizeOf3 rfl) (by decide) ?_
       refine DW.x rfl rfl (X.loadInt Try.isAgg3 rfl hp30) (by decide) ?_
       refine DW.x rfl rfl (X.field Try.runUnderlying25 rfl Try.sizeOf23 rfl) (by decide) ?_
       refine DW.x rfl rfl (X.loadB (k := 0) Try.isAgg23 rfl rfl rfl) (by decide) ?_
       refine DW.x rfl rfl (X.move rfl) (by decide) ?_
       refine DW.xe rfl rfl (E.idxN i Try.runUnderlying23 Try.sizeOf72 rfl rfl hs4 (by omega)) (by decide) (fun p31 hp32 => ?_)
       have hp33 := At.Shf_1 hp32
       refine DW.x rfl rfl (X.field Try.runUnderlying72 rfl Try.sizeOf33 rfl) (by decide) ?_
       have hp34 := At.Span_1 hp33
       refine DW.x rfl rfl (X.field Try.runUnderlying33 rfl Try.sizeOf3 rfl) (by decide) ?_
       refine DW.x rfl rfl (X.loadInt Try.isAgg3 rfl hp34) (by decide) ?_
       refine DW.cond rfl rfl (X.call Try.call86 rfl (within86 _ _ _ _ )) (by decide) (fun h35 => ?_) (fun h35 => ?_)
       ·refine DW.x rfl rfl (X.not rfl) (by decide) ?_
        refine DW.nil ?_
        refine WK.nThen ?_
        refine WC.condF rfl ?_
        refine WC.skip ?_
        refine WK.nBlock ?_
        refine WK.nThen ?_
        refine WC.region ?_
        refine WL.x (X.move rfl) (by decide) ?_
        refine WL.x (X.add rfl rfl (by omega) (by omega)) (by decide) ?_
        refine WL.x (X.assign rfl) (by decide) ?_
        refine WL.nil ?_
        refine WK.nThen ?_
        refine WK.next (i + 1) rfl (.refl _) (.cons rfl (.cons rfl (.cons rfl .nil))) ?_ ?_
        ·exact ⟨by omega, fun j hj => by rcases Nat.lt_succ_iff_lt_or_eq.1 hj with h | h; exact hall2 j h; subst h; omega⟩
        ·omega
       ·refine DW.x rfl rfl (X.not rfl) (by decide) ?_
        refine DW.nil ?_
        refine WK.nThen ?_
        refine WC.condT rfl ?_
        refine WC.seq ?_
        refine WC.region ?_
        refine WL.x (X.assign rfl) (by decide) ?_
        refine WL.nil ?_
        refine WK.nThen ?_
        refine WC.ret ?_
        refine WK.rBlock ?_
        refine WK.rThen ?_
        refine WK.rThen ?_
        refine WK.rBlock ?_
        refine WK.rThen ?_
        refine WK.ret1 rfl rfl (fun w' hw' => Ret.exact hw' ?_)
        first | exact bool_false (fun h => by have h1 := h.1; omega) | exact bool_false (fun h => by have h1 := h.2.1 k (by omega); omega) | exact bool_false (fun h => by have h1 := h.2.2 i (by omega); omega) | exact bool_true ⟨by omega, hV, fun j hj => hall2 j (by omega)⟩
      ·refine WL.nil ?_
       refine WK.nThen ?_
       refine WC.condF rfl ?_
       refine WC.exit ?_
       refine WK.eThen ?_
       refine WK.eThen ?_
       refine WK.eHit ?_
       refine WK.nThen ?_
       refine WC.seq ?_
       refine WC.region ?_
       refine WL.x (X.assign rfl) (by decide) ?_
       refine WL.nil ?_
       refine WK.nThen ?_
       refine WC.ret ?_
       refine WK.ret1 rfl rfl (fun w' hw' => Ret.exact hw' ?_)
       first | exact bool_false (fun h => by have h1 := h.1; omega) | exact bool_false (fun h => by have h1 := h.2.1 k (by omega); omega) | exact bool_false (fun h => by have h1 := h.2.2 i (by omega); omega) | exact bool_true ⟨by omega, hV, fun j hj => hall2 j (by omega)⟩

theorem keeps53 (m : Mem) (cs : List Value) (s : Ser) (hs : Enc.rd m cs s) (vlevels : Value) (levels : List Int) (hlevels : Sl m vlevels levels) (vshifts : Value) (shifts : List Int) (hshifts : Sl m vshifts shifts)   : Exact Try.prog 53 #[.agg cs.toArray, vlevels, vshifts] m (.int .i64 (keepsE s levels shifts)) := by
 obtain ⟨v1, v3, rfl, hs2, hs4⟩ := hs
 have hl5 := hs2.le
 have hl6 := hs4.le
 have llevels := hlevels.le
 have lshifts := hshifts.le
 refine Exact.start Try.func53 rfl Try.ntmps53 rfl fun wld => ?_
 refine WC.seq ?_
 refine WC.region ?_
 refine WL.tn (T.boxB rfl rfl) (by decide) fun b7 => ?_
 refine WL.x (X.assign rfl) (by decide) ?_
 refine WL.nil ?_
 refine WK.nThen ?_
 refine WC.seq ?_
 refine WC.region ?_
 refine WL.x (X.loadBA (k := 0) Try.isAgg25 Try.sizeOf25 rfl rfl rfl) (by decide) ?_
 refine WL.x (X.call Try.call97 rfl (check97 _ _ s ⟨_, _, rfl, hs2, hs4⟩ )) (by decide) ?_
 refine WL.x (X.assign rfl) (by decide) ?_
 refine WL.nil ?_
 refine WK.nThen ?_
 refine WC.seq ?_
 refine WC.seq ?_
 refine WC.region ?_
 refine WL.x (X.move rfl) (by decide) ?_
 refine WL.cond (X.eql rfl rfl) (by decide) (fun h8 => ?_) (fun h8 => ?_)
 ·refine WL.x (X.move rfl) (by decide) ?_
  refine WL.yes rfl rfl ?_
  refine WL.x (X.loadBA (k := 0) Try.isAgg25 Try.sizeOf25 rfl rfl rfl) (by decide) ?_
  refine WL.yes rfl rfl ?_
  refine WL.x (X.move rfl) (by decide) ?_
  refine WL.yes rfl rfl ?_
  refine WL.x (X.move rfl) (by decide) ?_
  refine WL.yes rfl rfl ?_
  refine WL.cond (X.call Try.call113 rfl (agree113 _ _ s ⟨_, _, rfl, hs2, hs4⟩ _ _ hlevels _ _ hshifts )) (by decide) (fun h9 => ?_) (fun h9 => ?_)
  ·refine WL.yes rfl rfl ?_
   refine WL.x (X.not rfl) (by decide) ?_
   refine WL.x (X.pickT rfl rfl rfl) (by decide) ?_
   refine WL.nil ?_
   refine WK.nThen ?_
   refine WC.condF rfl ?_
   refine WC.skip ?_
   refine WK.nThen ?_
   refine WC.seq ?_
   refine WC.region ?_
   refine WL.x (X.move rfl) (by decide) ?_
   refine WL.x (X.assign rfl) (by decide) ?_
   refine WL.nil ?_
   refine WK.nThen ?_
   refine WC.ret ?_
   refine WK.ret1 rfl rfl (fun w' hw' => Ret.exact hw' ?_)
   first | exact int_eq (by unfold keepsE; rw [if_pos (by omega)]) | exact int_eq (by unfold keepsE; rw [if_neg (by omega), if_neg (by assumption)]) | exact int_eq (by unfold keepsE; rw [if_neg (by omega), if_pos (by assumption)]; omega)
  ·refine WL.yes rfl rfl ?_
   refine WL.x (X.not rfl) (by decide) ?_
   refine WL.x (X.pickT rfl rfl rfl) (by decide) ?_
   refine WL.nil ?_
   refine WK.nThen ?_
   refine WC.condT rfl ?_
   refine WC.seq ?_
   refine WC.region ?_
   refine WL.x (X.assign rfl) (by decide) ?_
   refine WL.nil ?_
   refine WK.nThen ?_
   refine WC.ret ?_
   refine WK.rThen ?_
   refine WK.ret1 rfl rfl (fun w' hw' => Ret.exact hw' ?_)
   first | exact int_eq (by unfold keepsE; rw [if_pos (by omega)]) | exact int_eq (by unfold keepsE; rw [if_neg (by omega), if_neg (by assumption)]) | exact int_eq (by unfold keepsE; rw [if_neg (by omega), if_pos (by assumption)]; omega)
 ·refine WL.x (X.move rfl) (by decide) ?_
  refine WL.no rfl rfl rfl (by decide) ?_
  refine WL.no rfl rfl rfl (by decide) ?_
  refine WL.no rfl rfl rfl (by decide) ?_
  refine WL.no rfl rfl rfl (by decide) ?_
  refine WL.no rfl rfl rfl (by decide) ?_
  refine WL.x (X.pickF rfl rfl rfl) (by decide) ?_
  refine WL.nil ?_
  refine WK.nThen ?_
  refine WC.condF rfl ?_
  refine WC.skip ?_
  refine WK.nThen ?_
  refine WC.seq ?_
  refine WC.region ?_
  refine WL.x (X.move rfl) (by decide) ?_
  refine WL.x (X.assign rfl) (by decide) ?_
  refine WL.nil ?_
  refine WK.nThen ?_
  refine WC.ret ?_
  refine WK.ret1 rfl rfl (fun w' hw' => Ret.exact hw' ?_)
  first | exact int_eq (by unfold keepsE; rw [if_pos (by omega)]) | exact int_eq (by unfold keepsE; rw [if_neg (by omega), if_neg (by assumption)]) | exact int_eq (by unfold keepsE; rw [if_neg (by omega), if_pos (by assumption)]; omega)

theorem even49 (m : Mem) (cs : List Value) (s : Ser) (hs : Enc.rd m cs s) (vlevels : Value) (levels : List Int) (hlevels : Sl m vlevels levels) (vshifts : Value) (shifts : List Int) (hshifts : Sl m vshifts shifts)   : Pure Try.prog 49 #[.agg cs.toArray, vlevels, vshifts] m (fun m' v => ∃ r0, v = .tuple #[r0, .int .i64 ((evenR s levels shifts).2)] ∧ Sl m' r0 ((evenR s levels shifts).1)) := by
 obtain ⟨v1, v3, rfl, hs2, hs4⟩ := hs
 have hl5 := hs2.le
 have hl6 := hs4.le
 have llevels := hlevels.le
 have lshifts := hshifts.le
 refine Pure.start Try.func49 rfl Try.ntmps49 rfl fun wld => ?_
 refine WC.seq ?_
 refine WC.region ?_
 refine WL.tn (T.boxB rfl rfl) (by decide) fun b7 => ?_
 refine WL.x (X.assign rfl) (by decide) ?_
 refine WL.x (X.assign rfl) (by decide) ?_
 refine WL.nil ?_
 refine WK.nThen ?_
 refine WC.seq ?_
 refine WC.region ?_
 refine WL.x (X.loadBA (k := 0) Try.isAgg25 Try.sizeOf25 rfl rfl rfl) (by decide) ?_
 refine WL.x (X.move rfl) (by decide) ?_
 refine WL.x (X.move rfl) (by decide) ?_
 refine WL.x (X.call Try.call53 rfl (keeps53 _ _ s ⟨_, _, rfl, hs2, hs4⟩ _ _ hlevels _ _ hshifts )) (by decide) ?_
 refine WL.x (X.assign rfl) (by decide) ?_
 refine WL.nil ?_
 refine WK.nThen ?_
 refine WC.seq ?_
 refine WC.seq ?_
 refine WC.region ?_
 refine WL.x (X.move rfl) (by decide) ?_
 refine WL.condn (X.neq rfl rfl) (by decide) (fun h8 => ?_) (fun h8 => ?_)
 ·refine WL.nil ?_
  refine WK.nThen ?_
  refine WC.condT rfl ?_
  refine WC.seq ?_
  refine WC.region ?_
  refine WL.x (X.move rfl) (by decide) ?_
  refine WL.x (X.assign rfl) (by decide) ?_
  refine WL.x (X.assign rfl) (by decide) ?_
  refine WL.nil ?_
  refine WK.nThen ?_
  refine WC.ret ?_
  refine WK.rThen ?_
  refine WK.ret2 rfl rfl rfl (fun w' hw' => Ret.mem hw' ?_)
  first | exact ⟨_, tup2 rfl (int_eq (by unfold evenR; rw [if_pos (by omega)])), by unfold evenR; rw [if_pos (by omega)]; exact .nil⟩
 ·refine WL.nil ?_
  refine WK.nThen ?_
  refine WC.condF rfl ?_
  refine WC.skip ?_
  refine WK.nThen ?_
  refine WC.seq ?_
  have hkz := keepsE_zero (s := s) (lv := levels) (sh := shifts) (by omega)
  have hok := hkz.1
  have hag := hkz.2
  have hnV := hok.nV
  have hnX := hok.nX
  have hlen := hag.1
  have hsh : ∀ i, i < s.Shifts.length → -12000 ≤ gt shifts i ∧ gt shifts i ≤ 12000 := fun i hi => by have h1 := hag.2.2 i hi; have h2 := hok.xl hi; omega
  refine WK.ownF Int 3 ?_
  refine WC.region ?_
  refine WL.x (X.assign rfl) (by decide) ?_
  refine WL.nil ?_
  refine WK.nThen ?_
  refine WC.seq ?_
  refine WC.seq ?_
  refine WC.region ?_
  refine WL.x (X.assign rfl) (by decide) ?_
  refine WL.nil ?_
  refine WK.nThen ?_
  refine WC.block ?_
  refine WC.loop (G := Nat × Value) (fun (k, vo) => s.Values.length - k) (fun (k, vo) => m) (fun (k, vo) => [rowF (vo) 3 ((List.range k).map (evenAt s levels shifts)), blk b7 25 [v1, v3]]) (fun (k, vo) => [(1, vlevels), (2, vshifts), (3, .pointer (some ⟨b7, 0, none⟩)), (9, vo), (10, .int .i64 (↑k))]) (fun (k, vo) => k ≤ s.Values.length) ((0, Value.slice none 0 0)) rfl (.refl _) (.cons rfl (.cons rfl (.cons rfl (.cons rfl (.cons rfl .nil))))) ?_ ?_
  ·exact Nat.zero_le _
  ·rintro ⟨k, vo⟩ hF9
   show WK _ _ m [rowF (vo) 3 ((List.range k).map (evenAt s levels shifts)), blk b7 25 [v1, v3]] [(1, vlevels), (2, vshifts), (3, .pointer (some ⟨b7, 0, none⟩)), (9, vo), (10, .int .i64 (↑k))] _
   replace hF9 : k ≤ s.Values.length := hF9
   have hk := hF9
   refine WC.seq ?_
   refine WC.seq ?_
   refine WC.region ?_
   refine WL.x (X.move rfl) (by decide) ?_
   refine WL.x (X.move rfl) (by decide) ?_
   refine WL.x (X.len Try.runUnderlying28 rfl hlevels) (by decide) ?_
   refine WL.cond (X.lss rfl rfl) (by decide) (fun h10 => ?_) (fun h10 => ?_)
   ·refine WL.nil ?_
    refine WK.nThen ?_
    refine WC.condT rfl ?_
    refine WC.skip ?_
    refine WK.nThen ?_
    refine WC.seq ?_
    refine WC.block ?_
    refine WC.seq ?_
    refine WC.region ?_
    refine WL.x (X.move rfl) (by decide) ?_
    refine WL.x (X.move rfl) (by decide) ?_
    refine WL.xe (E.idxN k Try.runUnderlying28 Try.sizeOf3 rfl rfl hlevels (by omega)) (by decide) (fun p11 hp12 => ?_)
    refine WL.x (X.loadInt Try.isAgg3 rfl hp12) (by decide) ?_
    refine WL.x (X.assign rfl) (by decide) ?_
    refine WL.nil ?_
    refine WK.nThen ?_
    refine WC.seq ?_
    refine WC.seq ?_
    refine WC.region ?_
    refine WL.x (X.assign rfl) (by decide) ?_
    refine WL.nil ?_
    refine WK.nThen ?_
    refine WC.block ?_
    refine WC.loop (G := Nat × Int) (fun (i, n) => s.Shifts.length - i) (fun (i, n) => m) (fun (i, n) => [rowF (vo) 3 ((List.range k).map (evenAt s levels shifts)), blk b7 25 [v1, v3]]) (fun (i, n) => [(1, vlevels), (2, vshifts), (3, .pointer (some ⟨b7, 0, none⟩)), (9, vo), (10, .int .i64 (↑k)), (11, .int .i64 (n)), (12, .int .i64 (↑i))]) (fun (i, n) => i ≤ s.Shifts.length ∧ n = gt levels k - offN s.Shifts shifts (gt s.Values k).Time i) ((0, gt levels k)) rfl (.refl _) (.cons rfl (.cons rfl (.cons rfl (.cons rfl (.cons rfl (.cons rfl (.cons rfl .nil))))))) ?_ ?_
    ·exact ⟨Nat.zero_le _, (by first | rfl | simp [offN, sumN, totN, btLo, btHi])⟩
    ·rintro ⟨i, n⟩ hF13
     show WK _ _ m [rowF (vo) 3 ((List.range k).map (evenAt s levels shifts)), blk b7 25 [v1, v3]] [(1, vlevels), (2, vshifts), (3, .pointer (some ⟨b7, 0, none⟩)), (9, vo), (10, .int .i64 (↑k)), (11, .int .i64 (n)), (12, .int .i64 (↑i))] _
     replace hF13 : i ≤ s.Shifts.length ∧ n = gt levels k - offN s.Shifts shifts (gt s.Values k).Time i := hF13
     obtain ⟨hi, hn⟩ := hF13
     have hb := offN_bd (xs := s.Shifts) (t := (gt s.Values k).Time) (n := i) (fun j hj => hsh j (by omega))
     have hl := hag.2.1 k (by omega)
     have hvl := hok.vl (i := k) (by omega)
     refine WC.seq ?_
     refine WC.seq ?_
     refine WC.region ?_
     refine WL.x (X.move rfl) (by decide) ?_
     refine WL.x (X.move rfl) (by decide) ?_
     refine WL.x (X.len Try.runUnderlying28 rfl hshifts) (by decide) ?_
     refine WL.cond (X.lss rfl rfl) (by decide) (fun h14 => ?_) (fun h14 => ?_)
     ·refine WL.nil ?_
      refine WK.nThen ?_
      refine WC.condT rfl ?_
      refine WC.skip ?_
      refine WK.nThen ?_
      refine WC.seq ?_
      refine WC.block ?_
      refine WC.seq ?_
      refine WC.draw (π := (.cons 0 (.cons 1 (.cons 2 (.cons 3 (.cons 4 (.cons 5 (.cons 6 (.cons 7 (.cons 8 (.cons 9 (.cons 10 (.cons 11 (.cons 12 .done)))))))))))))) [] [] rfl (by kernel_rfl) ?_
      refine DW.x rfl rfl (X.field Try.runUnderlying25 rfl Try.sizeOf23 rfl) (by decide) ?_
      refine DW.x rfl rfl (X.loadB (k := 1) Try.isAgg23 rfl rfl rfl) (by decide) ?_
      refine DW.x rfl rfl (X.move rfl) (by decide) ?_
      refine DW.xe rfl rfl (E.idxN i Try.runUnderlying23 Try.sizeOf72 rfl rfl hs4 (by omega)) (by decide) (fun p15 hp16 => ?_)
      have hp17 := At.Shf_0 hp16
      refine DW.x rfl rfl (X.field Try.runUnderlying72 rfl Try.sizeOf3 rfl) (by decide) ?_
      refine DW.x rfl rfl (X.loadInt Try.isAgg3 rfl hp17) (by decide) ?_
      refine DW.x rfl rfl (X.field Try.runUnderlying25 rfl Try.sizeOf22 rfl) (by decide) ?_
      refine DW.x rfl rfl (X.loadB (k := 1) Try.isAgg22 rfl rfl rfl) (by decide) ?_
      refine DW.x rfl rfl (X.move rfl) (by decide) ?_
      refine DW.xe rfl rfl (E.idxN k Try.runUnderlying22 Try.sizeOf62 rfl rfl hs2 (by omega)) (by decide) (fun p18 hp19 => ?_)
      have hp20 := At.Val_0 hp19
      refine DW.x rfl rfl (X.field Try.runUnderlying62 rfl Try.sizeOf3 rfl) (by decide) ?_
      refine DW.x rfl rfl (X.loadInt Try.isAgg3 rfl hp20) (by decide) ?_
      refine DW.cond rfl rfl (X.leq rfl rfl) (by decide) (fun h21 => ?_) (fun h21 => ?_)
      ·refine DW.nil ?_
       refine WK.nThen ?_
       refine WC.condT rfl ?_
       have hs1 := hsh i (by omega)
       refine WC.region ?_
       refine WL.x (X.move rfl) (by decide) ?_
       refine WL.x (X.move rfl) (by decide) ?_
       refine WL.x (X.move rfl) (by decide) ?_
       refine WL.xe (E.idxN i Try.runUnderlying28 Try.sizeOf3 rfl rfl hshifts (by omega)) (by decide) (fun p22 hp23 => ?_)
       refine WL.x (X.loadInt Try.isAgg3 rfl hp23) (by decide) ?_
       refine WL.x (X.sub rfl rfl (by omega) (by omega)) (by decide) ?_
       refine WL.x (X.assign rfl) (by decide) ?_
       refine WL.nil ?_
       refine WK.nBlock ?_
       refine WK.nThen ?_
       refine WC.region ?_
       refine WL.x (X.move rfl) (by decide) ?_
       refine WL.x (X.add rfl rfl (by omega) (by omega)) (by decide) ?_
       refine WL.x (X.assign rfl) (by decide) ?_
       refine WL.nil ?_
       refine WK.nThen ?_
       refine WK.next ((i + 1, n - (gt shifts i))) rfl (.refl _) (.cons rfl (.cons rfl (.cons rfl (.cons rfl (.cons rfl (.cons rfl (.cons rfl .nil))))))) ?_ ?_
       ·refine ⟨by omega, ?_⟩
        ·have hs_ : gt levels k - offN s.Shifts shifts (gt s.Values k).Time (i + 1) = gt levels k - (offN s.Shifts shifts (gt s.Values k).Time i + (if (gt s.Shifts i).Time ≤ (gt s.Values k).Time then gt shifts i else 0)) := rfl
         (repeat' split at hs_) <;> (try dsimp only at hs_) <;> first | omega | contradiction
       ·(dsimp only; omega)
      ·refine DW.nil ?_
       refine WK.nThen ?_
       refine WC.condF rfl ?_
       refine WC.skip ?_
       refine WK.nBlock ?_
       refine WK.nThen ?_
       refine WC.region ?_
       refine WL.x (X.move rfl) (by decide) ?_
       refine WL.x (X.add rfl rfl (by omega) (by omega)) (by decide) ?_
       refine WL.x (X.assign rfl) (by decide) ?_
       refine WL.nil ?_
       refine WK.nThen ?_
       refine WK.next ((i + 1, n)) rfl (.refl _) (.cons rfl (.cons rfl (.cons rfl (.cons rfl (.cons rfl (.cons rfl (.cons rfl .nil))))))) ?_ ?_
       ·refine ⟨by omega, ?_⟩
        ·have hs_ : gt levels k - offN s.Shifts shifts (gt s.Values k).Time (i + 1) = gt levels k - (offN s.Shifts shifts (gt s.Values k).Time i + (if (gt s.Shifts i).Time ≤ (gt s.Values k).Time then gt shifts i else 0)) := rfl
         (repeat' split at hs_) <;> (try dsimp only at hs_) <;> first | omega | contradiction
       ·(dsimp only; omega)
     ·refine WL.nil ?_
      refine WK.nThen ?_
      refine WC.condF rfl ?_
      refine WC.exit ?_
      refine WK.eThen ?_
      refine WK.eThen ?_
      refine WK.eHit ?_
      refine WK.nThen ?_
      refine WC.region ?_
      refine WL.x (X.move rfl) (by decide) ?_
      refine WL.x (X.move rfl) (by decide) ?_
      refine WL.tl (T.lit1 sl28 rfl rfl rfl (by decide)) (by decide) fun b24 => ?_
      refine WL.ta (T.appendF (k := 0) (a := n) sl28 rfl rfl rfl rfl (by first | omega | (simp; omega)) (by decide)) (by decide) (fun v25 => ?_)
      refine WL.x (X.assign rfl) (by decide) ?_
      refine WL.nil ?_
      refine WK.nBlock ?_
      refine WK.nThen ?_
      refine WC.region ?_
      refine WL.x (X.move rfl) (by decide) ?_
      refine WL.x (X.add rfl rfl (by omega) (by omega)) (by decide) ?_
      refine WL.x (X.assign rfl) (by decide) ?_
      refine WL.nil ?_
      refine WK.nThen ?_
      have he26 : (((List.range k).map (evenAt s levels shifts)) ++ [n]) = ((List.range (k + 1)).map (evenAt s levels shifts)) := (by rw [show n = evenAt s levels shifts k by rw [hn, show i = s.Shifts.length by omega]; rfl]; exact map_succ _ _)
      rw [he26]
      refine WK.next ((k + 1, v25)) rfl (.refl _) (.cons rfl (.cons rfl (.cons rfl (.cons rfl (.cons rfl .nil))))) ?_ ?_
      ·omega
      ·(dsimp only; omega)
   ·refine WL.nil ?_
    refine WK.nThen ?_
    refine WC.condF rfl ?_
    refine WC.exit ?_
    refine WK.eThen ?_
    refine WK.eThen ?_
    refine WK.eHit ?_
    refine WK.nThen ?_
    refine WC.seq ?_
    obtain rfl : k = s.Values.length := (by omega)
    refine WC.region ?_
    refine WL.x (X.move rfl) (by decide) ?_
    refine WL.x (X.assign rfl) (by decide) ?_
    refine WL.x (X.assign rfl) (by decide) ?_
    refine WL.nil ?_
    refine WK.nThen ?_
    refine WC.ret ?_
    refine WK.freezeF 0 rfl rfl (by simp [lenB]; omega) (fun m27 hle28 hs29 => ?_)
    replace hs2 := hs2.mono hle28
    replace hs4 := hs4.mono hle28
    replace hlevels := hlevels.mono hle28
    replace hshifts := hshifts.mono hle28
    refine WK.ret2 rfl rfl rfl (fun w' hw' => Ret.mem hw' ?_)
    first | exact ⟨_, tup2 rfl (int_eq (by unfold evenR; rw [if_neg (by omega)])), by unfold evenR; rw [if_neg (by omega)]; exact hs29⟩

end Go.Proofs.C8
