import Derived.Test.YtmnipmbgdbdjeaaC2W3
/- Clocks: walks, fourth part, by program. -/
namespace Go.Proofs.C2
open Go Go.Kx
set_option linter.unusedVariables false

set_option maxHeartbeats 1000000 in
theorem settled88 (m : Mem) (cc : List Value) (c : Ck) (hc : Enc.rd m cc c)  (hw : CkW c) : Pure Try.prog 88 #[.agg cc.toArray] m (fun m' v => ∃ r0, v = .tuple #[.agg r0.toArray, .bool (decide (okC c))] ∧ Enc.rd m' r0 (Ck.mk c.gaps (setL c))) := by
  obtain ⟨v1, v3, rfl, hs2, hs4⟩ := hc
  have hl5 := hs2.le
  have hl6 := hs4.le
  have hnn := hw.n
  have hlc := hw.l
  refine Pure.start Try.func88 rfl Try.ntmps88 rfl fun wld => ?_
  refine WC.seq ?_
  refine WC.region ?_
  refine WL.tn (T.boxB rfl rfl) (by decide) fun b7 => ?_
  refine WL.tn (T.alloc Try.zeroValue83 rfl) (by decide) fun b8 => ?_
  refine WL.x (X.assign rfl) (by decide) ?_
  refine WL.nil ?_
  refine WK.nThen ?_
  refine WC.scope ?_
  refine WC.seq ?_
  refine WC.region ?_
  refine WL.x (X.field Try.runUnderlying83 rfl Try.sizeOf22 rfl) (by decide) ?_
  refine WL.x (X.loadB (k := 1) Try.isAgg22 rfl rfl rfl) (by decide) ?_
  refine WL.tM (T.callO Try.call116 rfl (clone116 _ hs4 (by omega))) (by decide) (fun m9 Es10 v11 hle12 hR_ => ?_)
  obtain ⟨rfl, ho13⟩ := hR_
  replace hs2 := hs2.mono hle12
  replace hs4 := hs4.mono hle12
  refine WL.x (X.field Try.runUnderlying83 rfl Try.sizeOf22 rfl) (by decide) ?_
  refine WL.ts (T.storeB (k := 2) Try.sizeOf22 rfl rfl rfl ho13 (Nat.le_of_ble_eq_true rfl)) ?_
  refine WL.nil ?_
  refine WK.nThen ?_
  refine WC.seq ?_
  refine WC.label ?_
  refine WK.nThen ?_
  refine WC.seq ?_
  refine WC.block ?_
  refine WC.loop (G := Nat × List Span) (fun (r, L) => 2 - r) (fun (r, L) => m9) (fun (r, L) => [rowF (v11) 31 (L), blk b8 83 [.slice none 0 0, .slice none 0 0], blk b7 83 [v1, v11]]) (fun (r, L) => [(1, .pointer (some ⟨b7, 0, none⟩)), (2, .pointer (some ⟨b8, 0, none⟩))]) (fun (r, L) => setI c L ∧ r ≤ 1 ∧ (r = 1 → L = setL c)) ((0, c.at_)) rfl (.refl _) (.cons rfl (.cons rfl .nil)) ?_ ?_
  · exact ⟨.inl rfl, by omega, fun h => absurd h (by omega)⟩
  · rintro ⟨r, L⟩ hF14
    show WK _ _ m9 [rowF (v11) 31 (L), blk b8 83 [.slice none 0 0, .slice none 0 0], blk b7 83 [v1, v11]] [(1, .pointer (some ⟨b7, 0, none⟩)), (2, .pointer (some ⟨b8, 0, none⟩))] _
    replace hF14 : setI c L ∧ r ≤ 1 ∧ (r = 1 → L = setL c) := hF14
    obtain ⟨hI, hr, hr1⟩ := hF14
    refine WK.good (fun hgood0 => ?_)
    have hlL := setI_len hw hI
    refine WC.block ?_
    refine WC.seq ?_
    refine WC.region ?_
    refine WL.x (X.field Try.runUnderlying83 rfl Try.sizeOf22 rfl) (by decide) ?_
    refine WL.x (X.loadB (k := 2) Try.isAgg22 rfl rfl rfl) (by decide) ?_
    refine WL.tM (T.callOL (R := fun Es_ u_ => Es_ = [rowF u_ 31 L] ∧ u_.oneCell' = true) Try.call116 rfl (fun _ w_ hw_ => clone116 _ (hw_.rowFSl (k := 0) rfl (by unfold lenB; omega)) (by omega))) (by decide) (fun m15 Es16 v17 hle18 hR_ => ?_)
    obtain ⟨rfl, ho19⟩ := hR_
    replace hs2 := hs2.mono hle18
    replace hs4 := hs4.mono hle18
    refine WL.x (X.assign rfl) (by decide) ?_
    refine WL.nil ?_
    refine WK.nThen ?_
    refine WC.seq ?_
    refine WC.seq ?_
    refine WC.region ?_
    refine WL.x (X.loadBA (k := 3) Try.isAgg83 Try.sizeOf83 rfl rfl rfl) (by decide) ?_
    refine WL.tm (T.call Try.call129 rfl (fwd129 _ v1 v11)) (by decide) (fun m20 r24 hle21 hR_ => ?_)
    obtain ⟨p22, rfl, hc23⟩ := hR_
    replace hs2 := hs2.mono hle21
    replace hs4 := hs4.mono hle21
    refine WL.nil ?_
    refine WK.nThen ?_
    refine WC.block ?_
    refine WK.perm [blk b7 83 [v1, v11], rowF (v11) 31 (L), rowF (v17) 31 (L), blk b8 83 [.slice none 0 0, .slice none 0 0]] ((List.Perm.cons _ ((List.Perm.cons _ (.refl _)).trans (List.perm_middle (l₁ := [rowF (v17) 31 (L)]) (l₂ := [blk b8 83 [.slice none 0 0, .slice none 0 0]]) (a := rowF (v11) 31 (L))).symm)).trans (List.perm_middle (l₁ := [rowF (v17) 31 (L), rowF (v11) 31 (L), blk b8 83 [.slice none 0 0, .slice none 0 0]]) (l₂ := []) (a := blk b7 83 [v1, v11])).symm) ?_
    refine WC.rangeFuncA (S := List Span) (G := Nat) (ps := [18, 19]) (n := c.gaps.length) (A := fun i _ args => args = [.int .i64 ((i : Nat) : Int), .agg [.int .i64 (gt c.gaps i).Lo, .int .i64 (gt c.gaps i).Hi].toArray].toArray) rfl Try.call146 (iter146 _ hc23 hs2) (fun x_ : List Span => [blk b7 83 [v1, v11], rowF (v11) 31 (x_), rowF (v17) 31 (L), blk b8 83 [.slice none 0 0, .slice none 0 0]]) (fun i _ x_ => x_ = fwP c.gaps L i) (fun _ _ _ _ => False) L rfl (fwP_zero hlL).symm (fun h => by cases h) (fun _ _ _ _ _ h => h) (by simp) (fun i m1 args h => by subst h; rfl) (fun b_ args gh => blk b_ 31 ((args.getD 1 undef).cells.toList) :: (fun x_ : List Span => [blk b7 83 [v1, v11], rowF (v11) 31 (x_), rowF (v17) 31 (L), blk b8 83 [.slice none 0 0, .slice none 0 0]]) gh) (fun b_ args => (5, args.headD undef) :: (6, .pointer (some ⟨b_, 0, none⟩)) :: [(1, .pointer (some ⟨b7, 0, none⟩)), (2, .pointer (some ⟨b8, 0, none⟩)), (13, .pointer (some ⟨b7, 1, none⟩)), (14, v11), (15, v17), (4, v17), (16, .agg [v1, v11].toArray), (17, .func (.func 146) #[] [.pointer (some p22)].toArray)]) ?_ ?_ ?_ ?_ ?_
    · intro lo B1 i m1_2 gh args KK hlen hA1 hm1_2 hKK
      have hA2 : args = [.int .i64 ((i : Nat) : Int), .agg [.int .i64 (gt c.gaps i).Lo, .int .i64 (gt c.gaps i).Hi].toArray] := (by have := congrArg Array.toList hA1; simpa using this)
      subst hA2
      refine WC.seq ?_
      refine WC.region ?_
      refine WL.x (X.assign rfl) (by decide) ?_
      refine WL.nil ?_
      refine WK.nThen ?_
      refine WC.region ?_
      refine WL.tn (T.alloc Try.zeroValue31 rfl) (by decide) fun b25 => ?_
      refine WL.ts (T.storeBA (k := 0) Try.sizeOf31 rfl rfl rfl (one_cons rfl (one_cons rfl one_nil)) rfl rfl) ?_
      refine WL.nil ?_
      refine WK.nThen ?_
      exact WK.keep (.cons rfl (.cons rfl (.cons rfl (.cons rfl (.cons rfl (.cons rfl (.cons rfl (.cons rfl (.cons rfl (.cons rfl .nil)))))))))) (hKK b25)
    · intro lo B1 i m1_2 gh args b_ hlen hi hm1_2 hA1 hI1
      have hA2 : args = [.int .i64 ((i : Nat) : Int), .agg [.int .i64 (gt c.gaps i).Lo, .int .i64 (gt c.gaps i).Hi].toArray] := (by have := congrArg Array.toList hA1; simpa using this)
      subst hA2
      obtain rfl := hI1
      replace hs2 := hs2.mono hm1_2
      replace hs4 := hs4.mono hm1_2
      replace hc23 := hc23.mono hm1_2
      show WK _ _ m1_2 [blk b_ 31 [.int .i64 ((gt c.gaps i).Lo), .int .i64 ((gt c.gaps i).Hi)], blk b7 83 [v1, v11], rowF (v11) 31 (fwP c.gaps L i), rowF (v17) 31 (L), blk b8 83 [.slice none 0 0, .slice none 0 0]] [(5, .int .i64 (↑i)), (6, .pointer (some ⟨b_, 0, none⟩)), (1, .pointer (some ⟨b7, 0, none⟩)), (2, .pointer (some ⟨b8, 0, none⟩)), (13, .pointer (some ⟨b7, 1, none⟩)), (14, v11), (15, v17), (4, v17), (16, .agg [v1, v11].toArray), (17, .func (.func 146) #[] [.pointer (some p22)].toArray)] _
      have hb1 := fwP_bd hw hI (i := i) (j := i) (by omega)
      have hg1 := hw.g i hi
      have hpl := fwP_len c.gaps L i
      refine WC.block ?_
      refine WC.draw (π := (.cons 0 (.cons 1 (.cons 2 (.cons 3 (.cons 4 (.cons 5 (.cons 6 (.cons 7 (.cons 8 (.cons 9 (.cons 10 (.cons 11 (.cons 12 (.cons 13 (.cons 14 (.cons 15 (.cons 16 (.cons 17 (.cons 18 (.cons 19 (.cons 20 (.cons 21 .done))))))))))))))))))))))) [21] [21] rfl (by kernel_rfl) ?_
      refine DW.x rfl rfl (X.move rfl) (by decide) ?_
      refine DW.x rfl rfl (X.add rfl rfl (by omega) (by omega)) (by decide) ?_
      refine DW.x rfl rfl (X.field Try.runUnderlying83 rfl Try.sizeOf22 rfl) (by decide) ?_
      refine DW.x rfl rfl (X.loadB (k := 1) Try.isAgg22 rfl rfl rfl) (by decide) ?_
      refine DW.x rfl rfl (X.move rfl) (by decide) ?_
      refine DW.x rfl rfl (X.idxRowE (k := 2) i Try.runUnderlying22 Try.sizeOf31 rfl rfl rfl (by omega) (by first | omega | (simp; omega) | simp)) (by decide) ?_
      refine DW.x rfl rfl (X.field Try.runUnderlying31 rfl Try.sizeOf3 rfl) (by decide) ?_
      refine DW.x rfl rfl (X.loadFp (k := 2) (i := i) (off := 0) (u := .int .i64 (((gt (fwP c.gaps L i) i)).Lo)) Try.isAgg3 rfl rfl (by first | omega | (simp; omega) | simp) rfl) (by decide) ?_
      refine DW.x rfl rfl (X.field Try.runUnderlying31 rfl Try.sizeOf3 rfl) (by decide) ?_
      refine DW.x rfl rfl (X.loadB (k := 0) Try.isAgg3 rfl rfl rfl) (by decide) ?_
      refine DW.x rfl rfl (X.add rfl rfl (by omega) (by omega)) (by decide) ?_
      refine DW.x rfl rfl (X.field Try.runUnderlying83 rfl Try.sizeOf22 rfl) (by decide) ?_
      refine DW.x rfl rfl (X.loadB (k := 1) Try.isAgg22 rfl rfl rfl) (by decide) ?_
      refine DW.x rfl rfl (X.move rfl) (by decide) ?_
      refine DW.x rfl rfl (X.idxRowE (k := 2) i Try.runUnderlying22 Try.sizeOf31 rfl rfl rfl (by omega) (by first | omega | (simp; omega) | simp)) (by decide) ?_
      refine DW.x rfl rfl (X.field Try.runUnderlying31 rfl Try.sizeOf3 rfl) (by decide) ?_
      refine DW.x rfl rfl (X.loadFp (k := 2) (i := i) (off := 1) (u := .int .i64 (((gt (fwP c.gaps L i) i)).Hi)) Try.isAgg3 rfl rfl (by first | omega | (simp; omega) | simp) rfl) (by decide) ?_
      refine DW.x rfl rfl (X.field Try.runUnderlying31 rfl Try.sizeOf3 rfl) (by decide) ?_
      refine DW.x rfl rfl (X.loadB (k := 0) Try.isAgg3 rfl rfl rfl) (by decide) ?_
      refine DW.x rfl rfl (X.add rfl rfl (by omega) (by omega)) (by decide) ?_
      refine DW.x (V := Value.agg [.int .i64 ((((gt (fwP c.gaps L i) i)).Lo) + ((gt c.gaps i).Lo)), .int .i64 ((((gt (fwP c.gaps L i) i)).Hi) + ((gt c.gaps i).Hi))].toArray) rfl rfl (X.build Try.zeroValue31 Try.runUnderlying31 (places31 _ Try.underlying31) rfl rfl) (by decide) ?_
      refine DW.tM rfl rfl rfl rfl (T.callP (A := [blk b_ 31 [.int .i64 ((gt c.gaps i).Lo), .int .i64 ((gt c.gaps i).Hi)], rowF (v17) 31 (L), blk b8 83 [.slice none 0 0, .slice none 0 0]]) Try.call128 rfl ((List.Perm.cons _ ((List.Perm.cons _ (.refl _)).trans (List.perm_middle (l₁ := [blk b_ 31 [.int .i64 ((gt c.gaps i).Lo), .int .i64 ((gt c.gaps i).Hi)]]) (l₂ := [rowF (v17) 31 (L), blk b8 83 [.slice none 0 0, .slice none 0 0]]) (a := rowF (v11) 31 (fwP c.gaps L i))).symm)).trans (List.perm_middle (l₁ := [blk b_ 31 [.int .i64 ((gt c.gaps i).Lo), .int .i64 ((gt c.gaps i).Hi)]]) (l₂ := [rowF (v11) 31 (fwP c.gaps L i), rowF (v17) 31 (L), blk b8 83 [.slice none 0 0, .slice none 0 0]]) (a := blk b7 83 [v1, v11])).symm) (narrow128 _ (k := (i + 1)) (by omega) (by omega) ((Span.mk ((((gt (fwP c.gaps L i) i)).Lo) + ((gt c.gaps i).Lo)) ((((gt (fwP c.gaps L i) i)).Hi) + ((gt c.gaps i).Hi)))))) (by decide) (fun m26 Es_ v_ hle27 hR_ => ?_)
      obtain ⟨rfl, rfl⟩ := hR_
      replace hs2 := hs2.mono hle27
      replace hs4 := hs4.mono hle27
      replace hc23 := hc23.mono hle27
      refine DW.nil ?_
      refine WK.nBlock ?_
      have he28 : ((fwP c.gaps L i).set (i + 1) (meet (gt (fwP c.gaps L i) (i + 1)) ((Span.mk ((((gt (fwP c.gaps L i) i)).Lo) + ((gt c.gaps i).Lo)) ((((gt (fwP c.gaps L i) i)).Hi) + ((gt c.gaps i).Hi)))))) = (fwP c.gaps L (i + 1)) := (fwP_step hi)
      rw [he28]
      refine WK.perm [blk b_ 31 [.int .i64 ((gt c.gaps i).Lo), .int .i64 ((gt c.gaps i).Hi)], blk b7 83 [v1, v11], rowF (v11) 31 (fwP c.gaps L (i + 1)), rowF (v17) 31 (L), blk b8 83 [.slice none 0 0, .slice none 0 0]] ((List.Perm.cons _ (.refl _)).trans (List.perm_middle (l₁ := [blk b7 83 [v1, v11], rowF (v11) 31 (fwP c.gaps L (i + 1))]) (l₂ := [rowF (v17) 31 (L), blk b8 83 [.slice none 0 0, .slice none 0 0]]) (a := blk b_ 31 [.int .i64 ((gt c.gaps i).Lo), .int .i64 ((gt c.gaps i).Hi)])).symm) ?_
      exact WK.goOn (fwP c.gaps L (i + 1)) hle27 (.cons _ (.refl _)) rfl
    · intro m1_2 gh hm1_2 hI1
      obtain rfl := hI1
      replace hs2 := hs2.mono hm1_2
      replace hs4 := hs4.mono hm1_2
      replace hc23 := hc23.mono hm1_2
      refine WK.keep (σ' := [(1, .pointer (some ⟨b7, 0, none⟩)), (2, .pointer (some ⟨b8, 0, none⟩)), (13, .pointer (some ⟨b7, 1, none⟩)), (14, v11), (15, v17), (4, v17), (16, .agg [v1, v11].toArray), (17, .func (.func 146) #[] [.pointer (some p22)].toArray)]) (.cons rfl (.cons rfl (.cons rfl (.cons rfl (.cons rfl (.cons rfl (.cons rfl (.cons rfl .nil)))))))) ?_
      show WK _ _ m1_2 [blk b7 83 [v1, v11], rowF (v11) 31 (fwP c.gaps L c.gaps.length), rowF (v17) 31 (L), blk b8 83 [.slice none 0 0, .slice none 0 0]] [(1, .pointer (some ⟨b7, 0, none⟩)), (2, .pointer (some ⟨b8, 0, none⟩)), (13, .pointer (some ⟨b7, 1, none⟩)), (14, v11), (15, v17), (4, v17), (16, .agg [v1, v11].toArray), (17, .func (.func 146) #[] [.pointer (some p22)].toArray)] _
      refine WK.nBlock ?_
      refine WK.nThen ?_
      refine WC.seq ?_
      refine WC.seq ?_
      refine WC.region ?_
      refine WL.x (X.loadBA (k := 0) Try.isAgg83 Try.sizeOf83 rfl rfl rfl) (by decide) ?_
      refine WL.tm (T.call Try.call130 rfl (bwd130 _ v1 v11)) (by decide) (fun m29 r33 hle30 hR_ => ?_)
      obtain ⟨p31, rfl, hc32⟩ := hR_
      replace hs2 := hs2.mono hle30
      replace hs4 := hs4.mono hle30
      replace hc23 := hc23.mono hle30
      refine WL.nil ?_
      refine WK.nThen ?_
      refine WC.block ?_
      refine WC.rangeFuncA (S := List Span) (G := Nat) (ps := [44, 45]) (n := c.gaps.length) (A := fun i _ args => args = [.int .i64 (((c.gaps.length - 1 - i) : Nat) : Int), .agg [.int .i64 (gt c.gaps (c.gaps.length - 1 - i)).Lo, .int .i64 (gt c.gaps (c.gaps.length - 1 - i)).Hi].toArray].toArray) rfl Try.call147 (iter147 _ hc32 hs2) (fun x_ : List Span => [blk b7 83 [v1, v11], rowF (v11) 31 (x_), rowF (v17) 31 (L), blk b8 83 [.slice none 0 0, .slice none 0 0]]) (fun i _ x_ => x_ = bwP c.gaps L i) (fun _ _ _ _ => False) (fwP c.gaps L c.gaps.length) rfl (fwP_last _ _) (fun h => by cases h) (fun _ _ _ _ _ h => h) (by simp) (fun i m1 args h => by subst h; rfl) (fun b_ args gh => blk b_ 31 ((args.getD 1 undef).cells.toList) :: (fun x_ : List Span => [blk b7 83 [v1, v11], rowF (v11) 31 (x_), rowF (v17) 31 (L), blk b8 83 [.slice none 0 0, .slice none 0 0]]) gh) (fun b_ args => (7, args.headD undef) :: (8, .pointer (some ⟨b_, 0, none⟩)) :: [(1, .pointer (some ⟨b7, 0, none⟩)), (2, .pointer (some ⟨b8, 0, none⟩)), (13, .pointer (some ⟨b7, 1, none⟩)), (14, v11), (15, v17), (4, v17), (16, .agg [v1, v11].toArray), (17, .func (.func 146) #[] [.pointer (some p22)].toArray), (42, .agg [v1, v11].toArray), (43, .func (.func 147) #[] [.pointer (some p31)].toArray)]) ?_ ?_ ?_ ?_ ?_
      · intro lo B1 i m1_3 gh args KK hlen hA1 hm1_3 hKK
        have hA2 : args = [.int .i64 (((c.gaps.length - 1 - i) : Nat) : Int), .agg [.int .i64 (gt c.gaps (c.gaps.length - 1 - i)).Lo, .int .i64 (gt c.gaps (c.gaps.length - 1 - i)).Hi].toArray] := (by have := congrArg Array.toList hA1; simpa using this)
        subst hA2
        refine WC.seq ?_
        refine WC.region ?_
        refine WL.x (X.assign rfl) (by decide) ?_
        refine WL.nil ?_
        refine WK.nThen ?_
        refine WC.region ?_
        refine WL.tn (T.alloc Try.zeroValue31 rfl) (by decide) fun b34 => ?_
        refine WL.ts (T.storeBA (k := 0) Try.sizeOf31 rfl rfl rfl (one_cons rfl (one_cons rfl one_nil)) rfl rfl) ?_
        refine WL.nil ?_
        refine WK.nThen ?_
        exact WK.keep (.cons rfl (.cons rfl (.cons rfl (.cons rfl (.cons rfl (.cons rfl (.cons rfl (.cons rfl (.cons rfl (.cons rfl (.cons rfl (.cons rfl .nil)))))))))))) (hKK b34)
      · intro lo B1 i m1_3 gh args b_ hlen hi hm1_3 hA1 hI1
        have hA2 : args = [.int .i64 (((c.gaps.length - 1 - i) : Nat) : Int), .agg [.int .i64 (gt c.gaps (c.gaps.length - 1 - i)).Lo, .int .i64 (gt c.gaps (c.gaps.length - 1 - i)).Hi].toArray] := (by have := congrArg Array.toList hA1; simpa using this)
        subst hA2
        obtain ⟨q, hq⟩ : ∃ q, q = (c.gaps.length - 1 - i) := ⟨_, rfl⟩
        rw [← hq]
        obtain rfl := hI1
        replace hs2 := hs2.mono hm1_3
        replace hs4 := hs4.mono hm1_3
        replace hc23 := hc23.mono hm1_3
        replace hc32 := hc32.mono hm1_3
        show WK _ _ m1_3 [blk b_ 31 [.int .i64 ((gt c.gaps q).Lo), .int .i64 ((gt c.gaps q).Hi)], blk b7 83 [v1, v11], rowF (v11) 31 (bwP c.gaps L i), rowF (v17) 31 (L), blk b8 83 [.slice none 0 0, .slice none 0 0]] [(7, .int .i64 (↑q)), (8, .pointer (some ⟨b_, 0, none⟩)), (1, .pointer (some ⟨b7, 0, none⟩)), (2, .pointer (some ⟨b8, 0, none⟩)), (13, .pointer (some ⟨b7, 1, none⟩)), (14, v11), (15, v17), (4, v17), (16, .agg [v1, v11].toArray), (17, .func (.func 146) #[] [.pointer (some p22)].toArray), (42, .agg [v1, v11].toArray), (43, .func (.func 147) #[] [.pointer (some p31)].toArray)] _
        have hb1 := bwP_bd hw hI (i := i) (j := q + 1) (by omega)
        have hg1 := hw.g q (by omega)
        have hpl := bwP_len c.gaps L i
        refine WC.block ?_
        refine WC.draw (π := (.cons 0 (.cons 1 (.cons 2 (.cons 3 (.cons 4 (.cons 5 (.cons 6 (.cons 7 (.cons 8 (.cons 9 (.cons 10 (.cons 11 (.cons 12 (.cons 13 (.cons 14 (.cons 15 (.cons 16 (.cons 17 (.cons 18 (.cons 19 (.cons 20 (.cons 21 (.cons 22 .done)))))))))))))))))))))))) [22] [22] rfl (by kernel_rfl) ?_
        refine DW.x rfl rfl (X.move rfl) (by decide) ?_
        refine DW.x rfl rfl (X.field Try.runUnderlying83 rfl Try.sizeOf22 rfl) (by decide) ?_
        refine DW.x rfl rfl (X.loadB (k := 1) Try.isAgg22 rfl rfl rfl) (by decide) ?_
        refine DW.x rfl rfl (X.move rfl) (by decide) ?_
        refine DW.x rfl rfl (X.add rfl rfl (by omega) (by omega)) (by decide) ?_
        refine DW.x rfl rfl (X.idxRowE (k := 2) (q + 1) Try.runUnderlying22 Try.sizeOf31 rfl rfl rfl (by omega) (by first | omega | (simp; omega) | simp)) (by decide) ?_
        refine DW.x rfl rfl (X.field Try.runUnderlying31 rfl Try.sizeOf3 rfl) (by decide) ?_
        refine DW.x rfl rfl (X.loadFp (k := 2) (i := q + 1) (off := 0) (u := .int .i64 (((gt (bwP c.gaps L i) (q + 1))).Lo)) Try.isAgg3 rfl rfl (by first | omega | (simp; omega) | simp) rfl) (by decide) ?_
        refine DW.x rfl rfl (X.field Try.runUnderlying31 rfl Try.sizeOf3 rfl) (by decide) ?_
        refine DW.x rfl rfl (X.loadB (k := 0) Try.isAgg3 rfl rfl rfl) (by decide) ?_
        refine DW.x rfl rfl (X.sub rfl rfl (by omega) (by omega)) (by decide) ?_
        refine DW.x rfl rfl (X.field Try.runUnderlying83 rfl Try.sizeOf22 rfl) (by decide) ?_
        refine DW.x rfl rfl (X.loadB (k := 1) Try.isAgg22 rfl rfl rfl) (by decide) ?_
        refine DW.x rfl rfl (X.move rfl) (by decide) ?_
        refine DW.x rfl rfl (X.add rfl rfl (by omega) (by omega)) (by decide) ?_
        refine DW.x rfl rfl (X.idxRowE (k := 2) (q + 1) Try.runUnderlying22 Try.sizeOf31 rfl rfl rfl (by omega) (by first | omega | (simp; omega) | simp)) (by decide) ?_
        refine DW.x rfl rfl (X.field Try.runUnderlying31 rfl Try.sizeOf3 rfl) (by decide) ?_
        refine DW.x rfl rfl (X.loadFp (k := 2) (i := q + 1) (off := 1) (u := .int .i64 (((gt (bwP c.gaps L i) (q + 1))).Hi)) Try.isAgg3 rfl rfl (by first | omega | (simp; omega) | simp) rfl) (by decide) ?_
        refine DW.x rfl rfl (X.field Try.runUnderlying31 rfl Try.sizeOf3 rfl) (by decide) ?_
        refine DW.x rfl rfl (X.loadB (k := 0) Try.isAgg3 rfl rfl rfl) (by decide) ?_
        refine DW.x rfl rfl (X.sub rfl rfl (by omega) (by omega)) (by decide) ?_
        refine DW.x (V := Value.agg [.int .i64 ((((gt (bwP c.gaps L i) (q + 1))).Lo) - ((gt c.gaps q).Hi)), .int .i64 ((((gt (bwP c.gaps L i) (q + 1))).Hi) - ((gt c.gaps q).Lo))].toArray) rfl rfl (X.build Try.zeroValue31 Try.runUnderlying31 (places31 _ Try.underlying31) rfl rfl) (by decide) ?_
        refine DW.tM rfl rfl rfl rfl (T.callP (A := [blk b_ 31 [.int .i64 ((gt c.gaps q).Lo), .int .i64 ((gt c.gaps q).Hi)], rowF (v17) 31 (L), blk b8 83 [.slice none 0 0, .slice none 0 0]]) Try.call128 rfl ((List.Perm.cons _ ((List.Perm.cons _ (.refl _)).trans (List.perm_middle (l₁ := [blk b_ 31 [.int .i64 ((gt c.gaps q).Lo), .int .i64 ((gt c.gaps q).Hi)]]) (l₂ := [rowF (v17) 31 (L), blk b8 83 [.slice none 0 0, .slice none 0 0]]) (a := rowF (v11) 31 (bwP c.gaps L i))).symm)).trans (List.perm_middle (l₁ := [blk b_ 31 [.int .i64 ((gt c.gaps q).Lo), .int .i64 ((gt c.gaps q).Hi)]]) (l₂ := [rowF (v11) 31 (bwP c.gaps L i), rowF (v17) 31 (L), blk b8 83 [.slice none 0 0, .slice none 0 0]]) (a := blk b7 83 [v1, v11])).symm) (narrow128 _ (k := q) (by omega) (by omega) ((Span.mk ((((gt (bwP c.gaps L i) (q + 1))).Lo) - ((gt c.gaps q).Hi)) ((((gt (bwP c.gaps L i) (q + 1))).Hi) - ((gt c.gaps q).Lo)))))) (by decide) (fun m35 Es_ v_ hle36 hR_ => ?_)
        obtain ⟨rfl, rfl⟩ := hR_
        replace hs2 := hs2.mono hle36
        replace hs4 := hs4.mono hle36
        replace hc23 := hc23.mono hle36
        replace hc32 := hc32.mono hle36
        refine DW.nil ?_
        refine WK.nBlock ?_
        have he37 : ((bwP c.gaps L i).set q (meet (gt (bwP c.gaps L i) q) ((Span.mk ((((gt (bwP c.gaps L i) (q + 1))).Lo) - ((gt c.gaps q).Hi)) ((((gt (bwP c.gaps L i) (q + 1))).Hi) - ((gt c.gaps q).Lo)))))) = (bwP c.gaps L (i + 1)) := (bwP_step hi hq)
        rw [he37]
        refine WK.perm [blk b_ 31 [.int .i64 ((gt c.gaps q).Lo), .int .i64 ((gt c.gaps q).Hi)], blk b7 83 [v1, v11], rowF (v11) 31 (bwP c.gaps L (i + 1)), rowF (v17) 31 (L), blk b8 83 [.slice none 0 0, .slice none 0 0]] ((List.Perm.cons _ (.refl _)).trans (List.perm_middle (l₁ := [blk b7 83 [v1, v11], rowF (v11) 31 (bwP c.gaps L (i + 1))]) (l₂ := [rowF (v17) 31 (L), blk b8 83 [.slice none 0 0, .slice none 0 0]]) (a := blk b_ 31 [.int .i64 ((gt c.gaps q).Lo), .int .i64 ((gt c.gaps q).Hi)])).symm) ?_
        exact WK.goOn (bwP c.gaps L (i + 1)) hle36 (.cons _ (.refl _)) rfl
      · intro m1_3 gh hm1_3 hI1
        obtain rfl := hI1
        replace hs2 := hs2.mono hm1_3
        replace hs4 := hs4.mono hm1_3
        replace hc23 := hc23.mono hm1_3
        replace hc32 := hc32.mono hm1_3
        refine WK.keep (σ' := [(1, .pointer (some ⟨b7, 0, none⟩)), (2, .pointer (some ⟨b8, 0, none⟩)), (13, .pointer (some ⟨b7, 1, none⟩)), (14, v11), (15, v17), (4, v17), (16, .agg [v1, v11].toArray), (17, .func (.func 146) #[] [.pointer (some p22)].toArray), (42, .agg [v1, v11].toArray), (43, .func (.func 147) #[] [.pointer (some p31)].toArray)]) (.cons rfl (.cons rfl (.cons rfl (.cons rfl (.cons rfl (.cons rfl (.cons rfl (.cons rfl (.cons rfl (.cons rfl .nil)))))))))) ?_
        show WK _ _ m1_3 [blk b7 83 [v1, v11], rowF (v11) 31 (bwP c.gaps L c.gaps.length), rowF (v17) 31 (L), blk b8 83 [.slice none 0 0, .slice none 0 0]] [(1, .pointer (some ⟨b7, 0, none⟩)), (2, .pointer (some ⟨b8, 0, none⟩)), (13, .pointer (some ⟨b7, 1, none⟩)), (14, v11), (15, v17), (4, v17), (16, .agg [v1, v11].toArray), (17, .func (.func 146) #[] [.pointer (some p22)].toArray), (42, .agg [v1, v11].toArray), (43, .func (.func 147) #[] [.pointer (some p31)].toArray)] _
        refine WK.nBlock ?_
        refine WK.nThen ?_
        refine WC.seq ?_
        refine WC.seq ?_
        have he38 : (bwP c.gaps L c.gaps.length) = (setL c) := ((bwP_last c L).trans (setI_set hw hI))
        rw [he38]
        have hsl := setL_len c
        refine WC.region ?_
        refine WL.x (X.field Try.runUnderlying83 rfl Try.sizeOf22 rfl) (by decide) ?_
        refine WL.x (X.loadB (k := 0) Try.isAgg22 rfl rfl rfl) (by decide) ?_
        refine WL.cond (X.callL Try.call109 rfl (fun w_ hw_ => cont109 (p := fun i => (gt (setL c) i).Hi < (gt (setL c) i).Lo) _ (hw_.rowFSl (k := 1) rfl (by unfold lenB; omega)) (caps := []) Try.call131 (fun i _ => bad131 _ _ (gt (setL c) i) rfl))) (by decide) (fun h39 => ?_) (fun h39 => ?_)
        · refine WL.nil ?_
          refine WK.nThen ?_
          refine WC.condT rfl ?_
          refine WC.seq ?_
          refine WC.region ?_
          refine WL.x (X.loadBA (k := 0) Try.isAgg83 Try.sizeOf83 rfl rfl rfl) (by decide) ?_
          refine WL.ts (T.storeBA (k := 3) Try.sizeOf83 rfl rfl rfl (one_cons hs2.one (one_cons ho13 one_nil)) rfl rfl) ?_
          refine WL.x (X.assign rfl) (by decide) ?_
          refine WL.nil ?_
          refine WK.nThen ?_
          refine WC.ret ?_
          refine WK.rThen ?_
          refine WK.rBlock ?_
          refine WK.rThen ?_
          refine WK.rBlock ?_
          refine WK.rThen ?_
          refine WK.rScope ?_
          refine WK.freezeF 1 rfl rfl (by rw [setL_len]; unfold lenB; omega) (fun m40 hle41 hs42 => ?_)
          replace hs2 := hs2.mono hle41
          replace hs4 := hs4.mono hle41
          replace hc23 := hc23.mono hle41
          replace hc32 := hc32.mono hle41
          refine WK.retC2 2 rfl rfl rfl rfl Try.isAgg83 Try.sizeOf83 (fun w' hw' => Ret.mem hw' ?_)
          first | exact ⟨_, tup2 rfl (bool_false (fun h_ => by have := ok_all.1 h_; contradiction)), ⟨_, _, rfl, hs2, hs42⟩⟩ | exact ⟨_, tup2 rfl (bool_true (ok_all.2 (Decidable.of_not_not (by assumption)))), ⟨_, _, rfl, hs2, hs42⟩⟩
        · refine WL.nil ?_
          refine WK.nThen ?_
          refine WC.condF rfl ?_
          refine WC.skip ?_
          refine WK.nThen ?_
          refine WC.seq ?_
          refine WC.region ?_
          refine WL.x (X.move rfl) (by decide) ?_
          refine WL.x (X.field Try.runUnderlying83 rfl Try.sizeOf22 rfl) (by decide) ?_
          refine WL.x (X.loadB (k := 0) Try.isAgg22 rfl rfl rfl) (by decide) ?_
          refine WL.cond (X.callL Try.call132 rfl (fun w_ hw_ => equal132 _ _ L (hw_.rowFSl (k := 2) rfl (by unfold lenB; omega)) _ (setL c) (hw_.rowFSl (k := 1) rfl (by unfold lenB; omega)))) (by decide) (fun h43 => ?_) (fun h43 => ?_)
          · refine WL.nil ?_
            refine WK.nThen ?_
            refine WC.condT rfl ?_
            refine WC.exit ?_
            refine WK.eMiss rfl ?_
            refine WK.eThen ?_
            refine WK.eHit ?_
            refine WK.nThen ?_
            refine WC.seq ?_
            refine WC.region ?_
            refine WL.x (X.loadBA (k := 0) Try.isAgg83 Try.sizeOf83 rfl rfl rfl) (by decide) ?_
            refine WL.ts (T.storeBA (k := 3) Try.sizeOf83 rfl rfl rfl (one_cons hs2.one (one_cons ho13 one_nil)) rfl rfl) ?_
            refine WL.x (X.assign rfl) (by decide) ?_
            refine WL.nil ?_
            refine WK.nThen ?_
            refine WC.ret ?_
            refine WK.rScope ?_
            refine WK.freezeF 1 rfl rfl (by rw [setL_len]; unfold lenB; omega) (fun m44 hle45 hs46 => ?_)
            replace hs2 := hs2.mono hle45
            replace hs4 := hs4.mono hle45
            replace hc23 := hc23.mono hle45
            replace hc32 := hc32.mono hle45
            refine WK.retC2 2 rfl rfl rfl rfl Try.isAgg83 Try.sizeOf83 (fun w' hw' => Ret.mem hw' ?_)
            first | exact ⟨_, tup2 rfl (bool_false (fun h_ => by have := ok_all.1 h_; contradiction)), ⟨_, _, rfl, hs2, hs46⟩⟩ | exact ⟨_, tup2 rfl (bool_true (ok_all.2 (Decidable.of_not_not (by assumption)))), ⟨_, _, rfl, hs2, hs46⟩⟩
          · refine WL.nil ?_
            refine WK.nThen ?_
            refine WC.condF rfl ?_
            refine WC.skip ?_
            refine WK.nBlock ?_
            refine WK.nThen ?_
            refine WK.back hgood0 (Mem.le_trans hle18 (Mem.le_trans hle21 (Mem.le_trans hm1_2 (Mem.le_trans hle30 hm1_3)))) ?_
            refine WK.perm [rowF (v17) 31 (L), rowF (v11) 31 (setL c), blk b8 83 [.slice none 0 0, .slice none 0 0], blk b7 83 [v1, v11]] ((List.Perm.cons _ ((List.Perm.cons _ ((List.Perm.cons _ (.refl _)).trans (List.perm_middle (l₁ := [blk b7 83 [v1, v11]]) (l₂ := []) (a := blk b8 83 [.slice none 0 0, .slice none 0 0])).symm)).trans (List.perm_middle (l₁ := [blk b7 83 [v1, v11]]) (l₂ := [blk b8 83 [.slice none 0 0, .slice none 0 0]]) (a := rowF (v11) 31 (setL c))).symm)).trans (List.perm_middle (l₁ := [blk b7 83 [v1, v11], rowF (v11) 31 (setL c)]) (l₂ := [blk b8 83 [.slice none 0 0, .slice none 0 0]]) (a := rowF (v17) 31 (L))).symm) ?_
            refine WK.next ((1, setL c)) rfl (.cons _ (.refl _)) (.cons rfl (.cons rfl .nil)) ?_ ?_
            · exact ⟨.inr ⟨rfl, ok_all.2 (Decidable.of_not_not (by assumption))⟩, by omega, fun _ => rfl⟩
            · (by_cases hr0 : r = 1; exact absurd (hr1 hr0) (by assumption); (dsimp only; omega))
      · intro i m1 gh hm1 hi hI1
        exact hI1.elim
      · intro id i m1 gh hm1 hi hI1
        exact hI1.elim
    · intro i m1 gh hm1 hi hI1
      exact hI1.elim
    · intro id i m1 gh hm1 hi hI1
      exact hI1.elim

end Go.Proofs.C2
