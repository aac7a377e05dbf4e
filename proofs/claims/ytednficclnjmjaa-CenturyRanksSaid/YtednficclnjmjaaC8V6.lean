/- The walk of the statement CenturyRanks: its function answers true. -/
import Derived.Test.YtednficclnjmjaaC8Br
import Derived.Test.YtednficclnjmjaaC8W9
import Derived.Test.YtednficclnjmjaaC8LExt
namespace Go.Proofs.C8
open Go Go.Kx
set_option linter.unusedSimpArgs false
set_option linter.unusedVariables false
theorem law6 (m : Mem) (cs : List Value) (s : Ser) (hs : Enc.rd m cs s) (cx : List Value) (x : Rl) (hx : Enc.rd m cx x) (which : Int)  (ok0 : Rng.ok s) (ok1 : Rng.ok x) (lo2 : -9223372036854775808 ≤ which) (hi2 : which ≤ 9223372036854775807) : Exact Try.prog 6 #[.agg cs.toArray, .agg cx.toArray, .int .i64 (which)] m (.bool true) := by
  obtain ⟨v1, v3, rfl, hs2, hs4⟩ := hs
  have hl5 := hs2.le
  have hl6 := hs4.le
  obtain ⟨v7, v9, rfl, hs8, hs10⟩ := hx
  have hl11 := hs8.le
  have hl12 := hs10.le
  refine Exact.start Try.func6 rfl Try.ntmps6 rfl fun wld => ?_
  refine WC.seq ?_
  refine WC.region ?_
  refine WL.tn (T.boxB rfl rfl) (by decide) fun b13 => ?_
  refine WL.tn (T.boxB rfl rfl) (by decide) fun b14 => ?_
  refine WL.x (X.assign rfl) (by decide) ?_
  refine WL.nil ?_
  refine WK.nThen ?_
  refine WC.seq ?_
  refine WC.region ?_
  refine WL.x (X.call Try.call21 rfl (awake21 _  )) (by decide) ?_
  refine WL.x (X.assign rfl) (by decide) ?_
  refine WL.nil ?_
  refine WK.nThen ?_
  refine WC.seq ?_
  refine WC.seq ?_
  refine WC.region ?_
  refine WL.x (X.loadBA (k := 1) Try.isAgg25 Try.sizeOf25 rfl rfl rfl) (by decide) ?_
  refine WL.cond (X.call Try.call22 rfl (few22 _ _ s ⟨_, _, rfl, hs2, hs4⟩ )) (by decide) (fun h15 => ?_) (fun h15 => ?_)
  · refine WL.x (X.not rfl) (by decide) ?_
    refine WL.x (X.move rfl) (by decide) ?_
    refine WL.yes rfl rfl ?_
    refine WL.x (X.loadBA (k := 0) Try.isAgg52 Try.sizeOf52 rfl rfl rfl) (by decide) ?_
    refine WL.yes rfl rfl ?_
    refine WL.cond (X.call Try.call38 rfl (light38 _ _ x ⟨_, _, rfl, hs8, hs10⟩ )) (by decide) (fun h16 => ?_) (fun h16 => ?_)
    · refine WL.yes rfl rfl ?_
      refine WL.x (X.not rfl) (by decide) ?_
      refine WL.x (X.pickF rfl rfl rfl) (by decide) ?_
      refine WL.x (X.move rfl) (by decide) ?_
      refine WL.yes rfl rfl ?_
      refine WL.x (X.move rfl) (by decide) ?_
      refine WL.yes rfl rfl ?_
      refine WL.cond (X.lss rfl rfl) (by decide) (fun h17 => ?_) (fun h17 => ?_)
      · refine WL.x (X.pickF rfl rfl rfl) (by decide) ?_
        refine WL.x (X.move rfl) (by decide) ?_
        refine WL.no rfl rfl rfl (by decide) ?_
        refine WL.no rfl rfl rfl (by decide) ?_
        refine WL.no rfl rfl rfl (by decide) ?_
        refine WL.no rfl rfl rfl (by decide) ?_
        refine WL.no rfl rfl rfl (by decide) ?_
        refine WL.x (X.pickT rfl rfl rfl) (by decide) ?_
        refine WL.nil ?_
        refine WK.nThen ?_
        refine WC.condT rfl ?_
        refine WC.seq ?_
        refine WC.region ?_
        refine WL.x (X.move rfl) (by decide) ?_
        refine WL.x (X.assign rfl) (by decide) ?_
        refine WL.nil ?_
        refine WK.nThen ?_
        refine WC.ret ?_
        refine WK.rThen ?_
        refine WK.ret1 rfl rfl (fun w' hw' => Ret.exact hw' ?_)
        first | rfl | (exfalso; omega) | (exfalso; contradiction) | (exfalso; have q_ := hq1 (by omega); omega) | (exfalso; have q_ := hq2 (by omega); omega) | exact (bool_true (by omega)).symm
      · refine WL.x (X.pickF rfl rfl rfl) (by decide) ?_
        refine WL.x (X.move rfl) (by decide) ?_
        refine WL.yes rfl rfl ?_
        refine WL.x (X.move rfl) (by decide) ?_
        refine WL.yes rfl rfl ?_
        refine WL.x (X.field Try.runUnderlying25 rfl Try.sizeOf22 rfl) (by decide) ?_
        refine WL.yes rfl rfl ?_
        refine WL.x (X.loadB (k := 1) Try.isAgg22 rfl rfl rfl) (by decide) ?_
        refine WL.yes rfl rfl ?_
        refine WL.x (X.len Try.runUnderlying22 rfl hs2) (by decide) ?_
        refine WL.yes rfl rfl ?_
        refine WL.cond (X.geq rfl rfl) (by decide) (fun h18 => ?_) (fun h18 => ?_)
        · refine WL.x (X.pickF rfl rfl rfl) (by decide) ?_
          refine WL.nil ?_
          refine WK.nThen ?_
          refine WC.condT rfl ?_
          refine WC.seq ?_
          refine WC.region ?_
          refine WL.x (X.move rfl) (by decide) ?_
          refine WL.x (X.assign rfl) (by decide) ?_
          refine WL.nil ?_
          refine WK.nThen ?_
          refine WC.ret ?_
          refine WK.rThen ?_
          refine WK.ret1 rfl rfl (fun w' hw' => Ret.exact hw' ?_)
          first | rfl | (exfalso; omega) | (exfalso; contradiction) | (exfalso; have q_ := hq1 (by omega); omega) | (exfalso; have q_ := hq2 (by omega); omega) | exact (bool_true (by omega)).symm
        · refine WL.x (X.pickF rfl rfl rfl) (by decide) ?_
          refine WL.nil ?_
          refine WK.nThen ?_
          refine WC.condF rfl ?_
          refine WC.skip ?_
          refine WK.nThen ?_
          refine WC.seq ?_
          refine WC.seq ?_
          refine WC.region ?_
          refine WL.x (X.loadBA (k := 1) Try.isAgg25 Try.sizeOf25 rfl rfl rfl) (by decide) ?_
          refine WL.x (X.call Try.call34 rfl (check34 _ _ s ⟨_, _, rfl, hs2, hs4⟩ )) (by decide) ?_
          refine WL.x (X.move rfl) (by decide) ?_
          refine WL.x (X.extract rfl rfl) (by decide) ?_
          refine WL.x (X.extract rfl rfl) (by decide) ?_
          refine WL.x (X.assign rfl) (by decide) ?_
          refine WL.x (X.assign rfl) (by decide) ?_
          refine WL.nil ?_
          refine WK.nThen ?_
          refine WC.seq ?_
          refine WC.region ?_
          refine WL.x (X.move rfl) (by decide) ?_
          refine WL.condn (X.neq rfl rfl) (by decide) (fun h19 => ?_) (fun h19 => ?_)
          · refine WL.nil ?_
            refine WK.nThen ?_
            refine WC.condT rfl ?_
            refine WC.seq ?_
            refine WC.region ?_
            refine WL.x (X.move rfl) (by decide) ?_
            refine WL.x (X.assign rfl) (by decide) ?_
            refine WL.nil ?_
            refine WK.nThen ?_
            refine WC.ret ?_
            refine WK.rThen ?_
            refine WK.ret1 rfl rfl (fun w' hw' => Ret.exact hw' ?_)
            first | rfl | (exfalso; omega) | (exfalso; contradiction) | (exfalso; have q_ := hq1 (by omega); omega) | (exfalso; have q_ := hq2 (by omega); omega) | exact (bool_true (by omega)).symm
          · refine WL.nil ?_
            refine WK.nThen ?_
            refine WC.condF rfl ?_
            refine WC.skip ?_
            refine WK.nThen ?_
            refine WC.seq ?_
            have hok := Ok.of (s := s) (by show (chk s).1 = 0; omega)
            have hnV := hok.nV
            refine WC.draw (π := (.cons 0 (.cons 1 (.cons 2 (.cons 3 (.cons 4 (.cons 5 (.cons 6 (.cons 7 (.cons 8 (.cons 9 (.cons 10 (.cons 11 (.cons 12 (.cons 13 .done))))))))))))))) [11, 12] [12] rfl (by kernel_rfl) ?_
            refine DW.x rfl rfl (X.loadBA (k := 1) Try.isAgg25 Try.sizeOf25 rfl rfl rfl) (by decide) ?_
            refine DW.x rfl rfl (X.field Try.runUnderlying25 rfl Try.sizeOf22 rfl) (by decide) ?_
            refine DW.x rfl rfl (X.loadB (k := 1) Try.isAgg22 rfl rfl rfl) (by decide) ?_
            refine DW.x rfl rfl (X.move rfl) (by decide) ?_
            refine DW.xe rfl rfl (E.idx Try.runUnderlying22 Try.sizeOf62 rfl rfl hs2 (by omega) (by omega)) (by decide) (fun p20 hp21 => ?_)
            have hp22 := At.Val_0 hp21
            refine DW.x rfl rfl (X.field Try.runUnderlying62 rfl Try.sizeOf3 rfl) (by decide) ?_
            refine DW.x rfl rfl (X.loadInt Try.isAgg3 rfl hp22) (by decide) ?_
            refine DW.x rfl rfl (X.call Try.call43 rfl (rank43 _ _ s ⟨_, _, rfl, hs2, hs4⟩ _ )) (by decide) ?_
            refine DW.x rfl rfl (X.move rfl) (by decide) ?_
            refine DW.x rfl rfl (X.extract rfl rfl) (by decide) ?_
            refine DW.x rfl rfl (X.extract rfl rfl) (by decide) ?_
            refine DW.tn rfl rfl rfl (T.alloc Try.zeroValue33 rfl) (by decide) fun b23 => ?_
            refine DW.ts rfl rfl rfl rfl (T.storeBA (k := 0) Try.sizeOf33 rfl rfl rfl (one_cons rfl (one_cons rfl one_nil)) rfl rfl) ?_
            refine DW.x rfl rfl (X.assign rfl) (by decide) ?_
            refine DW.nil ?_
            refine WK.nThen ?_
            refine WC.seq ?_
            refine WC.seq ?_
            have hr := rankR_ok hok (w := (which : Int).toNat) (by omega)
            have hr1 : (rankR s (gt s.Values (which : Int).toNat).Time).1.Lo = (rankN s (which : Int).toNat s.Values.length).Lo := (by rw [hr])
            have hr2 : (rankR s (gt s.Values (which : Int).toNat).Time).1.Hi = (rankN s (which : Int).toNat s.Values.length).Hi := (by rw [hr])
            have hr3 : (rankR s (gt s.Values (which : Int).toNat).Time).2 = 0 := (by rw [hr])
            rw [hr1]
            rw [hr2]
            rw [hr3]
            refine WC.region ?_
            refine WL.x (X.move rfl) (by decide) ?_
            refine WL.x (X.neq rfl rfl) (by decide) ?_
            refine WL.nil ?_
            refine WK.nThen ?_
            refine WC.condF rfl ?_
            refine WC.skip ?_
            refine WK.nThen ?_
            refine WC.seq ?_
            refine WC.region ?_
            refine WL.x (X.loadBA (k := 2) Try.isAgg25 Try.sizeOf25 rfl rfl rfl) (by decide) ?_
            refine WL.x (X.field Try.runUnderlying52 rfl Try.sizeOf28 rfl) (by decide) ?_
            refine WL.x (X.loadB (k := 1) Try.isAgg28 rfl rfl rfl) (by decide) ?_
            refine WL.x (X.field Try.runUnderlying52 rfl Try.sizeOf28 rfl) (by decide) ?_
            refine WL.x (X.loadB (k := 1) Try.isAgg28 rfl rfl rfl) (by decide) ?_
            refine WL.tm (T.call Try.call39 rfl (even39 _ _ s ⟨_, _, rfl, hs2, hs4⟩ _ _ hs8 _ _ hs10 )) (by decide) fun m24 r25 hle26 hR27 => ?_
            obtain ⟨v28, rfl, hs29⟩ := hR27
            replace hs2 := hs2.mono hle26
            replace hs4 := hs4.mono hle26
            replace hs8 := hs8.mono hle26
            replace hs10 := hs10.mono hle26
            replace hp21 := hp21.mono hle26
            replace hp22 := hp22.mono hle26
            have hl30 := hs29.le
            refine WL.x (X.move rfl) (by decide) ?_
            refine WL.x (X.extract rfl rfl) (by decide) ?_
            refine WL.x (X.extract rfl rfl) (by decide) ?_
            refine WL.x (X.assign rfl) (by decide) ?_
            refine WL.x (X.assign rfl) (by decide) ?_
            refine WL.nil ?_
            refine WK.nThen ?_
            refine WC.seq ?_
            refine WC.seq ?_
            refine WC.draw (π := (.cons 0 (.cons 1 (.cons 2 (.cons 3 (.cons 4 (.cons 5 (.cons 6 (.cons 7 (.cons 8 (.cons 9 .done))))))))))) [] [] rfl (by kernel_rfl) ?_
            refine DW.x rfl rfl (X.move rfl) (by decide) ?_
            refine DW.cond rfl rfl (X.eql rfl rfl) (by decide) (fun h31 => ?_) (fun h31 => ?_)
            · have he := evenR_ok (s := s) (lv := x.Levels) (sh := x.Shifts) (by omega)
              have hek := he.1
              have hea := he.2.1
              have her : (evenR s x.Levels x.Shifts).1 = evenL s x.Levels x.Shifts := (by rw [he.2.2])
              have hel := evenL_len s x.Levels x.Shifts
              have heb := evenL_bd hek hea
              have hen := hek.nV
              have hin := rank_in2 hea (w := (which : Int).toNat) (by omega)
              rw [her] at hs29
              refine DW.x rfl rfl (X.move rfl) (by decide) ?_
              refine DW.x rfl rfl (X.loadBA (k := 0) Try.isAgg33 Try.sizeOf33 rfl rfl rfl) (by decide) ?_
              refine DW.x rfl rfl (X.move rfl) (by decide) ?_
              refine DW.x rfl rfl (X.move rfl) (by decide) ?_
              refine DW.x rfl rfl (X.call Try.call44 rfl (lower44 _ _ _ hs29 _ (by omega))) (by decide) ?_
              refine DW.cond rfl rfl (X.call Try.call41 rfl (in41 _ _ (rankN s (which : Int).toNat s.Values.length) rfl _ )) (by decide) (fun h32 => ?_) (fun h32 => ?_)
              · refine DW.x rfl rfl (X.not rfl) (by decide) ?_
                refine DW.x rfl rfl (X.pickT rfl rfl rfl) (by decide) ?_
                refine DW.nil ?_
                refine WK.nThen ?_
                refine WC.condF rfl ?_
                refine WC.skip ?_
                refine WK.nThen ?_
                refine WC.seq ?_
                refine WC.seq ?_
                refine WC.region ?_
                refine WL.x (X.assign rfl) (by decide) ?_
                refine WL.nil ?_
                refine WK.nThen ?_
                refine WC.block ?_
                refine WC.loop (G := Nat) (fun i => 2 - i) (fun i => m24) (fun i => [blk b23 33 [.int .i64 ((rankN s (which : Int).toNat s.Values.length).Lo), .int .i64 ((rankN s (which : Int).toNat s.Values.length).Hi)], blk b14 52 [v7, v9], blk b13 25 [v1, v3]]) (fun i => [(2, .int .i64 (which)), (3, .pointer (some ⟨b13, 0, none⟩)), (7, .bool true), (10, .pointer (some ⟨b23, 0, none⟩)), (14, .int .i64 (↑i))]) (fun i => i ≤ 2) 0 rfl (.refl _) (.cons rfl (.cons rfl (.cons rfl (.cons rfl (.cons rfl .nil))))) ?_ ?_
                · omega
                · rintro i hF33
                  show WK _ _ m24 [blk b23 33 [.int .i64 ((rankN s (which : Int).toNat s.Values.length).Lo), .int .i64 ((rankN s (which : Int).toNat s.Values.length).Hi)], blk b14 52 [v7, v9], blk b13 25 [v1, v3]] [(2, .int .i64 (which)), (3, .pointer (some ⟨b13, 0, none⟩)), (7, .bool true), (10, .pointer (some ⟨b23, 0, none⟩)), (14, .int .i64 (↑i))] _
                  replace hF33 : i ≤ 2 := hF33
                  have hi := hF33
                  refine WK.good (fun hgood0 => ?_)
                  refine WC.seq ?_
                  refine WC.seq ?_
                  refine WC.region ?_
                  refine WL.x (X.move rfl) (by decide) ?_
                  refine WL.cond (X.lss rfl rfl) (by decide) (fun h34 => ?_) (fun h34 => ?_)
                  · refine WL.nil ?_
                    refine WK.nThen ?_
                    refine WC.condT rfl ?_
                    refine WC.skip ?_
                    refine WK.nThen ?_
                    refine WC.seq ?_
                    refine WC.block ?_
                    refine WC.seq ?_
                    refine WC.region ?_
                    refine WL.x (X.loadBA (k := 2) Try.isAgg25 Try.sizeOf25 rfl rfl rfl) (by decide) ?_
                    refine WL.x (X.move rfl) (by decide) ?_
                    refine WL.x (X.move rfl) (by decide) ?_
                    refine WL.x (X.eql rfl rfl) (by decide) ?_
                    refine WL.tm (T.call Try.call45 rfl (best45 _ _ s ⟨_, _, rfl, hs2, hs4⟩ _ _ (by assumption) (by omega))) (by decide) fun m35 r36 hle37 hR38 => ?_
                    obtain ⟨c39, rfl, hc40⟩ := hR38
                    replace hs2 := hs2.mono hle37
                    replace hs4 := hs4.mono hle37
                    replace hs8 := hs8.mono hle37
                    replace hs10 := hs10.mono hle37
                    replace hp21 := hp21.mono hle37
                    replace hp22 := hp22.mono hle37
                    replace hs29 := hs29.mono hle37
                    obtain ⟨v41, v43, rfl, hs42, hs44⟩ := hc40
                    have hl45 := hs42.le
                    have hl46 := hs44.le
                    refine WL.tn (T.alloc Try.zeroValue52 rfl) (by decide) fun b47 => ?_
                    refine WL.ts (T.storeBA (k := 0) Try.sizeOf52 rfl rfl rfl (one_cons hs42.one (one_cons hs44.one one_nil)) rfl rfl) ?_
                    refine WL.nil ?_
                    refine WK.nThen ?_
                    refine WC.seq ?_
                    refine WC.region ?_
                    refine WL.x (X.loadBA (k := 3) Try.isAgg25 Try.sizeOf25 rfl rfl rfl) (by decide) ?_
                    refine WL.x (X.field Try.runUnderlying52 rfl Try.sizeOf28 rfl) (by decide) ?_
                    refine WL.x (X.loadB (k := 0) Try.isAgg28 rfl rfl rfl) (by decide) ?_
                    refine WL.x (X.field Try.runUnderlying52 rfl Try.sizeOf28 rfl) (by decide) ?_
                    refine WL.x (X.loadB (k := 0) Try.isAgg28 rfl rfl rfl) (by decide) ?_
                    refine WL.tm (T.call Try.call39 rfl (even39 _ _ s ⟨_, _, rfl, hs2, hs4⟩ _ _ hs42 _ _ hs44 )) (by decide) fun m48 r49 hle50 hR51 => ?_
                    obtain ⟨v52, rfl, hs53⟩ := hR51
                    replace hs2 := hs2.mono hle50
                    replace hs4 := hs4.mono hle50
                    replace hs8 := hs8.mono hle50
                    replace hs10 := hs10.mono hle50
                    replace hp21 := hp21.mono hle50
                    replace hp22 := hp22.mono hle50
                    replace hs29 := hs29.mono hle50
                    replace hs42 := hs42.mono hle50
                    replace hs44 := hs44.mono hle50
                    have hl54 := hs53.le
                    refine WL.x (X.move rfl) (by decide) ?_
                    refine WL.x (X.extract rfl rfl) (by decide) ?_
                    refine WL.x (X.extract rfl rfl) (by decide) ?_
                    refine WL.x (X.assign rfl) (by decide) ?_
                    refine WL.x (X.assign rfl) (by decide) ?_
                    refine WL.nil ?_
                    refine WK.nThen ?_
                    refine WC.seq ?_
                    have hg := evenR_agree hok (best_agree hok which (decide ((↑i : Int) = 1)))
                    have hgb := evenL_bd hok (best_agree hok which (decide ((↑i : Int) = 1)))
                    have hgl := evenL_len s (bestR s which (decide ((↑i : Int) = 1))).Levels (bestR s which (decide ((↑i : Int) = 1))).Shifts
                    have hg1 : (evenR s (bestR s which (decide ((↑i : Int) = 1))).Levels (bestR s which (decide ((↑i : Int) = 1))).Shifts).1 = evenL s (bestR s which (decide ((↑i : Int) = 1))).Levels (bestR s which (decide ((↑i : Int) = 1))).Shifts := (by rw [hg])
                    have hg2 : (evenR s (bestR s which (decide ((↑i : Int) = 1))).Levels (bestR s which (decide ((↑i : Int) = 1))).Shifts).2 = 0 := (by rw [hg])
                    have hq := best_rank2 (s := s) (c := which) (by omega) (by omega) (decide ((↑i : Int) = 1))
                    have hq1 := fun (h : ¬ (↑i : Int) = 1) => hq.1 (decide_eq_false h)
                    have hq2 := fun (h : (↑i : Int) = 1) => hq.2 (decide_eq_true h)
                    rw [hg1] at hs53
                    rw [hg2]
                    refine WC.draw (π := (.cons 0 (.cons 1 (.cons 2 (.cons 3 (.cons 4 (.cons 5 (.cons 6 (.cons 7 (.cons 8 (.cons 9 (.cons 10 (.cons 11 (.cons 12 (.cons 13 (.cons 14 (.cons 15 (.cons 16 (.cons 17 (.cons 18 (.cons 19 (.cons 20 (.cons 21 (.cons 22 (.cons 23 (.cons 24 (.cons 25 .done))))))))))))))))))))))))))) [] [] rfl (by kernel_rfl) ?_
                    refine DW.x rfl rfl (X.move rfl) (by decide) ?_
                    refine DW.x rfl rfl (X.neq rfl rfl) (by decide) ?_
                    refine DW.x rfl rfl (X.move rfl) (by decide) ?_
                    refine DW.x rfl rfl (X.move rfl) (by decide) ?_
                    refine DW.cond rfl rfl (X.eql rfl rfl) (by decide) (fun h55 => ?_) (fun h55 => ?_)
                    · refine DW.x rfl rfl (X.move rfl) (by decide) ?_
                      refine DW.x rfl rfl (X.move rfl) (by decide) ?_
                      refine DW.x rfl rfl (X.move rfl) (by decide) ?_
                      refine DW.x rfl rfl (X.call Try.call44 rfl (lower44 _ _ _ hs53 _ (by omega))) (by decide) ?_
                      refine DW.x rfl rfl (X.field Try.runUnderlying33 rfl Try.sizeOf3 rfl) (by decide) ?_
                      refine DW.x rfl rfl (X.loadB (k := 1) Try.isAgg3 rfl rfl rfl) (by decide) ?_
                      refine DW.condn rfl rfl (X.neq rfl rfl) (by decide) (fun h56 => ?_) (fun h56 => ?_)
                      · refine DW.x rfl rfl (X.pickT rfl rfl rfl) (by decide) ?_
                        refine DW.x rfl rfl (X.pickF rfl rfl rfl) (by decide) ?_
                        refine DW.x rfl rfl (X.move rfl) (by decide) ?_
                        refine DW.no rfl rfl (by decide) ?_
                        refine DW.no rfl rfl (by decide) ?_
                        refine DW.no rfl rfl (by decide) ?_
                        refine DW.no rfl rfl (by decide) ?_
                        refine DW.no rfl rfl (by decide) ?_
                        refine DW.no rfl rfl (by decide) ?_
                        refine DW.no rfl rfl (by decide) ?_
                        refine DW.no rfl rfl (by decide) ?_
                        refine DW.no rfl rfl (by decide) ?_
                        refine DW.no rfl rfl (by decide) ?_
                        refine DW.x rfl rfl (X.pickT rfl rfl rfl) (by decide) ?_
                        refine DW.nil ?_
                        refine WK.nThen ?_
                        refine WC.condT rfl ?_
                        refine WC.seq ?_
                        refine WC.region ?_
                        refine WL.x (X.assign rfl) (by decide) ?_
                        refine WL.nil ?_
                        refine WK.nThen ?_
                        refine WC.ret ?_
                        refine WK.rBlock ?_
                        refine WK.rThen ?_
                        refine WK.rThen ?_
                        refine WK.rBlock ?_
                        refine WK.rThen ?_
                        refine WK.ret1 rfl rfl (fun w' hw' => Ret.exact hw' ?_)
                        first | rfl | (exfalso; omega) | (exfalso; contradiction) | (exfalso; have q_ := hq1 (by omega); omega) | (exfalso; have q_ := hq2 (by omega); omega) | exact (bool_true (by omega)).symm
                      · refine DW.x rfl rfl (X.pickT rfl rfl rfl) (by decide) ?_
                        refine DW.x rfl rfl (X.pickF rfl rfl rfl) (by decide) ?_
                        refine DW.x rfl rfl (X.move rfl) (by decide) ?_
                        refine DW.x rfl rfl (X.move rfl) (by decide) ?_
                        refine DW.cond rfl rfl (X.eql rfl rfl) (by decide) (fun h57 => ?_) (fun h57 => ?_)
                        · refine DW.x rfl rfl (X.move rfl) (by decide) ?_
                          refine DW.x rfl rfl (X.move rfl) (by decide) ?_
                          refine DW.x rfl rfl (X.move rfl) (by decide) ?_
                          refine DW.x rfl rfl (X.call Try.call44 rfl (lower44 _ _ _ hs53 _ (by omega))) (by decide) ?_
                          refine DW.x rfl rfl (X.field Try.runUnderlying33 rfl Try.sizeOf3 rfl) (by decide) ?_
                          refine DW.x rfl rfl (X.loadB (k := 1) Try.isAgg3 rfl rfl rfl) (by decide) ?_
                          refine DW.condn rfl rfl (X.neq rfl rfl) (by decide) (fun h58 => ?_) (fun h58 => ?_)
                          · refine DW.x rfl rfl (X.pickT rfl rfl rfl) (by decide) ?_
                            refine DW.x rfl rfl (X.pickF rfl rfl rfl) (by decide) ?_
                            refine DW.nil ?_
                            refine WK.nThen ?_
                            refine WC.condT rfl ?_
                            refine WC.seq ?_
                            refine WC.region ?_
                            refine WL.x (X.assign rfl) (by decide) ?_
                            refine WL.nil ?_
                            refine WK.nThen ?_
                            refine WC.ret ?_
                            refine WK.rBlock ?_
                            refine WK.rThen ?_
                            refine WK.rThen ?_
                            refine WK.rBlock ?_
                            refine WK.rThen ?_
                            refine WK.ret1 rfl rfl (fun w' hw' => Ret.exact hw' ?_)
                            first | rfl | (exfalso; omega) | (exfalso; contradiction) | (exfalso; have q_ := hq1 (by omega); omega) | (exfalso; have q_ := hq2 (by omega); omega) | exact (bool_true (by omega)).symm
                          · refine DW.x rfl rfl (X.pickT rfl rfl rfl) (by decide) ?_
                            refine DW.x rfl rfl (X.pickF rfl rfl rfl) (by decide) ?_
                            refine DW.nil ?_
                            refine WK.nThen ?_
                            refine WC.condF rfl ?_
                            refine WC.skip ?_
                            refine WK.nBlock ?_
                            refine WK.nThen ?_
                            refine WC.region ?_
                            refine WL.x (X.move rfl) (by decide) ?_
                            refine WL.x (X.add rfl rfl (by omega) (by omega)) (by decide) ?_
                            refine WL.x (X.assign rfl) (by decide) ?_
                            refine WL.nil ?_
                            refine WK.nThen ?_
                            refine WK.back hgood0 (Mem.le_trans hle37 hle50) ?_
                            refine WK.next (i + 1) rfl (.cons _ (.cons_cons _ (.cons_cons _ (.cons_cons _ .slnil)))) (.cons rfl (.cons rfl (.cons rfl (.cons rfl (.cons rfl .nil))))) ?_ ?_
                            · omega
                            · omega
                        · refine DW.x rfl rfl (X.move rfl) (by decide) ?_
                          refine DW.no rfl rfl (by decide) ?_
                          refine DW.no rfl rfl (by decide) ?_
                          refine DW.no rfl rfl (by decide) ?_
                          refine DW.no rfl rfl (by decide) ?_
                          refine DW.no rfl rfl (by decide) ?_
                          refine DW.no rfl rfl (by decide) ?_
                          refine DW.x rfl rfl (X.pickF rfl rfl rfl) (by decide) ?_
                          refine DW.x rfl rfl (X.pickF rfl rfl rfl) (by decide) ?_
                          refine DW.nil ?_
                          refine WK.nThen ?_
                          refine WC.condF rfl ?_
                          refine WC.skip ?_
                          refine WK.nBlock ?_
                          refine WK.nThen ?_
                          refine WC.region ?_
                          refine WL.x (X.move rfl) (by decide) ?_
                          refine WL.x (X.add rfl rfl (by omega) (by omega)) (by decide) ?_
                          refine WL.x (X.assign rfl) (by decide) ?_
                          refine WL.nil ?_
                          refine WK.nThen ?_
                          refine WK.back hgood0 (Mem.le_trans hle37 hle50) ?_
                          refine WK.next (i + 1) rfl (.cons _ (.cons_cons _ (.cons_cons _ (.cons_cons _ .slnil)))) (.cons rfl (.cons rfl (.cons rfl (.cons rfl (.cons rfl .nil))))) ?_ ?_
                          · omega
                          · omega
                    · refine DW.x rfl rfl (X.move rfl) (by decide) ?_
                      refine DW.no rfl rfl (by decide) ?_
                      refine DW.no rfl rfl (by decide) ?_
                      refine DW.no rfl rfl (by decide) ?_
                      refine DW.no rfl rfl (by decide) ?_
                      refine DW.no rfl rfl (by decide) ?_
                      refine DW.no rfl rfl (by decide) ?_
                      refine DW.x rfl rfl (X.pickF rfl rfl rfl) (by decide) ?_
                      refine DW.x rfl rfl (X.pickF rfl rfl rfl) (by decide) ?_
                      refine DW.x rfl rfl (X.move rfl) (by decide) ?_
                      refine DW.x rfl rfl (X.move rfl) (by decide) ?_
                      refine DW.cond rfl rfl (X.eql rfl rfl) (by decide) (fun h59 => ?_) (fun h59 => ?_)
                      · refine DW.x rfl rfl (X.move rfl) (by decide) ?_
                        refine DW.x rfl rfl (X.move rfl) (by decide) ?_
                        refine DW.x rfl rfl (X.move rfl) (by decide) ?_
                        refine DW.x rfl rfl (X.call Try.call44 rfl (lower44 _ _ _ hs53 _ (by omega))) (by decide) ?_
                        refine DW.x rfl rfl (X.field Try.runUnderlying33 rfl Try.sizeOf3 rfl) (by decide) ?_
                        refine DW.x rfl rfl (X.loadB (k := 1) Try.isAgg3 rfl rfl rfl) (by decide) ?_
                        refine DW.condn rfl rfl (X.neq rfl rfl) (by decide) (fun h60 => ?_) (fun h60 => ?_)
                        · refine DW.x rfl rfl (X.pickT rfl rfl rfl) (by decide) ?_
                          refine DW.x rfl rfl (X.pickF rfl rfl rfl) (by decide) ?_
                          refine DW.nil ?_
                          refine WK.nThen ?_
                          refine WC.condT rfl ?_
                          refine WC.seq ?_
                          refine WC.region ?_
                          refine WL.x (X.assign rfl) (by decide) ?_
                          refine WL.nil ?_
                          refine WK.nThen ?_
                          refine WC.ret ?_
                          refine WK.rBlock ?_
                          refine WK.rThen ?_
                          refine WK.rThen ?_
                          refine WK.rBlock ?_
                          refine WK.rThen ?_
                          refine WK.ret1 rfl rfl (fun w' hw' => Ret.exact hw' ?_)
                          first | rfl | (exfalso; omega) | (exfalso; contradiction) | (exfalso; have q_ := hq1 (by omega); omega) | (exfalso; have q_ := hq2 (by omega); omega) | exact (bool_true (by omega)).symm
                        · refine DW.x rfl rfl (X.pickT rfl rfl rfl) (by decide) ?_
                          refine DW.x rfl rfl (X.pickF rfl rfl rfl) (by decide) ?_
                          refine DW.nil ?_
                          refine WK.nThen ?_
                          refine WC.condF rfl ?_
                          refine WC.skip ?_
                          refine WK.nBlock ?_
                          refine WK.nThen ?_
                          refine WC.region ?_
                          refine WL.x (X.move rfl) (by decide) ?_
                          refine WL.x (X.add rfl rfl (by omega) (by omega)) (by decide) ?_
                          refine WL.x (X.assign rfl) (by decide) ?_
                          refine WL.nil ?_
                          refine WK.nThen ?_
                          refine WK.back hgood0 (Mem.le_trans hle37 hle50) ?_
                          refine WK.next (i + 1) rfl (.cons _ (.cons_cons _ (.cons_cons _ (.cons_cons _ .slnil)))) (.cons rfl (.cons rfl (.cons rfl (.cons rfl (.cons rfl .nil))))) ?_ ?_
                          · omega
                          · omega
                      · refine DW.x rfl rfl (X.move rfl) (by decide) ?_
                        refine DW.no rfl rfl (by decide) ?_
                        refine DW.no rfl rfl (by decide) ?_
                        refine DW.no rfl rfl (by decide) ?_
                        refine DW.no rfl rfl (by decide) ?_
                        refine DW.no rfl rfl (by decide) ?_
                        refine DW.no rfl rfl (by decide) ?_
                        refine DW.x rfl rfl (X.pickF rfl rfl rfl) (by decide) ?_
                        refine DW.x rfl rfl (X.pickF rfl rfl rfl) (by decide) ?_
                        refine DW.nil ?_
                        refine WK.nThen ?_
                        refine WC.condF rfl ?_
                        refine WC.skip ?_
                        refine WK.nBlock ?_
                        refine WK.nThen ?_
                        refine WC.region ?_
                        refine WL.x (X.move rfl) (by decide) ?_
                        refine WL.x (X.add rfl rfl (by omega) (by omega)) (by decide) ?_
                        refine WL.x (X.assign rfl) (by decide) ?_
                        refine WL.nil ?_
                        refine WK.nThen ?_
                        refine WK.back hgood0 (Mem.le_trans hle37 hle50) ?_
                        refine WK.next (i + 1) rfl (.cons _ (.cons_cons _ (.cons_cons _ (.cons_cons _ .slnil)))) (.cons rfl (.cons rfl (.cons rfl (.cons rfl (.cons rfl .nil))))) ?_ ?_
                        · omega
                        · omega
                  · refine WL.nil ?_
                    refine WK.nThen ?_
                    refine WC.condF rfl ?_
                    refine WC.exit ?_
                    refine WK.eThen ?_
                    refine WK.eThen ?_
                    refine WK.eHit ?_
                    refine WK.nThen ?_
                    refine WC.seq ?_
                    refine WC.region ?_
                    refine WL.x (X.move rfl) (by decide) ?_
                    refine WL.x (X.assign rfl) (by decide) ?_
                    refine WL.nil ?_
                    refine WK.nThen ?_
                    refine WC.ret ?_
                    refine WK.ret1 rfl rfl (fun w' hw' => Ret.exact hw' ?_)
                    first | rfl | (exfalso; omega) | (exfalso; contradiction) | (exfalso; have q_ := hq1 (by omega); omega) | (exfalso; have q_ := hq2 (by omega); omega) | exact (bool_true (by omega)).symm
              · refine DW.x rfl rfl (X.not rfl) (by decide) ?_
                refine DW.x rfl rfl (X.pickT rfl rfl rfl) (by decide) ?_
                refine DW.nil ?_
                refine WK.nThen ?_
                refine WC.condT rfl ?_
                refine WC.seq ?_
                refine WC.region ?_
                refine WL.x (X.assign rfl) (by decide) ?_
                refine WL.nil ?_
                refine WK.nThen ?_
                refine WC.ret ?_
                refine WK.rThen ?_
                refine WK.ret1 rfl rfl (fun w' hw' => Ret.exact hw' ?_)
                first | rfl | (exfalso; omega) | (exfalso; contradiction) | (exfalso; have q_ := hq1 (by omega); omega) | (exfalso; have q_ := hq2 (by omega); omega) | exact (bool_true (by omega)).symm
            · refine DW.x rfl rfl (X.move rfl) (by decide) ?_
              refine DW.no rfl rfl (by decide) ?_
              refine DW.no rfl rfl (by decide) ?_
              refine DW.no rfl rfl (by decide) ?_
              refine DW.no rfl rfl (by decide) ?_
              refine DW.no rfl rfl (by decide) ?_
              refine DW.no rfl rfl (by decide) ?_
              refine DW.x rfl rfl (X.pickF rfl rfl rfl) (by decide) ?_
              refine DW.nil ?_
              refine WK.nThen ?_
              refine WC.condF rfl ?_
              refine WC.skip ?_
              refine WK.nThen ?_
              refine WC.seq ?_
              refine WC.seq ?_
              refine WC.region ?_
              refine WL.x (X.assign rfl) (by decide) ?_
              refine WL.nil ?_
              refine WK.nThen ?_
              refine WC.block ?_
              refine WC.loop (G := Nat) (fun i => 2 - i) (fun i => m24) (fun i => [blk b23 33 [.int .i64 ((rankN s (which : Int).toNat s.Values.length).Lo), .int .i64 ((rankN s (which : Int).toNat s.Values.length).Hi)], blk b14 52 [v7, v9], blk b13 25 [v1, v3]]) (fun i => [(2, .int .i64 (which)), (3, .pointer (some ⟨b13, 0, none⟩)), (7, .bool true), (10, .pointer (some ⟨b23, 0, none⟩)), (14, .int .i64 (↑i))]) (fun i => i ≤ 2) 0 rfl (.refl _) (.cons rfl (.cons rfl (.cons rfl (.cons rfl (.cons rfl .nil))))) ?_ ?_
              · omega
              · rintro i hF61
                show WK _ _ m24 [blk b23 33 [.int .i64 ((rankN s (which : Int).toNat s.Values.length).Lo), .int .i64 ((rankN s (which : Int).toNat s.Values.length).Hi)], blk b14 52 [v7, v9], blk b13 25 [v1, v3]] [(2, .int .i64 (which)), (3, .pointer (some ⟨b13, 0, none⟩)), (7, .bool true), (10, .pointer (some ⟨b23, 0, none⟩)), (14, .int .i64 (↑i))] _
                replace hF61 : i ≤ 2 := hF61
                have hi := hF61
                refine WK.good (fun hgood0 => ?_)
                refine WC.seq ?_
                refine WC.seq ?_
                refine WC.region ?_
                refine WL.x (X.move rfl) (by decide) ?_
                refine WL.cond (X.lss rfl rfl) (by decide) (fun h62 => ?_) (fun h62 => ?_)
                · refine WL.nil ?_
                  refine WK.nThen ?_
                  refine WC.condT rfl ?_
                  refine WC.skip ?_
                  refine WK.nThen ?_
                  refine WC.seq ?_
                  refine WC.block ?_
                  refine WC.seq ?_
                  refine WC.region ?_
                  refine WL.x (X.loadBA (k := 2) Try.isAgg25 Try.sizeOf25 rfl rfl rfl) (by decide) ?_
                  refine WL.x (X.move rfl) (by decide) ?_
                  refine WL.x (X.move rfl) (by decide) ?_
                  refine WL.x (X.eql rfl rfl) (by decide) ?_
                  refine WL.tm (T.call Try.call45 rfl (best45 _ _ s ⟨_, _, rfl, hs2, hs4⟩ _ _ (by assumption) (by omega))) (by decide) fun m63 r64 hle65 hR66 => ?_
                  obtain ⟨c67, rfl, hc68⟩ := hR66
                  replace hs2 := hs2.mono hle65
                  replace hs4 := hs4.mono hle65
                  replace hs8 := hs8.mono hle65
                  replace hs10 := hs10.mono hle65
                  replace hp21 := hp21.mono hle65
                  replace hp22 := hp22.mono hle65
                  replace hs29 := hs29.mono hle65
                  obtain ⟨v69, v71, rfl, hs70, hs72⟩ := hc68
                  have hl73 := hs70.le
                  have hl74 := hs72.le
                  refine WL.tn (T.alloc Try.zeroValue52 rfl) (by decide) fun b75 => ?_
                  refine WL.ts (T.storeBA (k := 0) Try.sizeOf52 rfl rfl rfl (one_cons hs70.one (one_cons hs72.one one_nil)) rfl rfl) ?_
                  refine WL.nil ?_
                  refine WK.nThen ?_
                  refine WC.seq ?_
                  refine WC.region ?_
                  refine WL.x (X.loadBA (k := 3) Try.isAgg25 Try.sizeOf25 rfl rfl rfl) (by decide) ?_
                  refine WL.x (X.field Try.runUnderlying52 rfl Try.sizeOf28 rfl) (by decide) ?_
                  refine WL.x (X.loadB (k := 0) Try.isAgg28 rfl rfl rfl) (by decide) ?_
                  refine WL.x (X.field Try.runUnderlying52 rfl Try.sizeOf28 rfl) (by decide) ?_
                  refine WL.x (X.loadB (k := 0) Try.isAgg28 rfl rfl rfl) (by decide) ?_
                  refine WL.tm (T.call Try.call39 rfl (even39 _ _ s ⟨_, _, rfl, hs2, hs4⟩ _ _ hs70 _ _ hs72 )) (by decide) fun m76 r77 hle78 hR79 => ?_
                  obtain ⟨v80, rfl, hs81⟩ := hR79
                  replace hs2 := hs2.mono hle78
                  replace hs4 := hs4.mono hle78
                  replace hs8 := hs8.mono hle78
                  replace hs10 := hs10.mono hle78
                  replace hp21 := hp21.mono hle78
                  replace hp22 := hp22.mono hle78
                  replace hs29 := hs29.mono hle78
                  replace hs70 := hs70.mono hle78
                  replace hs72 := hs72.mono hle78
                  have hl82 := hs81.le
                  refine WL.x (X.move rfl) (by decide) ?_
                  refine WL.x (X.extract rfl rfl) (by decide) ?_
                  refine WL.x (X.extract rfl rfl) (by decide) ?_
                  refine WL.x (X.assign rfl) (by decide) ?_
                  refine WL.x (X.assign rfl) (by decide) ?_
                  refine WL.nil ?_
                  refine WK.nThen ?_
                  refine WC.seq ?_
                  have hg := evenR_agree hok (best_agree hok which (decide ((↑i : Int) = 1)))
                  have hgb := evenL_bd hok (best_agree hok which (decide ((↑i : Int) = 1)))
                  have hgl := evenL_len s (bestR s which (decide ((↑i : Int) = 1))).Levels (bestR s which (decide ((↑i : Int) = 1))).Shifts
                  have hg1 : (evenR s (bestR s which (decide ((↑i : Int) = 1))).Levels (bestR s which (decide ((↑i : Int) = 1))).Shifts).1 = evenL s (bestR s which (decide ((↑i : Int) = 1))).Levels (bestR s which (decide ((↑i : Int) = 1))).Shifts := (by rw [hg])
                  have hg2 : (evenR s (bestR s which (decide ((↑i : Int) = 1))).Levels (bestR s which (decide ((↑i : Int) = 1))).Shifts).2 = 0 := (by rw [hg])
                  have hq := best_rank2 (s := s) (c := which) (by omega) (by omega) (decide ((↑i : Int) = 1))
                  have hq1 := fun (h : ¬ (↑i : Int) = 1) => hq.1 (decide_eq_false h)
                  have hq2 := fun (h : (↑i : Int) = 1) => hq.2 (decide_eq_true h)
                  rw [hg1] at hs81
                  rw [hg2]
                  refine WC.draw (π := (.cons 0 (.cons 1 (.cons 2 (.cons 3 (.cons 4 (.cons 5 (.cons 6 (.cons 7 (.cons 8 (.cons 9 (.cons 10 (.cons 11 (.cons 12 (.cons 13 (.cons 14 (.cons 15 (.cons 16 (.cons 17 (.cons 18 (.cons 19 (.cons 20 (.cons 21 (.cons 22 (.cons 23 (.cons 24 (.cons 25 .done))))))))))))))))))))))))))) [] [] rfl (by kernel_rfl) ?_
                  refine DW.x rfl rfl (X.move rfl) (by decide) ?_
                  refine DW.x rfl rfl (X.neq rfl rfl) (by decide) ?_
                  refine DW.x rfl rfl (X.move rfl) (by decide) ?_
                  refine DW.x rfl rfl (X.move rfl) (by decide) ?_
                  refine DW.cond rfl rfl (X.eql rfl rfl) (by decide) (fun h83 => ?_) (fun h83 => ?_)
                  · refine DW.x rfl rfl (X.move rfl) (by decide) ?_
                    refine DW.x rfl rfl (X.move rfl) (by decide) ?_
                    refine DW.x rfl rfl (X.move rfl) (by decide) ?_
                    refine DW.x rfl rfl (X.call Try.call44 rfl (lower44 _ _ _ hs81 _ (by omega))) (by decide) ?_
                    refine DW.x rfl rfl (X.field Try.runUnderlying33 rfl Try.sizeOf3 rfl) (by decide) ?_
                    refine DW.x rfl rfl (X.loadB (k := 1) Try.isAgg3 rfl rfl rfl) (by decide) ?_
                    refine DW.condn rfl rfl (X.neq rfl rfl) (by decide) (fun h84 => ?_) (fun h84 => ?_)
                    · refine DW.x rfl rfl (X.pickT rfl rfl rfl) (by decide) ?_
                      refine DW.x rfl rfl (X.pickF rfl rfl rfl) (by decide) ?_
                      refine DW.x rfl rfl (X.move rfl) (by decide) ?_
                      refine DW.no rfl rfl (by decide) ?_
                      refine DW.no rfl rfl (by decide) ?_
                      refine DW.no rfl rfl (by decide) ?_
                      refine DW.no rfl rfl (by decide) ?_
                      refine DW.no rfl rfl (by decide) ?_
                      refine DW.no rfl rfl (by decide) ?_
                      refine DW.no rfl rfl (by decide) ?_
                      refine DW.no rfl rfl (by decide) ?_
                      refine DW.no rfl rfl (by decide) ?_
                      refine DW.no rfl rfl (by decide) ?_
                      refine DW.x rfl rfl (X.pickT rfl rfl rfl) (by decide) ?_
                      refine DW.nil ?_
                      refine WK.nThen ?_
                      refine WC.condT rfl ?_
                      refine WC.seq ?_
                      refine WC.region ?_
                      refine WL.x (X.assign rfl) (by decide) ?_
                      refine WL.nil ?_
                      refine WK.nThen ?_
                      refine WC.ret ?_
                      refine WK.rBlock ?_
                      refine WK.rThen ?_
                      refine WK.rThen ?_
                      refine WK.rBlock ?_
                      refine WK.rThen ?_
                      refine WK.ret1 rfl rfl (fun w' hw' => Ret.exact hw' ?_)
                      first | rfl | (exfalso; omega) | (exfalso; contradiction) | (exfalso; have q_ := hq1 (by omega); omega) | (exfalso; have q_ := hq2 (by omega); omega) | exact (bool_true (by omega)).symm
                    · refine DW.x rfl rfl (X.pickT rfl rfl rfl) (by decide) ?_
                      refine DW.x rfl rfl (X.pickF rfl rfl rfl) (by decide) ?_
                      refine DW.x rfl rfl (X.move rfl) (by decide) ?_
                      refine DW.x rfl rfl (X.move rfl) (by decide) ?_
                      refine DW.cond rfl rfl (X.eql rfl rfl) (by decide) (fun h85 => ?_) (fun h85 => ?_)
                      · refine DW.x rfl rfl (X.move rfl) (by decide) ?_
                        refine DW.x rfl rfl (X.move rfl) (by decide) ?_
                        refine DW.x rfl rfl (X.move rfl) (by decide) ?_
                        refine DW.x rfl rfl (X.call Try.call44 rfl (lower44 _ _ _ hs81 _ (by omega))) (by decide) ?_
                        refine DW.x rfl rfl (X.field Try.runUnderlying33 rfl Try.sizeOf3 rfl) (by decide) ?_
                        refine DW.x rfl rfl (X.loadB (k := 1) Try.isAgg3 rfl rfl rfl) (by decide) ?_
                        refine DW.condn rfl rfl (X.neq rfl rfl) (by decide) (fun h86 => ?_) (fun h86 => ?_)
                        · refine DW.x rfl rfl (X.pickT rfl rfl rfl) (by decide) ?_
                          refine DW.x rfl rfl (X.pickF rfl rfl rfl) (by decide) ?_
                          refine DW.nil ?_
                          refine WK.nThen ?_
                          refine WC.condT rfl ?_
                          refine WC.seq ?_
                          refine WC.region ?_
                          refine WL.x (X.assign rfl) (by decide) ?_
                          refine WL.nil ?_
                          refine WK.nThen ?_
                          refine WC.ret ?_
                          refine WK.rBlock ?_
                          refine WK.rThen ?_
                          refine WK.rThen ?_
                          refine WK.rBlock ?_
                          refine WK.rThen ?_
                          refine WK.ret1 rfl rfl (fun w' hw' => Ret.exact hw' ?_)
                          first | rfl | (exfalso; omega) | (exfalso; contradiction) | (exfalso; have q_ := hq1 (by omega); omega) | (exfalso; have q_ := hq2 (by omega); omega) | exact (bool_true (by omega)).symm
                        · refine DW.x rfl rfl (X.pickT rfl rfl rfl) (by decide) ?_
                          refine DW.x rfl rfl (X.pickF rfl rfl rfl) (by decide) ?_
                          refine DW.nil ?_
                          refine WK.nThen ?_
                          refine WC.condF rfl ?_
                          refine WC.skip ?_
                          refine WK.nBlock ?_
                          refine WK.nThen ?_
                          refine WC.region ?_
                          refine WL.x (X.move rfl) (by decide) ?_
                          refine WL.x (X.add rfl rfl (by omega) (by omega)) (by decide) ?_
                          refine WL.x (X.assign rfl) (by decide) ?_
                          refine WL.nil ?_
                          refine WK.nThen ?_
                          refine WK.back hgood0 (Mem.le_trans hle65 hle78) ?_
                          refine WK.next (i + 1) rfl (.cons _ (.cons_cons _ (.cons_cons _ (.cons_cons _ .slnil)))) (.cons rfl (.cons rfl (.cons rfl (.cons rfl (.cons rfl .nil))))) ?_ ?_
                          · omega
                          · omega
                      · refine DW.x rfl rfl (X.move rfl) (by decide) ?_
                        refine DW.no rfl rfl (by decide) ?_
                        refine DW.no rfl rfl (by decide) ?_
                        refine DW.no rfl rfl (by decide) ?_
                        refine DW.no rfl rfl (by decide) ?_
                        refine DW.no rfl rfl (by decide) ?_
                        refine DW.no rfl rfl (by decide) ?_
                        refine DW.x rfl rfl (X.pickF rfl rfl rfl) (by decide) ?_
                        refine DW.x rfl rfl (X.pickF rfl rfl rfl) (by decide) ?_
                        refine DW.nil ?_
                        refine WK.nThen ?_
                        refine WC.condF rfl ?_
                        refine WC.skip ?_
                        refine WK.nBlock ?_
                        refine WK.nThen ?_
                        refine WC.region ?_
                        refine WL.x (X.move rfl) (by decide) ?_
                        refine WL.x (X.add rfl rfl (by omega) (by omega)) (by decide) ?_
                        refine WL.x (X.assign rfl) (by decide) ?_
                        refine WL.nil ?_
                        refine WK.nThen ?_
                        refine WK.back hgood0 (Mem.le_trans hle65 hle78) ?_
                        refine WK.next (i + 1) rfl (.cons _ (.cons_cons _ (.cons_cons _ (.cons_cons _ .slnil)))) (.cons rfl (.cons rfl (.cons rfl (.cons rfl (.cons rfl .nil))))) ?_ ?_
                        · omega
                        · omega
                  · refine DW.x rfl rfl (X.move rfl) (by decide) ?_
                    refine DW.no rfl rfl (by decide) ?_
                    refine DW.no rfl rfl (by decide) ?_
                    refine DW.no rfl rfl (by decide) ?_
                    refine DW.no rfl rfl (by decide) ?_
                    refine DW.no rfl rfl (by decide) ?_
                    refine DW.no rfl rfl (by decide) ?_
                    refine DW.x rfl rfl (X.pickF rfl rfl rfl) (by decide) ?_
                    refine DW.x rfl rfl (X.pickF rfl rfl rfl) (by decide) ?_
                    refine DW.x rfl rfl (X.move rfl) (by decide) ?_
                    refine DW.x rfl rfl (X.move rfl) (by decide) ?_
                    refine DW.cond rfl rfl (X.eql rfl rfl) (by decide) (fun h87 => ?_) (fun h87 => ?_)
                    · refine DW.x rfl rfl (X.move rfl) (by decide) ?_
                      refine DW.x rfl rfl (X.move rfl) (by decide) ?_
                      refine DW.x rfl rfl (X.move rfl) (by decide) ?_
                      refine DW.x rfl rfl (X.call Try.call44 rfl (lower44 _ _ _ hs81 _ (by omega))) (by decide) ?_
                      refine DW.x rfl rfl (X.field Try.runUnderlying33 rfl Try.sizeOf3 rfl) (by decide) ?_
                      refine DW.x rfl rfl (X.loadB (k := 1) Try.isAgg3 rfl rfl rfl) (by decide) ?_
                      refine DW.condn rfl rfl (X.neq rfl rfl) (by decide) (fun h88 => ?_) (fun h88 => ?_)
                      · refine DW.x rfl rfl (X.pickT rfl rfl rfl) (by decide) ?_
                        refine DW.x rfl rfl (X.pickF rfl rfl rfl) (by decide) ?_
                        refine DW.nil ?_
                        refine WK.nThen ?_
                        refine WC.condT rfl ?_
                        refine WC.seq ?_
                        refine WC.region ?_
                        refine WL.x (X.assign rfl) (by decide) ?_
                        refine WL.nil ?_
                        refine WK.nThen ?_
                        refine WC.ret ?_
                        refine WK.rBlock ?_
                        refine WK.rThen ?_
                        refine WK.rThen ?_
                        refine WK.rBlock ?_
                        refine WK.rThen ?_
                        refine WK.ret1 rfl rfl (fun w' hw' => Ret.exact hw' ?_)
                        first | rfl | (exfalso; omega) | (exfalso; contradiction) | (exfalso; have q_ := hq1 (by omega); omega) | (exfalso; have q_ := hq2 (by omega); omega) | exact (bool_true (by omega)).symm
                      · refine DW.x rfl rfl (X.pickT rfl rfl rfl) (by decide) ?_
                        refine DW.x rfl rfl (X.pickF rfl rfl rfl) (by decide) ?_
                        refine DW.nil ?_
                        refine WK.nThen ?_
                        refine WC.condF rfl ?_
                        refine WC.skip ?_
                        refine WK.nBlock ?_
                        refine WK.nThen ?_
                        refine WC.region ?_
                        refine WL.x (X.move rfl) (by decide) ?_
                        refine WL.x (X.add rfl rfl (by omega) (by omega)) (by decide) ?_
                        refine WL.x (X.assign rfl) (by decide) ?_
                        refine WL.nil ?_
                        refine WK.nThen ?_
                        refine WK.back hgood0 (Mem.le_trans hle65 hle78) ?_
                        refine WK.next (i + 1) rfl (.cons _ (.cons_cons _ (.cons_cons _ (.cons_cons _ .slnil)))) (.cons rfl (.cons rfl (.cons rfl (.cons rfl (.cons rfl .nil))))) ?_ ?_
                        · omega
                        · omega
                    · refine DW.x rfl rfl (X.move rfl) (by decide) ?_
                      refine DW.no rfl rfl (by decide) ?_
                      refine DW.no rfl rfl (by decide) ?_
                      refine DW.no rfl rfl (by decide) ?_
                      refine DW.no rfl rfl (by decide) ?_
                      refine DW.no rfl rfl (by decide) ?_
                      refine DW.no rfl rfl (by decide) ?_
                      refine DW.x rfl rfl (X.pickF rfl rfl rfl) (by decide) ?_
                      refine DW.x rfl rfl (X.pickF rfl rfl rfl) (by decide) ?_
                      refine DW.nil ?_
                      refine WK.nThen ?_
                      refine WC.condF rfl ?_
                      refine WC.skip ?_
                      refine WK.nBlock ?_
                      refine WK.nThen ?_
                      refine WC.region ?_
                      refine WL.x (X.move rfl) (by decide) ?_
                      refine WL.x (X.add rfl rfl (by omega) (by omega)) (by decide) ?_
                      refine WL.x (X.assign rfl) (by decide) ?_
                      refine WL.nil ?_
                      refine WK.nThen ?_
                      refine WK.back hgood0 (Mem.le_trans hle65 hle78) ?_
                      refine WK.next (i + 1) rfl (.cons _ (.cons_cons _ (.cons_cons _ (.cons_cons _ .slnil)))) (.cons rfl (.cons rfl (.cons rfl (.cons rfl (.cons rfl .nil))))) ?_ ?_
                      · omega
                      · omega
                · refine WL.nil ?_
                  refine WK.nThen ?_
                  refine WC.condF rfl ?_
                  refine WC.exit ?_
                  refine WK.eThen ?_
                  refine WK.eThen ?_
                  refine WK.eHit ?_
                  refine WK.nThen ?_
                  refine WC.seq ?_
                  refine WC.region ?_
                  refine WL.x (X.move rfl) (by decide) ?_
                  refine WL.x (X.assign rfl) (by decide) ?_
                  refine WL.nil ?_
                  refine WK.nThen ?_
                  refine WC.ret ?_
                  refine WK.ret1 rfl rfl (fun w' hw' => Ret.exact hw' ?_)
                  first | rfl | (exfalso; omega) | (exfalso; contradiction) | (exfalso; have q_ := hq1 (by omega); omega) | (exfalso; have q_ := hq2 (by omega); omega) | exact (bool_true (by omega)).symm
    · refine WL.yes rfl rfl ?_
      refine WL.x (X.not rfl) (by decide) ?_
      refine WL.x (X.pickF rfl rfl rfl) (by decide) ?_
      refine WL.x (X.move rfl) (by decide) ?_
      refine WL.no rfl rfl rfl (by decide) ?_
      refine WL.no rfl rfl rfl (by decide) ?_
      refine WL.x (X.pickT rfl rfl rfl) (by decide) ?_
      refine WL.x (X.move rfl) (by decide) ?_
      refine WL.no rfl rfl rfl (by decide) ?_
      refine WL.no rfl rfl rfl (by decide) ?_
      refine WL.no rfl rfl rfl (by decide) ?_
      refine WL.no rfl rfl rfl (by decide) ?_
      refine WL.no rfl rfl rfl (by decide) ?_
      refine WL.x (X.pickT rfl rfl rfl) (by decide) ?_
      refine WL.nil ?_
      refine WK.nThen ?_
      refine WC.condT rfl ?_
      refine WC.seq ?_
      refine WC.region ?_
      refine WL.x (X.move rfl) (by decide) ?_
      refine WL.x (X.assign rfl) (by decide) ?_
      refine WL.nil ?_
      refine WK.nThen ?_
      refine WC.ret ?_
      refine WK.rThen ?_
      refine WK.ret1 rfl rfl (fun w' hw' => Ret.exact hw' ?_)
      first | rfl | (exfalso; omega) | (exfalso; contradiction) | (exfalso; have q_ := hq1 (by omega); omega) | (exfalso; have q_ := hq2 (by omega); omega) | exact (bool_true (by omega)).symm
  · refine WL.x (X.not rfl) (by decide) ?_
    refine WL.x (X.move rfl) (by decide) ?_
    refine WL.no rfl rfl rfl (by decide) ?_
    refine WL.no rfl rfl rfl (by decide) ?_
    refine WL.no rfl rfl rfl (by decide) ?_
    refine WL.x (X.pickT rfl rfl rfl) (by decide) ?_
    refine WL.x (X.move rfl) (by decide) ?_
    refine WL.no rfl rfl rfl (by decide) ?_
    refine WL.no rfl rfl rfl (by decide) ?_
    refine WL.x (X.pickT rfl rfl rfl) (by decide) ?_
    refine WL.x (X.move rfl) (by decide) ?_
    refine WL.no rfl rfl rfl (by decide) ?_
    refine WL.no rfl rfl rfl (by decide) ?_
    refine WL.no rfl rfl rfl (by decide) ?_
    refine WL.no rfl rfl rfl (by decide) ?_
    refine WL.no rfl rfl rfl (by decide) ?_
    refine WL.x (X.pickT rfl rfl rfl) (by decide) ?_
    refine WL.nil ?_
    refine WK.nThen ?_
    refine WC.condT rfl ?_
    refine WC.seq ?_
    refine WC.region ?_
    refine WL.x (X.move rfl) (by decide) ?_
    refine WL.x (X.assign rfl) (by decide) ?_
    refine WL.nil ?_
    refine WK.nThen ?_
    refine WC.ret ?_
    refine WK.rThen ?_
    refine WK.ret1 rfl rfl (fun w' hw' => Ret.exact hw' ?_)
    first | rfl | (exfalso; omega) | (exfalso; contradiction) | (exfalso; have q_ := hq1 (by omega); omega) | (exfalso; have q_ := hq2 (by omega); omega) | exact (bool_true (by omega)).symm
end Go.Proofs.C8
