/- Stations: walks, third part, by program. -/
import Derived.Test.YtcpecjgppbiplaaS5Spec3
import Derived.Test.YtcpecjgppbiplaaS5W2
namespace Go.Proofs.S5
open Go Go.Kx

theorem reaches102 (m : Mem) (w : Wind) (l : List Station) (pr : Addr) (hpr : At m pr (regS w l)) (hw0 : windedE w l = 0) (a b more : Nat) (ia ib im : Int) (hia : ia = a) (hib : ib = b) (him : im = more) (ha : a < l.length) (hb : b < l.length) (hmo : more ≤ 64) : Exact Try.prog 102 #[.pointer (some pr), .int .i64 ia, .int .i64 ib, .int .i64 im] m (.bool (reachS w l b more a)) := by
  subst hia
  subst hib
  subst him
  have hz := windedE_zero hw0
  have hrl := (regB_mat w l).1
  have hl32 := (checkS_zero (l := l) hz.1).1
  refine Exact.start Try.func102 rfl Try.ntmps102 rfl fun wld => ?_
  refine WC.seq ?_
  refine WC.region ?_
  refine WL.x (X.assign rfl) (by decide) ?_
  refine WL.nil ?_
  refine WK.nThen ?_
  refine WC.seq ?_
  refine WC.region ?_
  refine WL.x (X.move rfl) (by decide) ?_
  refine WL.x (X.nilCheck rfl) (by decide) ?_
  have hp1 : At m ((pr).add 1026) l := At.Reg_2 hpr
  refine WL.x (X.field Try.runUnderlying92 rfl Try.sizeOf24 rfl) (by decide) ?_
  refine WL.xe (E.loadSl Try.isAgg24 rfl hp1) (by decide) (fun v2 hs3 => ?_)
  have hl4 := hs3.le
  refine WL.x (X.len Try.runUnderlying24 rfl hs3) (by decide) ?_
  refine WL.ta (T.makeN l.length (a := false) sl132 rfl rfl rfl (by omega) (by decide)) (by decide) (fun v5 => ?_)
  refine WL.x (X.assign rfl) (by decide) ?_
  refine WL.nil ?_
  refine WK.nThen ?_
  refine WC.seq ?_
  refine WC.region ?_
  refine WL.x (X.move rfl) (by decide) ?_
  refine WL.x (X.move rfl) (by decide) ?_
  refine WL.x (X.idxBo (k := 0) Try.runUnderlying132 Try.sizeOf4 rfl rfl rfl (by first | omega | (simp; omega) | simp) (by first | omega | (simp; omega) | simp)) (by decide) ?_
  refine WL.ts (T.storeBo (k := 0) (i := b) Try.sizeOf4 rfl rfl rfl (by first | omega | (simp; omega) | simp)) ?_
  refine WL.nil ?_
  refine WK.nThen ?_
  refine WC.seq ?_
  refine WC.seq ?_
  refine WC.region ?_
  refine WL.x (X.move rfl) (by decide) ?_
  refine WL.x (X.move rfl) (by decide) ?_
  refine WL.nil ?_
  refine WK.nThen ?_
  refine WC.block ?_
  refine WC.loop (G := Nat × Value × List Bool) (fun (j, va, L1) => more - j) (fun (j, va, L1) => m) (fun (j, va, L1) => [rowF (va) 4 (L1)]) (fun (j, va, L1) => [(0, .pointer (some (pr))), (1, .int .i64 (↑a)), (2, .int .i64 (↑b)), (9, va), (22, .int .i64 (↑more)), (23, .int .i64 (↑j))]) (fun (j, va, L1) => AtRow w l b j L1 ∧ j ≤ more) ((0, v5, (List.replicate l.length false).set b true)) rfl (.refl _) (.cons rfl (.cons rfl (.cons rfl (.cons rfl (.cons rfl (.cons rfl .nil)))))) ?_ ?_
  · exact ⟨by simpa using atRow_start (w := w) hb, Nat.zero_le _⟩
  · rintro ⟨j, va, L1⟩ hF6
    show WK _ _ m [rowF (va) 4 (L1)] [(0, .pointer (some (pr))), (1, .int .i64 (↑a)), (2, .int .i64 (↑b)), (9, va), (22, .int .i64 (↑more)), (23, .int .i64 (↑j))] _
    replace hF6 : AtRow w l b j L1 ∧ j ≤ more := hF6
    obtain ⟨hA, hj⟩ := hF6
    have hA1 := hA.1
    refine WC.seq ?_
    refine WC.region ?_
    refine WL.cond (X.lss rfl rfl) (by decide) (fun h7 => ?_) (fun h7 => ?_)
    · refine WL.nil ?_
      refine WK.nThen ?_
      refine WC.seq ?_
      refine WC.condT rfl ?_
      refine WC.skip ?_
      refine WK.nThen ?_
      refine WC.seq ?_
      refine WC.block ?_
      refine WC.seq ?_
      refine WC.region ?_
      refine WL.x (X.move rfl) (by decide) ?_
      refine WL.x (X.nilCheck rfl) (by decide) ?_
      have hp8 : At m ((pr).add 1026) l := At.Reg_2 hpr
      refine WL.x (X.field Try.runUnderlying92 rfl Try.sizeOf24 rfl) (by decide) ?_
      refine WL.xe (E.loadSl Try.isAgg24 rfl hp8) (by decide) (fun v9 hs10 => ?_)
      have hl11 := hs10.le
      refine WL.x (X.len Try.runUnderlying24 rfl hs10) (by decide) ?_
      refine WL.ta (T.makeN l.length (a := false) sl132 rfl rfl rfl (by omega) (by decide)) (by decide) (fun v12 => ?_)
      refine WL.x (X.assign rfl) (by decide) ?_
      refine WL.nil ?_
      refine WK.nThen ?_
      refine WC.seq ?_
      refine WC.seq ?_
      refine WC.region ?_
      refine WL.x (X.move rfl) (by decide) ?_
      refine WL.x (X.nilCheck rfl) (by decide) ?_
      have hp13 : At m ((pr).add 1026) l := At.Reg_2 hpr
      refine WL.x (X.field Try.runUnderlying92 rfl Try.sizeOf24 rfl) (by decide) ?_
      refine WL.xe (E.loadSl Try.isAgg24 rfl hp13) (by decide) (fun v14 hs15 => ?_)
      have hl16 := hs15.le
      refine WL.x (X.len Try.runUnderlying24 rfl hs15) (by decide) ?_
      refine WL.x (X.move rfl) (by decide) ?_
      refine WL.nil ?_
      refine WK.nThen ?_
      refine WC.block ?_
      refine WC.loop (G := Nat × List Bool) (fun (i, N1) => l.length - i) (fun (i, N1) => m) (fun (i, N1) => [rowF (v12) 4 (N1), rowF (va) 4 (L1)]) (fun (i, N1) => [(0, .pointer (some (pr))), (1, .int .i64 (↑a)), (2, .int .i64 (↑b)), (9, va), (10, v12), (22, .int .i64 (↑more)), (23, .int .i64 (↑j)), (35, .int .i64 (↑l.length)), (36, .int .i64 (↑i))]) (fun (i, N1) => Half w l b j i N1 ∧ i ≤ l.length) ((0, List.replicate l.length false)) rfl (.refl _) (.cons rfl (.cons rfl (.cons rfl (.cons rfl (.cons rfl (.cons rfl (.cons rfl (.cons rfl (.cons rfl .nil))))))))) ?_ ?_
      · exact ⟨by simpa using half_zero w l b j, Nat.zero_le _⟩
      · rintro ⟨i, N1⟩ hF17
        show WK _ _ m [rowF (v12) 4 (N1), rowF (va) 4 (L1)] [(0, .pointer (some (pr))), (1, .int .i64 (↑a)), (2, .int .i64 (↑b)), (9, va), (10, v12), (22, .int .i64 (↑more)), (23, .int .i64 (↑j)), (35, .int .i64 (↑l.length)), (36, .int .i64 (↑i))] _
        replace hF17 : Half w l b j i N1 ∧ i ≤ l.length := hF17
        obtain ⟨hN, hi⟩ := hF17
        have hN1 := hN.1
        refine WC.seq ?_
        refine WC.region ?_
        refine WL.cond (X.lss rfl rfl) (by decide) (fun h18 => ?_) (fun h18 => ?_)
        · refine WL.nil ?_
          refine WK.nThen ?_
          refine WC.seq ?_
          refine WC.condT rfl ?_
          refine WC.skip ?_
          refine WK.nThen ?_
          refine WC.seq ?_
          refine WC.block ?_
          refine WC.seq ?_
          refine WC.region ?_
          refine WL.x (X.move rfl) (by decide) ?_
          refine WL.x (X.assign rfl) (by decide) ?_
          refine WL.nil ?_
          refine WK.nThen ?_
          refine WC.seq ?_
          refine WC.region ?_
          refine WL.x (X.move rfl) (by decide) ?_
          refine WL.x (X.nilCheck rfl) (by decide) ?_
          have hp19 : At m ((pr).add 1026) l := At.Reg_2 hpr
          refine WL.x (X.field Try.runUnderlying92 rfl Try.sizeOf24 rfl) (by decide) ?_
          refine WL.xe (E.loadSl Try.isAgg24 rfl hp19) (by decide) (fun v20 hs21 => ?_)
          have hl22 := hs21.le
          refine WL.x (X.len Try.runUnderlying24 rfl hs21) (by decide) ?_
          refine WL.x (X.move rfl) (by decide) ?_
          refine WL.nil ?_
          refine WK.nThen ?_
          refine WC.block ?_
          refine WC.loop (G := Nat × List Bool) (fun (k, N2) => l.length - k) (fun (k, N2) => m) (fun (k, N2) => [rowF (v12) 4 (N2), rowF (va) 4 (L1)]) (fun (k, N2) => [(0, .pointer (some (pr))), (1, .int .i64 (↑a)), (2, .int .i64 (↑b)), (9, va), (10, v12), (11, .int .i64 (↑i)), (22, .int .i64 (↑more)), (23, .int .i64 (↑j)), (35, .int .i64 (↑l.length)), (36, .int .i64 (↑i)), (43, .int .i64 (↑l.length)), (44, .int .i64 (↑k))]) (fun (k, N2) => Part w l b j i k N2 ∧ k ≤ l.length) ((0, N1)) rfl (.refl _) (.cons rfl (.cons rfl (.cons rfl (.cons rfl (.cons rfl (.cons rfl (.cons rfl (.cons rfl (.cons rfl (.cons rfl (.cons rfl (.cons rfl .nil)))))))))))) ?_ ?_
          · exact ⟨half_part hN (by omega), Nat.zero_le _⟩
          · rintro ⟨k, N2⟩ hF23
            show WK _ _ m [rowF (v12) 4 (N2), rowF (va) 4 (L1)] [(0, .pointer (some (pr))), (1, .int .i64 (↑a)), (2, .int .i64 (↑b)), (9, va), (10, v12), (11, .int .i64 (↑i)), (22, .int .i64 (↑more)), (23, .int .i64 (↑j)), (35, .int .i64 (↑l.length)), (36, .int .i64 (↑i)), (43, .int .i64 (↑l.length)), (44, .int .i64 (↑k))] _
            replace hF23 : Part w l b j i k N2 ∧ k ≤ l.length := hF23
            obtain ⟨hP, hk⟩ := hF23
            have hP1 := hP.1
            refine WC.seq ?_
            refine WC.region ?_
            refine WL.cond (X.lss rfl rfl) (by decide) (fun h24 => ?_) (fun h24 => ?_)
            · refine WL.nil ?_
              refine WK.nThen ?_
              refine WC.seq ?_
              refine WC.condT rfl ?_
              refine WC.skip ?_
              refine WK.nThen ?_
              refine WC.seq ?_
              refine WC.block ?_
              refine WC.seq ?_
              refine WC.region ?_
              refine WL.x (X.move rfl) (by decide) ?_
              refine WL.x (X.assign rfl) (by decide) ?_
              refine WL.nil ?_
              refine WK.nThen ?_
              refine WC.seq ?_
              have hpi := (checkS_placed hz.1 (k := i) (by omega)).1
              have hpk := (checkS_placed hz.1 (k := k) (by omega)).1
              have hbd := boundS_bd hz.2 hpi hpk
              have hb1 := (regB_mat w l).bd hl32 (tightM_bd hw0) (a := k) (b := b) (by omega) (by omega)
              have hb2 := (regB_mat w l).bd hl32 (tightM_bd hw0) (a := i) (b := b) (by omega) (by omega)
              refine WC.draw (π := (.cons 0 (.cons 1 (.cons 2 (.cons 3 (.cons 4 (.cons 5 (.cons 6 (.cons 7 (.cons 8 (.cons 9 (.cons 10 (.cons 11 (.cons 12 (.cons 13 (.cons 14 (.cons 15 (.cons 16 (.cons 17 (.cons 18 (.cons 19 (.cons 20 (.cons 21 (.cons 22 (.cons 23 (.cons 24 (.cons 25 (.cons 26 (.cons 27 (.cons 28 (.cons 29 (.cons 30 (.cons 31 (.cons 32 (.cons 33 (.cons 34 (.cons 35 (.cons 36 (.cons 37 (.cons 38 (.cons 39 (.cons 40 (.cons 41 (.cons 42 (.cons 43 (.cons 44 (.cons 45 (.cons 46 (.cons 47 .done))))))))))))))))))))))))))))))))))))))))))))))))) [] [] rfl (by kernel_rfl) ?_
              refine DW.x rfl rfl (X.move rfl) (by decide) ?_
              refine DW.x rfl rfl (X.move rfl) (by decide) ?_
              refine DW.condn rfl rfl (X.neq rfl rfl) (by decide) (fun h25 => ?_) (fun h25 => ?_)
              · refine DW.x rfl rfl (X.move rfl) (by decide) ?_
                refine DW.x rfl rfl (X.move rfl) (by decide) ?_
                refine DW.x rfl rfl (X.move rfl) (by decide) ?_
                refine DW.x rfl rfl (X.idxBo (k := 1) Try.runUnderlying132 Try.sizeOf4 rfl rfl rfl (by first | omega | (simp; omega) | simp) (by first | omega | (simp; omega) | simp)) (by decide) ?_
                refine DW.condb rfl rfl (X.loadBo (k := 1) (i := k) Try.isAgg4 rfl rfl (by first | omega | (simp; omega) | simp)) (by decide) (fun h26 => ?_) (fun h26 => ?_)
                · refine DW.x rfl rfl (X.pickT rfl rfl rfl) (by decide) ?_
                  refine DW.x rfl rfl (X.move rfl) (by decide) ?_
                  refine DW.x rfl rfl (X.move rfl) (by decide) ?_
                  refine DW.x rfl rfl (X.nilCheck rfl) (by decide) ?_
                  have hp27 : At m ((pr).add 1024) w := At.Reg_1 hpr
                  refine DW.x rfl rfl (X.field Try.runUnderlying92 rfl Try.sizeOf23 rfl) (by decide) ?_
                  refine DW.xe rfl rfl (E.loadAgg Try.isAgg23 Try.sizeOf23 rfl hp27) (by decide) (fun c28 hc29 => ?_)
                  obtain rfl := hc29
                  refine DW.x rfl rfl (X.move rfl) (by decide) ?_
                  refine DW.x rfl rfl (X.nilCheck rfl) (by decide) ?_
                  have hp30 : At m ((pr).add 1026) l := At.Reg_2 hpr
                  refine DW.x rfl rfl (X.field Try.runUnderlying92 rfl Try.sizeOf24 rfl) (by decide) ?_
                  refine DW.xe rfl rfl (E.loadSl Try.isAgg24 rfl hp30) (by decide) (fun v31 hs32 => ?_)
                  have hl33 := hs32.le
                  refine DW.x rfl rfl (X.move rfl) (by decide) ?_
                  refine DW.xe rfl rfl (E.idxN i Try.runUnderlying24 Try.sizeOf58 rfl rfl hs32 (by omega)) (by decide) (fun p34 hp35 => ?_)
                  refine DW.xe rfl rfl (E.loadAgg Try.isAgg58 Try.sizeOf58 rfl hp35) (by decide) (fun c36 hc37 => ?_)
                  obtain ⟨v38, rfl, hs39⟩ := hc37
                  have hl40 := hs39.le
                  refine DW.x rfl rfl (X.move rfl) (by decide) ?_
                  refine DW.x rfl rfl (X.nilCheck rfl) (by decide) ?_
                  have hp41 : At m ((pr).add 1026) l := At.Reg_2 hpr
                  refine DW.x rfl rfl (X.field Try.runUnderlying92 rfl Try.sizeOf24 rfl) (by decide) ?_
                  refine DW.xe rfl rfl (E.loadSl Try.isAgg24 rfl hp41) (by decide) (fun v42 hs43 => ?_)
                  have hl44 := hs43.le
                  refine DW.x rfl rfl (X.move rfl) (by decide) ?_
                  refine DW.xe rfl rfl (E.idxN k Try.runUnderlying24 Try.sizeOf58 rfl rfl hs43 (by omega)) (by decide) (fun p45 hp46 => ?_)
                  refine DW.xe rfl rfl (E.loadAgg Try.isAgg58 Try.sizeOf58 rfl hp46) (by decide) (fun c47 hc48 => ?_)
                  obtain ⟨v49, rfl, hs50⟩ := hc48
                  have hl51 := hs50.le
                  refine DW.x rfl rfl (X.call Try.call84 rfl (bound84 _ _ w rfl _ (gt l i) ⟨_, rfl, hs39⟩ _ (gt l k) ⟨_, rfl, hs50⟩ (by first | assumption | exact hz.2) (by first | assumption | exact hz.2) (by first | assumption | exact hz.2))) (by decide) ?_
                  refine DW.x rfl rfl (X.move rfl) (by decide) ?_
                  refine DW.x rfl rfl (X.move rfl) (by decide) ?_
                  refine DW.x rfl rfl (X.move rfl) (by decide) ?_
                  refine DW.x rfl rfl (X.nilCheck rfl) (by decide) ?_
                  have hp52 : Cells m (pr) (ints (regB w l)) := At.Reg_0 hpr
                  refine DW.x rfl rfl (X.field Try.runUnderlying92 rfl Try.sizeOf90 rfl) (by decide) ?_
                  refine DW.x rfl rfl (X.idxArM (off := 0) hp52 k Try.underlying90 Try.sizeOf88 rfl rfl (by omega) (by omega)) (by decide) ?_
                  refine DW.x rfl rfl (X.idxArM (off := 0 + k * 32) hp52 b Try.underlying88 Try.sizeOf3 rfl rfl (by omega) (by omega)) (by decide) ?_
                  refine DW.x rfl rfl (X.loadArM (off := 0 + k * 32 + b * 1) Try.isAgg3 rfl hp52 (by omega)) (by decide) ?_
                  refine DW.x rfl rfl (X.add rfl rfl (by omega) (by omega)) (by decide) ?_
                  refine DW.x rfl rfl (X.move rfl) (by decide) ?_
                  refine DW.x rfl rfl (X.move rfl) (by decide) ?_
                  refine DW.x rfl rfl (X.move rfl) (by decide) ?_
                  refine DW.x rfl rfl (X.nilCheck rfl) (by decide) ?_
                  have hp53 : Cells m (pr) (ints (regB w l)) := At.Reg_0 hpr
                  refine DW.x rfl rfl (X.field Try.runUnderlying92 rfl Try.sizeOf90 rfl) (by decide) ?_
                  refine DW.x rfl rfl (X.idxArM (off := 0) hp53 i Try.underlying90 Try.sizeOf88 rfl rfl (by omega) (by omega)) (by decide) ?_
                  refine DW.x rfl rfl (X.idxArM (off := 0 + i * 32) hp53 b Try.underlying88 Try.sizeOf3 rfl rfl (by omega) (by omega)) (by decide) ?_
                  refine DW.x rfl rfl (X.loadArM (off := 0 + i * 32 + b * 1) Try.isAgg3 rfl hp53 (by omega)) (by decide) ?_
                  refine DW.cond rfl rfl (X.eql rfl rfl) (by decide) (fun h54 => ?_) (fun h54 => ?_)
                  · refine DW.x rfl rfl (X.pickT rfl rfl rfl) (by decide) ?_
                    refine DW.nil ?_
                    refine WK.nThen ?_
                    refine WC.condT rfl ?_
                    refine WC.region ?_
                    refine WL.x (X.move rfl) (by decide) ?_
                    refine WL.x (X.move rfl) (by decide) ?_
                    refine WL.x (X.idxBo (k := 0) Try.runUnderlying132 Try.sizeOf4 rfl rfl rfl (by first | omega | (simp; omega) | simp) (by first | omega | (simp; omega) | simp)) (by decide) ?_
                    refine WL.ts (T.storeBo (k := 0) (i := i) Try.sizeOf4 rfl rfl rfl (by first | omega | (simp; omega) | simp)) ?_
                    refine WL.nil ?_
                    refine WK.nBlock ?_
                    refine WK.nThen ?_
                    refine WC.region ?_
                    refine WL.x (X.add rfl rfl (by omega) (by omega)) (by decide) ?_
                    refine WL.x (X.move rfl) (by decide) ?_
                    refine WL.nil ?_
                    refine WK.nThen ?_
                    refine WK.next ((k + 1, N2.set i true)) rfl (.refl _) (.cons rfl (.cons rfl (.cons rfl (.cons rfl (.cons rfl (.cons rfl (.cons rfl (.cons rfl (.cons rfl (.cons rfl (.cons rfl (.cons rfl .nil)))))))))))) ?_ ?_
                    · first | exact ⟨part_yes hP (by omega) ⟨by omega, (edge_iff hl32 (by omega) (by omega) hb).1 (by assumption)⟩ ((hA.2 k (by omega)).symm.trans (by assumption)), by omega⟩ | exact ⟨part_no hP (fun h => by have h1 := h.1.1; have h2 := (edge_iff hl32 (by omega) (by omega) hb).2 h.1.2; have h3 := (hA.2 k (by omega)).trans h.2; first | omega | contradiction | simp_all), by omega⟩
                    · (dsimp only; omega)
                  · refine DW.x rfl rfl (X.pickT rfl rfl rfl) (by decide) ?_
                    refine DW.nil ?_
                    refine WK.nThen ?_
                    refine WC.condF rfl ?_
                    refine WC.skip ?_
                    refine WK.nBlock ?_
                    refine WK.nThen ?_
                    refine WC.region ?_
                    refine WL.x (X.add rfl rfl (by omega) (by omega)) (by decide) ?_
                    refine WL.x (X.move rfl) (by decide) ?_
                    refine WL.nil ?_
                    refine WK.nThen ?_
                    refine WK.next ((k + 1, N2)) rfl (.refl _) (.cons rfl (.cons rfl (.cons rfl (.cons rfl (.cons rfl (.cons rfl (.cons rfl (.cons rfl (.cons rfl (.cons rfl (.cons rfl (.cons rfl .nil)))))))))))) ?_ ?_
                    · first | exact ⟨part_yes hP (by omega) ⟨by omega, (edge_iff hl32 (by omega) (by omega) hb).1 (by assumption)⟩ ((hA.2 k (by omega)).symm.trans (by assumption)), by omega⟩ | exact ⟨part_no hP (fun h => by have h1 := h.1.1; have h2 := (edge_iff hl32 (by omega) (by omega) hb).2 h.1.2; have h3 := (hA.2 k (by omega)).trans h.2; first | omega | contradiction | simp_all), by omega⟩
                    · (dsimp only; omega)
                · refine DW.x rfl rfl (X.pickT rfl rfl rfl) (by decide) ?_
                  refine DW.x rfl rfl (X.move rfl) (by decide) ?_
                  refine DW.no rfl rfl (by decide) ?_
                  refine DW.no rfl rfl (by decide) ?_
                  refine DW.no rfl rfl (by decide) ?_
                  refine DW.no rfl rfl (by decide) ?_
                  refine DW.no rfl rfl (by decide) ?_
                  refine DW.no rfl rfl (by decide) ?_
                  refine DW.no rfl rfl (by decide) ?_
                  refine DW.no rfl rfl (by decide) ?_
                  refine DW.no rfl rfl (by decide) ?_
                  refine DW.no rfl rfl (by decide) ?_
                  refine DW.no rfl rfl (by decide) ?_
                  refine DW.no rfl rfl (by decide) ?_
                  refine DW.no rfl rfl (by decide) ?_
                  refine DW.no rfl rfl (by decide) ?_
                  refine DW.no rfl rfl (by decide) ?_
                  refine DW.no rfl rfl (by decide) ?_
                  refine DW.no rfl rfl (by decide) ?_
                  refine DW.no rfl rfl (by decide) ?_
                  refine DW.no rfl rfl (by decide) ?_
                  refine DW.no rfl rfl (by decide) ?_
                  refine DW.no rfl rfl (by decide) ?_
                  refine DW.no rfl rfl (by decide) ?_
                  refine DW.no rfl rfl (by decide) ?_
                  refine DW.no rfl rfl (by decide) ?_
                  refine DW.no rfl rfl (by decide) ?_
                  refine DW.no rfl rfl (by decide) ?_
                  refine DW.no rfl rfl (by decide) ?_
                  refine DW.no rfl rfl (by decide) ?_
                  refine DW.no rfl rfl (by decide) ?_
                  refine DW.no rfl rfl (by decide) ?_
                  refine DW.no rfl rfl (by decide) ?_
                  refine DW.no rfl rfl (by decide) ?_
                  refine DW.no rfl rfl (by decide) ?_
                  refine DW.no rfl rfl (by decide) ?_
                  refine DW.no rfl rfl (by decide) ?_
                  refine DW.no rfl rfl (by decide) ?_
                  refine DW.no rfl rfl (by decide) ?_
                  refine DW.x rfl rfl (X.pickF rfl rfl rfl) (by decide) ?_
                  refine DW.nil ?_
                  refine WK.nThen ?_
                  refine WC.condF rfl ?_
                  refine WC.skip ?_
                  refine WK.nBlock ?_
                  refine WK.nThen ?_
                  refine WC.region ?_
                  refine WL.x (X.add rfl rfl (by omega) (by omega)) (by decide) ?_
                  refine WL.x (X.move rfl) (by decide) ?_
                  refine WL.nil ?_
                  refine WK.nThen ?_
                  refine WK.next ((k + 1, N2)) rfl (.refl _) (.cons rfl (.cons rfl (.cons rfl (.cons rfl (.cons rfl (.cons rfl (.cons rfl (.cons rfl (.cons rfl (.cons rfl (.cons rfl (.cons rfl .nil)))))))))))) ?_ ?_
                  · first | exact ⟨part_yes hP (by omega) ⟨by omega, (edge_iff hl32 (by omega) (by omega) hb).1 (by assumption)⟩ ((hA.2 k (by omega)).symm.trans (by assumption)), by omega⟩ | exact ⟨part_no hP (fun h => by have h1 := h.1.1; have h2 := (edge_iff hl32 (by omega) (by omega) hb).2 h.1.2; have h3 := (hA.2 k (by omega)).trans h.2; first | omega | contradiction | simp_all), by omega⟩
                  · (dsimp only; omega)
              · refine DW.x rfl rfl (X.move rfl) (by decide) ?_
                refine DW.no rfl rfl (by decide) ?_
                refine DW.no rfl rfl (by decide) ?_
                refine DW.no rfl rfl (by decide) ?_
                refine DW.no rfl rfl (by decide) ?_
                refine DW.x rfl rfl (X.pickF rfl rfl rfl) (by decide) ?_
                refine DW.x rfl rfl (X.move rfl) (by decide) ?_
                refine DW.no rfl rfl (by decide) ?_
                refine DW.no rfl rfl (by decide) ?_
                refine DW.no rfl rfl (by decide) ?_
                refine DW.no rfl rfl (by decide) ?_
                refine DW.no rfl rfl (by decide) ?_
                refine DW.no rfl rfl (by decide) ?_
                refine DW.no rfl rfl (by decide) ?_
                refine DW.no rfl rfl (by decide) ?_
                refine DW.no rfl rfl (by decide) ?_
                refine DW.no rfl rfl (by decide) ?_
                refine DW.no rfl rfl (by decide) ?_
                refine DW.no rfl rfl (by decide) ?_
                refine DW.no rfl rfl (by decide) ?_
                refine DW.no rfl rfl (by decide) ?_
                refine DW.no rfl rfl (by decide) ?_
                refine DW.no rfl rfl (by decide) ?_
                refine DW.no rfl rfl (by decide) ?_
                refine DW.no rfl rfl (by decide) ?_
                refine DW.no rfl rfl (by decide) ?_
                refine DW.no rfl rfl (by decide) ?_
                refine DW.no rfl rfl (by decide) ?_
                refine DW.no rfl rfl (by decide) ?_
                refine DW.no rfl rfl (by decide) ?_
                refine DW.no rfl rfl (by decide) ?_
                refine DW.no rfl rfl (by decide) ?_
                refine DW.no rfl rfl (by decide) ?_
                refine DW.no rfl rfl (by decide) ?_
                refine DW.no rfl rfl (by decide) ?_
                refine DW.no rfl rfl (by decide) ?_
                refine DW.no rfl rfl (by decide) ?_
                refine DW.no rfl rfl (by decide) ?_
                refine DW.no rfl rfl (by decide) ?_
                refine DW.no rfl rfl (by decide) ?_
                refine DW.no rfl rfl (by decide) ?_
                refine DW.no rfl rfl (by decide) ?_
                refine DW.no rfl rfl (by decide) ?_
                refine DW.no rfl rfl (by decide) ?_
                refine DW.x rfl rfl (X.pickF rfl rfl rfl) (by decide) ?_
                refine DW.nil ?_
                refine WK.nThen ?_
                refine WC.condF rfl ?_
                refine WC.skip ?_
                refine WK.nBlock ?_
                refine WK.nThen ?_
                refine WC.region ?_
                refine WL.x (X.add rfl rfl (by omega) (by omega)) (by decide) ?_
                refine WL.x (X.move rfl) (by decide) ?_
                refine WL.nil ?_
                refine WK.nThen ?_
                refine WK.next ((k + 1, N2)) rfl (.refl _) (.cons rfl (.cons rfl (.cons rfl (.cons rfl (.cons rfl (.cons rfl (.cons rfl (.cons rfl (.cons rfl (.cons rfl (.cons rfl (.cons rfl .nil)))))))))))) ?_ ?_
                · first | exact ⟨part_yes hP (by omega) ⟨by omega, (edge_iff hl32 (by omega) (by omega) hb).1 (by assumption)⟩ ((hA.2 k (by omega)).symm.trans (by assumption)), by omega⟩ | exact ⟨part_no hP (fun h => by have h1 := h.1.1; have h2 := (edge_iff hl32 (by omega) (by omega) hb).2 h.1.2; have h3 := (hA.2 k (by omega)).trans h.2; first | omega | contradiction | simp_all), by omega⟩
                · (dsimp only; omega)
            · refine WL.nil ?_
              refine WK.nThen ?_
              refine WC.seq ?_
              refine WC.condF rfl ?_
              refine WC.exit ?_
              refine WK.eThen ?_
              refine WK.eThen ?_
              refine WK.eHit ?_
              refine WK.nBlock ?_
              refine WK.nThen ?_
              refine WC.region ?_
              refine WL.x (X.add rfl rfl (by omega) (by omega)) (by decide) ?_
              refine WL.x (X.move rfl) (by decide) ?_
              refine WL.nil ?_
              refine WK.nThen ?_
              refine WK.next ((i + 1, N2)) rfl (.refl _) (.cons rfl (.cons rfl (.cons rfl (.cons rfl (.cons rfl (.cons rfl (.cons rfl (.cons rfl (.cons rfl .nil))))))))) ?_ ?_
              · exact ⟨part_half hP (by omega), by omega⟩
              · (dsimp only; omega)
        · refine WL.nil ?_
          refine WK.nThen ?_
          refine WC.seq ?_
          refine WC.condF rfl ?_
          refine WC.exit ?_
          refine WK.eThen ?_
          refine WK.eThen ?_
          refine WK.eHit ?_
          refine WK.nThen ?_
          refine WC.region ?_
          refine WL.x (X.move rfl) (by decide) ?_
          refine WL.x (X.assign rfl) (by decide) ?_
          refine WL.nil ?_
          refine WK.nBlock ?_
          refine WK.nThen ?_
          refine WC.region ?_
          refine WL.x (X.add rfl rfl (by omega) (by omega)) (by decide) ?_
          refine WL.x (X.move rfl) (by decide) ?_
          refine WL.nil ?_
          refine WK.nThen ?_
          refine WK.next ((j + 1, v12, N1)) rfl (.cons_cons _ (.cons _ .slnil)) (.cons rfl (.cons rfl (.cons rfl (.cons rfl (.cons rfl (.cons rfl .nil)))))) ?_ ?_
          · exact ⟨half_end hN (by omega), by omega⟩
          · (dsimp only; omega)
    · refine WL.nil ?_
      refine WK.nThen ?_
      refine WC.seq ?_
      refine WC.condF rfl ?_
      refine WC.exit ?_
      refine WK.eThen ?_
      refine WK.eThen ?_
      refine WK.eHit ?_
      refine WK.nThen ?_
      refine WC.seq ?_
      refine WC.region ?_
      refine WL.x (X.move rfl) (by decide) ?_
      refine WL.x (X.move rfl) (by decide) ?_
      refine WL.x (X.idxBo (k := 0) Try.runUnderlying132 Try.sizeOf4 rfl rfl rfl (by first | omega | (simp; omega) | simp) (by first | omega | (simp; omega) | simp)) (by decide) ?_
      refine WL.x (X.loadBo (k := 0) (i := a) Try.isAgg4 rfl rfl (by first | omega | (simp; omega) | simp)) (by decide) ?_
      refine WL.x (X.assign rfl) (by decide) ?_
      refine WL.nil ?_
      refine WK.nThen ?_
      refine WC.ret ?_
      refine WK.ret1 rfl rfl (fun w' hw' => Ret.exact hw' ?_)
      exact bool_eq ((hA.2 a ha).trans (by rw [show j = more by omega]))

theorem from101_step (more : Nat) (ih : ∀ mm, more = mm + 1 → From101 mm) : From101 more := by
  intro w l b lo S HS I Ix Ok P0 pb py prr pf pr m En cur vw W s im hcur hW hlast hlen hP hI0 him
  subst him
  have hpr := En.reg
  have hw0 := En.ok
  have hb := En.hb
  have hcb := En.cb
  have hcy := En.cy
  have hcr := En.cr
  have hcf := En.cf
  have hlW := hW.le
  have hl1 := hlast.1
  have hz := windedE_zero hw0
  have hrl := (regB_mat w l).1
  have hl32 := (checkS_zero (l := l) hz.1).1
  refine Mut.start Try.func101 rfl Try.ntmps101 rfl fun wld => ?_
  refine WC.seq ?_
  refine WC.region ?_
  refine WL.x (X.assign rfl) (by decide) ?_
  refine WL.nil ?_
  refine WK.nThen ?_
  refine WC.seq ?_
  refine WC.region ?_
  refine WL.x (X.move rfl) (by decide) ?_
  refine WL.x (X.move rfl) (by decide) ?_
  refine WL.x (X.len Try.runUnderlying31 rfl hW) (by decide) ?_
  refine WL.x (X.sub rfl rfl (by omega) (by omega)) (by decide) ?_
  refine WL.xe (E.idxE (W.length - 1) Try.runUnderlying31 Try.sizeOf3 rfl rfl hW (by omega) (by omega)) (by decide) (fun p1 hp2 => ?_)
  refine WL.x (X.loadInt Try.isAgg3 rfl hp2) (by decide) ?_
  refine WL.x (X.assign rfl) (by decide) ?_
  refine WL.nil ?_
  rw [hlast.2]
  refine WK.nThen ?_
  refine WC.seq ?_
  refine WC.seq ?_
  refine WC.region ?_
  refine WL.x (X.move rfl) (by decide) ?_
  refine WL.cond (X.eql rfl rfl) (by decide) (fun h3 => ?_) (fun h3 => ?_)
  · refine WL.nil ?_
    refine WK.nThen ?_
    refine WC.condT rfl ?_
    refine WC.seq ?_
    refine WC.region ?_
    refine WL.x (X.move rfl) (by decide) ?_
    refine WL.x (X.loadInt Try.isAgg3 rfl hcb) (by decide) ?_
    refine WL.condn (X.neq rfl rfl) (by decide) (fun h4 => ?_) (fun h4 => ?_)
    · refine WL.x (X.move rfl) (by decide) ?_
      refine WL.no rfl rfl rfl (by decide) ?_
      refine WL.no rfl rfl rfl (by decide) ?_
      refine WL.no rfl rfl rfl (by decide) ?_
      refine WL.x (X.pickT rfl rfl rfl) (by decide) ?_
      refine WL.x (X.assign rfl) (by decide) ?_
      refine WL.nil ?_
      refine WK.nThen ?_
      refine WC.ret ?_
      refine WK.rThen ?_
      refine WK.ret1 rfl rfl (fun w' hw' => Ret.mut hw' ?_)
      exact .inl ⟨by first | (have hm0 : more = 0 := (by omega); rw [hm0]; exact reach0n (by omega)) | (rw [hmm]; exact reach_no (fun k hk => hall k (by omega))), rfl, rfl, rfl⟩
    · refine WL.x (X.move rfl) (by decide) ?_
      refine WL.yes rfl rfl ?_
      refine WL.x (X.loadV Try.isAgg124 rfl hcy) (by decide) ?_
      refine WL.yes rfl rfl ?_
      refine WL.x (X.move rfl) (by decide) ?_
      refine WL.yes rfl rfl ?_
      have hm0 : more = 0 := (by omega)
      subst hm0
      have hWP : W = P0 := (by have := (hP (reach0 (by omega))).2; simpa [pathS] using this)
      refine WL.tY (T.yield (A := []) rfl rfl rfl (En.yield (hP (reach0 (by omega))).1 _ _ _ (Mem.le_refl _) ⟨_, rfl, hWP ▸ hW⟩ hI0)) (by decide) (fun m5 H6 hT7 => ?_) (fun m5 H6 hT7 => ?_)
      · obtain ⟨_, s2, rfl, h2⟩ := hT7
        exact absurd h2 (En.once _ _ _)
      · obtain ⟨hle9, s8, rfl, hI10⟩ := hT7
        replace hW := hW.mono hle9
        replace hcb := hcb.mono hle9
        replace hcy := hcy.mono hle9
        replace hcr := hcr.mono hle9
        replace hcf := hcf.mono hle9
        replace hpr := hpr.mono hle9
        replace hp2 := hp2.mono hle9
        refine WL.x (X.pickF rfl rfl rfl) (by decide) ?_
        refine WL.x (X.assign rfl) (by decide) ?_
        refine WL.nil ?_
        refine WK.nThen ?_
        refine WC.ret ?_
        refine WK.rThen ?_
        refine WK.ret1 rfl rfl (fun w' hw' => Ret.mut hw' ?_)
        exact .inr ⟨by first | (exact reach0 (by omega)) | (rw [hmm]; exact reach_yes (by omega) hed hrk), rfl, _, rfl, hI10⟩
  · refine WL.nil ?_
    refine WK.nThen ?_
    refine WC.condF rfl ?_
    refine WC.skip ?_
    refine WK.nThen ?_
    refine WC.seq ?_
    refine WC.seq ?_
    obtain ⟨mm, hmm⟩ : ∃ mm, more = mm + 1 := ⟨more - 1, by omega⟩
    refine WC.region ?_
    refine WL.x (X.loadV Try.isAgg85 rfl hcr) (by decide) ?_
    refine WL.x (X.nilCheck rfl) (by decide) ?_
    have hp11 : At m ((pr).add 1026) l := At.Reg_2 hpr
    refine WL.x (X.field Try.runUnderlying92 rfl Try.sizeOf24 rfl) (by decide) ?_
    refine WL.xe (E.loadSl Try.isAgg24 rfl hp11) (by decide) (fun v12 hs13 => ?_)
    have hl14 := hs13.le
    refine WL.x (X.len Try.runUnderlying24 rfl hs13) (by decide) ?_
    refine WL.x (X.move rfl) (by decide) ?_
    refine WL.nil ?_
    refine WK.nThen ?_
    refine WC.block ?_
    refine WC.loop (G := Nat) (fun k => l.length - k) (fun k => m) (fun k => ([] ++ HS s)) (fun k => [(0, vw), (1, .int .i64 (↑more)), (2, .pointer (some (pb))), (4, .pointer (some prr)), (5, .pointer (some pf)), (9, .int .i64 (↑cur)), (32, .int .i64 (↑l.length)), (33, .int .i64 (↑k))]) (fun k => (∀ j, j < k → ¬ (edgeM w l b cur j ∧ reachS w l b mm j = true)) ∧ k ≤ l.length) 0 rfl (.refl _) (.cons rfl (.cons rfl (.cons rfl (.cons rfl (.cons rfl (.cons rfl (.cons rfl (.cons rfl .nil)))))))) ?_ ?_
    · exact ⟨fun j hj => absurd hj (Nat.not_lt_zero _), Nat.zero_le _⟩
    · rintro k hF15
      show WK _ _ m ([] ++ HS s) [(0, vw), (1, .int .i64 (↑more)), (2, .pointer (some (pb))), (4, .pointer (some prr)), (5, .pointer (some pf)), (9, .int .i64 (↑cur)), (32, .int .i64 (↑l.length)), (33, .int .i64 (↑k))] _
      replace hF15 : (∀ j, j < k → ¬ (edgeM w l b cur j ∧ reachS w l b mm j = true)) ∧ k ≤ l.length := hF15
      obtain ⟨hall, hk⟩ := hF15
      refine WC.seq ?_
      refine WC.region ?_
      refine WL.cond (X.lss rfl rfl) (by decide) (fun h16 => ?_) (fun h16 => ?_)
      · refine WL.nil ?_
        refine WK.nThen ?_
        refine WC.seq ?_
        refine WC.condT rfl ?_
        refine WC.skip ?_
        refine WK.nThen ?_
        refine WC.seq ?_
        refine WC.block ?_
        refine WC.seq ?_
        refine WC.region ?_
        refine WL.x (X.move rfl) (by decide) ?_
        refine WL.x (X.assign rfl) (by decide) ?_
        refine WL.nil ?_
        refine WK.nThen ?_
        refine WC.seq ?_
        have hpi := (checkS_placed hz.1 (k := cur) (by omega)).1
        have hpk := (checkS_placed hz.1 (k := k) (by omega)).1
        have hbd := boundS_bd hz.2 hpi hpk
        refine WC.draw (π := (.cons 0 (.cons 1 (.cons 2 (.cons 3 (.cons 4 (.cons 5 (.cons 6 (.cons 7 (.cons 8 (.cons 9 (.cons 10 (.cons 11 (.cons 12 (.cons 13 (.cons 14 (.cons 15 (.cons 16 (.cons 17 (.cons 18 (.cons 19 .done))))))))))))))))))))) [] [] rfl (by kernel_rfl) ?_
        refine DW.x rfl rfl (X.loadV Try.isAgg85 rfl hcr) (by decide) ?_
        refine DW.x rfl rfl (X.nilCheck rfl) (by decide) ?_
        have hp17 : At m ((pr).add 1024) w := At.Reg_1 hpr
        refine DW.x rfl rfl (X.field Try.runUnderlying92 rfl Try.sizeOf23 rfl) (by decide) ?_
        refine DW.xe rfl rfl (E.loadAgg Try.isAgg23 Try.sizeOf23 rfl hp17) (by decide) (fun c18 hc19 => ?_)
        obtain rfl := hc19
        refine DW.x rfl rfl (X.loadV Try.isAgg85 rfl hcr) (by decide) ?_
        refine DW.x rfl rfl (X.nilCheck rfl) (by decide) ?_
        have hp20 : At m ((pr).add 1026) l := At.Reg_2 hpr
        refine DW.x rfl rfl (X.field Try.runUnderlying92 rfl Try.sizeOf24 rfl) (by decide) ?_
        refine DW.xe rfl rfl (E.loadSl Try.isAgg24 rfl hp20) (by decide) (fun v21 hs22 => ?_)
        have hl23 := hs22.le
        refine DW.x rfl rfl (X.move rfl) (by decide) ?_
        refine DW.xe rfl rfl (E.idxN cur Try.runUnderlying24 Try.sizeOf58 rfl rfl hs22 (by omega)) (by decide) (fun p24 hp25 => ?_)
        refine DW.xe rfl rfl (E.loadAgg Try.isAgg58 Try.sizeOf58 rfl hp25) (by decide) (fun c26 hc27 => ?_)
        obtain ⟨v28, rfl, hs29⟩ := hc27
        have hl30 := hs29.le
        refine DW.x rfl rfl (X.loadV Try.isAgg85 rfl hcr) (by decide) ?_
        refine DW.x rfl rfl (X.nilCheck rfl) (by decide) ?_
        have hp31 : At m ((pr).add 1026) l := At.Reg_2 hpr
        refine DW.x rfl rfl (X.field Try.runUnderlying92 rfl Try.sizeOf24 rfl) (by decide) ?_
        refine DW.xe rfl rfl (E.loadSl Try.isAgg24 rfl hp31) (by decide) (fun v32 hs33 => ?_)
        have hl34 := hs33.le
        refine DW.x rfl rfl (X.move rfl) (by decide) ?_
        refine DW.xe rfl rfl (E.idxN k Try.runUnderlying24 Try.sizeOf58 rfl rfl hs33 (by omega)) (by decide) (fun p35 hp36 => ?_)
        refine DW.xe rfl rfl (E.loadAgg Try.isAgg58 Try.sizeOf58 rfl hp36) (by decide) (fun c37 hc38 => ?_)
        obtain ⟨v39, rfl, hs40⟩ := hc38
        have hl41 := hs40.le
        refine DW.x rfl rfl (X.call Try.call84 rfl (bound84 _ _ w rfl _ (gt l cur) ⟨_, rfl, hs29⟩ _ (gt l k) ⟨_, rfl, hs40⟩ (by first | assumption | exact hz.2) (by first | assumption | exact hz.2) (by first | assumption | exact hz.2))) (by decide) ?_
        refine DW.x rfl rfl (X.assign rfl) (by decide) ?_
        refine DW.nil ?_
        refine WK.nThen ?_
        refine WC.seq ?_
        refine WC.seq ?_
        have hb1 := (regB_mat w l).bd hl32 (tightM_bd hw0) (a := k) (b := b) (by omega) (by omega)
        have hb2 := (regB_mat w l).bd hl32 (tightM_bd hw0) (a := cur) (b := b) (by omega) (by omega)
        refine WC.draw (π := (.cons 0 (.cons 1 (.cons 2 (.cons 3 (.cons 4 (.cons 5 (.cons 6 (.cons 7 (.cons 8 (.cons 9 (.cons 10 (.cons 11 (.cons 12 (.cons 13 (.cons 14 (.cons 15 (.cons 16 (.cons 17 (.cons 18 (.cons 19 (.cons 20 (.cons 21 (.cons 22 (.cons 23 (.cons 24 (.cons 25 (.cons 26 (.cons 27 (.cons 28 (.cons 29 (.cons 30 (.cons 31 (.cons 32 .done)))))))))))))))))))))))))))))))))) [] [] rfl (by kernel_rfl) ?_
        refine DW.x rfl rfl (X.move rfl) (by decide) ?_
        refine DW.x rfl rfl (X.move rfl) (by decide) ?_
        refine DW.cond rfl rfl (X.eql rfl rfl) (by decide) (fun h42 => ?_) (fun h42 => ?_)
        · refine DW.x rfl rfl (X.move rfl) (by decide) ?_
          refine DW.no rfl rfl (by decide) ?_
          refine DW.no rfl rfl (by decide) ?_
          refine DW.no rfl rfl (by decide) ?_
          refine DW.no rfl rfl (by decide) ?_
          refine DW.no rfl rfl (by decide) ?_
          refine DW.no rfl rfl (by decide) ?_
          refine DW.no rfl rfl (by decide) ?_
          refine DW.no rfl rfl (by decide) ?_
          refine DW.no rfl rfl (by decide) ?_
          refine DW.no rfl rfl (by decide) ?_
          refine DW.no rfl rfl (by decide) ?_
          refine DW.no rfl rfl (by decide) ?_
          refine DW.no rfl rfl (by decide) ?_
          refine DW.no rfl rfl (by decide) ?_
          refine DW.no rfl rfl (by decide) ?_
          refine DW.no rfl rfl (by decide) ?_
          refine DW.no rfl rfl (by decide) ?_
          refine DW.no rfl rfl (by decide) ?_
          refine DW.no rfl rfl (by decide) ?_
          refine DW.x rfl rfl (X.pickT rfl rfl rfl) (by decide) ?_
          refine DW.x rfl rfl (X.move rfl) (by decide) ?_
          refine DW.no rfl rfl (by decide) ?_
          refine DW.no rfl rfl (by decide) ?_
          refine DW.no rfl rfl (by decide) ?_
          refine DW.no rfl rfl (by decide) ?_
          refine DW.no rfl rfl (by decide) ?_
          refine DW.no rfl rfl (by decide) ?_
          refine DW.no rfl rfl (by decide) ?_
          refine DW.x rfl rfl (X.pickT rfl rfl rfl) (by decide) ?_
          refine DW.nil ?_
          refine WK.nThen ?_
          refine WC.condT rfl ?_
          refine WC.exit ?_
          refine WK.eThen ?_
          refine WK.eHit ?_
          refine WK.nThen ?_
          refine WC.region ?_
          refine WL.x (X.add rfl rfl (by omega) (by omega)) (by decide) ?_
          refine WL.x (X.move rfl) (by decide) ?_
          refine WL.nil ?_
          refine WK.nThen ?_
          refine WK.next (k + 1) rfl (.refl _) (.cons rfl (.cons rfl (.cons rfl (.cons rfl (.cons rfl (.cons rfl (.cons rfl (.cons rfl .nil)))))))) ?_ ?_
          · refine ⟨fun j hj => ?_, by omega⟩
            rcases Nat.lt_succ_iff_lt_or_eq.1 hj with h0 | h0
            · exact hall j h0
            · subst h0
              exact fun hh => by have h1 := hh.1.1; have h2 := (edge_iff hl32 (by omega) (by omega) hb).2 hh.1.2; have h3 := hh.2; first | omega | contradiction | simp_all
          · omega
        · refine DW.x rfl rfl (X.move rfl) (by decide) ?_
          refine DW.x rfl rfl (X.move rfl) (by decide) ?_
          refine DW.x rfl rfl (X.loadV Try.isAgg85 rfl hcr) (by decide) ?_
          refine DW.x rfl rfl (X.move rfl) (by decide) ?_
          refine DW.x rfl rfl (X.loadInt Try.isAgg3 rfl hcb) (by decide) ?_
          refine DW.x rfl rfl (X.nilCheck rfl) (by decide) ?_
          have hp43 : Cells m (pr) (ints (regB w l)) := At.Reg_0 hpr
          refine DW.x rfl rfl (X.field Try.runUnderlying92 rfl Try.sizeOf90 rfl) (by decide) ?_
          refine DW.x rfl rfl (X.idxArM (off := 0) hp43 k Try.underlying90 Try.sizeOf88 rfl rfl (by omega) (by omega)) (by decide) ?_
          refine DW.x rfl rfl (X.idxArM (off := 0 + k * 32) hp43 b Try.underlying88 Try.sizeOf3 rfl rfl (by omega) (by omega)) (by decide) ?_
          refine DW.x rfl rfl (X.loadArM (off := 0 + k * 32 + b * 1) Try.isAgg3 rfl hp43 (by omega)) (by decide) ?_
          refine DW.x rfl rfl (X.add rfl rfl (by omega) (by omega)) (by decide) ?_
          refine DW.x rfl rfl (X.loadV Try.isAgg85 rfl hcr) (by decide) ?_
          refine DW.x rfl rfl (X.move rfl) (by decide) ?_
          refine DW.x rfl rfl (X.loadInt Try.isAgg3 rfl hcb) (by decide) ?_
          refine DW.x rfl rfl (X.nilCheck rfl) (by decide) ?_
          have hp44 : Cells m (pr) (ints (regB w l)) := At.Reg_0 hpr
          refine DW.x rfl rfl (X.field Try.runUnderlying92 rfl Try.sizeOf90 rfl) (by decide) ?_
          refine DW.x rfl rfl (X.idxArM (off := 0) hp44 cur Try.underlying90 Try.sizeOf88 rfl rfl (by omega) (by omega)) (by decide) ?_
          refine DW.x rfl rfl (X.idxArM (off := 0 + cur * 32) hp44 b Try.underlying88 Try.sizeOf3 rfl rfl (by omega) (by omega)) (by decide) ?_
          refine DW.x rfl rfl (X.loadArM (off := 0 + cur * 32 + b * 1) Try.isAgg3 rfl hp44 (by omega)) (by decide) ?_
          refine DW.condn rfl rfl (X.neq rfl rfl) (by decide) (fun h45 => ?_) (fun h45 => ?_)
          · refine DW.x rfl rfl (X.pickF rfl rfl rfl) (by decide) ?_
            refine DW.x rfl rfl (X.move rfl) (by decide) ?_
            refine DW.no rfl rfl (by decide) ?_
            refine DW.no rfl rfl (by decide) ?_
            refine DW.no rfl rfl (by decide) ?_
            refine DW.no rfl rfl (by decide) ?_
            refine DW.no rfl rfl (by decide) ?_
            refine DW.no rfl rfl (by decide) ?_
            refine DW.no rfl rfl (by decide) ?_
            refine DW.x rfl rfl (X.pickT rfl rfl rfl) (by decide) ?_
            refine DW.nil ?_
            refine WK.nThen ?_
            refine WC.condT rfl ?_
            refine WC.exit ?_
            refine WK.eThen ?_
            refine WK.eHit ?_
            refine WK.nThen ?_
            refine WC.region ?_
            refine WL.x (X.add rfl rfl (by omega) (by omega)) (by decide) ?_
            refine WL.x (X.move rfl) (by decide) ?_
            refine WL.nil ?_
            refine WK.nThen ?_
            refine WK.next (k + 1) rfl (.refl _) (.cons rfl (.cons rfl (.cons rfl (.cons rfl (.cons rfl (.cons rfl (.cons rfl (.cons rfl .nil)))))))) ?_ ?_
            · refine ⟨fun j hj => ?_, by omega⟩
              rcases Nat.lt_succ_iff_lt_or_eq.1 hj with h0 | h0
              · exact hall j h0
              · subst h0
                exact fun hh => by have h1 := hh.1.1; have h2 := (edge_iff hl32 (by omega) (by omega) hb).2 hh.1.2; have h3 := hh.2; first | omega | contradiction | simp_all
            · omega
          · refine DW.x rfl rfl (X.pickF rfl rfl rfl) (by decide) ?_
            refine DW.x rfl rfl (X.move rfl) (by decide) ?_
            refine DW.x rfl rfl (X.loadV Try.isAgg85 rfl hcr) (by decide) ?_
            refine DW.x rfl rfl (X.move rfl) (by decide) ?_
            refine DW.x rfl rfl (X.loadInt Try.isAgg3 rfl hcb) (by decide) ?_
            refine DW.x rfl rfl (X.move rfl) (by decide) ?_
            refine DW.x rfl rfl (X.sub rfl rfl (by omega) (by omega)) (by decide) ?_
            refine DW.condb rfl rfl (X.call Try.call102 rfl (reaches102 _ _ _ _ hpr hw0 k b mm _ _ _ (by omega) (by omega) (by omega) (by omega) (by omega) (by omega))) (by decide) (fun h46 => ?_) (fun h46 => ?_)
            · refine DW.x rfl rfl (X.not rfl) (by decide) ?_
              refine DW.x rfl rfl (X.pickF rfl rfl rfl) (by decide) ?_
              refine DW.nil ?_
              refine WK.nThen ?_
              refine WC.condF rfl ?_
              refine WC.skip ?_
              refine WK.nThen ?_
              refine WC.seq ?_
              refine WC.draw (π := (.cons 0 (.cons 1 (.cons 2 (.cons 3 (.cons 4 (.cons 5 (.cons 6 (.cons 7 (.cons 10 (.cons 11 (.cons 8 (.cons 9 (.cons 12 (.cons 13 .done))))))))))))))) [8, 9, 12] [12] rfl (by kernel_rfl) ?_
              refine DW.x rfl rfl (X.loadV Try.isAgg125 rfl hcf) (by decide) ?_
              refine DW.x rfl rfl (X.move rfl) (by decide) ?_
              refine DW.x rfl rfl (X.move rfl) (by decide) ?_
              refine DW.x rfl rfl (X.len Try.runUnderlying31 rfl hW) (by decide) ?_
              refine DW.x rfl rfl (X.move rfl) (by decide) ?_
              refine DW.x rfl rfl (X.len Try.runUnderlying31 rfl hW) (by decide) ?_
              refine DW.xe rfl rfl (E.slHM W.length Try.underlying31 Try.sizeOf3 rfl rfl rfl hW (by omega) (by omega) (by omega)) (by decide) (fun v47 ⟨hs48, _, hfu49⟩ => ?_)
              refine DW.x rfl rfl (X.move rfl) (by decide) ?_
              refine DW.x rfl rfl (X.move rfl) (by decide) ?_
              refine DW.x rfl rfl (X.sub rfl rfl (by omega) (by omega)) (by decide) ?_
              refine DW.tl rfl rfl rfl (T.lit1 sl31 rfl rfl rfl (by decide)) (by decide) fun b50 => ?_
              refine DW.tm rfl rfl rfl (T.appendFullM (k := 0) (fun _ _ h => rd_int h) (a := (↑k : Int)) sl31 rfl rfl rfl hs48 hfu49 (by first | omega | (simp; omega)) (by decide)) (by decide) (fun m52 v51 hle53 hs54 => ?_)
              replace hW := hW.mono hle53
              replace hcb := hcb.mono hle53
              replace hcy := hcy.mono hle53
              replace hcr := hcr.mono hle53
              replace hcf := hcf.mono hle53
              replace hpr := hpr.mono hle53
              replace hp2 := hp2.mono hle53
              replace hp11 := hp11.mono hle53
              replace hs13 := hs13.mono hle53
              replace hp17 := hp17.mono hle53
              replace hp20 := hp20.mono hle53
              replace hs22 := hs22.mono hle53
              replace hp25 := hp25.mono hle53
              replace hs29 := hs29.mono hle53
              replace hp31 := hp31.mono hle53
              replace hs33 := hs33.mono hle53
              replace hp36 := hp36.mono hle53
              replace hs40 := hs40.mono hle53
              replace hp43 := hp43.mono hle53
              replace hp44 := hp44.mono hle53
              replace hs48 := hs48.mono hle53
              have hW2 : (W.take W.length) ++ [(↑k : Int)] = W ++ [(↑k : Int)] := by simp
              rw [hW2] at hs54
              have hed : edgeM w l b cur k := ⟨by omega, (edge_iff hl32 (by omega) (by omega) hb).1 (by assumption)⟩
              have hrk : reachS w l b mm k = true := by assumption
              refine DW.tA rfl rfl rfl rfl (T.callcA (A := [blk b50 3 [.int .i64 (↑k)]]) Try.call101 rfl rfl rfl (ih mm hmm m52 (En.up hle53) k _ _ s _ (by omega) hs54 ⟨by simp, by simp [gt]⟩ (by simp; omega) (fun _ => by have := hP (by rw [hmm]; exact reach_yes (by omega) hed hrk); rw [hmm] at this; exact ⟨this.1, (path_step (by omega) hall hed hrk W).trans this.2⟩) (En.mono _ _ _ _ hle53 hI0) (by omega))) (by decide) (fun m55 _ _ hle56 hR57 => ?_)
              rcases hR57 with ⟨hbad, _⟩ | ⟨_, rfl, s58, rfl, hI59⟩
              · rw [hrk] at hbad; cases hbad
              · replace hW := hW.mono hle56
                replace hcb := hcb.mono hle56
                replace hcy := hcy.mono hle56
                replace hcr := hcr.mono hle56
                replace hcf := hcf.mono hle56
                replace hpr := hpr.mono hle56
                replace hp2 := hp2.mono hle56
                replace hp11 := hp11.mono hle56
                replace hs13 := hs13.mono hle56
                replace hp17 := hp17.mono hle56
                replace hp20 := hp20.mono hle56
                replace hs22 := hs22.mono hle56
                replace hp25 := hp25.mono hle56
                replace hs29 := hs29.mono hle56
                replace hp31 := hp31.mono hle56
                replace hs33 := hs33.mono hle56
                replace hp36 := hp36.mono hle56
                replace hs40 := hs40.mono hle56
                replace hp43 := hp43.mono hle56
                replace hp44 := hp44.mono hle56
                replace hs48 := hs48.mono hle56
                replace hs54 := hs54.mono hle56
                refine DW.x rfl rfl (X.not rfl) (by decide) ?_
                refine DW.nil ?_
                refine WK.nThen ?_
                refine WC.condT rfl ?_
                refine WC.seq ?_
                refine WK.drop (H' := ([] ++ HS s58)) (.cons _ (.refl _)) ?_
                refine WC.region ?_
                refine WL.x (X.assign rfl) (by decide) ?_
                refine WL.nil ?_
                refine WK.nThen ?_
                refine WC.ret ?_
                refine WK.rBlock ?_
                refine WK.rThen ?_
                refine WK.rThen ?_
                refine WK.rBlock ?_
                refine WK.rThen ?_
                refine WK.ret1 rfl rfl (fun w' hw' => Ret.mut hw' ?_)
                exact .inr ⟨by first | (exact reach0 (by omega)) | (rw [hmm]; exact reach_yes (by omega) hed hrk), rfl, _, rfl, hI59⟩
            · refine DW.x rfl rfl (X.not rfl) (by decide) ?_
              refine DW.x rfl rfl (X.pickF rfl rfl rfl) (by decide) ?_
              refine DW.nil ?_
              refine WK.nThen ?_
              refine WC.condT rfl ?_
              refine WC.exit ?_
              refine WK.eThen ?_
              refine WK.eHit ?_
              refine WK.nThen ?_
              refine WC.region ?_
              refine WL.x (X.add rfl rfl (by omega) (by omega)) (by decide) ?_
              refine WL.x (X.move rfl) (by decide) ?_
              refine WL.nil ?_
              refine WK.nThen ?_
              refine WK.next (k + 1) rfl (.refl _) (.cons rfl (.cons rfl (.cons rfl (.cons rfl (.cons rfl (.cons rfl (.cons rfl (.cons rfl .nil)))))))) ?_ ?_
              · refine ⟨fun j hj => ?_, by omega⟩
                rcases Nat.lt_succ_iff_lt_or_eq.1 hj with h0 | h0
                · exact hall j h0
                · subst h0
                  exact fun hh => by have h1 := hh.1.1; have h2 := (edge_iff hl32 (by omega) (by omega) hb).2 hh.1.2; have h3 := hh.2; first | omega | contradiction | simp_all
              · omega
      · refine WL.nil ?_
        refine WK.nThen ?_
        refine WC.seq ?_
        refine WC.condF rfl ?_
        refine WC.exit ?_
        refine WK.eThen ?_
        refine WK.eThen ?_
        refine WK.eHit ?_
        refine WK.nThen ?_
        refine WC.seq ?_
        refine WC.region ?_
        refine WL.x (X.assign rfl) (by decide) ?_
        refine WL.nil ?_
        refine WK.nThen ?_
        refine WC.ret ?_
        refine WK.ret1 rfl rfl (fun w' hw' => Ret.mut hw' ?_)
        exact .inl ⟨by first | (have hm0 : more = 0 := (by omega); rw [hm0]; exact reach0n (by omega)) | (rw [hmm]; exact reach_no (fun k hk => hall k (by omega))), rfl, rfl, rfl⟩

theorem from101 : ∀ more, From101 more
  | 0 => from101_step 0 (fun _ h => by omega)
  | n + 1 => from101_step (n + 1) (fun mm h => by cases h; exact from101 n)
theorem iter100 (m : Mem) {w : Wind} {l : List Station} {a b more : Nat} {pb prr pa pm pr : Addr} (hcb : At m pb (b : Int)) (hcr : Cells m prr [.pointer (some pr)]) (hca : At m pa (a : Int)) (hcm : At m pm (more : Int)) (hpr : At m pr (regS w l)) (hw0 : windedE w l = 0) (ha : a < l.length) (hb : b < l.length) (hmo : more ≤ 60) : Iter Try.prog 100 [.pointer (some pb), .pointer (some prr), .pointer (some pa), .pointer (some pm)] m true (if reachS w l b more a = true then 1 else 0) (fun _ m1 args => ∃ v, args = #[v] ∧ Sl m1 v ((a : Int) :: pathS w l b more a)) := by
  intro lo S HS I Ix s0 hone hmono hy h0
  refine Mut.start Try.func100 rfl Try.ntmps100 rfl fun wld => ?_
  refine WC.seq ?_
  refine WC.region ?_
  refine WL.tn (T.boxB rfl rfl) (by decide) fun b1 => ?_
  refine WL.nil ?_
  refine WK.nThen ?_
  refine WC.seq ?_
  refine WC.region ?_
  refine WL.tn (T.alloc Try.zeroValue125 rfl) (by decide) fun b2 => ?_
  refine WL.nil ?_
  refine WK.nThen ?_
  refine WC.seq ?_
  refine WC.region ?_
  refine WL.x (X.makeFunc (by intro x hx; simp at hx; rcases hx with rfl | rfl | rfl | rfl; all_goals exact ⟨_, rfl⟩) rfl) (by decide) ?_
  refine WL.ts (T.storeB (k := 0) Try.sizeOf125 rfl rfl rfl rfl (Nat.le_of_ble_eq_true rfl)) ?_
  refine WL.nil ?_
  refine WK.nThen ?_
  refine WK.freezeBX 1 [blk b2 125 [.func (.func 101) #[] [.pointer (some (pb)), .pointer (some ⟨b1, 0, none⟩), .pointer (some prr), .pointer (some ⟨b2, 0, none⟩)].toArray], blk b1 124 [.func (.yield lo) #[] #[]]] (HS s0) rfl rfl rfl (fun m3 hle4 hcy => ?_)
  replace hcb := hcb.mono hle4
  replace hcr := hcr.mono hle4
  replace hca := hca.mono hle4
  replace hcm := hcm.mono hle4
  replace hpr := hpr.mono hle4
  refine WK.freezeBX 0 [blk b2 125 [.func (.func 101) #[] [.pointer (some (pb)), .pointer (some ⟨b1, 0, none⟩), .pointer (some prr), .pointer (some ⟨b2, 0, none⟩)].toArray]] (HS s0) rfl rfl rfl (fun m5 hle6 hcf => ?_)
  replace hcb := hcb.mono hle6
  replace hcr := hcr.mono hle6
  replace hca := hca.mono hle6
  replace hcm := hcm.mono hle6
  replace hpr := hpr.mono hle6
  replace hcy := hcy.mono hle6
  refine WC.region ?_
  refine WL.x (X.loadV Try.isAgg125 rfl hcf) (by decide) ?_
  refine WL.x (X.loadInt Try.isAgg3 rfl hca) (by decide) ?_
  refine WL.tm (T.litM (α := Int) (vals := [.int .i64 (↑a)]) (L := [(↑a : Int)]) sl31 rfl (.cons rfl rfl .nil) rfl rfl) (by decide) (fun m7 v8 hle9 hs10 => ?_)
  replace hcb := hcb.mono hle9
  replace hcr := hcr.mono hle9
  replace hca := hca.mono hle9
  replace hcm := hcm.mono hle9
  replace hpr := hpr.mono hle9
  replace hcy := hcy.mono hle9
  replace hcf := hcf.mono hle9
  refine WL.x (X.loadInt Try.isAgg3 rfl hcm) (by decide) ?_
  refine WL.tA (T.callcA (A := []) Try.call101 rfl rfl rfl (from101 more m7 ⟨hpr, hw0, hb, hcb, hcy, hcr, hcf, fun ho m1 s args hle hA => hy 0 m1 s args (by rw [if_pos ho]; omega) (Mem.le_trans (Mem.le_trans hle4 (Mem.le_trans hle6 hle9)) hle) hA, hone rfl, hmono⟩ a _ _ s0 _ ha hs10 ⟨by simp, by simp [gt]⟩ (by simp; omega) (fun h => ⟨h, rfl⟩) (hmono _ _ _ _ (Mem.le_trans hle4 (Mem.le_trans hle6 hle9)) h0) rfl)) (by decide) (fun m11 _ _ hle12 hR13 => ?_)
  rcases hR13 with ⟨hno, rfl, rfl, rfl⟩ | ⟨hyes, rfl, s14, rfl, hI15⟩
  · refine WL.nil ?_
    refine WK.end0 rfl (fun w' hw' => Ret.mut hw' ?_)
    exact ⟨s0, rfl, .inl (by rw [if_neg (by simp [hno])]; exact hmono _ _ _ _ (Mem.le_trans hle4 (Mem.le_trans hle6 hle9)) h0)⟩
  · refine WL.nil ?_
    refine WK.end0 rfl (fun w' hw' => Ret.mut hw' ?_)
    exact ⟨_, rfl, .inr ⟨1, by rw [if_pos hyes]; omega, hI15⟩⟩

theorem ways66 (m : Mem) (w : Wind) (l : List Station) (pr : Addr) (hpr : At m pr (regS w l)) (hw0 : windedE w l = 0) (a b more : Nat) (ia ib im : Int) (hia : ia = a) (hib : ib = b) (him : im = more) (ha : a < l.length) (hb : b < l.length) (hmo : more ≤ 60) : Pure Try.prog 66 #[.pointer (some pr), .int .i64 ia, .int .i64 ib, .int .i64 im] m (fun m' v => ∃ lb, v = .func (.func 100) #[] lb.toArray ∧ Iter Try.prog 100 lb m' true (if reachS w l b more a = true then 1 else 0) (fun _ m1 args => ∃ v, args = #[v] ∧ Sl m1 v ((a : Int) :: pathS w l b more a))) := by
  subst hia
  subst hib
  subst him
  refine Pure.start Try.func66 rfl Try.ntmps66 rfl fun wld => ?_
  refine WC.seq ?_
  refine WC.region ?_
  refine WL.tn (T.boxB rfl rfl) (by decide) fun b1 => ?_
  refine WL.tn (T.boxB rfl rfl) (by decide) fun b2 => ?_
  refine WL.tn (T.boxB rfl rfl) (by decide) fun b3 => ?_
  refine WL.tn (T.boxB rfl rfl) (by decide) fun b4 => ?_
  refine WL.x (X.assign rfl) (by decide) ?_
  refine WL.nil ?_
  refine WK.nThen ?_
  refine WC.seq ?_
  refine WK.freezeB 0 rfl rfl (fun m5 hle6 hc7 => ?_)
  replace hpr := hpr.mono hle6
  refine WK.freezeB 0 rfl rfl (fun m8 hle9 hc10 => ?_)
  replace hpr := hpr.mono hle9
  replace hc7 := hc7.mono hle9
  refine WK.freezeB 0 rfl rfl (fun m11 hle12 hc13 => ?_)
  replace hpr := hpr.mono hle12
  replace hc7 := hc7.mono hle12
  replace hc10 := hc10.mono hle12
  refine WK.freezeB 0 rfl rfl (fun m14 hle15 hc16 => ?_)
  replace hpr := hpr.mono hle15
  replace hc7 := hc7.mono hle15
  replace hc10 := hc10.mono hle15
  replace hc13 := hc13.mono hle15
  refine WC.region ?_
  refine WL.x (X.makeFunc (by intro x hx; simp at hx; rcases hx with rfl | rfl | rfl | rfl; all_goals exact ⟨_, rfl⟩) rfl) (by decide) ?_
  refine WL.x (X.assign rfl) (by decide) ?_
  refine WL.nil ?_
  refine WK.nThen ?_
  refine WC.ret ?_
  refine WK.ret1 rfl rfl (fun w' hw' => Ret.mem hw' ?_)
  exact ⟨_, rfl, iter100 _ ⟨_, rfl, hc10⟩ hc16 ⟨_, rfl, hc13⟩ ⟨_, rfl, hc7⟩ hpr hw0 ha hb hmo⟩

theorem way21 (m : Mem) (cw : List Value) (w : Wind) (hw : Enc.rd m cw w) (vl : Value) (l : List Station) (hl : Sl m vl l) (a : Int) (b : Int)   : Pure Try.prog 21 #[.agg cw.toArray, vl, .int .i64 (a), .int .i64 (b)] m (fun m' v => ∃ r0, v = .tuple #[r0, .int .i64 ((wayR w l a b).2)] ∧ Sl m' r0 ((wayR w l a b).1)) := by
  obtain rfl := hw
  have ll := hl.le
  refine Pure.start Try.func21 rfl Try.ntmps21 rfl fun wld => ?_
  refine WC.seq ?_
  refine WC.region ?_
  refine WL.tn (T.boxB rfl rfl) (by decide) fun b1 => ?_
  refine WL.tn (T.alloc Try.zeroValue31 rfl) (by decide) fun b2 => ?_
  refine WL.tn (T.alloc Try.zeroValue28 rfl) (by decide) fun b3 => ?_
  refine WL.nil ?_
  refine WK.nThen ?_
  refine WC.seq ?_
  refine WC.region ?_
  refine WL.x (X.loadBA (k := 2) Try.isAgg23 Try.sizeOf23 rfl rfl rfl) (by decide) ?_
  refine WL.x (X.move rfl) (by decide) ?_
  refine WL.tm (T.call Try.call62 rfl (spread62 _ _ w rfl _ _ hl )) (by decide) fun m4 r5 hle6 hR7 => ?_
  obtain ⟨q8, rfl, hq9⟩ := hR7
  replace hl := hl.mono hle6
  refine WL.x (X.move rfl) (by decide) ?_
  refine WL.x (X.extract rfl rfl) (by decide) ?_
  refine WL.x (X.extract rfl rfl) (by decide) ?_
  refine WL.x (X.assign rfl) (by decide) ?_
  refine WL.x (X.assign rfl) (by decide) ?_
  refine WL.nil ?_
  refine WK.nThen ?_
  refine WC.seq ?_
  refine WC.block ?_
  refine WC.seq ?_
  refine WC.region ?_
  refine WL.x (X.move rfl) (by decide) ?_
  refine WL.condn (X.neq rfl rfl) (by decide) (fun h10 => ?_) (fun h10 => ?_)
  · refine WL.x (X.assign rfl) (by decide) ?_
    refine WL.nil ?_
    refine WK.nThen ?_
    refine WC.condT rfl ?_
    refine WC.seq ?_
    refine WC.region ?_
    refine WL.x (X.move rfl) (by decide) ?_
    refine WL.ts (T.storeB (k := 1) Try.sizeOf31 rfl rfl rfl rfl (Nat.le_of_ble_eq_true rfl)) ?_
    refine WL.ts (T.storeB (k := 0) Try.sizeOf28 rfl rfl rfl rfl (Nat.le_of_ble_eq_true rfl)) ?_
    refine WL.nil ?_
    refine WK.nThen ?_
    refine WC.ret ?_
    refine WK.rBlock ?_
    refine WK.rThen ?_
    refine WK.retD2 1 0 rfl rfl rfl rfl rfl Try.isAgg31 Try.isAgg28 (fun w' hw' => Ret.mem hw' ?_)
    first | exact ⟨_, tup2 rfl (int_eq (by rw [wayR_err (by assumption)])), by rw [wayR_err (by assumption)]; exact .nil⟩ | exact ⟨_, tup2 rfl (int_eq (by rw [wayR_arg (by omega) (by omega)])), by rw [wayR_arg (by omega) (by omega)]; exact .nil⟩ | exact ⟨_, tup2 rfl (int_eq (by rw [wayR_ok hw0 hna hnb (by omega) (by omega), wayL_yes (by omega) hall hyes])), by rw [wayR_ok hw0 hna hnb (by omega) (by omega), wayL_yes (by omega) hall hyes]; exact .nil⟩ | exact ⟨_, tup2 rfl (int_eq (by rw [wayR_ok hw0 hna hnb (by omega) (by omega), wayL_no (fun j hj => hall j (by omega))])), by rw [wayR_ok hw0 hna hnb (by omega) (by omega), wayL_no (fun j hj => hall j (by omega))]; exact .nil⟩
  · refine WL.x (X.assign rfl) (by decide) ?_
    refine WL.nil ?_
    refine WK.nThen ?_
    refine WC.condF rfl ?_
    refine WC.seq ?_
    refine WC.seq ?_
    refine WC.region ?_
    refine WL.x (X.move rfl) (by decide) ?_
    refine WL.x (X.move rfl) (by decide) ?_
    refine WL.x (X.len Try.runUnderlying24 rfl hl) (by decide) ?_
    refine WL.x (X.sub rfl rfl (by omega) (by omega)) (by decide) ?_
    refine WL.cond (X.call Try.call65 rfl (within65 _ _ _ _ )) (by decide) (fun h11 => ?_) (fun h11 => ?_)
    · refine WL.x (X.not rfl) (by decide) ?_
      refine WL.x (X.assign rfl) (by decide) ?_
      refine WL.nil ?_
      refine WK.nThen ?_
      refine WC.condF rfl ?_
      refine WC.region ?_
      refine WL.x (X.move rfl) (by decide) ?_
      refine WL.x (X.move rfl) (by decide) ?_
      refine WL.x (X.len Try.runUnderlying24 rfl hl) (by decide) ?_
      refine WL.x (X.sub rfl rfl (by omega) (by omega)) (by decide) ?_
      refine WL.cond (X.call Try.call65 rfl (within65 _ _ _ _ )) (by decide) (fun h12 => ?_) (fun h12 => ?_)
      · refine WL.x (X.not rfl) (by decide) ?_
        refine WL.x (X.assign rfl) (by decide) ?_
        refine WL.nil ?_
        refine WK.nThen ?_
        refine WC.condF rfl ?_
        refine WC.skip ?_
        refine WK.nBlock ?_
        refine WK.nThen ?_
        refine WC.seq ?_
        refine WC.seq ?_
        have hw0 : windedE w l = 0 := (by omega)
        have hl32 := (checkS_zero (l := l) (windedE_zero hw0).1).1
        obtain ⟨na, hna⟩ : ∃ na : Nat, a = na := ⟨a.toNat, by omega⟩
        obtain ⟨nb, hnb⟩ : ∃ nb : Nat, b = nb := ⟨b.toNat, by omega⟩
        refine WC.region ?_
        refine WL.x (X.move rfl) (by decide) ?_
        refine WL.x (X.len Try.runUnderlying24 rfl hl) (by decide) ?_
        refine WL.x (X.move rfl) (by decide) ?_
        refine WL.nil ?_
        refine WK.nThen ?_
        refine WC.block ?_
        refine WC.loop (G := Nat) (fun k => l.length - k) (fun k => m4) (fun k => [blk b3 28 [.int .i64 (0)], blk b2 31 [.slice none 0 0], blk b1 23 [.int .i64 (w.Fixed), .int .i64 (w.Each)]]) (fun k => [(2, .int .i64 (a)), (3, .int .i64 (b)), (8, .pointer (some ⟨b2, 0, none⟩)), (9, .pointer (some ⟨b3, 0, none⟩)), (10, .pointer q8), (38, .int .i64 (↑l.length)), (39, .int .i64 (↑k))]) (fun k => (∀ j, j < k → reachS w l nb j na = false) ∧ k ≤ l.length) 0 rfl (.refl _) (.cons rfl (.cons rfl (.cons rfl (.cons rfl (.cons rfl (.cons rfl (.cons rfl .nil))))))) ?_ ?_
        · exact ⟨fun j hj => absurd hj (Nat.not_lt_zero _), Nat.zero_le _⟩
        · rintro k hF13
          show WK _ _ m4 [blk b3 28 [.int .i64 (0)], blk b2 31 [.slice none 0 0], blk b1 23 [.int .i64 (w.Fixed), .int .i64 (w.Each)]] [(2, .int .i64 (a)), (3, .int .i64 (b)), (8, .pointer (some ⟨b2, 0, none⟩)), (9, .pointer (some ⟨b3, 0, none⟩)), (10, .pointer q8), (38, .int .i64 (↑l.length)), (39, .int .i64 (↑k))] _
          replace hF13 : (∀ j, j < k → reachS w l nb j na = false) ∧ k ≤ l.length := hF13
          obtain ⟨hall, hk⟩ := hF13
          refine WK.good (fun hgood0 => ?_)
          refine WC.seq ?_
          refine WC.region ?_
          refine WL.cond (X.lss rfl rfl) (by decide) (fun h14 => ?_) (fun h14 => ?_)
          · refine WL.nil ?_
            refine WK.nThen ?_
            refine WC.seq ?_
            refine WC.condT rfl ?_
            refine WC.skip ?_
            refine WK.nThen ?_
            refine WC.seq ?_
            refine WC.block ?_
            refine WC.seq ?_
            refine WC.region ?_
            refine WL.x (X.move rfl) (by decide) ?_
            refine WL.x (X.assign rfl) (by decide) ?_
            refine WL.nil ?_
            refine WK.nThen ?_
            refine WC.seq ?_
            obtain ⟨p15, rfl, hp16⟩ := hq9 hw0
            refine WC.region ?_
            refine WL.x (X.move rfl) (by decide) ?_
            refine WL.x (X.move rfl) (by decide) ?_
            refine WL.x (X.move rfl) (by decide) ?_
            refine WL.x (X.move rfl) (by decide) ?_
            refine WL.tm (T.call Try.call66 rfl (ways66 _ _ _ _ hp16 hw0 na nb k _ _ _ hna hnb rfl (by omega) (by omega) (by omega))) (by decide) (fun m17 _ hle18 hR19 => ?_)
            obtain ⟨lb20, rfl, hit21⟩ := hR19
            replace hl := hl.mono hle18
            replace hp16 := hp16.mono hle18
            refine WL.nil ?_
            refine WK.nThen ?_
            refine WC.block ?_
            refine WC.rangeFunc (S := Option Value) (G := Unit) (ps := [47]) (n := if reachS w l nb k na = true then 1 else 0) (A := fun _ m1 args => ∃ v, args = #[v] ∧ Sl m1 v ((na : Int) :: pathS w l nb k na)) rfl Try.call100 hit21 (fun s : Option Value => match s with | none => [blk b3 28 [.int .i64 (0)], blk b2 31 [.slice none 0 0], blk b1 23 [.int .i64 (w.Fixed), .int .i64 (w.Each)]] | some v => [rowF (v) 3 ((na : Int) :: pathS w l nb k na), blk b3 28 [.int .i64 (0)], blk b2 31 [v], blk b1 23 [.int .i64 (w.Fixed), .int .i64 (w.Each)]]) (fun i _ s => i = 0 ∧ s = none) (fun e i _ s => e = .ret ∧ i = 1 ∧ ∃ v, s = some v) none rfl ⟨rfl, rfl⟩ (fun _ i m' s h => by have := h.1; omega) (fun _ _ _ _ _ h => h) (by simp) (fun i m1 args h => by obtain ⟨v, rfl, _⟩ := h; rfl) (fun _ gh => (fun s : Option Value => match s with | none => [blk b3 28 [.int .i64 (0)], blk b2 31 [.slice none 0 0], blk b1 23 [.int .i64 (w.Fixed), .int .i64 (w.Each)]] | some v => [rowF (v) 3 ((na : Int) :: pathS w l nb k na), blk b3 28 [.int .i64 (0)], blk b2 31 [v], blk b1 23 [.int .i64 (w.Fixed), .int .i64 (w.Each)]]) gh) (fun _ args => (13, args.headD undef) :: [(2, .int .i64 (a)), (3, .int .i64 (b)), (8, .pointer (some ⟨b2, 0, none⟩)), (9, .pointer (some ⟨b3, 0, none⟩)), (10, .pointer (some (p15))), (38, .int .i64 (↑l.length)), (39, .int .i64 (↑k)), (40, .bool true), (41, .int .i64 (↑k)), (12, .int .i64 (↑k)), (42, .pointer (some (p15))), (43, .int .i64 (a)), (44, .int .i64 (b)), (45, .int .i64 (↑k)), (46, .func (.func 100) #[] lb20.toArray)]) ?_ ?_ ?_ ?_ ?_
            · intro lo B1 m1 gh args KK hlen hKK
              obtain ⟨x, rfl⟩ := len1 hlen
              refine WC.region ?_
              refine WL.x (X.assign rfl) (by decide) ?_
              refine WL.nil ?_
              refine WK.nThen ?_
              exact WK.keep (.cons rfl (.cons rfl (.cons rfl (.cons rfl (.cons rfl (.cons rfl (.cons rfl (.cons rfl (.cons rfl (.cons rfl (.cons rfl (.cons rfl (.cons rfl (.cons rfl (.cons rfl (.cons rfl .nil)))))))))))))))) (hKK ())
            · intro lo B1 i m1 gh args _ hlen hi hm1 hA1 hI1
              obtain ⟨x, rfl⟩ := len1 hlen
              obtain ⟨v0, hv0, hs0⟩ := hA1
              obtain rfl : x = v0 := (by simpa using hv0)
              obtain ⟨rfl, rfl⟩ := hI1
              replace hl := hl.mono hm1
              replace hp16 := hp16.mono hm1
              have hpl := pathS_len (w := w) (l := l) (b := nb) k na
              show WK _ _ m1 [blk b3 28 [.int .i64 (0)], blk b2 31 [.slice none 0 0], blk b1 23 [.int .i64 (w.Fixed), .int .i64 (w.Each)]] ((13, x) :: [(2, .int .i64 (a)), (3, .int .i64 (b)), (8, .pointer (some ⟨b2, 0, none⟩)), (9, .pointer (some ⟨b3, 0, none⟩)), (10, .pointer (some (p15))), (38, .int .i64 (↑l.length)), (39, .int .i64 (↑k)), (40, .bool true), (41, .int .i64 (↑k)), (12, .int .i64 (↑k)), (42, .pointer (some (p15))), (43, .int .i64 (a)), (44, .int .i64 (b)), (45, .int .i64 (↑k)), (46, .func (.func 100) #[] lb20.toArray)]) _
              refine WC.block ?_
              refine WC.seq ?_
              refine WC.region ?_
              refine WL.ta (T.lit0 (α := Int) sl31 rfl) (by decide) (fun v22 => ?_)
              refine WL.x (X.move rfl) (by decide) ?_
              refine WL.ta (T.appendI (k := 0) sl31 rfl rfl hs0 rfl (by first | omega | (simp; omega)) (by first | omega | (simp; omega))) (by decide) (fun v23 => ?_)
              refine WL.own1 (k := 0) rfl (fun ho24 => ?_)
              refine WL.ts (T.storeB (k := 2) Try.sizeOf31 rfl rfl rfl ho24 (Nat.le_of_ble_eq_true rfl)) ?_
              refine WL.ts (T.storeB (k := 1) Try.sizeOf28 rfl rfl rfl rfl (Nat.le_of_ble_eq_true rfl)) ?_
              refine WL.nil ?_
              refine WK.nThen ?_
              refine WC.ret ?_
              refine WK.rBlock ?_
              exact WK.goOut (some v23) (Mem.le_refl _) (.refl _) ⟨rfl, rfl, _, rfl⟩
            · intro m1 gh hm1 hI1
              obtain ⟨hn0, rfl⟩ := hI1
              have hno : reachS w l nb k na = false := (by cases hr : reachS w l nb k na with | false => rfl | true => rw [if_pos hr] at hn0; omega)
              replace hl := hl.mono hm1
              replace hp16 := hp16.mono hm1
              refine WK.keep (σ' := [(2, .int .i64 (a)), (3, .int .i64 (b)), (8, .pointer (some ⟨b2, 0, none⟩)), (9, .pointer (some ⟨b3, 0, none⟩)), (10, .pointer (some (p15))), (38, .int .i64 (↑l.length)), (39, .int .i64 (↑k)), (40, .bool true), (41, .int .i64 (↑k)), (12, .int .i64 (↑k)), (42, .pointer (some (p15))), (43, .int .i64 (a)), (44, .int .i64 (b)), (45, .int .i64 (↑k)), (46, .func (.func 100) #[] lb20.toArray)]) (.cons rfl (.cons rfl (.cons rfl (.cons rfl (.cons rfl (.cons rfl (.cons rfl (.cons rfl (.cons rfl (.cons rfl (.cons rfl (.cons rfl (.cons rfl (.cons rfl (.cons rfl .nil))))))))))))))) ?_
              show WK _ _ m1 [blk b3 28 [.int .i64 (0)], blk b2 31 [.slice none 0 0], blk b1 23 [.int .i64 (w.Fixed), .int .i64 (w.Each)]] [(2, .int .i64 (a)), (3, .int .i64 (b)), (8, .pointer (some ⟨b2, 0, none⟩)), (9, .pointer (some ⟨b3, 0, none⟩)), (10, .pointer (some (p15))), (38, .int .i64 (↑l.length)), (39, .int .i64 (↑k)), (40, .bool true), (41, .int .i64 (↑k)), (12, .int .i64 (↑k)), (42, .pointer (some (p15))), (43, .int .i64 (a)), (44, .int .i64 (b)), (45, .int .i64 (↑k)), (46, .func (.func 100) #[] lb20.toArray)] _
              refine WK.nBlock ?_
              refine WK.nBlock ?_
              refine WK.nThen ?_
              refine WC.region ?_
              refine WL.x (X.add rfl rfl (by omega) (by omega)) (by decide) ?_
              refine WL.x (X.move rfl) (by decide) ?_
              refine WL.nil ?_
              refine WK.nThen ?_
              refine WK.back hgood0 (Mem.le_trans hle18 hm1) ?_
              refine WK.next (k + 1) rfl (.refl _) (.cons rfl (.cons rfl (.cons rfl (.cons rfl (.cons rfl (.cons rfl (.cons rfl .nil))))))) ?_ ?_
              · exact ⟨fun j hj => by rcases Nat.lt_succ_iff_lt_or_eq.1 hj with h | h; exact hall j h; subst h; assumption, by omega⟩
              · omega
            · intro i m1 gh hm1 hi hI1
              obtain ⟨_, rfl, v, rfl⟩ := hI1
              have hyes : reachS w l nb k na = true := (by cases hr : reachS w l nb k na with | true => rfl | false => rw [if_neg (by simp [hr])] at hi; omega)
              have hpl := pathS_len (w := w) (l := l) (b := nb) k na
              replace hl := hl.mono hm1
              replace hp16 := hp16.mono hm1
              refine WK.keep (σ' := [(2, .int .i64 (a)), (3, .int .i64 (b)), (8, .pointer (some ⟨b2, 0, none⟩)), (9, .pointer (some ⟨b3, 0, none⟩)), (10, .pointer (some (p15))), (38, .int .i64 (↑l.length)), (39, .int .i64 (↑k)), (40, .bool true), (41, .int .i64 (↑k)), (12, .int .i64 (↑k)), (42, .pointer (some (p15))), (43, .int .i64 (a)), (44, .int .i64 (b)), (45, .int .i64 (↑k)), (46, .func (.func 100) #[] lb20.toArray)]) (.cons rfl (.cons rfl (.cons rfl (.cons rfl (.cons rfl (.cons rfl (.cons rfl (.cons rfl (.cons rfl (.cons rfl (.cons rfl (.cons rfl (.cons rfl (.cons rfl (.cons rfl .nil))))))))))))))) ?_
              show WK _ _ m1 [rowF (v) 3 ((na : Int) :: pathS w l nb k na), blk b3 28 [.int .i64 (0)], blk b2 31 [v], blk b1 23 [.int .i64 (w.Fixed), .int .i64 (w.Each)]] [(2, .int .i64 (a)), (3, .int .i64 (b)), (8, .pointer (some ⟨b2, 0, none⟩)), (9, .pointer (some ⟨b3, 0, none⟩)), (10, .pointer (some (p15))), (38, .int .i64 (↑l.length)), (39, .int .i64 (↑k)), (40, .bool true), (41, .int .i64 (↑k)), (12, .int .i64 (↑k)), (42, .pointer (some (p15))), (43, .int .i64 (a)), (44, .int .i64 (b)), (45, .int .i64 (↑k)), (46, .func (.func 100) #[] lb20.toArray)] _
              refine WK.rBlock ?_
              refine WK.rBlock ?_
              refine WK.rThen ?_
              refine WK.rThen ?_
              refine WK.rBlock ?_
              refine WK.rThen ?_
              refine WK.freezeF 0 rfl rfl (by simp [lenB]; omega) (fun m25 hle26 hs27 => ?_)
              replace hl := hl.mono hle26
              replace hp16 := hp16.mono hle26
              refine WK.retD2 1 0 rfl rfl rfl rfl rfl Try.isAgg31 Try.isAgg28 (fun w' hw' => Ret.mem hw' ?_)
              first | exact ⟨_, tup2 rfl (int_eq (by rw [wayR_err (by assumption)])), by rw [wayR_err (by assumption)]; exact hs27⟩ | exact ⟨_, tup2 rfl (int_eq (by rw [wayR_arg (by omega) (by omega)])), by rw [wayR_arg (by omega) (by omega)]; exact hs27⟩ | exact ⟨_, tup2 rfl (int_eq (by rw [wayR_ok hw0 hna hnb (by omega) (by omega), wayL_yes (by omega) hall hyes])), by rw [wayR_ok hw0 hna hnb (by omega) (by omega), wayL_yes (by omega) hall hyes]; exact hs27⟩ | exact ⟨_, tup2 rfl (int_eq (by rw [wayR_ok hw0 hna hnb (by omega) (by omega), wayL_no (fun j hj => hall j (by omega))])), by rw [wayR_ok hw0 hna hnb (by omega) (by omega), wayL_no (fun j hj => hall j (by omega))]; exact hs27⟩
            · intro id i m1 gh hm1 hi hI1
              exact absurd hI1.1 (by simp)
          · refine WL.nil ?_
            refine WK.nThen ?_
            refine WC.seq ?_
            refine WC.condF rfl ?_
            refine WC.exit ?_
            refine WK.eThen ?_
            refine WK.eThen ?_
            refine WK.eHit ?_
            refine WK.nThen ?_
            refine WC.seq ?_
            refine WC.region ?_
            refine WL.ts (T.storeB (k := 1) Try.sizeOf31 rfl rfl rfl rfl (Nat.le_of_ble_eq_true rfl)) ?_
            refine WL.ts (T.storeB (k := 0) Try.sizeOf28 rfl rfl rfl rfl (Nat.le_of_ble_eq_true rfl)) ?_
            refine WL.nil ?_
            refine WK.nThen ?_
            refine WC.ret ?_
            refine WK.retD2 1 0 rfl rfl rfl rfl rfl Try.isAgg31 Try.isAgg28 (fun w' hw' => Ret.mem hw' ?_)
            first | exact ⟨_, tup2 rfl (int_eq (by rw [wayR_err (by assumption)])), by rw [wayR_err (by assumption)]; exact .nil⟩ | exact ⟨_, tup2 rfl (int_eq (by rw [wayR_arg (by omega) (by omega)])), by rw [wayR_arg (by omega) (by omega)]; exact .nil⟩ | exact ⟨_, tup2 rfl (int_eq (by rw [wayR_ok hw0 hna hnb (by omega) (by omega), wayL_yes (by omega) hall hyes])), by rw [wayR_ok hw0 hna hnb (by omega) (by omega), wayL_yes (by omega) hall hyes]; exact .nil⟩ | exact ⟨_, tup2 rfl (int_eq (by rw [wayR_ok hw0 hna hnb (by omega) (by omega), wayL_no (fun j hj => hall j (by omega))])), by rw [wayR_ok hw0 hna hnb (by omega) (by omega), wayL_no (fun j hj => hall j (by omega))]; exact .nil⟩
      · refine WL.x (X.not rfl) (by decide) ?_
        refine WL.x (X.assign rfl) (by decide) ?_
        refine WL.nil ?_
        refine WK.nThen ?_
        refine WC.condT rfl ?_
        refine WC.seq ?_
        refine WC.region ?_
        refine WL.ts (T.storeB (k := 1) Try.sizeOf31 rfl rfl rfl rfl (Nat.le_of_ble_eq_true rfl)) ?_
        refine WL.ts (T.storeB (k := 0) Try.sizeOf28 rfl rfl rfl rfl (Nat.le_of_ble_eq_true rfl)) ?_
        refine WL.nil ?_
        refine WK.nThen ?_
        refine WC.ret ?_
        refine WK.rBlock ?_
        refine WK.rThen ?_
        refine WK.retD2 1 0 rfl rfl rfl rfl rfl Try.isAgg31 Try.isAgg28 (fun w' hw' => Ret.mem hw' ?_)
        first | exact ⟨_, tup2 rfl (int_eq (by rw [wayR_err (by assumption)])), by rw [wayR_err (by assumption)]; exact .nil⟩ | exact ⟨_, tup2 rfl (int_eq (by rw [wayR_arg (by omega) (by omega)])), by rw [wayR_arg (by omega) (by omega)]; exact .nil⟩ | exact ⟨_, tup2 rfl (int_eq (by rw [wayR_ok hw0 hna hnb (by omega) (by omega), wayL_yes (by omega) hall hyes])), by rw [wayR_ok hw0 hna hnb (by omega) (by omega), wayL_yes (by omega) hall hyes]; exact .nil⟩ | exact ⟨_, tup2 rfl (int_eq (by rw [wayR_ok hw0 hna hnb (by omega) (by omega), wayL_no (fun j hj => hall j (by omega))])), by rw [wayR_ok hw0 hna hnb (by omega) (by omega), wayL_no (fun j hj => hall j (by omega))]; exact .nil⟩
    · refine WL.x (X.not rfl) (by decide) ?_
      refine WL.x (X.assign rfl) (by decide) ?_
      refine WL.nil ?_
      refine WK.nThen ?_
      refine WC.condT rfl ?_
      refine WC.skip ?_
      refine WK.nThen ?_
      refine WC.condT rfl ?_
      refine WC.seq ?_
      refine WC.region ?_
      refine WL.ts (T.storeB (k := 1) Try.sizeOf31 rfl rfl rfl rfl (Nat.le_of_ble_eq_true rfl)) ?_
      refine WL.ts (T.storeB (k := 0) Try.sizeOf28 rfl rfl rfl rfl (Nat.le_of_ble_eq_true rfl)) ?_
      refine WL.nil ?_
      refine WK.nThen ?_
      refine WC.ret ?_
      refine WK.rBlock ?_
      refine WK.rThen ?_
      refine WK.retD2 1 0 rfl rfl rfl rfl rfl Try.isAgg31 Try.isAgg28 (fun w' hw' => Ret.mem hw' ?_)
      first | exact ⟨_, tup2 rfl (int_eq (by rw [wayR_err (by assumption)])), by rw [wayR_err (by assumption)]; exact .nil⟩ | exact ⟨_, tup2 rfl (int_eq (by rw [wayR_arg (by omega) (by omega)])), by rw [wayR_arg (by omega) (by omega)]; exact .nil⟩ | exact ⟨_, tup2 rfl (int_eq (by rw [wayR_ok hw0 hna hnb (by omega) (by omega), wayL_yes (by omega) hall hyes])), by rw [wayR_ok hw0 hna hnb (by omega) (by omega), wayL_yes (by omega) hall hyes]; exact .nil⟩ | exact ⟨_, tup2 rfl (int_eq (by rw [wayR_ok hw0 hna hnb (by omega) (by omega), wayL_no (fun j hj => hall j (by omega))])), by rw [wayR_ok hw0 hna hnb (by omega) (by omega), wayL_no (fun j hj => hall j (by omega))]; exact .nil⟩

theorem tight19 (m : Mem) (cw : List Value) (w : Wind) (hw : Enc.rd m cw w) (vl : Value) (l : List Station) (hl : Sl m vl l)   : Pure Try.prog 19 #[.agg cw.toArray, vl] m (fun m' v => ∃ r0, v = .tuple #[r0, .int .i64 (windedE w l)] ∧ Sl m' r0 (tightR w l)) := by
  obtain rfl := hw
  have ll := hl.le
  refine Pure.start Try.func19 rfl Try.ntmps19 rfl fun wld => ?_
  refine WC.seq ?_
  refine WC.region ?_
  refine WL.tn (T.boxB rfl rfl) (by decide) fun b1 => ?_
  refine WL.x (X.assign rfl) (by decide) ?_
  refine WL.x (X.assign rfl) (by decide) ?_
  refine WL.nil ?_
  refine WK.nThen ?_
  refine WC.seq ?_
  refine WC.region ?_
  refine WL.x (X.loadBA (k := 0) Try.isAgg23 Try.sizeOf23 rfl rfl rfl) (by decide) ?_
  refine WL.x (X.move rfl) (by decide) ?_
  refine WL.tm (T.call Try.call62 rfl (spread62 _ _ w rfl _ _ hl )) (by decide) fun m2 r3 hle4 hR5 => ?_
  obtain ⟨q6, rfl, hq7⟩ := hR5
  replace hl := hl.mono hle4
  refine WL.x (X.move rfl) (by decide) ?_
  refine WL.x (X.extract rfl rfl) (by decide) ?_
  refine WL.x (X.extract rfl rfl) (by decide) ?_
  refine WL.x (X.assign rfl) (by decide) ?_
  refine WL.x (X.assign rfl) (by decide) ?_
  refine WL.nil ?_
  refine WK.nThen ?_
  refine WC.seq ?_
  refine WC.seq ?_
  refine WC.region ?_
  refine WL.x (X.move rfl) (by decide) ?_
  refine WL.condn (X.neq rfl rfl) (by decide) (fun h8 => ?_) (fun h8 => ?_)
  · refine WL.nil ?_
    refine WK.nThen ?_
    refine WC.condT rfl ?_
    refine WC.seq ?_
    refine WC.region ?_
    refine WL.x (X.move rfl) (by decide) ?_
    refine WL.x (X.assign rfl) (by decide) ?_
    refine WL.x (X.assign rfl) (by decide) ?_
    refine WL.nil ?_
    refine WK.nThen ?_
    refine WC.ret ?_
    refine WK.rThen ?_
    refine WK.ret2 rfl rfl rfl (fun w' hw' => Ret.mem hw' ?_)
    exact ⟨_, rfl, by rw [tightR, if_neg (by omega)]; exact .nil⟩
  · refine WL.nil ?_
    refine WK.nThen ?_
    refine WC.condF rfl ?_
    refine WC.skip ?_
    refine WK.nThen ?_
    refine WC.seq ?_
    have hw0 : windedE w l = 0 := (by omega)
    have hl32 := (checkS_zero (l := l) (windedE_zero hw0).1).1
    have hrl := (regB_mat w l).1
    obtain ⟨p9, rfl, hp10⟩ := hq7 hw0
    refine WK.own0 31 1 ?_
    refine WC.region ?_
    refine WL.x (X.assign rfl) (by decide) ?_
    refine WL.nil ?_
    refine WK.nThen ?_
    refine WC.seq ?_
    refine WC.seq ?_
    refine WC.region ?_
    refine WL.x (X.move rfl) (by decide) ?_
    refine WL.x (X.len Try.runUnderlying24 rfl hl) (by decide) ?_
    refine WL.x (X.move rfl) (by decide) ?_
    refine WL.nil ?_
    refine WK.nThen ?_
    refine WC.block ?_
    refine WC.loop (G := Nat × Mem × Value × List Value) (fun (i, mm, vo, xs) => l.length - i) (fun (i, mm, vo, xs) => mm) (fun (i, mm, vo, xs) => [row (vo) 31 1 ((List.range i).map (fun i => (List.range l.length).map fun k => tightM w l i k)).length (xs), blk b1 23 [.int .i64 (w.Fixed), .int .i64 (w.Each)]]) (fun (i, mm, vo, xs) => [(1, vl), (6, .pointer (some (p9))), (8, vo), (20, .int .i64 (↑l.length)), (21, .int .i64 (↑i))]) (fun (i, mm, vo, xs) => m2.le mm ∧ RdL mm xs ((List.range i).map (fun i => (List.range l.length).map fun k => tightM w l i k)) ∧ i ≤ l.length) ((0, m2, Value.slice none 0 0, [])) rfl (.refl _) (.cons rfl (.cons rfl (.cons rfl (.cons rfl (.cons rfl .nil))))) ?_ ?_
    · exact ⟨Mem.le_refl _, RdL.nil, Nat.zero_le _⟩
    · rintro ⟨i, mm, vo, xs⟩ hF11
      show WK _ _ mm [row (vo) 31 1 ((List.range i).map (fun i => (List.range l.length).map fun k => tightM w l i k)).length (xs), blk b1 23 [.int .i64 (w.Fixed), .int .i64 (w.Each)]] [(1, vl), (6, .pointer (some (p9))), (8, vo), (20, .int .i64 (↑l.length)), (21, .int .i64 (↑i))] _
      replace hF11 : m2.le mm ∧ RdL mm xs ((List.range i).map (fun i => (List.range l.length).map fun k => tightM w l i k)) ∧ i ≤ l.length := hF11
      obtain ⟨hmm, hx, hi⟩ := hF11
      replace hl := hl.mono hmm
      replace hp10 := hp10.mono hmm
      refine WC.seq ?_
      refine WC.region ?_
      refine WL.cond (X.lss rfl rfl) (by decide) (fun h12 => ?_) (fun h12 => ?_)
      · refine WL.nil ?_
        refine WK.nThen ?_
        refine WC.seq ?_
        refine WC.condT rfl ?_
        refine WC.skip ?_
        refine WK.nThen ?_
        refine WC.seq ?_
        refine WC.block ?_
        refine WC.seq ?_
        refine WC.region ?_
        refine WL.x (X.move rfl) (by decide) ?_
        refine WL.x (X.assign rfl) (by decide) ?_
        refine WL.nil ?_
        refine WK.nThen ?_
        refine WC.region ?_
        refine WL.x (X.move rfl) (by decide) ?_
        refine WL.ta (T.lit0 (α := Int) sl31 rfl) (by decide) (fun v13 => ?_)
        refine WL.x (X.move rfl) (by decide) ?_
        refine WL.x (X.move rfl) (by decide) ?_
        refine WL.x (X.nilCheck rfl) (by decide) ?_
        have hp14 : Cells mm (p9) (ints (regB w l)) := At.Reg_0 hp10
        refine WL.x (X.field Try.runUnderlying92 rfl Try.sizeOf90 rfl) (by decide) ?_
        refine WL.x (X.idxArM (off := 0) hp14 i Try.underlying90 Try.sizeOf88 rfl rfl (by omega) (by omega)) (by decide) ?_
        refine WL.x (X.move rfl) (by decide) ?_
        refine WL.x (X.len Try.runUnderlying24 rfl hl) (by decide) ?_
        refine WL.xe (E.slArM (off := 0 + i * 32) l.length Try.underlying88 Try.sizeOf3 rfl rfl hp14 (by omega) (by omega) (by omega) (by decide)) (by decide) (fun v15 hs16 => ?_)
        refine WL.ta (T.appendI (k := 0) sl31 rfl rfl hs16 rfl (by first | omega | (simp; omega)) (by first | omega | (simp; omega))) (by decide) (fun v17 => ?_)
        refine WL.freezeF 0 rfl rfl (by simp [lenB]; omega) (fun m18 hle19 hs20 => ?_)
        replace hl := hl.mono hle19
        replace hp10 := hp10.mono hle19
        replace hx := hx.mono hle19
        replace hp14 := hp14.mono hle19
        replace hs16 := hs16.mono hle19
        refine WL.tl (T.lit1 sl27 rfl (one_cells hs20.one) rfl (by decide)) (by decide) fun b21 => ?_
        refine WL.ta (T.appendN (k := 0) (n' := (((List.range i).map (fun i => (List.range l.length).map fun k => tightM w l i k)) ++ [[] ++ (((regB w l).drop (0 + i * 32)).take l.length)]).length) sl27 rfl rfl rfl rfl rfl (one_cons hs20.one one_nil) (by simp) (by first | omega | (simp; omega)) (by first | omega | (simp; omega))) (by decide) (fun v22 => ?_)
        have hx23 := RdL.snoc (a := [] ++ (((regB w l).drop (0 + i * 32)).take l.length)) hx ⟨_, rfl, hs20⟩
        refine WL.x (X.assign rfl) (by decide) ?_
        refine WL.nil ?_
        refine WK.nBlock ?_
        refine WK.nThen ?_
        refine WC.region ?_
        refine WL.x (X.add rfl rfl (by omega) (by omega)) (by decide) ?_
        refine WL.x (X.move rfl) (by decide) ?_
        refine WL.nil ?_
        refine WK.nThen ?_
        have he24 : (((List.range i).map (fun i => (List.range l.length).map fun k => tightM w l i k)) ++ [[] ++ (((regB w l).drop (0 + i * 32)).take l.length)]) = ((List.range (i + 1)).map (fun i => (List.range l.length).map fun k => tightM w l i k)) := by rw [row_regB hl32 (by omega)]; exact map_succ _ _
        rw [he24]
        rw [he24] at hx23
        refine WK.next ((i + 1, m18, v22, xs ++ [v17])) rfl (.refl _) (.cons rfl (.cons rfl (.cons rfl (.cons rfl (.cons rfl .nil))))) ?_ ?_
        · exact ⟨Mem.le_trans hmm hle19, hx23, by omega⟩
        · (dsimp only; omega)
      · refine WL.nil ?_
        refine WK.nThen ?_
        refine WC.seq ?_
        refine WC.condF rfl ?_
        refine WC.exit ?_
        refine WK.eThen ?_
        refine WK.eThen ?_
        refine WK.eHit ?_
        refine WK.nThen ?_
        refine WC.seq ?_
        refine WC.region ?_
        refine WL.x (X.move rfl) (by decide) ?_
        refine WL.x (X.assign rfl) (by decide) ?_
        refine WL.x (X.assign rfl) (by decide) ?_
        refine WL.nil ?_
        refine WK.nThen ?_
        refine WC.ret ?_
        refine WK.freezeL 0 rfl rfl hx (by simp [lenB]; omega) (fun m25 hle26 hs27 => ?_)
        replace hl := hl.mono hle26
        replace hp10 := hp10.mono hle26
        replace hx := hx.mono hle26
        refine WK.ret2 rfl rfl rfl (fun w' hw' => Ret.mem hw' ?_)
        obtain rfl : i = l.length := (by omega)
        rw [hw0]
        exact ⟨_, rfl, by rw [tightR, if_pos hw0]; exact hs27⟩

theorem lands38 (m : Mem) (level : Int) (height : Int)   : Exact Try.prog 38 #[.int .i64 (level), .int .i64 (height)] m (.tuple #[.agg [.int .i64 ((landsR level height).1.Lo), .int .i64 ((landsR level height).1.Hi)].toArray, .int .i64 ((landsR level height).2)]) := by
  refine Exact.start Try.func38 rfl Try.ntmps38 rfl fun wld => ?_
  refine WC.seq ?_
  refine WC.region ?_
  refine WL.tn (T.alloc Try.zeroValue49 rfl) (by decide) fun b1 => ?_
  refine WL.x (X.assign rfl) (by decide) ?_
  refine WL.nil ?_
  refine WK.nThen ?_
  refine WC.seq ?_
  refine WC.seq ?_
  refine WC.region ?_
  refine WL.x (X.move rfl) (by decide) ?_
  refine WL.cond (X.call Try.call65 rfl (within65 _ _ _ _ )) (by decide) (fun h2 => ?_) (fun h2 => ?_)
  · refine WL.x (X.not rfl) (by decide) ?_
    refine WL.x (X.move rfl) (by decide) ?_
    refine WL.yes rfl rfl ?_
    refine WL.x (X.move rfl) (by decide) ?_
    refine WL.yes rfl rfl ?_
    refine WL.cond (X.call Try.call65 rfl (within65 _ _ _ _ )) (by decide) (fun h3 => ?_) (fun h3 => ?_)
    · refine WL.yes rfl rfl ?_
      refine WL.x (X.not rfl) (by decide) ?_
      refine WL.x (X.pickF rfl rfl rfl) (by decide) ?_
      refine WL.nil ?_
      refine WK.nThen ?_
      refine WC.condF rfl ?_
      refine WC.skip ?_
      refine WK.nThen ?_
      refine WC.seq ?_
      refine WC.region ?_
      refine WL.x (X.assign rfl) (by decide) ?_
      refine WL.x (X.assign rfl) (by decide) ?_
      refine WL.nil ?_
      refine WK.nThen ?_
      refine WC.seq ?_
      refine WC.block ?_
      refine WC.loop (G := Int × Int) (fun (lo, hi) => (hi - lo).toNat) (fun (lo, hi) => m) (fun (lo, hi) => [blk b1 49 [.int .i64 (0), .int .i64 (0)]]) (fun (lo, hi) => [(0, .int .i64 (level)), (1, .int .i64 (height)), (4, .pointer (some ⟨b1, 0, none⟩)), (6, .int .i64 (lo)), (7, .int .i64 (hi))]) (fun (lo, hi) => (0 ≤ lo ∧ lo ≤ hi ∧ hi ≤ 12001) ∧ (∀ i : Nat, (i : Int) < lo → seaS i height < level) ∧ (∀ i : Nat, hi ≤ i → i ≤ 12000 → level ≤ seaS i height)) ((0, 12001)) rfl (.refl _) (.cons rfl (.cons rfl (.cons rfl (.cons rfl (.cons rfl .nil))))) ?_ ?_
      · exact ⟨by omega, fun i h1 => by omega, fun i h1 h2 => by omega⟩
      · rintro ⟨lo, hi⟩ hF4
        show WK _ _ m [blk b1 49 [.int .i64 (0), .int .i64 (0)]] [(0, .int .i64 (level)), (1, .int .i64 (height)), (4, .pointer (some ⟨b1, 0, none⟩)), (6, .int .i64 (lo)), (7, .int .i64 (hi))] _
        replace hF4 : (0 ≤ lo ∧ lo ≤ hi ∧ hi ≤ 12001) ∧ (∀ i : Nat, (i : Int) < lo → seaS i height < level) ∧ (∀ i : Nat, hi ≤ i → i ≤ 12000 → level ≤ seaS i height) := hF4
        obtain ⟨hb, hlo, hhi⟩ := hF4
        refine WC.seq ?_
        refine WC.seq ?_
        refine WC.region ?_
        refine WL.x (X.move rfl) (by decide) ?_
        refine WL.x (X.move rfl) (by decide) ?_
        refine WL.cond (X.lss rfl rfl) (by decide) (fun h5 => ?_) (fun h5 => ?_)
        · refine WL.nil ?_
          refine WK.nThen ?_
          refine WC.condT rfl ?_
          refine WC.skip ?_
          refine WK.nThen ?_
          refine WC.block ?_
          refine WC.seq ?_
          refine WC.region ?_
          refine WL.x (X.move rfl) (by decide) ?_
          refine WL.x (X.move rfl) (by decide) ?_
          refine WL.x (X.add rfl rfl (by omega) (by omega)) (by decide) ?_
          refine WL.x (X.quo rfl rfl (by omega) (by omega) (by omega)) (by decide) ?_
          refine WL.x (X.assign rfl) (by decide) ?_
          refine WL.nil ?_
          refine WK.nThen ?_
          refine WC.seq ?_
          refine WC.region ?_
          refine WL.x (X.move rfl) (by decide) ?_
          refine WL.x (X.move rfl) (by decide) ?_
          refine WL.x (X.call Try.call75 rfl (sea75 _ _ _ (by omega) (by omega))) (by decide) ?_
          refine WL.x (X.move rfl) (by decide) ?_
          refine WL.cond (X.lss rfl rfl) (by decide) (fun h6 => ?_) (fun h6 => ?_)
          · refine WL.nil ?_
            refine WK.nThen ?_
            refine WC.condT rfl ?_
            refine WC.region ?_
            refine WL.x (X.move rfl) (by decide) ?_
            refine WL.x (X.add rfl rfl (by omega) (by omega)) (by decide) ?_
            refine WL.x (X.assign rfl) (by decide) ?_
            refine WL.nil ?_
            refine WK.nBlock ?_
            refine WK.nThen ?_
            refine WK.next ((((lo + hi) / 2) + 1, hi)) rfl (.refl _) (.cons rfl (.cons rfl (.cons rfl (.cons rfl (.cons rfl .nil))))) ?_ ?_
            · first | exact ⟨by omega, fun i h1 => by have := seaS_le (h := height) (a := i) (b := (lo + hi) / 2) (by omega) (by omega) (by omega); omega, hhi⟩ | exact ⟨by omega, hlo, fun i h1 h2 => by have := seaS_le (h := height) (a := (lo + hi) / 2) (b := i) (by omega) (by omega) (by omega); omega⟩
            · (dsimp only; omega)
          · refine WL.nil ?_
            refine WK.nThen ?_
            refine WC.condF rfl ?_
            refine WC.region ?_
            refine WL.x (X.move rfl) (by decide) ?_
            refine WL.x (X.assign rfl) (by decide) ?_
            refine WL.nil ?_
            refine WK.nBlock ?_
            refine WK.nThen ?_
            refine WK.next ((lo, (lo + hi) / 2)) rfl (.refl _) (.cons rfl (.cons rfl (.cons rfl (.cons rfl (.cons rfl .nil))))) ?_ ?_
            · first | exact ⟨by omega, fun i h1 => by have := seaS_le (h := height) (a := i) (b := (lo + hi) / 2) (by omega) (by omega) (by omega); omega, hhi⟩ | exact ⟨by omega, hlo, fun i h1 h2 => by have := seaS_le (h := height) (a := (lo + hi) / 2) (b := i) (by omega) (by omega) (by omega); omega⟩
            · (dsimp only; omega)
        · refine WL.nil ?_
          refine WK.nThen ?_
          refine WC.condF rfl ?_
          refine WC.exit ?_
          refine WK.eThen ?_
          refine WK.eThen ?_
          refine WK.eHit ?_
          refine WK.nThen ?_
          refine WC.seq ?_
          refine WC.seq ?_
          refine WC.region ?_
          refine WL.x (X.move rfl) (by decide) ?_
          refine WL.cond (X.gtr rfl rfl) (by decide) (fun h7 => ?_) (fun h7 => ?_)
          · refine WL.x (X.move rfl) (by decide) ?_
            refine WL.no rfl rfl rfl (by decide) ?_
            refine WL.no rfl rfl rfl (by decide) ?_
            refine WL.no rfl rfl rfl (by decide) ?_
            refine WL.no rfl rfl rfl (by decide) ?_
            refine WL.no rfl rfl rfl (by decide) ?_
            refine WL.x (X.pickT rfl rfl rfl) (by decide) ?_
            refine WL.nil ?_
            refine WK.nThen ?_
            refine WC.condT rfl ?_
            refine WC.seq ?_
            refine WC.region ?_
            refine WL.x (V := Value.agg [.int .i64 (0), .int .i64 (0)].toArray) (X.build Try.zeroValue49 Try.runUnderlying49 (places49 _ Try.underlying49) rfl rfl) (by decide) ?_
            refine WL.ts (T.storeBA (k := 0) Try.sizeOf49 rfl rfl rfl (one_cons rfl (one_cons rfl one_nil)) rfl rfl) ?_
            refine WL.x (X.assign rfl) (by decide) ?_
            refine WL.nil ?_
            refine WK.nThen ?_
            refine WC.ret ?_
            refine WK.rThen ?_
            refine WK.retC2 0 rfl rfl rfl rfl Try.isAgg49 Try.sizeOf49 (fun w' hw' => Ret.exact hw' ?_)
            first | exact tup2 (agg2 (by rw [landsR_arg (by omega)]) (by rw [landsR_arg (by omega)])) (int_eq (by rw [landsR_arg (by omega)])) | exact tup2 (agg2 (by rw [landsR_yes (k := lo.toNat) (by omega) (by omega) (by omega) (fun i h1 => by have := hlo i (by omega); omega) (by rw [show ((lo.toNat : Nat) : Int) = lo by omega]; omega), show ((lo.toNat : Nat) : Int) = lo by omega]) (by rw [landsR_yes (k := lo.toNat) (by omega) (by omega) (by omega) (fun i h1 => by have := hlo i (by omega); omega) (by rw [show ((lo.toNat : Nat) : Int) = lo by omega]; omega), show ((lo.toNat : Nat) : Int) = lo by omega])) (int_eq (by rw [landsR_yes (k := lo.toNat) (by omega) (by omega) (by omega) (fun i h1 => by have := hlo i (by omega); omega) (by rw [show ((lo.toNat : Nat) : Int) = lo by omega]; omega), show ((lo.toNat : Nat) : Int) = lo by omega])) | exact tup2 (agg2 (by rw [landsR_no (by omega) (by omega) (fun i hi => by rcases Int.lt_or_le i lo with h0 | h0; have := hlo i h0; omega; have h1 := hhi i (by omega) hi; have h2 := hhi lo.toNat (by omega) (by omega); have h3 := seaS_le (h := height) (a := lo) (b := i) (by omega) (by omega) (by omega); rw [show ((lo.toNat : Nat) : Int) = lo by omega] at h2; omega)]) (by rw [landsR_no (by omega) (by omega) (fun i hi => by rcases Int.lt_or_le i lo with h0 | h0; have := hlo i h0; omega; have h1 := hhi i (by omega) hi; have h2 := hhi lo.toNat (by omega) (by omega); have h3 := seaS_le (h := height) (a := lo) (b := i) (by omega) (by omega) (by omega); rw [show ((lo.toNat : Nat) : Int) = lo by omega] at h2; omega)])) (int_eq (by rw [landsR_no (by omega) (by omega) (fun i hi => by rcases Int.lt_or_le i lo with h0 | h0; have := hlo i h0; omega; have h1 := hhi i (by omega) hi; have h2 := hhi lo.toNat (by omega) (by omega); have h3 := seaS_le (h := height) (a := lo) (b := i) (by omega) (by omega) (by omega); rw [show ((lo.toNat : Nat) : Int) = lo by omega] at h2; omega)])) | exact tup2 (agg2 (by rw [landsR_no (by omega) (by omega) (fun i hi => by have := hlo i (by omega); omega)]) (by rw [landsR_no (by omega) (by omega) (fun i hi => by have := hlo i (by omega); omega)])) (int_eq (by rw [landsR_no (by omega) (by omega) (fun i hi => by have := hlo i (by omega); omega)]))
          · refine WL.x (X.move rfl) (by decide) ?_
            refine WL.yes rfl rfl ?_
            refine WL.x (X.move rfl) (by decide) ?_
            refine WL.yes rfl rfl ?_
            refine WL.x (X.move rfl) (by decide) ?_
            refine WL.yes rfl rfl ?_
            refine WL.x (X.call Try.call75 rfl (sea75 _ _ _ (by omega) (by omega))) (by decide) ?_
            refine WL.yes rfl rfl ?_
            refine WL.x (X.move rfl) (by decide) ?_
            refine WL.yes rfl rfl ?_
            refine WL.condn (X.neq rfl rfl) (by decide) (fun h8 => ?_) (fun h8 => ?_)
            · refine WL.x (X.pickF rfl rfl rfl) (by decide) ?_
              refine WL.nil ?_
              refine WK.nThen ?_
              refine WC.condT rfl ?_
              refine WC.seq ?_
              refine WC.region ?_
              refine WL.x (V := Value.agg [.int .i64 (0), .int .i64 (0)].toArray) (X.build Try.zeroValue49 Try.runUnderlying49 (places49 _ Try.underlying49) rfl rfl) (by decide) ?_
              refine WL.ts (T.storeBA (k := 0) Try.sizeOf49 rfl rfl rfl (one_cons rfl (one_cons rfl one_nil)) rfl rfl) ?_
              refine WL.x (X.assign rfl) (by decide) ?_
              refine WL.nil ?_
              refine WK.nThen ?_
              refine WC.ret ?_
              refine WK.rThen ?_
              refine WK.retC2 0 rfl rfl rfl rfl Try.isAgg49 Try.sizeOf49 (fun w' hw' => Ret.exact hw' ?_)
              first | exact tup2 (agg2 (by rw [landsR_arg (by omega)]) (by rw [landsR_arg (by omega)])) (int_eq (by rw [landsR_arg (by omega)])) | exact tup2 (agg2 (by rw [landsR_yes (k := lo.toNat) (by omega) (by omega) (by omega) (fun i h1 => by have := hlo i (by omega); omega) (by rw [show ((lo.toNat : Nat) : Int) = lo by omega]; omega), show ((lo.toNat : Nat) : Int) = lo by omega]) (by rw [landsR_yes (k := lo.toNat) (by omega) (by omega) (by omega) (fun i h1 => by have := hlo i (by omega); omega) (by rw [show ((lo.toNat : Nat) : Int) = lo by omega]; omega), show ((lo.toNat : Nat) : Int) = lo by omega])) (int_eq (by rw [landsR_yes (k := lo.toNat) (by omega) (by omega) (by omega) (fun i h1 => by have := hlo i (by omega); omega) (by rw [show ((lo.toNat : Nat) : Int) = lo by omega]; omega), show ((lo.toNat : Nat) : Int) = lo by omega])) | exact tup2 (agg2 (by rw [landsR_no (by omega) (by omega) (fun i hi => by rcases Int.lt_or_le i lo with h0 | h0; have := hlo i h0; omega; have h1 := hhi i (by omega) hi; have h2 := hhi lo.toNat (by omega) (by omega); have h3 := seaS_le (h := height) (a := lo) (b := i) (by omega) (by omega) (by omega); rw [show ((lo.toNat : Nat) : Int) = lo by omega] at h2; omega)]) (by rw [landsR_no (by omega) (by omega) (fun i hi => by rcases Int.lt_or_le i lo with h0 | h0; have := hlo i h0; omega; have h1 := hhi i (by omega) hi; have h2 := hhi lo.toNat (by omega) (by omega); have h3 := seaS_le (h := height) (a := lo) (b := i) (by omega) (by omega) (by omega); rw [show ((lo.toNat : Nat) : Int) = lo by omega] at h2; omega)])) (int_eq (by rw [landsR_no (by omega) (by omega) (fun i hi => by rcases Int.lt_or_le i lo with h0 | h0; have := hlo i h0; omega; have h1 := hhi i (by omega) hi; have h2 := hhi lo.toNat (by omega) (by omega); have h3 := seaS_le (h := height) (a := lo) (b := i) (by omega) (by omega) (by omega); rw [show ((lo.toNat : Nat) : Int) = lo by omega] at h2; omega)])) | exact tup2 (agg2 (by rw [landsR_no (by omega) (by omega) (fun i hi => by have := hlo i (by omega); omega)]) (by rw [landsR_no (by omega) (by omega) (fun i hi => by have := hlo i (by omega); omega)])) (int_eq (by rw [landsR_no (by omega) (by omega) (fun i hi => by have := hlo i (by omega); omega)]))
            · refine WL.x (X.pickF rfl rfl rfl) (by decide) ?_
              refine WL.nil ?_
              refine WK.nThen ?_
              refine WC.condF rfl ?_
              refine WC.skip ?_
              refine WK.nThen ?_
              refine WC.seq ?_
              refine WC.region ?_
              refine WL.x (X.move rfl) (by decide) ?_
              refine WL.x (X.move rfl) (by decide) ?_
              refine WL.x (V := Value.agg [.int .i64 (lo), .int .i64 (lo)].toArray) (X.build Try.zeroValue49 Try.runUnderlying49 (places49 _ Try.underlying49) rfl rfl) (by decide) ?_
              refine WL.ts (T.storeBA (k := 0) Try.sizeOf49 rfl rfl rfl (one_cons rfl (one_cons rfl one_nil)) rfl rfl) ?_
              refine WL.x (X.assign rfl) (by decide) ?_
              refine WL.nil ?_
              refine WK.nThen ?_
              refine WC.ret ?_
              refine WK.retC2 0 rfl rfl rfl rfl Try.isAgg49 Try.sizeOf49 (fun w' hw' => Ret.exact hw' ?_)
              first | exact tup2 (agg2 (by rw [landsR_arg (by omega)]) (by rw [landsR_arg (by omega)])) (int_eq (by rw [landsR_arg (by omega)])) | exact tup2 (agg2 (by rw [landsR_yes (k := lo.toNat) (by omega) (by omega) (by omega) (fun i h1 => by have := hlo i (by omega); omega) (by rw [show ((lo.toNat : Nat) : Int) = lo by omega]; omega), show ((lo.toNat : Nat) : Int) = lo by omega]) (by rw [landsR_yes (k := lo.toNat) (by omega) (by omega) (by omega) (fun i h1 => by have := hlo i (by omega); omega) (by rw [show ((lo.toNat : Nat) : Int) = lo by omega]; omega), show ((lo.toNat : Nat) : Int) = lo by omega])) (int_eq (by rw [landsR_yes (k := lo.toNat) (by omega) (by omega) (by omega) (fun i h1 => by have := hlo i (by omega); omega) (by rw [show ((lo.toNat : Nat) : Int) = lo by omega]; omega), show ((lo.toNat : Nat) : Int) = lo by omega])) | exact tup2 (agg2 (by rw [landsR_no (by omega) (by omega) (fun i hi => by rcases Int.lt_or_le i lo with h0 | h0; have := hlo i h0; omega; have h1 := hhi i (by omega) hi; have h2 := hhi lo.toNat (by omega) (by omega); have h3 := seaS_le (h := height) (a := lo) (b := i) (by omega) (by omega) (by omega); rw [show ((lo.toNat : Nat) : Int) = lo by omega] at h2; omega)]) (by rw [landsR_no (by omega) (by omega) (fun i hi => by rcases Int.lt_or_le i lo with h0 | h0; have := hlo i h0; omega; have h1 := hhi i (by omega) hi; have h2 := hhi lo.toNat (by omega) (by omega); have h3 := seaS_le (h := height) (a := lo) (b := i) (by omega) (by omega) (by omega); rw [show ((lo.toNat : Nat) : Int) = lo by omega] at h2; omega)])) (int_eq (by rw [landsR_no (by omega) (by omega) (fun i hi => by rcases Int.lt_or_le i lo with h0 | h0; have := hlo i h0; omega; have h1 := hhi i (by omega) hi; have h2 := hhi lo.toNat (by omega) (by omega); have h3 := seaS_le (h := height) (a := lo) (b := i) (by omega) (by omega) (by omega); rw [show ((lo.toNat : Nat) : Int) = lo by omega] at h2; omega)])) | exact tup2 (agg2 (by rw [landsR_no (by omega) (by omega) (fun i hi => by have := hlo i (by omega); omega)]) (by rw [landsR_no (by omega) (by omega) (fun i hi => by have := hlo i (by omega); omega)])) (int_eq (by rw [landsR_no (by omega) (by omega) (fun i hi => by have := hlo i (by omega); omega)]))
    · refine WL.yes rfl rfl ?_
      refine WL.x (X.not rfl) (by decide) ?_
      refine WL.x (X.pickF rfl rfl rfl) (by decide) ?_
      refine WL.nil ?_
      refine WK.nThen ?_
      refine WC.condT rfl ?_
      refine WC.seq ?_
      refine WC.region ?_
      refine WL.x (V := Value.agg [.int .i64 (0), .int .i64 (0)].toArray) (X.build Try.zeroValue49 Try.runUnderlying49 (places49 _ Try.underlying49) rfl rfl) (by decide) ?_
      refine WL.ts (T.storeBA (k := 0) Try.sizeOf49 rfl rfl rfl (one_cons rfl (one_cons rfl one_nil)) rfl rfl) ?_
      refine WL.x (X.assign rfl) (by decide) ?_
      refine WL.nil ?_
      refine WK.nThen ?_
      refine WC.ret ?_
      refine WK.rThen ?_
      refine WK.retC2 0 rfl rfl rfl rfl Try.isAgg49 Try.sizeOf49 (fun w' hw' => Ret.exact hw' ?_)
      first | exact tup2 (agg2 (by rw [landsR_arg (by omega)]) (by rw [landsR_arg (by omega)])) (int_eq (by rw [landsR_arg (by omega)])) | exact tup2 (agg2 (by rw [landsR_yes (k := lo.toNat) (by omega) (by omega) (by omega) (fun i h1 => by have := hlo i (by omega); omega) (by rw [show ((lo.toNat : Nat) : Int) = lo by omega]; omega), show ((lo.toNat : Nat) : Int) = lo by omega]) (by rw [landsR_yes (k := lo.toNat) (by omega) (by omega) (by omega) (fun i h1 => by have := hlo i (by omega); omega) (by rw [show ((lo.toNat : Nat) : Int) = lo by omega]; omega), show ((lo.toNat : Nat) : Int) = lo by omega])) (int_eq (by rw [landsR_yes (k := lo.toNat) (by omega) (by omega) (by omega) (fun i h1 => by have := hlo i (by omega); omega) (by rw [show ((lo.toNat : Nat) : Int) = lo by omega]; omega), show ((lo.toNat : Nat) : Int) = lo by omega])) | exact tup2 (agg2 (by rw [landsR_no (by omega) (by omega) (fun i hi => by rcases Int.lt_or_le i lo with h0 | h0; have := hlo i h0; omega; have h1 := hhi i (by omega) hi; have h2 := hhi lo.toNat (by omega) (by omega); have h3 := seaS_le (h := height) (a := lo) (b := i) (by omega) (by omega) (by omega); rw [show ((lo.toNat : Nat) : Int) = lo by omega] at h2; omega)]) (by rw [landsR_no (by omega) (by omega) (fun i hi => by rcases Int.lt_or_le i lo with h0 | h0; have := hlo i h0; omega; have h1 := hhi i (by omega) hi; have h2 := hhi lo.toNat (by omega) (by omega); have h3 := seaS_le (h := height) (a := lo) (b := i) (by omega) (by omega) (by omega); rw [show ((lo.toNat : Nat) : Int) = lo by omega] at h2; omega)])) (int_eq (by rw [landsR_no (by omega) (by omega) (fun i hi => by rcases Int.lt_or_le i lo with h0 | h0; have := hlo i h0; omega; have h1 := hhi i (by omega) hi; have h2 := hhi lo.toNat (by omega) (by omega); have h3 := seaS_le (h := height) (a := lo) (b := i) (by omega) (by omega) (by omega); rw [show ((lo.toNat : Nat) : Int) = lo by omega] at h2; omega)])) | exact tup2 (agg2 (by rw [landsR_no (by omega) (by omega) (fun i hi => by have := hlo i (by omega); omega)]) (by rw [landsR_no (by omega) (by omega) (fun i hi => by have := hlo i (by omega); omega)])) (int_eq (by rw [landsR_no (by omega) (by omega) (fun i hi => by have := hlo i (by omega); omega)]))
  · refine WL.x (X.not rfl) (by decide) ?_
    refine WL.x (X.move rfl) (by decide) ?_
    refine WL.no rfl rfl rfl (by decide) ?_
    refine WL.no rfl rfl rfl (by decide) ?_
    refine WL.no rfl rfl rfl (by decide) ?_
    refine WL.x (X.pickT rfl rfl rfl) (by decide) ?_
    refine WL.nil ?_
    refine WK.nThen ?_
    refine WC.condT rfl ?_
    refine WC.seq ?_
    refine WC.region ?_
    refine WL.x (V := Value.agg [.int .i64 (0), .int .i64 (0)].toArray) (X.build Try.zeroValue49 Try.runUnderlying49 (places49 _ Try.underlying49) rfl rfl) (by decide) ?_
    refine WL.ts (T.storeBA (k := 0) Try.sizeOf49 rfl rfl rfl (one_cons rfl (one_cons rfl one_nil)) rfl rfl) ?_
    refine WL.x (X.assign rfl) (by decide) ?_
    refine WL.nil ?_
    refine WK.nThen ?_
    refine WC.ret ?_
    refine WK.rThen ?_
    refine WK.retC2 0 rfl rfl rfl rfl Try.isAgg49 Try.sizeOf49 (fun w' hw' => Ret.exact hw' ?_)
    first | exact tup2 (agg2 (by rw [landsR_arg (by omega)]) (by rw [landsR_arg (by omega)])) (int_eq (by rw [landsR_arg (by omega)])) | exact tup2 (agg2 (by rw [landsR_yes (k := lo.toNat) (by omega) (by omega) (by omega) (fun i h1 => by have := hlo i (by omega); omega) (by rw [show ((lo.toNat : Nat) : Int) = lo by omega]; omega), show ((lo.toNat : Nat) : Int) = lo by omega]) (by rw [landsR_yes (k := lo.toNat) (by omega) (by omega) (by omega) (fun i h1 => by have := hlo i (by omega); omega) (by rw [show ((lo.toNat : Nat) : Int) = lo by omega]; omega), show ((lo.toNat : Nat) : Int) = lo by omega])) (int_eq (by rw [landsR_yes (k := lo.toNat) (by omega) (by omega) (by omega) (fun i h1 => by have := hlo i (by omega); omega) (by rw [show ((lo.toNat : Nat) : Int) = lo by omega]; omega), show ((lo.toNat : Nat) : Int) = lo by omega])) | exact tup2 (agg2 (by rw [landsR_no (by omega) (by omega) (fun i hi => by rcases Int.lt_or_le i lo with h0 | h0; have := hlo i h0; omega; have h1 := hhi i (by omega) hi; have h2 := hhi lo.toNat (by omega) (by omega); have h3 := seaS_le (h := height) (a := lo) (b := i) (by omega) (by omega) (by omega); rw [show ((lo.toNat : Nat) : Int) = lo by omega] at h2; omega)]) (by rw [landsR_no (by omega) (by omega) (fun i hi => by rcases Int.lt_or_le i lo with h0 | h0; have := hlo i h0; omega; have h1 := hhi i (by omega) hi; have h2 := hhi lo.toNat (by omega) (by omega); have h3 := seaS_le (h := height) (a := lo) (b := i) (by omega) (by omega) (by omega); rw [show ((lo.toNat : Nat) : Int) = lo by omega] at h2; omega)])) (int_eq (by rw [landsR_no (by omega) (by omega) (fun i hi => by rcases Int.lt_or_le i lo with h0 | h0; have := hlo i h0; omega; have h1 := hhi i (by omega) hi; have h2 := hhi lo.toNat (by omega) (by omega); have h3 := seaS_le (h := height) (a := lo) (b := i) (by omega) (by omega) (by omega); rw [show ((lo.toNat : Nat) : Int) = lo by omega] at h2; omega)])) | exact tup2 (agg2 (by rw [landsR_no (by omega) (by omega) (fun i hi => by have := hlo i (by omega); omega)]) (by rw [landsR_no (by omega) (by omega) (fun i hi => by have := hlo i (by omega); omega)])) (int_eq (by rw [landsR_no (by omega) (by omega) (fun i hi => by have := hlo i (by omega); omega)]))

theorem speed45 (m : Mem) (ca : List Value) (a : Station) (ha : Enc.rd m ca a) (cb : List Value) (b : Station) (hb : Enc.rd m cb b) (ticks : Int)   : Exact Try.prog 45 #[.agg ca.toArray, .agg cb.toArray, .int .i64 (ticks)] m (.tuple #[.agg [.int .i64 ((speedR a b ticks).1.Num), .int .i64 ((speedR a b ticks).1.Den)].toArray, .int .i64 ((speedR a b ticks).2)]) := by
  obtain ⟨v1, rfl, hs2⟩ := ha
  have hl3 := hs2.le
  obtain ⟨v4, rfl, hs5⟩ := hb
  have hl6 := hs5.le
  have h2 := aloneE_two a b
  refine Exact.start Try.func45 rfl Try.ntmps45 rfl fun wld => ?_
  refine WC.seq ?_
  refine WC.region ?_
  refine WL.tn (T.boxB rfl rfl) (by decide) fun b7 => ?_
  refine WL.tn (T.boxB rfl rfl) (by decide) fun b8 => ?_
  refine WL.tn (T.alloc Try.zeroValue63 rfl) (by decide) fun b9 => ?_
  refine WL.x (X.assign rfl) (by decide) ?_
  refine WL.nil ?_
  refine WK.nThen ?_
  refine WC.seq ?_
  refine WC.region ?_
  refine WL.x (X.loadBA (k := 2) Try.isAgg58 Try.sizeOf58 rfl rfl rfl) (by decide) ?_
  refine WL.x (X.loadBA (k := 1) Try.isAgg58 Try.sizeOf58 rfl rfl rfl) (by decide) ?_
  refine WL.tm (T.litM (α := Station) (vals := [.agg [.int .i64 (a.ID), .int .i64 (a.X), .int .i64 (a.Y), v1].toArray, .agg [.int .i64 (b.ID), .int .i64 (b.X), .int .i64 (b.Y), v4].toArray]) (L := [a, b]) sl24 rfl (.cons rfl ⟨_, rfl, hs2⟩ (.cons rfl ⟨_, rfl, hs5⟩ .nil)) rfl rfl) (by decide) (fun m10 v11 hle12 hs13 => ?_)
  replace hs2 := hs2.mono hle12
  replace hs5 := hs5.mono hle12
  refine WL.x (X.call Try.call80 rfl (alone80 _ _ _ hs13 )) (by decide) ?_
  refine WL.x (X.assign rfl) (by decide) ?_
  refine WL.nil ?_
  refine WK.nThen ?_
  refine WC.seq ?_
  refine WC.block ?_
  refine WC.seq ?_
  refine WC.region ?_
  refine WL.x (X.move rfl) (by decide) ?_
  refine WL.condn (X.neq rfl rfl) (by decide) (fun h14 => ?_) (fun h14 => ?_)
  · refine WL.x (X.assign rfl) (by decide) ?_
    refine WL.nil ?_
    refine WK.nThen ?_
    refine WC.condT rfl ?_
    refine WC.seq ?_
    refine WC.region ?_
    refine WL.x (V := Value.agg [.int .i64 (0), .int .i64 (0)].toArray) (X.build Try.zeroValue63 Try.runUnderlying63 (places63 _ Try.underlying63) rfl rfl) (by decide) ?_
    refine WL.x (X.move rfl) (by decide) ?_
    refine WL.ts (T.storeBA (k := 0) Try.sizeOf63 rfl rfl rfl (one_cons rfl (one_cons rfl one_nil)) rfl rfl) ?_
    refine WL.x (X.assign rfl) (by decide) ?_
    refine WL.nil ?_
    refine WK.nThen ?_
    refine WC.ret ?_
    refine WK.rBlock ?_
    refine WK.rThen ?_
    refine WK.retC2 0 rfl rfl rfl rfl Try.isAgg63 Try.sizeOf63 (fun w' hw' => Ret.exact hw' ?_)
    first | exact tup2 (agg2 (by unfold speedR; rw [if_pos (by omega)]) (by unfold speedR; rw [if_pos (by omega)])) (int_eq (by unfold speedR; rw [if_pos (by omega)]; try (dsimp only; omega))) | exact tup2 (agg2 (by unfold speedR; rw [if_neg (by omega), if_neg (by omega)]) (by unfold speedR; rw [if_neg (by omega), if_neg (by omega)])) (int_eq (by unfold speedR; rw [if_neg (by omega), if_neg (by omega)]; try (dsimp only; omega))) | exact tup2 (agg2 (by unfold speedR; rw [if_neg (by omega), if_pos (by omega)]; unfold speedS; first | rfl | (simp only [hg]; done) | (rw [← hg]; done) | (rw [Int.gcd_comm]; rfl)) (by unfold speedR; rw [if_neg (by omega), if_pos (by omega)]; unfold speedS; first | rfl | (simp only [hg]; done) | (rw [← hg]; done) | (rw [Int.gcd_comm]; rfl))) (int_eq (by unfold speedR; rw [if_neg (by omega), if_pos (by omega)]; try (dsimp only; omega)))
  · refine WL.x (X.assign rfl) (by decide) ?_
    refine WL.nil ?_
    refine WK.nThen ?_
    refine WC.condF rfl ?_
    refine WC.seq ?_
    refine WC.region ?_
    refine WL.x (X.move rfl) (by decide) ?_
    refine WL.cond (X.call Try.call65 rfl (within65 _ _ _ _ )) (by decide) (fun h15 => ?_) (fun h15 => ?_)
    · refine WL.x (X.not rfl) (by decide) ?_
      refine WL.x (X.assign rfl) (by decide) ?_
      refine WL.nil ?_
      refine WK.nThen ?_
      refine WC.condF rfl ?_
      refine WC.skip ?_
      refine WK.nBlock ?_
      refine WK.nThen ?_
      refine WC.seq ?_
      have hz := twoE_zero (a := a) (b := b) (by have := aloneE_two a b; omega)
      have hpa := (oneE_zero hz.1).1
      have hpb := (oneE_zero hz.2).1
      refine WC.region ?_
      refine WL.x (X.loadBA (k := 2) Try.isAgg58 Try.sizeOf58 rfl rfl rfl) (by decide) ?_
      refine WL.x (X.loadBA (k := 1) Try.isAgg58 Try.sizeOf58 rfl rfl rfl) (by decide) ?_
      refine WL.x (X.call Try.call81 rfl (distance81 _ _ a ⟨_, rfl, hs2⟩ _ b ⟨_, rfl, hs5⟩ (by assumption) (by assumption))) (by decide) ?_
      refine WL.x (X.assign rfl) (by decide) ?_
      refine WL.nil ?_
      refine WK.nThen ?_
      refine WC.seq ?_
      have hdb := distS_bd hpa hpb
      refine WC.region ?_
      refine WL.x (X.move rfl) (by decide) ?_
      refine WL.x (X.move rfl) (by decide) ?_
      refine WL.x (X.assign rfl) (by decide) ?_
      refine WL.x (X.assign rfl) (by decide) ?_
      refine WL.nil ?_
      refine WK.nThen ?_
      refine WC.seq ?_
      refine WC.block ?_
      refine WC.loop (G := Int × Int) (fun (x, y) => y.toNat) (fun (x, y) => m10) (fun (x, y) => [blk b9 63 [.int .i64 (0), .int .i64 (0)], blk b8 58 [.int .i64 (b.ID), .int .i64 (b.X), .int .i64 (b.Y), v4], blk b7 58 [.int .i64 (a.ID), .int .i64 (a.X), .int .i64 (a.Y), v1]]) (fun (x, y) => [(2, .int .i64 (ticks)), (6, .pointer (some ⟨b9, 0, none⟩)), (9, .int .i64 (distS a b)), (10, .int .i64 (x)), (11, .int .i64 (y))]) (fun (x, y) => (0 ≤ x ∧ x ≤ 8000000 ∧ 0 ≤ y ∧ y ≤ 8000000) ∧ Int.gcd x y = Int.gcd (distS a b) ticks) ((distS a b, ticks)) rfl (.refl _) (.cons rfl (.cons rfl (.cons rfl (.cons rfl (.cons rfl .nil))))) ?_ ?_
      · exact ⟨by omega, rfl⟩
      · rintro ⟨x, y⟩ hF16
        show WK _ _ m10 [blk b9 63 [.int .i64 (0), .int .i64 (0)], blk b8 58 [.int .i64 (b.ID), .int .i64 (b.X), .int .i64 (b.Y), v4], blk b7 58 [.int .i64 (a.ID), .int .i64 (a.X), .int .i64 (a.Y), v1]] [(2, .int .i64 (ticks)), (6, .pointer (some ⟨b9, 0, none⟩)), (9, .int .i64 (distS a b)), (10, .int .i64 (x)), (11, .int .i64 (y))] _
        replace hF16 : (0 ≤ x ∧ x ≤ 8000000 ∧ 0 ≤ y ∧ y ≤ 8000000) ∧ Int.gcd x y = Int.gcd (distS a b) ticks := hF16
        obtain ⟨hxy, hgc⟩ := hF16
        have hmod : 0 < y → 0 ≤ x % y ∧ x % y < y := fun h => emod_bd h
        refine WC.seq ?_
        refine WC.seq ?_
        refine WC.region ?_
        refine WL.x (X.move rfl) (by decide) ?_
        refine WL.cond (X.gtr rfl rfl) (by decide) (fun h17 => ?_) (fun h17 => ?_)
        · refine WL.nil ?_
          refine WK.nThen ?_
          refine WC.condT rfl ?_
          refine WC.skip ?_
          refine WK.nThen ?_
          refine WC.block ?_
          refine WC.draw (π := (.cons 0 (.cons 1 (.cons 2 (.cons 3 (.cons 4 (.cons 5 .done))))))) [] [] rfl (by kernel_rfl) ?_
          refine DW.x rfl rfl (X.move rfl) (by decide) ?_
          refine DW.x rfl rfl (X.move rfl) (by decide) ?_
          refine DW.x rfl rfl (X.move rfl) (by decide) ?_
          refine DW.x rfl rfl (X.rem rfl rfl (by omega) (by omega)) (by decide) ?_
          refine DW.x rfl rfl (X.assign rfl) (by decide) ?_
          refine DW.x rfl rfl (X.assign rfl) (by decide) ?_
          refine DW.nil ?_
          refine WK.nBlock ?_
          refine WK.nThen ?_
          refine WK.next ((y, x % y)) rfl (.refl _) (.cons rfl (.cons rfl (.cons rfl (.cons rfl (.cons rfl .nil))))) ?_ ?_
          · exact ⟨by have := hmod (by omega); omega, by rw [gcd_rem (by omega) (by omega)]; exact hgc⟩
          · (dsimp only; have := hmod (by omega); omega)
        · refine WL.nil ?_
          refine WK.nThen ?_
          refine WC.condF rfl ?_
          refine WC.exit ?_
          refine WK.eThen ?_
          refine WK.eThen ?_
          refine WK.eHit ?_
          refine WK.nThen ?_
          refine WC.seq ?_
          have hg : x = ↑(Int.gcd (distS a b) ticks) := (by rw [← hgc, show y = 0 by omega, gcd_zero (by omega)])
          have hgp := gcd_pos (x := distS a b) (y := ticks) (by omega)
          refine WC.draw (π := (.cons 0 (.cons 1 (.cons 2 (.cons 3 (.cons 4 (.cons 5 (.cons 6 (.cons 7 (.cons 8 .done)))))))))) [7] [7] rfl (by kernel_rfl) ?_
          refine DW.x rfl rfl (X.move rfl) (by decide) ?_
          refine DW.x rfl rfl (X.move rfl) (by decide) ?_
          refine DW.x rfl rfl (X.quo rfl rfl (by omega) (by omega) (by omega)) (by decide) ?_
          refine DW.x rfl rfl (X.move rfl) (by decide) ?_
          refine DW.x rfl rfl (X.move rfl) (by decide) ?_
          refine DW.x rfl rfl (X.quo rfl rfl (by omega) (by omega) (by omega)) (by decide) ?_
          refine DW.x (V := Value.agg [.int .i64 ((distS a b) / x), .int .i64 (ticks / x)].toArray) rfl rfl (X.build Try.zeroValue63 Try.runUnderlying63 (places63 _ Try.underlying63) rfl rfl) (by decide) ?_
          refine DW.ts rfl rfl rfl rfl (T.storeBA (k := 0) Try.sizeOf63 rfl rfl rfl (one_cons rfl (one_cons rfl one_nil)) rfl rfl) ?_
          refine DW.x rfl rfl (X.assign rfl) (by decide) ?_
          refine DW.nil ?_
          refine WK.nThen ?_
          refine WC.ret ?_
          refine WK.retC2 0 rfl rfl rfl rfl Try.isAgg63 Try.sizeOf63 (fun w' hw' => Ret.exact hw' ?_)
          first | exact tup2 (agg2 (by unfold speedR; rw [if_pos (by omega)]) (by unfold speedR; rw [if_pos (by omega)])) (int_eq (by unfold speedR; rw [if_pos (by omega)]; try (dsimp only; omega))) | exact tup2 (agg2 (by unfold speedR; rw [if_neg (by omega), if_neg (by omega)]) (by unfold speedR; rw [if_neg (by omega), if_neg (by omega)])) (int_eq (by unfold speedR; rw [if_neg (by omega), if_neg (by omega)]; try (dsimp only; omega))) | exact tup2 (agg2 (by unfold speedR; rw [if_neg (by omega), if_pos (by omega)]; unfold speedS; first | rfl | (simp only [hg]; done) | (rw [← hg]; done) | (rw [Int.gcd_comm]; rfl)) (by unfold speedR; rw [if_neg (by omega), if_pos (by omega)]; unfold speedS; first | rfl | (simp only [hg]; done) | (rw [← hg]; done) | (rw [Int.gcd_comm]; rfl))) (int_eq (by unfold speedR; rw [if_neg (by omega), if_pos (by omega)]; try (dsimp only; omega)))
    · refine WL.x (X.not rfl) (by decide) ?_
      refine WL.x (X.assign rfl) (by decide) ?_
      refine WL.nil ?_
      refine WK.nThen ?_
      refine WC.condT rfl ?_
      refine WC.seq ?_
      refine WC.region ?_
      refine WL.x (V := Value.agg [.int .i64 (0), .int .i64 (0)].toArray) (X.build Try.zeroValue63 Try.runUnderlying63 (places63 _ Try.underlying63) rfl rfl) (by decide) ?_
      refine WL.ts (T.storeBA (k := 0) Try.sizeOf63 rfl rfl rfl (one_cons rfl (one_cons rfl one_nil)) rfl rfl) ?_
      refine WL.x (X.assign rfl) (by decide) ?_
      refine WL.nil ?_
      refine WK.nThen ?_
      refine WC.ret ?_
      refine WK.rBlock ?_
      refine WK.rThen ?_
      refine WK.retC2 0 rfl rfl rfl rfl Try.isAgg63 Try.sizeOf63 (fun w' hw' => Ret.exact hw' ?_)
      first | exact tup2 (agg2 (by unfold speedR; rw [if_pos (by omega)]) (by unfold speedR; rw [if_pos (by omega)])) (int_eq (by unfold speedR; rw [if_pos (by omega)]; try (dsimp only; omega))) | exact tup2 (agg2 (by unfold speedR; rw [if_neg (by omega), if_neg (by omega)]) (by unfold speedR; rw [if_neg (by omega), if_neg (by omega)])) (int_eq (by unfold speedR; rw [if_neg (by omega), if_neg (by omega)]; try (dsimp only; omega))) | exact tup2 (agg2 (by unfold speedR; rw [if_neg (by omega), if_pos (by omega)]; unfold speedS; first | rfl | (simp only [hg]; done) | (rw [← hg]; done) | (rw [Int.gcd_comm]; rfl)) (by unfold speedR; rw [if_neg (by omega), if_pos (by omega)]; unfold speedS; first | rfl | (simp only [hg]; done) | (rw [← hg]; done) | (rw [Int.gcd_comm]; rfl))) (int_eq (by unfold speedR; rw [if_neg (by omega), if_pos (by omega)]; try (dsimp only; omega)))

theorem isNaN109 (m : Mem) (x : Int)   : Exact Try.prog 109 #[.int .i64 (x)] m (.bool false) := by
  refine Exact.start Try.func109 rfl Try.ntmps109 rfl fun wld => ?_
  refine WC.seq ?_
  refine WC.region ?_
  refine WL.x (X.assign rfl) (by decide) ?_
  refine WL.nil ?_
  refine WK.nThen ?_
  refine WC.seq ?_
  refine WC.region ?_
  refine WL.x (X.move rfl) (by decide) ?_
  refine WL.x (X.move rfl) (by decide) ?_
  refine WL.x (OpX.f (X.neq rfl rfl) (fun h => h rfl)) (by decide) ?_
  refine WL.x (X.assign rfl) (by decide) ?_
  refine WL.nil ?_
  refine WK.nThen ?_
  refine WC.ret ?_
  refine WK.ret1 rfl rfl (fun w' hw' => Ret.exact hw' ?_)
  exact bool_eq (by simp)

theorem compare95 (m : Mem) (x : Int) (y : Int)   : Exact Try.prog 95 #[.int .i64 (x), .int .i64 (y)] m (.int .i64 (cmpI x y)) := by
  refine Exact.start Try.func95 rfl Try.ntmps95 rfl fun wld => ?_
  refine WC.seq ?_
  refine WC.region ?_
  refine WL.x (X.assign rfl) (by decide) ?_
  refine WL.nil ?_
  refine WK.nThen ?_
  refine WC.seq ?_
  refine WC.region ?_
  refine WL.x (X.move rfl) (by decide) ?_
  refine WL.x (X.call Try.call109 rfl (isNaN109 _ _ )) (by decide) ?_
  refine WL.x (X.assign rfl) (by decide) ?_
  refine WL.nil ?_
  refine WK.nThen ?_
  refine WC.seq ?_
  refine WC.region ?_
  refine WL.x (X.move rfl) (by decide) ?_
  refine WL.x (X.call Try.call109 rfl (isNaN109 _ _ )) (by decide) ?_
  refine WL.x (X.assign rfl) (by decide) ?_
  refine WL.nil ?_
  refine WK.nThen ?_
  refine WC.seq ?_
  refine WC.seq ?_
  refine WC.region ?_
  refine WL.x (X.move rfl) (by decide) ?_
  refine WL.nil ?_
  refine WK.nThen ?_
  refine WC.condF rfl ?_
  refine WC.skip ?_
  refine WK.nThen ?_
  refine WC.seq ?_
  refine WC.seq ?_
  refine WC.region ?_
  refine WL.x (X.move rfl) (by decide) ?_
  refine WL.nil ?_
  refine WK.nThen ?_
  refine WC.condF rfl ?_
  refine WC.skip ?_
  refine WK.nThen ?_
  refine WC.seq ?_
  refine WC.seq ?_
  refine WC.region ?_
  refine WL.x (X.move rfl) (by decide) ?_
  refine WL.x (X.move rfl) (by decide) ?_
  refine WL.cond (X.lss rfl rfl) (by decide) (fun h1 => ?_) (fun h1 => ?_)
  · refine WL.nil ?_
    refine WK.nThen ?_
    refine WC.condT rfl ?_
    refine WC.seq ?_
    refine WC.region ?_
    refine WL.x (X.assign rfl) (by decide) ?_
    refine WL.nil ?_
    refine WK.nThen ?_
    refine WC.ret ?_
    refine WK.rThen ?_
    refine WK.ret1 rfl rfl (fun w' hw' => Ret.exact hw' ?_)
    exact int_eq (by unfold cmpI; first | (rw [if_pos (by omega)]; done) | (rw [if_neg (by omega), if_pos (by omega)]; done) | (rw [if_neg (by omega), if_neg (by omega)]; done))
  · refine WL.nil ?_
    refine WK.nThen ?_
    refine WC.condF rfl ?_
    refine WC.skip ?_
    refine WK.nThen ?_
    refine WC.seq ?_
    refine WC.seq ?_
    refine WC.region ?_
    refine WL.x (X.move rfl) (by decide) ?_
    refine WL.x (X.move rfl) (by decide) ?_
    refine WL.cond (X.gtr rfl rfl) (by decide) (fun h2 => ?_) (fun h2 => ?_)
    · refine WL.nil ?_
      refine WK.nThen ?_
      refine WC.condT rfl ?_
      refine WC.seq ?_
      refine WC.region ?_
      refine WL.x (X.assign rfl) (by decide) ?_
      refine WL.nil ?_
      refine WK.nThen ?_
      refine WC.ret ?_
      refine WK.rThen ?_
      refine WK.ret1 rfl rfl (fun w' hw' => Ret.exact hw' ?_)
      exact int_eq (by unfold cmpI; first | (rw [if_pos (by omega)]; done) | (rw [if_neg (by omega), if_pos (by omega)]; done) | (rw [if_neg (by omega), if_neg (by omega)]; done))
    · refine WL.nil ?_
      refine WK.nThen ?_
      refine WC.condF rfl ?_
      refine WC.skip ?_
      refine WK.nThen ?_
      refine WC.seq ?_
      refine WC.region ?_
      refine WL.x (X.assign rfl) (by decide) ?_
      refine WL.nil ?_
      refine WK.nThen ?_
      refine WC.ret ?_
      refine WK.ret1 rfl rfl (fun w' hw' => Ret.exact hw' ?_)
      exact int_eq (by unfold cmpI; first | (rw [if_pos (by omega)]; done) | (rw [if_neg (by omega), if_pos (by omega)]; done) | (rw [if_neg (by omega), if_neg (by omega)]; done))

theorem height104 (m : Mem) (ch : List Value) (h : Height) (hh : Enc.rd m ch h) (week : Int)   : Exact Try.prog 104 #[.agg ch.toArray, .int .i64 (week)] m (.int .i64 (cmpI h.Week week)) := by
  obtain rfl := hh
  refine Exact.start Try.func104 rfl Try.ntmps104 rfl fun wld => ?_
  refine WC.seq ?_
  refine WC.region ?_
  refine WL.tn (T.boxB rfl rfl) (by decide) fun b1 => ?_
  refine WL.x (X.assign rfl) (by decide) ?_
  refine WL.nil ?_
  refine WK.nThen ?_
  refine WC.seq ?_
  refine WC.region ?_
  refine WL.x (X.field Try.runUnderlying71 rfl Try.sizeOf3 rfl) (by decide) ?_
  refine WL.x (X.loadB (k := 0) Try.isAgg3 rfl rfl rfl) (by decide) ?_
  refine WL.x (X.move rfl) (by decide) ?_
  refine WL.x (X.call Try.call95 rfl (compare95 _ _ _ )) (by decide) ?_
  refine WL.x (X.assign rfl) (by decide) ?_
  refine WL.nil ?_
  refine WK.nThen ?_
  refine WC.ret ?_
  refine WK.ret1 rfl rfl (fun w' hw' => Ret.exact hw' ?_)
  first | rfl | (simp [*]; done)

theorem search103 (m : Mem) (vl : Value) (L : List Height) (hl : Sl m vl L) (week : Int) (hsort : Sorted L) : Exact Try.prog 103 #[vl, .int .i64 week, .func (.func 104) #[] #[]] m (.tuple #[.int .i64 ↑(lowS L week), .bool (decide (lowS L week < L.length ∧ (gt L (lowS L week)).Week = week))]) := by
  have hll := hl.le
  refine Exact.start Try.func103 rfl Try.ntmps103 rfl fun wld => ?_
  refine WC.seq ?_
  refine WC.region ?_
  refine WL.x (X.assign rfl) (by decide) ?_
  refine WL.x (X.assign rfl) (by decide) ?_
  refine WL.nil ?_
  refine WK.nThen ?_
  refine WC.seq ?_
  refine WC.region ?_
  refine WL.x (X.move rfl) (by decide) ?_
  refine WL.x (X.len Try.runUnderlying56 rfl hl) (by decide) ?_
  refine WL.x (X.assign rfl) (by decide) ?_
  refine WL.nil ?_
  refine WK.nThen ?_
  refine WC.seq ?_
  refine WC.region ?_
  refine WL.x (X.move rfl) (by decide) ?_
  refine WL.x (X.assign rfl) (by decide) ?_
  refine WL.x (X.assign rfl) (by decide) ?_
  refine WL.nil ?_
  refine WK.nThen ?_
  refine WC.seq ?_
  refine WC.block ?_
  refine WC.loop (G := Nat × Nat) (fun (i, j) => j - i) (fun (i, j) => m) (fun (i, j) => []) (fun (i, j) => [(0, vl), (1, .int .i64 (week)), (2, .func (.func 104) #[] [].toArray), (8, .int .i64 (↑L.length)), (9, .int .i64 (↑i)), (10, .int .i64 (↑j))]) (fun (i, j) => (i ≤ j ∧ j ≤ L.length) ∧ (∀ k, k < i → (gt L k).Week < week) ∧ (∀ k, j ≤ k → k < L.length → week ≤ (gt L k).Week)) ((0, L.length)) rfl (.refl _) (.cons rfl (.cons rfl (.cons rfl (.cons rfl (.cons rfl (.cons rfl .nil)))))) ?_ ?_
  · exact ⟨by omega, fun k hk => by omega, fun k h1 h2 => by omega⟩
  · rintro ⟨i, j⟩ hF1
    show WK _ _ m [] [(0, vl), (1, .int .i64 (week)), (2, .func (.func 104) #[] [].toArray), (8, .int .i64 (↑L.length)), (9, .int .i64 (↑i)), (10, .int .i64 (↑j))] _
    replace hF1 : (i ≤ j ∧ j ≤ L.length) ∧ (∀ k, k < i → (gt L k).Week < week) ∧ (∀ k, j ≤ k → k < L.length → week ≤ (gt L k).Week) := hF1
    obtain ⟨hij, hlo, hhi⟩ := hF1
    refine WC.seq ?_
    refine WC.seq ?_
    refine WC.region ?_
    refine WL.x (X.move rfl) (by decide) ?_
    refine WL.x (X.move rfl) (by decide) ?_
    refine WL.cond (X.lss rfl rfl) (by decide) (fun h2 => ?_) (fun h2 => ?_)
    · refine WL.nil ?_
      refine WK.nThen ?_
      refine WC.condT rfl ?_
      refine WC.skip ?_
      refine WK.nThen ?_
      refine WC.block ?_
      refine WC.seq ?_
      refine WC.region ?_
      refine WL.x (X.move rfl) (by decide) ?_
      refine WL.x (X.move rfl) (by decide) ?_
      refine WL.x (X.add rfl rfl (by omega) (by omega)) (by decide) ?_
      refine WL.x (X.conv Try.runUnderlying3 Try.runUnderlying133 rfl (wrap_u64 (by omega) (by omega))) (by decide) ?_
      refine WL.x (X.shr1 rfl rfl (by omega)) (by decide) ?_
      refine WL.x (X.conv Try.runUnderlying133 Try.runUnderlying3 rfl (wrap_in (by omega) (by omega))) (by decide) ?_
      refine WL.x (X.assign rfl) (by decide) ?_
      refine WL.nil ?_
      refine WK.nThen ?_
      refine WC.seq ?_
      refine WC.region ?_
      refine WL.x (X.move rfl) (by decide) ?_
      refine WL.x (X.move rfl) (by decide) ?_
      refine WL.x (X.move rfl) (by decide) ?_
      refine WL.xe (E.idxE ((i + j) / 2) Try.runUnderlying56 Try.sizeOf71 rfl rfl hl (by omega) (by omega)) (by decide) (fun p3 hp4 => ?_)
      refine WL.xe (E.loadAgg Try.isAgg71 Try.sizeOf71 rfl hp4) (by decide) (fun c5 hc6 => ?_)
      obtain rfl := hc6
      refine WL.x (X.move rfl) (by decide) ?_
      refine WL.x (X.callc Try.call104 rfl rfl (height104 _ _ (gt L ((i + j) / 2)) rfl _)) (by decide) ?_
      refine WL.cond (X.lss rfl rfl) (by decide) (fun h7 => ?_) (fun h7 => ?_)
      · refine WL.nil ?_
        refine WK.nThen ?_
        refine WC.condT rfl ?_
        refine WC.region ?_
        refine WL.x (X.move rfl) (by decide) ?_
        refine WL.x (X.add rfl rfl (by omega) (by omega)) (by decide) ?_
        refine WL.x (X.assign rfl) (by decide) ?_
        refine WL.nil ?_
        refine WK.nBlock ?_
        refine WK.nThen ?_
        refine WK.next (((i + j) / 2 + 1, j)) rfl (.refl _) (.cons rfl (.cons rfl (.cons rfl (.cons rfl (.cons rfl (.cons rfl .nil)))))) ?_ ?_
        · first
            | exact ⟨by omega, (fun k hk => by
                have h1 := cmpI_neg.1 ‹_›
                rcases Nat.lt_or_ge k ((i + j) / 2) with h2 | h2
                · have h3 := sorted_lt hsort h2 (by omega)
                  omega
                · have h4 : k = (i + j) / 2 := (by omega)
                  rw [h4]; exact h1), hhi⟩
            | exact ⟨by omega, hlo, (fun k h1 h2 => by
                have h3 : week ≤ (gt L ((i + j) / 2)).Week := Int.not_lt.1 (fun h => absurd (cmpI_neg.2 h) ‹_›)
                rcases Nat.lt_or_ge ((i + j) / 2) k with h4 | h4
                · have h5 := sorted_lt hsort h4 h2
                  omega
                · have h5 : k = (i + j) / 2 := (by omega)
                  rw [h5]; exact h3)⟩
        · (dsimp only; omega)
      · refine WL.nil ?_
        refine WK.nThen ?_
        refine WC.condF rfl ?_
        refine WC.region ?_
        refine WL.x (X.move rfl) (by decide) ?_
        refine WL.x (X.assign rfl) (by decide) ?_
        refine WL.nil ?_
        refine WK.nBlock ?_
        refine WK.nThen ?_
        refine WK.next ((i, (i + j) / 2)) rfl (.refl _) (.cons rfl (.cons rfl (.cons rfl (.cons rfl (.cons rfl (.cons rfl .nil)))))) ?_ ?_
        · first
            | exact ⟨by omega, (fun k hk => by
                have h1 := cmpI_neg.1 ‹_›
                rcases Nat.lt_or_ge k ((i + j) / 2) with h2 | h2
                · have h3 := sorted_lt hsort h2 (by omega)
                  omega
                · have h4 : k = (i + j) / 2 := (by omega)
                  rw [h4]; exact h1), hhi⟩
            | exact ⟨by omega, hlo, (fun k h1 h2 => by
                have h3 : week ≤ (gt L ((i + j) / 2)).Week := Int.not_lt.1 (fun h => absurd (cmpI_neg.2 h) ‹_›)
                rcases Nat.lt_or_ge ((i + j) / 2) k with h4 | h4
                · have h5 := sorted_lt hsort h4 h2
                  omega
                · have h5 : k = (i + j) / 2 := (by omega)
                  rw [h5]; exact h3)⟩
        · (dsimp only; omega)
    · refine WL.nil ?_
      refine WK.nThen ?_
      refine WC.condF rfl ?_
      refine WC.exit ?_
      refine WK.eThen ?_
      refine WK.eThen ?_
      refine WK.eHit ?_
      refine WK.nThen ?_
      refine WC.seq ?_
      refine WC.region ?_
      refine WL.x (X.move rfl) (by decide) ?_
      refine WL.x (X.move rfl) (by decide) ?_
      refine WL.x (X.move rfl) (by decide) ?_
      refine WL.cond (X.lss rfl rfl) (by decide) (fun h8 => ?_) (fun h8 => ?_)
      · refine WL.x (X.move rfl) (by decide) ?_
        refine WL.yes rfl rfl ?_
        refine WL.x (X.move rfl) (by decide) ?_
        refine WL.yes rfl rfl ?_
        refine WL.x (X.move rfl) (by decide) ?_
        refine WL.yes rfl rfl ?_
        refine WL.x (X.move rfl) (by decide) ?_
        refine WL.yes rfl rfl ?_
        refine WL.xe (E.idxN i Try.runUnderlying56 Try.sizeOf71 rfl rfl hl (by omega)) (by decide) (fun p9 hp10 => ?_)
        refine WL.yes rfl rfl ?_
        refine WL.xe (E.loadAgg Try.isAgg71 Try.sizeOf71 rfl hp10) (by decide) (fun c11 hc12 => ?_)
        obtain rfl := hc12
        refine WL.yes rfl rfl ?_
        refine WL.x (X.move rfl) (by decide) ?_
        refine WL.yes rfl rfl ?_
        refine WL.x (X.callc Try.call104 rfl rfl (height104 _ _ (gt L i) rfl _)) (by decide) ?_
        refine WL.yes rfl rfl ?_
        refine WL.x (X.eql rfl rfl) (by decide) ?_
        refine WL.x (X.pickT rfl rfl rfl) (by decide) ?_
        refine WL.x (X.assign rfl) (by decide) ?_
        refine WL.x (X.assign rfl) (by decide) ?_
        refine WL.nil ?_
        refine WK.nThen ?_
        refine WC.ret ?_
        refine WK.ret2 rfl rfl rfl (fun w' hw' => Ret.exact hw' ?_)
        have hlow : lowS L week = i := lowS_eq (by omega) hlo (fun h => hhi i (by omega) h)
        first | exact tup2 (int_eq (by rw [hlow])) (dec_eq (by rw [hlow, cmpI_zero]; omega)) | exact tup2 (int_eq (by rw [hlow])) (bool_false (by rw [hlow]; omega))
      · refine WL.x (X.move rfl) (by decide) ?_
        refine WL.no rfl rfl rfl (by decide) ?_
        refine WL.no rfl rfl rfl (by decide) ?_
        refine WL.no rfl rfl rfl (by decide) ?_
        refine WL.no rfl rfl rfl (by decide) ?_
        refine WL.no rfl rfl rfl (by decide) ?_
        refine WL.no rfl rfl rfl (by decide) ?_
        refine WL.no rfl rfl rfl (by decide) ?_
        refine WL.no rfl rfl rfl (by decide) ?_
        refine WL.x (X.pickF rfl rfl rfl) (by decide) ?_
        refine WL.x (X.assign rfl) (by decide) ?_
        refine WL.x (X.assign rfl) (by decide) ?_
        refine WL.nil ?_
        refine WK.nThen ?_
        refine WC.ret ?_
        refine WK.ret2 rfl rfl rfl (fun w' hw' => Ret.exact hw' ?_)
        have hlow : lowS L week = i := lowS_eq (by omega) hlo (fun h => hhi i (by omega) h)
        first | exact tup2 (int_eq (by rw [hlow])) (dec_eq (by rw [hlow, cmpI_zero]; omega)) | exact tup2 (int_eq (by rw [hlow])) (bool_false (by rw [hlow]; omega))

theorem height87 (m : Mem) (cs : List Value) (s : Station) (hs : Enc.rd m cs s) (week : Int)  (hs0 : highOk s.Heights) (hw0 : 0 ≤ week) : Exact Try.prog 87 #[.agg cs.toArray, .int .i64 (week)] m (.agg [.int .i64 ((heightS s week).Lo), .int .i64 ((heightS s week).Hi)].toArray) := by
  obtain ⟨v1, rfl, hs2⟩ := hs
  have hl3 := hs2.le
  have hsort := highOk_sorted hs0
  refine Exact.start Try.func87 rfl Try.ntmps87 rfl fun wld => ?_
  refine WC.seq ?_
  refine WC.region ?_
  refine WL.tn (T.boxB rfl rfl) (by decide) fun b4 => ?_
  refine WL.tn (T.alloc Try.zeroValue49 rfl) (by decide) fun b5 => ?_
  refine WL.nil ?_
  refine WK.nThen ?_
  refine WC.seq ?_
  refine WC.region ?_
  refine WL.x (X.field Try.runUnderlying58 rfl Try.sizeOf56 rfl) (by decide) ?_
  refine WL.x (X.loadB (k := 1) Try.isAgg56 rfl rfl rfl) (by decide) ?_
  refine WL.x (X.move rfl) (by decide) ?_
  refine WL.x (X.call Try.call103 rfl (search103 _ _ _ hs2 week hsort)) (by decide) ?_
  refine WL.x (X.move rfl) (by decide) ?_
  refine WL.x (X.extract rfl rfl) (by decide) ?_
  refine WL.x (X.extract rfl rfl) (by decide) ?_
  refine WL.x (X.assign rfl) (by decide) ?_
  refine WL.x (X.assign rfl) (by decide) ?_
  refine WL.nil ?_
  obtain ⟨k, hk⟩ : ∃ k, lowS s.Heights week = k := ⟨_, rfl⟩
  rw [hk]
  have hsp := lowS_spec hk
  have hq1 := hs0.1
  have hq2 := (hs0.2 0 (by omega)).1 rfl
  refine WK.nThen ?_
  refine WC.seq ?_
  refine WC.seq ?_
  refine WC.region ?_
  refine WL.x (X.move rfl) (by decide) ?_
  refine WL.condn (X.notp rfl) (by decide) (fun h6 => ?_) (fun h6 => ?_)
  · refine WL.nil ?_
    refine WK.nThen ?_
    refine WC.condT rfl ?_
    have hns : ¬ (k < s.Heights.length ∧ (gt s.Heights k).Week = week) := ‹_›
    have hk0 : 0 < k := (by rcases Nat.eq_zero_or_pos k with h0 | h0; have h1 := hsp.2.2 (by omega); rw [h0] at h1; exact absurd ⟨by omega, by rw [h0]; omega⟩ hns; exact h0)
    have hk1 := hsp.2.1 (k - 1) (by omega)
    have hk2 : k < s.Heights.length → week < (gt s.Heights k).Week := (fun h0 => by have h1 := hsp.2.2 h0; rcases Int.lt_or_eq_of_le h1 with h2 | h2; exact h2; exact absurd ⟨h0, h2.symm⟩ hns)
    refine WC.region ?_
    refine WL.x (X.move rfl) (by decide) ?_
    refine WL.x (X.sub rfl rfl (by omega) (by omega)) (by decide) ?_
    refine WL.x (X.assign rfl) (by decide) ?_
    refine WL.nil ?_
    refine WK.nThen ?_
    refine WC.seq ?_
    refine WC.region ?_
    refine WL.x (X.field Try.runUnderlying58 rfl Try.sizeOf56 rfl) (by decide) ?_
    refine WL.x (X.loadB (k := 1) Try.isAgg56 rfl rfl rfl) (by decide) ?_
    refine WL.x (X.move rfl) (by decide) ?_
    refine WL.xe (E.idxE (k - 1) Try.runUnderlying56 Try.sizeOf71 rfl rfl hs2 (by omega) (by omega)) (by decide) (fun p7 hp8 => ?_)
    have hp9 := At.Height_1 hp8
    refine WL.x (X.field Try.runUnderlying71 rfl Try.sizeOf49 rfl) (by decide) ?_
    refine WL.xe (E.loadAgg Try.isAgg49 Try.sizeOf49 rfl hp9) (by decide) (fun c10 hc11 => ?_)
    obtain rfl := hc11
    refine WL.ts (T.storeBA (k := 0) Try.sizeOf49 rfl rfl rfl (one_cons rfl (one_cons rfl one_nil)) rfl rfl) ?_
    refine WL.nil ?_
    refine WK.nThen ?_
    refine WC.ret ?_
    refine WK.retC1 0 rfl rfl rfl Try.isAgg49 Try.sizeOf49 (fun w' hw' => Ret.exact hw' ?_)
    first | exact agg2 (by rw [heightS_below hs0 hk0 hsp.1 hk1 hk2]) (by rw [heightS_below hs0 hk0 hsp.1 hk1 hk2]) | exact agg2 (by rw [heightS_same (k := k) hs0 (by omega) (by omega)]) (by rw [heightS_same (k := k) hs0 (by omega) (by omega)])
  · refine WL.nil ?_
    refine WK.nThen ?_
    refine WC.condF rfl ?_
    refine WC.skip ?_
    refine WK.nThen ?_
    refine WC.seq ?_
    refine WC.region ?_
    refine WL.x (X.field Try.runUnderlying58 rfl Try.sizeOf56 rfl) (by decide) ?_
    refine WL.x (X.loadB (k := 1) Try.isAgg56 rfl rfl rfl) (by decide) ?_
    refine WL.x (X.move rfl) (by decide) ?_
    refine WL.xe (E.idxN k Try.runUnderlying56 Try.sizeOf71 rfl rfl hs2 (by omega)) (by decide) (fun p12 hp13 => ?_)
    have hp14 := At.Height_1 hp13
    refine WL.x (X.field Try.runUnderlying71 rfl Try.sizeOf49 rfl) (by decide) ?_
    refine WL.xe (E.loadAgg Try.isAgg49 Try.sizeOf49 rfl hp14) (by decide) (fun c15 hc16 => ?_)
    obtain rfl := hc16
    refine WL.ts (T.storeBA (k := 0) Try.sizeOf49 rfl rfl rfl (one_cons rfl (one_cons rfl one_nil)) rfl rfl) ?_
    refine WL.nil ?_
    refine WK.nThen ?_
    refine WC.ret ?_
    refine WK.retC1 0 rfl rfl rfl Try.isAgg49 Try.sizeOf49 (fun w' hw' => Ret.exact hw' ?_)
    first | exact agg2 (by rw [heightS_below hs0 hk0 hsp.1 hk1 hk2]) (by rw [heightS_below hs0 hk0 hsp.1 hk1 hk2]) | exact agg2 (by rw [heightS_same (k := k) hs0 (by omega) (by omega)]) (by rw [heightS_same (k := k) hs0 (by omega) (by omega)])

theorem levels70 (m : Mem) (cw : List Value) (w : Wind) (hw : Enc.rd m cw w) (vl : Value) (l : List Station) (hl : Sl m vl l) (week : Int) (vlist : Value) (list : List Int) (hlist : Sl m vlist list)   : Pure Try.prog 70 #[.agg cw.toArray, vl, .int .i64 (week), vlist] m (fun m' v => ∃ r0 r1, v = .tuple #[.pointer r0, r1, .int .i64 (levelsE w l week list)] ∧ (levelsE w l week list = 0 → ∃ p, r0 = some p ∧ At m' p (regS w l)) ∧ Sl m' r1 (levelsL w l week list)) := by
  obtain rfl := hw
  have ll := hl.le
  have llist := hlist.le
  refine Pure.start Try.func70 rfl Try.ntmps70 rfl fun wld => ?_
  refine WC.seq ?_
  refine WC.region ?_
  refine WL.tn (T.boxB rfl rfl) (by decide) fun b1 => ?_
  refine WL.x (X.assign rfl) (by decide) ?_
  refine WL.x (X.assign rfl) (by decide) ?_
  refine WL.x (X.assign rfl) (by decide) ?_
  refine WL.nil ?_
  refine WK.nThen ?_
  refine WC.seq ?_
  refine WC.region ?_
  refine WL.x (X.loadBA (k := 0) Try.isAgg23 Try.sizeOf23 rfl rfl rfl) (by decide) ?_
  refine WL.x (X.move rfl) (by decide) ?_
  refine WL.tm (T.call Try.call62 rfl (spread62 _ _ w rfl _ _ hl )) (by decide) fun m2 r3 hle4 hR5 => ?_
  obtain ⟨q6, rfl, hq7⟩ := hR5
  replace hl := hl.mono hle4
  replace hlist := hlist.mono hle4
  refine WL.x (X.move rfl) (by decide) ?_
  refine WL.x (X.extract rfl rfl) (by decide) ?_
  refine WL.x (X.extract rfl rfl) (by decide) ?_
  refine WL.x (X.assign rfl) (by decide) ?_
  refine WL.x (X.assign rfl) (by decide) ?_
  refine WL.nil ?_
  refine WK.nThen ?_
  refine WC.seq ?_
  refine WC.seq ?_
  refine WC.region ?_
  refine WL.x (X.move rfl) (by decide) ?_
  refine WL.condn (X.neq rfl rfl) (by decide) (fun h8 => ?_) (fun h8 => ?_)
  · refine WL.nil ?_
    refine WK.nThen ?_
    refine WC.condT rfl ?_
    refine WC.seq ?_
    refine WC.region ?_
    refine WL.x (X.move rfl) (by decide) ?_
    refine WL.x (X.assign rfl) (by decide) ?_
    refine WL.x (X.assign rfl) (by decide) ?_
    refine WL.x (X.assign rfl) (by decide) ?_
    refine WL.nil ?_
    refine WK.nThen ?_
    refine WC.ret ?_
    refine WK.rThen ?_
    refine WK.ret3 rfl rfl rfl rfl (fun w' hw' => Ret.mem hw' ?_)
    first
      | (have he := levelsE_err (w := w) (l := l) (week := week) (list := list) (by omega); exact ⟨_, _, tup3 rfl rfl (int_eq he.symm), fun h0 => by omega, by unfold levelsL; rw [if_neg (by omega)]; exact .nil⟩)
      | (have he := levelsE_arg (w := w) (l := l) (week := week) (list := list) (by omega) (by omega); exact ⟨_, _, tup3 rfl rfl (int_eq he.symm), fun h0 => by omega, by unfold levelsL; rw [if_neg (by omega)]; exact .nil⟩)
      | (have he := levelsE_bad (w := w) (l := l) (week := week) (list := list) (i := i) hw0 (by omega) (by unfold lvOk; omega); exact ⟨_, _, tup3 rfl rfl (int_eq he.symm), fun h0 => by omega, by unfold levelsL; rw [if_neg (by omega)]; exact .nil⟩)
  · refine WL.nil ?_
    refine WK.nThen ?_
    refine WC.condF rfl ?_
    refine WC.skip ?_
    refine WK.nThen ?_
    refine WC.seq ?_
    refine WC.seq ?_
    refine WC.region ?_
    refine WL.x (X.move rfl) (by decide) ?_
    refine WL.cond (X.call Try.call65 rfl (within65 _ _ _ _ )) (by decide) (fun h9 => ?_) (fun h9 => ?_)
    · refine WL.x (X.not rfl) (by decide) ?_
      refine WL.x (X.move rfl) (by decide) ?_
      refine WL.yes rfl rfl ?_
      refine WL.x (X.move rfl) (by decide) ?_
      refine WL.yes rfl rfl ?_
      refine WL.x (X.len Try.runUnderlying31 rfl hlist) (by decide) ?_
      refine WL.yes rfl rfl ?_
      refine WL.x (X.move rfl) (by decide) ?_
      refine WL.yes rfl rfl ?_
      refine WL.x (X.len Try.runUnderlying24 rfl hl) (by decide) ?_
      refine WL.yes rfl rfl ?_
      refine WL.condn (X.neq rfl rfl) (by decide) (fun h10 => ?_) (fun h10 => ?_)
      · refine WL.x (X.pickF rfl rfl rfl) (by decide) ?_
        refine WL.nil ?_
        refine WK.nThen ?_
        refine WC.condT rfl ?_
        refine WC.seq ?_
        refine WC.region ?_
        refine WL.x (X.assign rfl) (by decide) ?_
        refine WL.x (X.assign rfl) (by decide) ?_
        refine WL.x (X.assign rfl) (by decide) ?_
        refine WL.nil ?_
        refine WK.nThen ?_
        refine WC.ret ?_
        refine WK.rThen ?_
        refine WK.ret3 rfl rfl rfl rfl (fun w' hw' => Ret.mem hw' ?_)
        first
          | (have he := levelsE_err (w := w) (l := l) (week := week) (list := list) (by omega); exact ⟨_, _, tup3 rfl rfl (int_eq he.symm), fun h0 => by omega, by unfold levelsL; rw [if_neg (by omega)]; exact .nil⟩)
          | (have he := levelsE_arg (w := w) (l := l) (week := week) (list := list) (by omega) (by omega); exact ⟨_, _, tup3 rfl rfl (int_eq he.symm), fun h0 => by omega, by unfold levelsL; rw [if_neg (by omega)]; exact .nil⟩)
          | (have he := levelsE_bad (w := w) (l := l) (week := week) (list := list) (i := i) hw0 (by omega) (by unfold lvOk; omega); exact ⟨_, _, tup3 rfl rfl (int_eq he.symm), fun h0 => by omega, by unfold levelsL; rw [if_neg (by omega)]; exact .nil⟩)
      · refine WL.x (X.pickF rfl rfl rfl) (by decide) ?_
        refine WL.nil ?_
        refine WK.nThen ?_
        refine WC.condF rfl ?_
        refine WC.skip ?_
        refine WK.nThen ?_
        refine WC.seq ?_
        have hw0 : windedE w l = 0 := (by omega)
        have hl32 := (checkS_zero (l := l) (windedE_zero hw0).1).1
        obtain ⟨p11, rfl, hp12⟩ := hq7 hw0
        refine WK.ownF Span 49 ?_
        refine WC.region ?_
        refine WL.x (X.assign rfl) (by decide) ?_
        refine WL.nil ?_
        refine WK.nThen ?_
        refine WC.seq ?_
        refine WC.seq ?_
        refine WC.region ?_
        refine WL.x (X.move rfl) (by decide) ?_
        refine WL.x (X.len Try.runUnderlying24 rfl hl) (by decide) ?_
        refine WL.x (X.move rfl) (by decide) ?_
        refine WL.nil ?_
        refine WK.nThen ?_
        refine WC.block ?_
        refine WC.loop (G := Nat × Value) (fun (i, vo) => l.length - i) (fun (i, vo) => m2) (fun (i, vo) => [rowF (vo) 49 ((List.range i).map (seaAt l week list)), blk b1 23 [.int .i64 (w.Fixed), .int .i64 (w.Each)]]) (fun (i, vo) => [(2, .int .i64 (week)), (3, vlist), (11, .pointer (some (p11))), (13, vo), (35, vl), (36, .int .i64 (↑l.length)), (37, .int .i64 (↑i))]) (fun (i, vo) => (∀ j, j < i → lvOk list j) ∧ i ≤ l.length) ((0, Value.slice none 0 0)) rfl (.refl _) (.cons rfl (.cons rfl (.cons rfl (.cons rfl (.cons rfl (.cons rfl (.cons rfl .nil))))))) ?_ ?_
        · exact ⟨fun j hj => absurd hj (Nat.not_lt_zero _), Nat.zero_le _⟩
        · rintro ⟨i, vo⟩ hF13
          show WK _ _ m2 [rowF (vo) 49 ((List.range i).map (seaAt l week list)), blk b1 23 [.int .i64 (w.Fixed), .int .i64 (w.Each)]] [(2, .int .i64 (week)), (3, vlist), (11, .pointer (some (p11))), (13, vo), (35, vl), (36, .int .i64 (↑l.length)), (37, .int .i64 (↑i))] _
          replace hF13 : (∀ j, j < i → lvOk list j) ∧ i ≤ l.length := hF13
          obtain ⟨hall, hi⟩ := hF13
          refine WC.seq ?_
          refine WC.region ?_
          refine WL.cond (X.lss rfl rfl) (by decide) (fun h14 => ?_) (fun h14 => ?_)
          · refine WL.nil ?_
            refine WK.nThen ?_
            refine WC.seq ?_
            refine WC.condT rfl ?_
            refine WC.skip ?_
            refine WK.nThen ?_
            refine WC.seq ?_
            refine WC.block ?_
            refine WC.seq ?_
            refine WC.region ?_
            refine WL.x (X.move rfl) (by decide) ?_
            refine WL.xe (E.idxN i Try.runUnderlying24 Try.sizeOf58 rfl rfl hl (by omega)) (by decide) (fun p15 hp16 => ?_)
            refine WL.xe (E.loadAgg Try.isAgg58 Try.sizeOf58 rfl hp16) (by decide) (fun c17 hc18 => ?_)
            obtain ⟨v19, rfl, hs20⟩ := hc18
            have hl21 := hs20.le
            refine WL.tn (T.alloc Try.zeroValue58 rfl) (by decide) fun b22 => ?_
            refine WL.x (X.assign rfl) (by decide) ?_
            refine WL.ts (T.storeBA (k := 0) Try.sizeOf58 rfl rfl rfl (one_cons rfl (one_cons rfl (one_cons rfl (one_cons hs20.one one_nil)))) rfl rfl) ?_
            refine WL.nil ?_
            refine WK.nThen ?_
            refine WC.seq ?_
            refine WC.seq ?_
            refine WC.region ?_
            refine WL.x (X.move rfl) (by decide) ?_
            refine WL.x (X.move rfl) (by decide) ?_
            refine WL.xe (E.idxN i Try.runUnderlying31 Try.sizeOf3 rfl rfl hlist (by omega)) (by decide) (fun p23 hp24 => ?_)
            refine WL.x (X.loadInt Try.isAgg3 rfl hp24) (by decide) ?_
            refine WL.cond (X.call Try.call65 rfl (within65 _ _ _ _ )) (by decide) (fun h25 => ?_) (fun h25 => ?_)
            · refine WL.x (X.not rfl) (by decide) ?_
              refine WL.nil ?_
              refine WK.nThen ?_
              refine WC.condF rfl ?_
              refine WC.skip ?_
              refine WK.nThen ?_
              have hho := (checkS_placed (windedE_zero hw0).1 (k := i) (by omega)).2
              have hso := heightS_ok (week := week) hho
              refine WC.draw (π := (.cons 0 (.cons 1 (.cons 2 (.cons 3 (.cons 4 (.cons 5 (.cons 6 (.cons 7 (.cons 8 (.cons 9 (.cons 10 (.cons 11 .done))))))))))))) [9, 10] [10] rfl (by kernel_rfl) ?_
              refine DW.x rfl rfl (X.move rfl) (by decide) ?_
              refine DW.x rfl rfl (X.move rfl) (by decide) ?_
              refine DW.x rfl rfl (X.move rfl) (by decide) ?_
              refine DW.xe rfl rfl (E.idxN i Try.runUnderlying31 Try.sizeOf3 rfl rfl hlist (by omega)) (by decide) (fun p26 hp27 => ?_)
              refine DW.x rfl rfl (X.loadInt Try.isAgg3 rfl hp27) (by decide) ?_
              refine DW.x rfl rfl (X.loadBA (k := 0) Try.isAgg58 Try.sizeOf58 rfl rfl rfl) (by decide) ?_
              refine DW.x rfl rfl (X.move rfl) (by decide) ?_
              refine DW.x rfl rfl (X.call Try.call87 rfl (height87 _ _ (gt l i) ⟨_, rfl, hs20⟩ _ (by assumption) (by omega))) (by decide) ?_
              refine DW.x rfl rfl (X.call Try.call79 rfl (seas79 _ _ _ (heightS (gt l i) week) rfl (by omega) (by assumption))) (by decide) ?_
              refine DW.tl rfl rfl rfl (T.lit1 sl100 rfl rfl rfl (by decide)) (by decide) fun b28 => ?_
              refine DW.ta rfl rfl rfl rfl (T.appendF (k := 1) (a := (Span.mk (seaS (gt list i) (heightS (gt l i) week).Lo) (seaS (gt list i) (heightS (gt l i) week).Hi))) sl100 rfl rfl rfl rfl (by first | omega | (simp; done) | (simp; omega)) (by decide)) (by decide) (fun v29 => ?_)
              refine DW.x rfl rfl (X.assign rfl) (by decide) ?_
              refine DW.nil ?_
              refine WK.nBlock ?_
              refine WK.nThen ?_
              refine WC.region ?_
              refine WL.x (X.add rfl rfl (by omega) (by omega)) (by decide) ?_
              refine WL.x (X.move rfl) (by decide) ?_
              refine WL.nil ?_
              refine WK.nThen ?_
              have he30 : (((List.range i).map (seaAt l week list)) ++ [(Span.mk (seaS (gt list i) (heightS (gt l i) week).Lo) (seaS (gt list i) (heightS (gt l i) week).Hi))]) = ((List.range (i + 1)).map (seaAt l week list)) := map_succ i (seaAt l week list)
              rw [he30]
              refine WK.next ((i + 1, v29)) rfl (.cons _ (.cons_cons _ (.cons_cons _ .slnil))) (.cons rfl (.cons rfl (.cons rfl (.cons rfl (.cons rfl (.cons rfl (.cons rfl .nil))))))) ?_ ?_
              · exact ⟨fun j hj => by rcases Nat.lt_succ_iff_lt_or_eq.1 hj with h | h; exact hall j h; subst h; unfold lvOk; omega, by omega⟩
              · (dsimp only; omega)
            · refine WL.x (X.not rfl) (by decide) ?_
              refine WL.nil ?_
              refine WK.nThen ?_
              refine WC.condT rfl ?_
              refine WC.seq ?_
              refine WC.region ?_
              refine WL.x (X.assign rfl) (by decide) ?_
              refine WL.x (X.assign rfl) (by decide) ?_
              refine WL.x (X.assign rfl) (by decide) ?_
              refine WL.nil ?_
              refine WK.nThen ?_
              refine WC.ret ?_
              refine WK.rThen ?_
              refine WK.rBlock ?_
              refine WK.rThen ?_
              refine WK.rThen ?_
              refine WK.rBlock ?_
              refine WK.rThen ?_
              refine WK.ret3 rfl rfl rfl rfl (fun w' hw' => Ret.mem hw' ?_)
              first
                | (have he := levelsE_err (w := w) (l := l) (week := week) (list := list) (by omega); exact ⟨_, _, tup3 rfl rfl (int_eq he.symm), fun h0 => by omega, by unfold levelsL; rw [if_neg (by omega)]; exact .nil⟩)
                | (have he := levelsE_arg (w := w) (l := l) (week := week) (list := list) (by omega) (by omega); exact ⟨_, _, tup3 rfl rfl (int_eq he.symm), fun h0 => by omega, by unfold levelsL; rw [if_neg (by omega)]; exact .nil⟩)
                | (have he := levelsE_bad (w := w) (l := l) (week := week) (list := list) (i := i) hw0 (by omega) (by unfold lvOk; omega); exact ⟨_, _, tup3 rfl rfl (int_eq he.symm), fun h0 => by omega, by unfold levelsL; rw [if_neg (by omega)]; exact .nil⟩)
          · refine WL.nil ?_
            refine WK.nThen ?_
            refine WC.seq ?_
            refine WC.condF rfl ?_
            refine WC.exit ?_
            refine WK.eThen ?_
            refine WK.eThen ?_
            refine WK.eHit ?_
            refine WK.nThen ?_
            refine WC.seq ?_
            refine WC.region ?_
            refine WL.x (X.move rfl) (by decide) ?_
            refine WL.x (X.move rfl) (by decide) ?_
            refine WL.x (X.assign rfl) (by decide) ?_
            refine WL.x (X.assign rfl) (by decide) ?_
            refine WL.x (X.assign rfl) (by decide) ?_
            refine WL.nil ?_
            refine WK.nThen ?_
            refine WC.ret ?_
            refine WK.freezeF 0 rfl rfl (by simp [lenB]; omega) (fun m31 hle32 hs33 => ?_)
            replace hl := hl.mono hle32
            replace hlist := hlist.mono hle32
            replace hp12 := hp12.mono hle32
            refine WK.ret3 rfl rfl rfl rfl (fun w' hw' => Ret.mem hw' ?_)
            obtain rfl : i = l.length := (by omega)
            have hok := levelsE_ok hw0 (by omega) (by omega) hall
            rw [hok]
            exact ⟨_, _, rfl, fun _ => ⟨_, rfl, hp12⟩, by unfold levelsL; rw [if_pos hok]; exact hs33⟩
    · refine WL.x (X.not rfl) (by decide) ?_
      refine WL.x (X.move rfl) (by decide) ?_
      refine WL.no rfl rfl rfl (by decide) ?_
      refine WL.no rfl rfl rfl (by decide) ?_
      refine WL.no rfl rfl rfl (by decide) ?_
      refine WL.no rfl rfl rfl (by decide) ?_
      refine WL.no rfl rfl rfl (by decide) ?_
      refine WL.x (X.pickT rfl rfl rfl) (by decide) ?_
      refine WL.nil ?_
      refine WK.nThen ?_
      refine WC.condT rfl ?_
      refine WC.seq ?_
      refine WC.region ?_
      refine WL.x (X.assign rfl) (by decide) ?_
      refine WL.x (X.assign rfl) (by decide) ?_
      refine WL.x (X.assign rfl) (by decide) ?_
      refine WL.nil ?_
      refine WK.nThen ?_
      refine WC.ret ?_
      refine WK.rThen ?_
      refine WK.ret3 rfl rfl rfl rfl (fun w' hw' => Ret.mem hw' ?_)
      first
        | (have he := levelsE_err (w := w) (l := l) (week := week) (list := list) (by omega); exact ⟨_, _, tup3 rfl rfl (int_eq he.symm), fun h0 => by omega, by unfold levelsL; rw [if_neg (by omega)]; exact .nil⟩)
        | (have he := levelsE_arg (w := w) (l := l) (week := week) (list := list) (by omega) (by omega); exact ⟨_, _, tup3 rfl rfl (int_eq he.symm), fun h0 => by omega, by unfold levelsL; rw [if_neg (by omega)]; exact .nil⟩)
        | (have he := levelsE_bad (w := w) (l := l) (week := week) (list := list) (i := i) hw0 (by omega) (by unfold lvOk; omega); exact ⟨_, _, tup3 rfl rfl (int_eq he.symm), fun h0 => by omega, by unfold levelsL; rw [if_neg (by omega)]; exact .nil⟩)

theorem apart29 (m : Mem) (cw : List Value) (w : Wind) (hw : Enc.rd m cw w) (vl : Value) (l : List Station) (hl : Sl m vl l) (week : Int) (vlist : Value) (list : List Int) (hlist : Sl m vlist list)   : Pure Try.prog 29 #[.agg cw.toArray, vl, .int .i64 (week), vlist] m (fun m' v => ∃ r0, v = .tuple #[r0, .int .i64 ((apartR w l week list).2)] ∧ Sl m' r0 ((apartR w l week list).1)) := by
  obtain rfl := hw
  have ll := hl.le
  have llist := hlist.le
  refine Pure.start Try.func29 rfl Try.ntmps29 rfl fun wld => ?_
  refine WC.seq ?_
  refine WC.region ?_
  refine WL.tn (T.boxB rfl rfl) (by decide) fun b1 => ?_
  refine WL.x (X.assign rfl) (by decide) ?_
  refine WL.x (X.assign rfl) (by decide) ?_
  refine WL.nil ?_
  refine WK.nThen ?_
  refine WC.seq ?_
  refine WC.region ?_
  refine WL.x (X.loadBA (k := 0) Try.isAgg23 Try.sizeOf23 rfl rfl rfl) (by decide) ?_
  refine WL.x (X.move rfl) (by decide) ?_
  refine WL.x (X.move rfl) (by decide) ?_
  refine WL.x (X.move rfl) (by decide) ?_
  refine WL.tm (T.call Try.call70 rfl (levels70 _ _ w rfl _ _ hl _ _ _ hlist )) (by decide) fun m2 r3 hle4 hR5 => ?_
  obtain ⟨q6, v8, rfl, hq7, hs9⟩ := hR5
  replace hl := hl.mono hle4
  replace hlist := hlist.mono hle4
  have hl10 := hs9.le
  refine WL.x (X.move rfl) (by decide) ?_
  refine WL.x (X.extract rfl rfl) (by decide) ?_
  refine WL.x (X.extract rfl rfl) (by decide) ?_
  refine WL.x (X.extract rfl rfl) (by decide) ?_
  refine WL.x (X.assign rfl) (by decide) ?_
  refine WL.x (X.assign rfl) (by decide) ?_
  refine WL.x (X.assign rfl) (by decide) ?_
  refine WL.nil ?_
  refine WK.nThen ?_
  refine WC.seq ?_
  refine WC.seq ?_
  refine WC.region ?_
  refine WL.x (X.move rfl) (by decide) ?_
  refine WL.condn (X.neq rfl rfl) (by decide) (fun h11 => ?_) (fun h11 => ?_)
  · refine WL.nil ?_
    refine WK.nThen ?_
    refine WC.condT rfl ?_
    refine WC.seq ?_
    refine WC.region ?_
    refine WL.x (X.move rfl) (by decide) ?_
    refine WL.x (X.assign rfl) (by decide) ?_
    refine WL.x (X.assign rfl) (by decide) ?_
    refine WL.nil ?_
    refine WK.nThen ?_
    refine WC.ret ?_
    refine WK.rThen ?_
    refine WK.ret2 rfl rfl rfl (fun w' hw' => Ret.mem hw' ?_)
    first | exact ⟨_, tup2 rfl (int_eq (by rw [apartR_err (by omega)])), by rw [apartR_err (by omega)]; exact .nil⟩ | exact ⟨_, tup2 rfl (int_eq (by rw [apartR_yes hlz (by omega) (by omega) hall hin (by unfold apartP; omega)])), by rw [apartR_yes hlz (by omega) (by omega) hall hin (by unfold apartP; omega)]; exact .nil⟩ | exact ⟨_, tup2 rfl (int_eq (by rw [apartR_no hlz (fun j x h1 => hall j x (by omega))])), by rw [apartR_no hlz (fun j x h1 => hall j x (by omega))]; exact .nil⟩
  · refine WL.nil ?_
    refine WK.nThen ?_
    refine WC.condF rfl ?_
    refine WC.skip ?_
    refine WK.nThen ?_
    refine WC.seq ?_
    refine WC.seq ?_
    have hlz : levelsE w l week list = 0 := (by omega)
    have hz := levelsE_zero hlz
    have hw0 := hz.1
    have hl32 := (checkS_zero (l := l) (windedE_zero hw0).1).1
    have hrl := (regB_mat w l).1
    obtain ⟨p12, rfl, hp13⟩ := hq7 hlz
    rw [show levelsL w l week list = seasL l week list from if_pos hlz] at hs9
    have hsl : (seasL l week list).length = l.length := (by simp [seasL])
    refine WC.region ?_
    refine WL.x (X.move rfl) (by decide) ?_
    refine WL.x (X.len Try.runUnderlying24 rfl hl) (by decide) ?_
    refine WL.x (X.move rfl) (by decide) ?_
    refine WL.nil ?_
    refine WK.nThen ?_
    refine WC.block ?_
    refine WC.loop (G := Nat) (fun i => l.length - i) (fun i => m2) (fun i => [blk b1 23 [.int .i64 (w.Fixed), .int .i64 (w.Each)]]) (fun i => [(1, vl), (10, .pointer (some (p12))), (11, v8), (28, .int .i64 (↑l.length)), (29, .int .i64 (↑i))]) (fun i => (∀ j x, j < i → j < x → x < l.length → ¬ apartP w l (seasL l week list) j x) ∧ i ≤ l.length) 0 rfl (.refl _) (.cons rfl (.cons rfl (.cons rfl (.cons rfl (.cons rfl .nil))))) ?_ ?_
    · exact ⟨fun j x hj => absurd hj (Nat.not_lt_zero _), Nat.zero_le _⟩
    · rintro i hF14
      show WK _ _ m2 [blk b1 23 [.int .i64 (w.Fixed), .int .i64 (w.Each)]] [(1, vl), (10, .pointer (some (p12))), (11, v8), (28, .int .i64 (↑l.length)), (29, .int .i64 (↑i))] _
      replace hF14 : (∀ j x, j < i → j < x → x < l.length → ¬ apartP w l (seasL l week list) j x) ∧ i ≤ l.length := hF14
      obtain ⟨hall, hi⟩ := hF14
      refine WC.seq ?_
      refine WC.region ?_
      refine WL.cond (X.lss rfl rfl) (by decide) (fun h15 => ?_) (fun h15 => ?_)
      · refine WL.nil ?_
        refine WK.nThen ?_
        refine WC.seq ?_
        refine WC.condT rfl ?_
        refine WC.skip ?_
        refine WK.nThen ?_
        refine WC.seq ?_
        refine WC.block ?_
        refine WC.seq ?_
        refine WC.region ?_
        refine WL.x (X.move rfl) (by decide) ?_
        refine WL.x (X.assign rfl) (by decide) ?_
        refine WL.nil ?_
        refine WK.nThen ?_
        refine WC.seq ?_
        refine WC.region ?_
        refine WL.x (X.move rfl) (by decide) ?_
        refine WL.x (X.add rfl rfl (by omega) (by omega)) (by decide) ?_
        refine WL.x (X.assign rfl) (by decide) ?_
        refine WL.nil ?_
        refine WK.nThen ?_
        refine WC.block ?_
        refine WC.loop (G := Nat) (fun k => l.length - k) (fun k => m2) (fun k => [blk b1 23 [.int .i64 (w.Fixed), .int .i64 (w.Each)]]) (fun k => [(1, vl), (10, .pointer (some (p12))), (11, v8), (13, .int .i64 (↑i)), (14, .int .i64 (↑k)), (28, .int .i64 (↑l.length)), (29, .int .i64 (↑i))]) (fun k => (∀ x, i < x → x < k → ¬ apartP w l (seasL l week list) i x) ∧ (i < k ∧ k ≤ l.length)) (i + 1) rfl (.refl _) (.cons rfl (.cons rfl (.cons rfl (.cons rfl (.cons rfl (.cons rfl (.cons rfl .nil))))))) ?_ ?_
        · exact ⟨fun x h1 h2 => by omega, by omega⟩
        · rintro k hF16
          show WK _ _ m2 [blk b1 23 [.int .i64 (w.Fixed), .int .i64 (w.Each)]] [(1, vl), (10, .pointer (some (p12))), (11, v8), (13, .int .i64 (↑i)), (14, .int .i64 (↑k)), (28, .int .i64 (↑l.length)), (29, .int .i64 (↑i))] _
          replace hF16 : (∀ x, i < x → x < k → ¬ apartP w l (seasL l week list) i x) ∧ (i < k ∧ k ≤ l.length) := hF16
          obtain ⟨hin, hk⟩ := hF16
          refine WC.seq ?_
          refine WC.seq ?_
          refine WC.region ?_
          refine WL.x (X.move rfl) (by decide) ?_
          refine WL.x (X.move rfl) (by decide) ?_
          refine WL.x (X.len Try.runUnderlying24 rfl hl) (by decide) ?_
          refine WL.cond (X.lss rfl rfl) (by decide) (fun h17 => ?_) (fun h17 => ?_)
          · refine WL.nil ?_
            refine WK.nThen ?_
            refine WC.condT rfl ?_
            refine WC.skip ?_
            refine WK.nThen ?_
            refine WC.seq ?_
            refine WC.block ?_
            refine WC.seq ?_
            have hb1 := seasL_bd hlz (i := i) (by omega)
            have hb2 := seasL_bd hlz (i := k) (by omega)
            have hgt := gt_regB (w := w) (l := l) (a := i) (b := k) (by omega) (by omega)
            refine WC.draw (π := (.cons 0 (.cons 1 (.cons 2 (.cons 3 (.cons 4 (.cons 5 (.cons 6 (.cons 7 (.cons 8 (.cons 9 (.cons 10 (.cons 11 (.cons 12 (.cons 13 (.cons 14 (.cons 15 (.cons 16 (.cons 17 (.cons 18 (.cons 19 (.cons 20 (.cons 21 (.cons 22 (.cons 23 (.cons 24 (.cons 25 (.cons 26 (.cons 27 (.cons 28 (.cons 29 (.cons 30 (.cons 31 .done))))))))))))))))))))))))))))))))) [] [] rfl (by kernel_rfl) ?_
            refine DW.x rfl rfl (X.move rfl) (by decide) ?_
            refine DW.x rfl rfl (X.move rfl) (by decide) ?_
            refine DW.xe rfl rfl (E.idxN k Try.runUnderlying100 Try.sizeOf49 rfl rfl hs9 (by omega)) (by decide) (fun p18 hp19 => ?_)
            have hp20 := At.Span_0 hp19
            refine DW.x rfl rfl (X.field Try.runUnderlying49 rfl Try.sizeOf3 rfl) (by decide) ?_
            refine DW.x rfl rfl (X.loadInt Try.isAgg3 rfl hp20) (by decide) ?_
            refine DW.x rfl rfl (X.move rfl) (by decide) ?_
            refine DW.x rfl rfl (X.move rfl) (by decide) ?_
            refine DW.xe rfl rfl (E.idxN i Try.runUnderlying100 Try.sizeOf49 rfl rfl hs9 (by omega)) (by decide) (fun p21 hp22 => ?_)
            have hp23 := At.Span_1 hp22
            refine DW.x rfl rfl (X.field Try.runUnderlying49 rfl Try.sizeOf3 rfl) (by decide) ?_
            refine DW.x rfl rfl (X.loadInt Try.isAgg3 rfl hp23) (by decide) ?_
            refine DW.x rfl rfl (X.sub rfl rfl (by omega) (by omega)) (by decide) ?_
            refine DW.x rfl rfl (X.move rfl) (by decide) ?_
            refine DW.x rfl rfl (X.move rfl) (by decide) ?_
            refine DW.xe rfl rfl (E.idxN i Try.runUnderlying100 Try.sizeOf49 rfl rfl hs9 (by omega)) (by decide) (fun p24 hp25 => ?_)
            have hp26 := At.Span_0 hp25
            refine DW.x rfl rfl (X.field Try.runUnderlying49 rfl Try.sizeOf3 rfl) (by decide) ?_
            refine DW.x rfl rfl (X.loadInt Try.isAgg3 rfl hp26) (by decide) ?_
            refine DW.x rfl rfl (X.move rfl) (by decide) ?_
            refine DW.x rfl rfl (X.move rfl) (by decide) ?_
            refine DW.xe rfl rfl (E.idxN k Try.runUnderlying100 Try.sizeOf49 rfl rfl hs9 (by omega)) (by decide) (fun p27 hp28 => ?_)
            have hp29 := At.Span_1 hp28
            refine DW.x rfl rfl (X.field Try.runUnderlying49 rfl Try.sizeOf3 rfl) (by decide) ?_
            refine DW.x rfl rfl (X.loadInt Try.isAgg3 rfl hp29) (by decide) ?_
            refine DW.x rfl rfl (X.sub rfl rfl (by omega) (by omega)) (by decide) ?_
            refine DW.x rfl rfl (X.mx rfl rfl) (by decide) ?_
            refine DW.x rfl rfl (X.move rfl) (by decide) ?_
            refine DW.x rfl rfl (X.move rfl) (by decide) ?_
            refine DW.x rfl rfl (X.move rfl) (by decide) ?_
            refine DW.x rfl rfl (X.nilCheck rfl) (by decide) ?_
            have hp30 : Cells m2 (p12) (ints (regB w l)) := At.Reg_0 hp13
            refine DW.x rfl rfl (X.field Try.runUnderlying92 rfl Try.sizeOf90 rfl) (by decide) ?_
            refine DW.x rfl rfl (X.idxArM (off := 0) hp30 i Try.underlying90 Try.sizeOf88 rfl rfl (by omega) (by omega)) (by decide) ?_
            refine DW.x rfl rfl (X.idxArM (off := 0 + i * 32) hp30 k Try.underlying88 Try.sizeOf3 rfl rfl (by omega) (by omega)) (by decide) ?_
            refine DW.x rfl rfl (X.loadArM (off := 0 + i * 32 + k * 1) Try.isAgg3 rfl hp30 (by omega)) (by decide) ?_
            refine DW.cond rfl rfl (X.gtr rfl rfl) (by decide) (fun h31 => ?_) (fun h31 => ?_)
            · refine DW.nil ?_
              refine WK.nThen ?_
              refine WC.condT rfl ?_
              refine WC.seq ?_
              refine WC.region ?_
              refine WL.x (X.move rfl) (by decide) ?_
              refine WL.x (X.move rfl) (by decide) ?_
              refine WL.tm (T.litM (α := Int) (vals := [.int .i64 (↑i), .int .i64 (↑k)]) (L := [(↑i : Int), (↑k : Int)]) sl31 rfl (.cons rfl rfl (.cons rfl rfl .nil)) rfl rfl) (by decide) (fun m32 v33 hle34 hs35 => ?_)
              replace hl := hl.mono hle34
              replace hlist := hlist.mono hle34
              replace hs9 := hs9.mono hle34
              replace hp13 := hp13.mono hle34
              replace hp19 := hp19.mono hle34
              replace hp20 := hp20.mono hle34
              replace hp22 := hp22.mono hle34
              replace hp23 := hp23.mono hle34
              replace hp25 := hp25.mono hle34
              replace hp26 := hp26.mono hle34
              replace hp28 := hp28.mono hle34
              replace hp29 := hp29.mono hle34
              replace hp30 := hp30.mono hle34
              refine WL.x (X.assign rfl) (by decide) ?_
              refine WL.x (X.assign rfl) (by decide) ?_
              refine WL.nil ?_
              refine WK.nThen ?_
              refine WC.ret ?_
              refine WK.rBlock ?_
              refine WK.rThen ?_
              refine WK.rThen ?_
              refine WK.rBlock ?_
              refine WK.rBlock ?_
              refine WK.rThen ?_
              refine WK.rThen ?_
              refine WK.rBlock ?_
              refine WK.rThen ?_
              refine WK.ret2 rfl rfl rfl (fun w' hw' => Ret.mem hw' ?_)
              first | exact ⟨_, tup2 rfl (int_eq (by rw [apartR_err (by omega)])), by rw [apartR_err (by omega)]; exact hs35⟩ | exact ⟨_, tup2 rfl (int_eq (by rw [apartR_yes hlz (by omega) (by omega) hall hin (by unfold apartP; omega)])), by rw [apartR_yes hlz (by omega) (by omega) hall hin (by unfold apartP; omega)]; exact hs35⟩ | exact ⟨_, tup2 rfl (int_eq (by rw [apartR_no hlz (fun j x h1 => hall j x (by omega))])), by rw [apartR_no hlz (fun j x h1 => hall j x (by omega))]; exact hs35⟩
            · refine DW.nil ?_
              refine WK.nThen ?_
              refine WC.condF rfl ?_
              refine WC.skip ?_
              refine WK.nBlock ?_
              refine WK.nThen ?_
              refine WC.region ?_
              refine WL.x (X.move rfl) (by decide) ?_
              refine WL.x (X.add rfl rfl (by omega) (by omega)) (by decide) ?_
              refine WL.x (X.assign rfl) (by decide) ?_
              refine WL.nil ?_
              refine WK.nThen ?_
              refine WK.next (k + 1) rfl (.refl _) (.cons rfl (.cons rfl (.cons rfl (.cons rfl (.cons rfl (.cons rfl (.cons rfl .nil))))))) ?_ ?_
              · exact ⟨fun x h1 h2 => by rcases Nat.lt_succ_iff_lt_or_eq.1 h2 with h | h; exact hin x h1 h; subst h; unfold apartP; omega, by omega⟩
              · omega
          · refine WL.nil ?_
            refine WK.nThen ?_
            refine WC.condF rfl ?_
            refine WC.exit ?_
            refine WK.eThen ?_
            refine WK.eThen ?_
            refine WK.eHit ?_
            refine WK.nBlock ?_
            refine WK.nThen ?_
            refine WC.region ?_
            refine WL.x (X.add rfl rfl (by omega) (by omega)) (by decide) ?_
            refine WL.x (X.move rfl) (by decide) ?_
            refine WL.nil ?_
            refine WK.nThen ?_
            refine WK.next (i + 1) rfl (.refl _) (.cons rfl (.cons rfl (.cons rfl (.cons rfl (.cons rfl .nil))))) ?_ ?_
            · exact ⟨fun j x hj h1 h2 => by rcases Nat.lt_succ_iff_lt_or_eq.1 hj with h | h; exact hall j x h h1 h2; subst h; exact hin x (by omega) (by omega), by omega⟩
            · omega
      · refine WL.nil ?_
        refine WK.nThen ?_
        refine WC.seq ?_
        refine WC.condF rfl ?_
        refine WC.exit ?_
        refine WK.eThen ?_
        refine WK.eThen ?_
        refine WK.eHit ?_
        refine WK.nThen ?_
        refine WC.seq ?_
        refine WC.region ?_
        refine WL.x (X.assign rfl) (by decide) ?_
        refine WL.x (X.assign rfl) (by decide) ?_
        refine WL.nil ?_
        refine WK.nThen ?_
        refine WC.ret ?_
        refine WK.ret2 rfl rfl rfl (fun w' hw' => Ret.mem hw' ?_)
        first | exact ⟨_, tup2 rfl (int_eq (by rw [apartR_err (by omega)])), by rw [apartR_err (by omega)]; exact .nil⟩ | exact ⟨_, tup2 rfl (int_eq (by rw [apartR_yes hlz (by omega) (by omega) hall hin (by unfold apartP; omega)])), by rw [apartR_yes hlz (by omega) (by omega) hall hin (by unfold apartP; omega)]; exact .nil⟩ | exact ⟨_, tup2 rfl (int_eq (by rw [apartR_no hlz (fun j x h1 => hall j x (by omega))])), by rw [apartR_no hlz (fun j x h1 => hall j x (by omega))]; exact .nil⟩

theorem raise71 (m : Mem) (b : Nat) (v : Value) (L : List Int) (i : Nat) (least : Int) (hi : i < L.length) : Mut Try.prog 71 #[.int .i64 ↑i, .int .i64 least, .pointer (some ⟨b, 0, none⟩)] m [blk b 31 [v], rowF v 3 L] (fun _ Es u => Es = [blk b 31 [v], rowF v 3 (if gt L i < least then L.set i least else L)] ∧ u = .bool (decide (gt L i < least))) := by
  refine Mut.start Try.func71 rfl Try.ntmps71 rfl fun wld => ?_
  refine WC.seq ?_
  refine WC.region ?_
  refine WL.x (X.assign rfl) (by decide) ?_
  refine WL.nil ?_
  refine WK.nThen ?_
  refine WC.seq ?_
  refine WC.seq ?_
  refine WC.region ?_
  refine WL.x (X.move rfl) (by decide) ?_
  refine WL.x (X.loadB (k := 0) Try.isAgg31 rfl rfl rfl) (by decide) ?_
  refine WL.x (X.move rfl) (by decide) ?_
  refine WL.x (X.idxI (k := 1) Try.runUnderlying31 Try.sizeOf3 rfl rfl rfl (by first | omega | (simp; omega) | simp) (by first | omega | (simp; omega) | simp)) (by decide) ?_
  refine WL.x (X.loadI (k := 1) (i := i) Try.isAgg3 rfl rfl (by first | omega | (simp; omega) | simp)) (by decide) ?_
  refine WL.cond (X.leq rfl rfl) (by decide) (fun h1 => ?_) (fun h1 => ?_)
  · refine WL.nil ?_
    refine WK.nThen ?_
    refine WC.condT rfl ?_
    refine WC.seq ?_
    refine WC.region ?_
    refine WL.x (X.assign rfl) (by decide) ?_
    refine WL.nil ?_
    refine WK.nThen ?_
    refine WC.ret ?_
    refine WK.rThen ?_
    refine WK.ret1 rfl rfl (fun w' hw' => Ret.mut hw' ?_)
    first | exact ⟨by rw [if_neg (by omega)], bool_false (by omega)⟩ | exact ⟨by rw [if_pos (by omega)]; rfl, bool_true (by omega)⟩
  · refine WL.nil ?_
    refine WK.nThen ?_
    refine WC.condF rfl ?_
    refine WC.skip ?_
    refine WK.nThen ?_
    refine WC.seq ?_
    refine WC.region ?_
    refine WL.x (X.loadB (k := 0) Try.isAgg31 rfl rfl rfl) (by decide) ?_
    refine WL.x (X.move rfl) (by decide) ?_
    refine WL.x (X.move rfl) (by decide) ?_
    refine WL.x (X.idxI (k := 1) Try.runUnderlying31 Try.sizeOf3 rfl rfl rfl (by first | omega | (simp; omega) | simp) (by first | omega | (simp; omega) | simp)) (by decide) ?_
    refine WL.ts (T.storeI (k := 1) (i := i) Try.sizeOf3 rfl rfl rfl (by first | omega | (simp; omega) | simp)) ?_
    refine WL.nil ?_
    refine WK.nThen ?_
    refine WC.seq ?_
    refine WC.region ?_
    refine WL.x (X.assign rfl) (by decide) ?_
    refine WL.nil ?_
    refine WK.nThen ?_
    refine WC.ret ?_
    refine WK.ret1 rfl rfl (fun w' hw' => Ret.mut hw' ?_)
    first | exact ⟨by rw [if_neg (by omega)], bool_false (by omega)⟩ | exact ⟨by rw [if_pos (by omega)]; rfl, bool_true (by omega)⟩

end Go.Proofs.S5
