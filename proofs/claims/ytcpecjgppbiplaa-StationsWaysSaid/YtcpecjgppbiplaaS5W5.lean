/- Stations: walks, by program: the reference. -/
import Derived.Test.YtcpecjgppbiplaaS5Rel
import Derived.Test.YtcpecjgppbiplaaS5W4
import Derived.Test.YtcpecjgppbiplaaKxO
namespace Go.Proofs.S5
open Go Go.Kx

set_option maxHeartbeats 4000000 in
theorem hops69 (m : Mem) (w : Wind) (l : List Station) (vd vt : Value) (hd : Sl m vd (boundsL w l)) (ht : Sl m vt (tightL w l)) (b : Nat) (hb : b < l.length) (hw0 : windedE w l = 0) : Pure Try.prog 69 #[vd, vt, .int .i64 ↑b] m (fun m' v => Sl m' v (hopsL w l b)) := by
  have hbl := boundsL_len w l
  have htl := tightL_len w l
  have hz := windedE_zero hw0
  have hl32 := (checkS_zero (l := l) hz.1).1
  have hrep : (List.replicate l.length (0 : Int)).length = l.length := List.length_replicate
  refine Pure.start Try.func69 rfl Try.ntmps69 rfl fun wld => ?_
  refine WC.seq ?_
  refine WC.region ?_
  refine WL.x (X.assign rfl) (by decide) ?_
  refine WL.nil ?_
  refine WK.nThen ?_
  refine WC.seq ?_
  refine WC.region ?_
  refine WL.x (X.move rfl) (by decide) ?_
  refine WL.x (X.len Try.runUnderlying27 rfl hd) (by decide) ?_
  refine WL.ta (T.makeN ((boundsL w l).length) (a := (0 : Int)) sl31 rfl rfl rfl (by omega) (by decide)) (by decide) (fun v1 => ?_)
  refine WL.x (X.assign rfl) (by decide) ?_
  refine WL.nil ?_
  rw [hbl]
  refine WK.nThen ?_
  refine WC.seq ?_
  refine WC.seq ?_
  refine WC.region ?_
  refine WL.x (X.assign rfl) (by decide) ?_
  refine WL.nil ?_
  refine WK.nThen ?_
  refine WC.block ?_
  refine WC.loop (G := Nat × List Int) (fun (i, L1) => l.length - i) (fun (i, L1) => m) (fun (i, L1) => [rowF (v1) 3 (L1)]) (fun (i, L1) => [(0, vd), (1, vt), (2, .int .i64 (↑b)), (7, v1), (8, .int .i64 (↑i))]) (fun (i, L1) => (L1.length = l.length ∧ ∀ j, j < i → gt L1 j = (l.length : Int) + 1) ∧ i ≤ l.length) ((0, List.replicate (l.length) (0 : Int))) rfl (.refl _) (.cons rfl (.cons rfl (.cons rfl (.cons rfl (.cons rfl .nil))))) ?_ ?_
  · exact ⟨⟨hrep, fun j hj => absurd hj (Nat.not_lt_zero _)⟩, Nat.zero_le _⟩
  · rintro ⟨i, L1⟩ hF2
    show WK _ _ m [rowF (v1) 3 (L1)] [(0, vd), (1, vt), (2, .int .i64 (↑b)), (7, v1), (8, .int .i64 (↑i))] _
    replace hF2 : (L1.length = l.length ∧ ∀ j, j < i → gt L1 j = (l.length : Int) + 1) ∧ i ≤ l.length := hF2
    obtain ⟨hL1, hi⟩ := hF2
    refine WC.seq ?_
    refine WC.seq ?_
    refine WC.region ?_
    refine WL.x (X.move rfl) (by decide) ?_
    refine WL.x (X.move rfl) (by decide) ?_
    refine WL.x (X.lenF (k := 0) Try.runUnderlying31 rfl rfl) (by decide) ?_
    refine WL.cond (X.lss rfl rfl) (by decide) (fun h3 => ?_) (fun h3 => ?_)
    · refine WL.nil ?_
      refine WK.nThen ?_
      refine WC.condT rfl ?_
      refine WC.skip ?_
      refine WK.nThen ?_
      refine WC.seq ?_
      refine WC.block ?_
      have hl1 := hL1.1
      refine WC.region ?_
      refine WL.x (X.move rfl) (by decide) ?_
      refine WL.x (X.move rfl) (by decide) ?_
      refine WL.x (X.move rfl) (by decide) ?_
      refine WL.x (X.len Try.runUnderlying27 rfl hd) (by decide) ?_
      refine WL.x (X.add rfl rfl (by omega) (by omega)) (by decide) ?_
      refine WL.x (X.idxI (k := 0) Try.runUnderlying31 Try.sizeOf3 rfl rfl rfl (by first | omega | (simp; omega) | simp) (by first | omega | (simp; omega) | simp)) (by decide) ?_
      refine WL.ts (T.storeI (k := 0) (i := i) Try.sizeOf3 rfl rfl rfl (by first | omega | (simp; omega) | simp)) ?_
      refine WL.nil ?_
      refine WK.nBlock ?_
      refine WK.nThen ?_
      refine WC.region ?_
      refine WL.x (X.move rfl) (by decide) ?_
      refine WL.x (X.add rfl rfl (by omega) (by omega)) (by decide) ?_
      refine WL.x (X.assign rfl) (by decide) ?_
      refine WL.nil ?_
      refine WK.nThen ?_
      refine WK.next ((i + 1, L1.set i ((↑(boundsL w l).length) + 1))) rfl (.refl _) (.cons rfl (.cons rfl (.cons rfl (.cons rfl (.cons rfl .nil))))) ?_ ?_
      · exact ⟨⟨by rw [List.length_set]; exact hL1.1, fun j hj => by rw [gt_set (by omega)]; (split <;> rename_i e) <;> first | omega | exact hL1.2 j (by omega)⟩, by omega⟩
      · (dsimp only; omega)
    · refine WL.nil ?_
      refine WK.nThen ?_
      refine WC.condF rfl ?_
      refine WC.exit ?_
      refine WK.eThen ?_
      refine WK.eThen ?_
      refine WK.eHit ?_
      refine WK.nThen ?_
      refine WC.seq ?_
      have hl1 := hL1.1
      refine WC.region ?_
      refine WL.x (X.move rfl) (by decide) ?_
      refine WL.x (X.move rfl) (by decide) ?_
      refine WL.x (X.idxI (k := 0) Try.runUnderlying31 Try.sizeOf3 rfl rfl rfl (by first | omega | (simp; omega) | simp) (by first | omega | (simp; omega) | simp)) (by decide) ?_
      refine WL.ts (T.storeI (k := 0) (i := b) Try.sizeOf3 rfl rfl rfl (by first | omega | (simp; omega) | simp)) ?_
      refine WL.nil ?_
      refine WK.nThen ?_
      refine WC.seq ?_
      refine WC.seq ?_
      refine WC.region ?_
      refine WL.x (X.assign rfl) (by decide) ?_
      refine WL.nil ?_
      refine WK.nThen ?_
      refine WC.block ?_
      refine WC.loop (G := Nat × List Int) (fun (r, L2) => l.length - r) (fun (r, L2) => m) (fun (r, L2) => [rowF (v1) 3 (L2)]) (fun (r, L2) => [(0, vd), (1, vt), (2, .int .i64 (↑b)), (7, v1), (9, .int .i64 (↑r))]) (fun (r, L2) => HA w l b L2 ∧ HC w l b r L2 ∧ r ≤ l.length) ((0, L1.set b 0)) rfl (.refl _) (.cons rfl (.cons rfl (.cons rfl (.cons rfl (.cons rfl .nil))))) ?_ ?_
      · exact ⟨(HA.start hb hL1.1 (fun j hj => hL1.2 j (by omega))).1, (HA.start hb hL1.1 (fun j hj => hL1.2 j (by omega))).2, Nat.zero_le _⟩
      · rintro ⟨r, L2⟩ hF4
        show WK _ _ m [rowF (v1) 3 (L2)] [(0, vd), (1, vt), (2, .int .i64 (↑b)), (7, v1), (9, .int .i64 (↑r))] _
        replace hF4 : HA w l b L2 ∧ HC w l b r L2 ∧ r ≤ l.length := hF4
        obtain ⟨hA2, hC2, hr⟩ := hF4
        refine WC.seq ?_
        refine WC.seq ?_
        have hl2 := hA2.1
        refine WC.region ?_
        refine WL.x (X.move rfl) (by decide) ?_
        refine WL.x (X.move rfl) (by decide) ?_
        refine WL.x (X.lenF (k := 0) Try.runUnderlying31 rfl rfl) (by decide) ?_
        refine WL.cond (X.lss rfl rfl) (by decide) (fun h5 => ?_) (fun h5 => ?_)
        · refine WL.nil ?_
          refine WK.nThen ?_
          refine WC.condT rfl ?_
          refine WC.skip ?_
          refine WK.nThen ?_
          refine WC.seq ?_
          refine WC.block ?_
          refine WC.seq ?_
          refine WC.region ?_
          refine WL.x (X.assign rfl) (by decide) ?_
          refine WL.nil ?_
          refine WK.nThen ?_
          refine WC.block ?_
          refine WC.loop (G := Nat × List Int) (fun (i, L3) => l.length - i) (fun (i, L3) => m) (fun (i, L3) => [rowF (v1) 3 (L3)]) (fun (i, L3) => [(0, vd), (1, vt), (2, .int .i64 (↑b)), (7, v1), (9, .int .i64 (↑r)), (10, .int .i64 (↑i))]) (fun (i, L3) => HA w l b L3 ∧ HC w l b r L3 ∧ HD w l b r i 0 L3 ∧ i ≤ l.length) ((0, L2)) rfl (.refl _) (.cons rfl (.cons rfl (.cons rfl (.cons rfl (.cons rfl (.cons rfl .nil)))))) ?_ ?_
          · exact ⟨hA2, hC2, HD.zero, Nat.zero_le _⟩
          · rintro ⟨i, L3⟩ hF6
            show WK _ _ m [rowF (v1) 3 (L3)] [(0, vd), (1, vt), (2, .int .i64 (↑b)), (7, v1), (9, .int .i64 (↑r)), (10, .int .i64 (↑i))] _
            replace hF6 : HA w l b L3 ∧ HC w l b r L3 ∧ HD w l b r i 0 L3 ∧ i ≤ l.length := hF6
            obtain ⟨hA3, hC3, hD3, hi⟩ := hF6
            refine WC.seq ?_
            refine WC.seq ?_
            have hl3 := hA3.1
            refine WC.region ?_
            refine WL.x (X.move rfl) (by decide) ?_
            refine WL.x (X.move rfl) (by decide) ?_
            refine WL.x (X.lenF (k := 0) Try.runUnderlying31 rfl rfl) (by decide) ?_
            refine WL.cond (X.lss rfl rfl) (by decide) (fun h7 => ?_) (fun h7 => ?_)
            · refine WL.nil ?_
              refine WK.nThen ?_
              refine WC.condT rfl ?_
              refine WC.skip ?_
              refine WK.nThen ?_
              refine WC.seq ?_
              refine WC.block ?_
              refine WC.seq ?_
              refine WC.region ?_
              refine WL.x (X.assign rfl) (by decide) ?_
              refine WL.nil ?_
              refine WK.nThen ?_
              refine WC.block ?_
              refine WC.loop (G := Nat × List Int) (fun (k, L4) => l.length - k) (fun (k, L4) => m) (fun (k, L4) => [rowF (v1) 3 (L4)]) (fun (k, L4) => [(0, vd), (1, vt), (2, .int .i64 (↑b)), (7, v1), (9, .int .i64 (↑r)), (10, .int .i64 (↑i)), (11, .int .i64 (↑k))]) (fun (k, L4) => HA w l b L4 ∧ HC w l b r L4 ∧ HD w l b r i k L4 ∧ k ≤ l.length) ((0, L3)) rfl (.refl _) (.cons rfl (.cons rfl (.cons rfl (.cons rfl (.cons rfl (.cons rfl (.cons rfl .nil))))))) ?_ ?_
              · exact ⟨hA3, hC3, hD3, Nat.zero_le _⟩
              · rintro ⟨k, L4⟩ hF8
                show WK _ _ m [rowF (v1) 3 (L4)] [(0, vd), (1, vt), (2, .int .i64 (↑b)), (7, v1), (9, .int .i64 (↑r)), (10, .int .i64 (↑i)), (11, .int .i64 (↑k))] _
                replace hF8 : HA w l b L4 ∧ HC w l b r L4 ∧ HD w l b r i k L4 ∧ k ≤ l.length := hF8
                obtain ⟨hA4, hC4, hD4, hk⟩ := hF8
                refine WC.seq ?_
                refine WC.seq ?_
                have hl4 := hA4.1
                refine WC.region ?_
                refine WL.x (X.move rfl) (by decide) ?_
                refine WL.x (X.move rfl) (by decide) ?_
                refine WL.x (X.lenF (k := 0) Try.runUnderlying31 rfl rfl) (by decide) ?_
                refine WL.cond (X.lss rfl rfl) (by decide) (fun h9 => ?_) (fun h9 => ?_)
                · refine WL.nil ?_
                  refine WK.nThen ?_
                  refine WC.condT rfl ?_
                  refine WC.skip ?_
                  refine WK.nThen ?_
                  refine WC.seq ?_
                  refine WC.block ?_
                  refine WC.seq ?_
                  have hl4 := hA4.1
                  have q1 := boundsL_row (w := w) (l := l) (i := i) (by omega)
                  have q2 := tightL_row (w := w) (l := l) (i := i) (by omega)
                  have q3 := tightL_row (w := w) (l := l) (i := k) (by omega)
                  have p1 := boundsL_at (w := w) (l := l) (i := i) (k := k) (by omega) (by omega)
                  have p2 := tightL_at (w := w) (l := l) (i := k) (k := b) (by omega) (by omega)
                  have p3 := tightL_at (w := w) (l := l) (i := i) (k := b) (by omega) (by omega)
                  have z1 := boundM_bd hw0 i k (by omega) (by omega)
                  have z2 := tightM_bd hw0 k b (by omega) (by omega)
                  have y1 := (hA4.2 i (by omega)).1
                  have y2 := (hA4.2 k (by omega)).1
                  have y3 := (hA4.2 i (by omega)).2.1
                  have y4 := (hA4.2 k (by omega)).2.1
                  refine WC.draw (π := (.cons 0 (.cons 1 (.cons 2 (.cons 3 (.cons 4 (.cons 5 (.cons 6 (.cons 7 (.cons 8 (.cons 9 (.cons 10 (.cons 11 (.cons 12 (.cons 13 (.cons 14 (.cons 15 (.cons 16 (.cons 17 (.cons 18 (.cons 19 (.cons 20 (.cons 21 (.cons 22 (.cons 23 (.cons 24 (.cons 25 (.cons 26 (.cons 27 (.cons 28 (.cons 29 (.cons 30 (.cons 31 (.cons 32 .done)))))))))))))))))))))))))))))))))) [] [] rfl (by kernel_rfl) ?_
                  refine DW.x rfl rfl (X.move rfl) (by decide) ?_
                  refine DW.x rfl rfl (X.move rfl) (by decide) ?_
                  refine DW.condn rfl rfl (X.neq rfl rfl) (by decide) (fun h10 => ?_) (fun h10 => ?_)
                  · refine DW.x rfl rfl (X.move rfl) (by decide) ?_
                    refine DW.x rfl rfl (X.move rfl) (by decide) ?_
                    refine DW.x rfl rfl (X.move rfl) (by decide) ?_
                    refine DW.condn rfl rfl (X.neq rfl rfl) (by decide) (fun h11 => ?_) (fun h11 => ?_)
                    · refine DW.x rfl rfl (X.pickT rfl rfl rfl) (by decide) ?_
                      refine DW.x rfl rfl (X.move rfl) (by decide) ?_
                      refine DW.x rfl rfl (X.move rfl) (by decide) ?_
                      refine DW.x rfl rfl (X.move rfl) (by decide) ?_
                      refine DW.xe rfl rfl (E.idxN i Try.runUnderlying27 Try.sizeOf31 rfl rfl hd (by omega)) (by decide) (fun p12 hp13 => ?_)
                      refine DW.xe rfl rfl (E.loadSl Try.isAgg31 rfl hp13) (by decide) (fun v14 hs15 => ?_)
                      have hl16 := hs15.le
                      refine DW.x rfl rfl (X.move rfl) (by decide) ?_
                      refine DW.xe rfl rfl (E.idxN k Try.runUnderlying31 Try.sizeOf3 rfl rfl hs15 (by omega)) (by decide) (fun p17 hp18 => ?_)
                      refine DW.x rfl rfl (X.loadInt Try.isAgg3 rfl hp18) (by decide) ?_
                      refine DW.x rfl rfl (X.move rfl) (by decide) ?_
                      refine DW.x rfl rfl (X.move rfl) (by decide) ?_
                      refine DW.xe rfl rfl (E.idxN k Try.runUnderlying27 Try.sizeOf31 rfl rfl ht (by omega)) (by decide) (fun p19 hp20 => ?_)
                      refine DW.xe rfl rfl (E.loadSl Try.isAgg31 rfl hp20) (by decide) (fun v21 hs22 => ?_)
                      have hl23 := hs22.le
                      refine DW.x rfl rfl (X.move rfl) (by decide) ?_
                      refine DW.xe rfl rfl (E.idxN b Try.runUnderlying31 Try.sizeOf3 rfl rfl hs22 (by omega)) (by decide) (fun p24 hp25 => ?_)
                      refine DW.x rfl rfl (X.loadInt Try.isAgg3 rfl hp25) (by decide) ?_
                      refine DW.x rfl rfl (X.add rfl rfl (by omega) (by omega)) (by decide) ?_
                      refine DW.x rfl rfl (X.move rfl) (by decide) ?_
                      refine DW.x rfl rfl (X.move rfl) (by decide) ?_
                      refine DW.xe rfl rfl (E.idxN i Try.runUnderlying27 Try.sizeOf31 rfl rfl ht (by omega)) (by decide) (fun p26 hp27 => ?_)
                      refine DW.xe rfl rfl (E.loadSl Try.isAgg31 rfl hp27) (by decide) (fun v28 hs29 => ?_)
                      have hl30 := hs29.le
                      refine DW.x rfl rfl (X.move rfl) (by decide) ?_
                      refine DW.xe rfl rfl (E.idxN b Try.runUnderlying31 Try.sizeOf3 rfl rfl hs29 (by omega)) (by decide) (fun p31 hp32 => ?_)
                      refine DW.x rfl rfl (X.loadInt Try.isAgg3 rfl hp32) (by decide) ?_
                      refine DW.cond rfl rfl (X.eql rfl rfl) (by decide) (fun h33 => ?_) (fun h33 => ?_)
                      · refine DW.x rfl rfl (X.pickT rfl rfl rfl) (by decide) ?_
                        refine DW.nil ?_
                        refine WK.nThen ?_
                        refine WC.condT rfl ?_
                        refine WC.draw (π := (.cons 0 (.cons 1 (.cons 2 (.cons 3 (.cons 4 (.cons 5 (.cons 6 (.cons 7 (.cons 8 (.cons 9 (.cons 10 (.cons 11 (.cons 12 (.cons 13 .done))))))))))))))) [13] [13] rfl (by kernel_rfl) ?_
                        refine DW.x rfl rfl (X.move rfl) (by decide) ?_
                        refine DW.x rfl rfl (X.move rfl) (by decide) ?_
                        refine DW.x rfl rfl (X.move rfl) (by decide) ?_
                        refine DW.x rfl rfl (X.move rfl) (by decide) ?_
                        refine DW.x rfl rfl (X.idxI (k := 0) Try.runUnderlying31 Try.sizeOf3 rfl rfl rfl (by first | omega | (simp; omega) | simp) (by first | omega | (simp; omega) | simp)) (by decide) ?_
                        refine DW.x rfl rfl (X.loadI (k := 0) (i := i) Try.isAgg3 rfl rfl (by first | omega | (simp; omega) | simp)) (by decide) ?_
                        refine DW.x rfl rfl (X.move rfl) (by decide) ?_
                        refine DW.x rfl rfl (X.move rfl) (by decide) ?_
                        refine DW.x rfl rfl (X.idxI (k := 0) Try.runUnderlying31 Try.sizeOf3 rfl rfl rfl (by first | omega | (simp; omega) | simp) (by first | omega | (simp; omega) | simp)) (by decide) ?_
                        refine DW.x rfl rfl (X.loadI (k := 0) (i := k) Try.isAgg3 rfl rfl (by first | omega | (simp; omega) | simp)) (by decide) ?_
                        refine DW.x rfl rfl (X.add rfl rfl (by omega) (by omega)) (by decide) ?_
                        refine DW.x rfl rfl (X.mn rfl rfl) (by decide) ?_
                        refine DW.x rfl rfl (X.idxI (k := 0) Try.runUnderlying31 Try.sizeOf3 rfl rfl rfl (by first | omega | (simp; omega) | simp) (by first | omega | (simp; omega) | simp)) (by decide) ?_
                        refine DW.ts rfl rfl rfl rfl (T.storeI (k := 0) (i := i) Try.sizeOf3 rfl rfl rfl (by first | omega | (simp; omega) | simp)) ?_
                        refine DW.nil ?_
                        refine WK.nBlock ?_
                        refine WK.nThen ?_
                        refine WC.region ?_
                        refine WL.x (X.move rfl) (by decide) ?_
                        refine WL.x (X.add rfl rfl (by omega) (by omega)) (by decide) ?_
                        refine WL.x (X.assign rfl) (by decide) ?_
                        refine WL.nil ?_
                        refine WK.nThen ?_
                        refine WK.next ((k + 1, L4.set i (min (gt L4 i) (1 + (gt L4 k))))) rfl (.refl _) (.cons rfl (.cons rfl (.cons rfl (.cons rfl (.cons rfl (.cons rfl (.cons rfl .nil))))))) ?_ ?_
                        · have hst := hop_step hA4 hC4 hD4 (i := i) (k := k) (by omega) (by omega) (by omega) ⟨by omega, by omega⟩ rfl
                          exact ⟨hst.1, hst.2.1, hst.2.2, by omega⟩
                        · (dsimp only; omega)
                      · refine DW.x rfl rfl (X.pickT rfl rfl rfl) (by decide) ?_
                        refine DW.nil ?_
                        refine WK.nThen ?_
                        refine WC.condF rfl ?_
                        refine WC.skip ?_
                        refine WK.nBlock ?_
                        refine WK.nThen ?_
                        refine WC.region ?_
                        refine WL.x (X.move rfl) (by decide) ?_
                        refine WL.x (X.add rfl rfl (by omega) (by omega)) (by decide) ?_
                        refine WL.x (X.assign rfl) (by decide) ?_
                        refine WL.nil ?_
                        refine WK.nThen ?_
                        refine WK.next ((k + 1, L4)) rfl (.refl _) (.cons rfl (.cons rfl (.cons rfl (.cons rfl (.cons rfl (.cons rfl (.cons rfl .nil))))))) ?_ ?_
                        · exact ⟨hA4, hC4, hD4.skip (fun hx => by have h1 := hx.1; have h2 := hx.2.1; have h3 := hx.2.2; omega), by omega⟩
                        · (dsimp only; omega)
                    · refine DW.x rfl rfl (X.pickT rfl rfl rfl) (by decide) ?_
                      refine DW.x rfl rfl (X.move rfl) (by decide) ?_
                      refine DW.no rfl rfl (by decide) ?_
                      refine DW.no rfl rfl (by decide) ?_
                      refine DW.no rfl rfl (by decide) ?_
                      refine DW.no rfl rfl (by decide) ?_
                      refine DW.no rfl rfl (by decide) ?_
                      refine DW.no rfl rfl (by decide) ?_
                      refine DW.no rfl rfl (by decide) ?_
                      refine DW.no rfl rfl (by decide) ?_
                      refine DW.no rfl rfl (by decide) ?_
                      refine DW.no rfl rfl (by decide) ?_
                      refine DW.no rfl rfl (by decide) ?_
                      refine DW.no rfl rfl (by decide) ?_
                      refine DW.no rfl rfl (by decide) ?_
                      refine DW.no rfl rfl (by decide) ?_
                      refine DW.no rfl rfl (by decide) ?_
                      refine DW.no rfl rfl (by decide) ?_
                      refine DW.no rfl rfl (by decide) ?_
                      refine DW.no rfl rfl (by decide) ?_
                      refine DW.no rfl rfl (by decide) ?_
                      refine DW.no rfl rfl (by decide) ?_
                      refine DW.no rfl rfl (by decide) ?_
                      refine DW.no rfl rfl (by decide) ?_
                      refine DW.no rfl rfl (by decide) ?_
                      refine DW.x rfl rfl (X.pickF rfl rfl rfl) (by decide) ?_
                      refine DW.nil ?_
                      refine WK.nThen ?_
                      refine WC.condF rfl ?_
                      refine WC.skip ?_
                      refine WK.nBlock ?_
                      refine WK.nThen ?_
                      refine WC.region ?_
                      refine WL.x (X.move rfl) (by decide) ?_
                      refine WL.x (X.add rfl rfl (by omega) (by omega)) (by decide) ?_
                      refine WL.x (X.assign rfl) (by decide) ?_
                      refine WL.nil ?_
                      refine WK.nThen ?_
                      refine WK.next ((k + 1, L4)) rfl (.refl _) (.cons rfl (.cons rfl (.cons rfl (.cons rfl (.cons rfl (.cons rfl (.cons rfl .nil))))))) ?_ ?_
                      · exact ⟨hA4, hC4, hD4.skip (fun hx => by have h1 := hx.1; have h2 := hx.2.1; have h3 := hx.2.2; omega), by omega⟩
                      · (dsimp only; omega)
                  · refine DW.x rfl rfl (X.move rfl) (by decide) ?_
                    refine DW.no rfl rfl (by decide) ?_
                    refine DW.no rfl rfl (by decide) ?_
                    refine DW.no rfl rfl (by decide) ?_
                    refine DW.x rfl rfl (X.pickF rfl rfl rfl) (by decide) ?_
                    refine DW.x rfl rfl (X.move rfl) (by decide) ?_
                    refine DW.no rfl rfl (by decide) ?_
                    refine DW.no rfl rfl (by decide) ?_
                    refine DW.no rfl rfl (by decide) ?_
                    refine DW.no rfl rfl (by decide) ?_
                    refine DW.no rfl rfl (by decide) ?_
                    refine DW.no rfl rfl (by decide) ?_
                    refine DW.no rfl rfl (by decide) ?_
                    refine DW.no rfl rfl (by decide) ?_
                    refine DW.no rfl rfl (by decide) ?_
                    refine DW.no rfl rfl (by decide) ?_
                    refine DW.no rfl rfl (by decide) ?_
                    refine DW.no rfl rfl (by decide) ?_
                    refine DW.no rfl rfl (by decide) ?_
                    refine DW.no rfl rfl (by decide) ?_
                    refine DW.no rfl rfl (by decide) ?_
                    refine DW.no rfl rfl (by decide) ?_
                    refine DW.no rfl rfl (by decide) ?_
                    refine DW.no rfl rfl (by decide) ?_
                    refine DW.no rfl rfl (by decide) ?_
                    refine DW.no rfl rfl (by decide) ?_
                    refine DW.no rfl rfl (by decide) ?_
                    refine DW.no rfl rfl (by decide) ?_
                    refine DW.no rfl rfl (by decide) ?_
                    refine DW.x rfl rfl (X.pickF rfl rfl rfl) (by decide) ?_
                    refine DW.nil ?_
                    refine WK.nThen ?_
                    refine WC.condF rfl ?_
                    refine WC.skip ?_
                    refine WK.nBlock ?_
                    refine WK.nThen ?_
                    refine WC.region ?_
                    refine WL.x (X.move rfl) (by decide) ?_
                    refine WL.x (X.add rfl rfl (by omega) (by omega)) (by decide) ?_
                    refine WL.x (X.assign rfl) (by decide) ?_
                    refine WL.nil ?_
                    refine WK.nThen ?_
                    refine WK.next ((k + 1, L4)) rfl (.refl _) (.cons rfl (.cons rfl (.cons rfl (.cons rfl (.cons rfl (.cons rfl (.cons rfl .nil))))))) ?_ ?_
                    · exact ⟨hA4, hC4, hD4.skip (fun hx => by have h1 := hx.1; have h2 := hx.2.1; have h3 := hx.2.2; omega), by omega⟩
                    · (dsimp only; omega)
                · refine WL.nil ?_
                  refine WK.nThen ?_
                  refine WC.condF rfl ?_
                  refine WC.exit ?_
                  refine WK.eThen ?_
                  refine WK.eThen ?_
                  refine WK.eHit ?_
                  refine WK.nBlock ?_
                  refine WK.nThen ?_
                  refine WC.region ?_
                  refine WL.x (X.move rfl) (by decide) ?_
                  refine WL.x (X.add rfl rfl (by omega) (by omega)) (by decide) ?_
                  refine WL.x (X.assign rfl) (by decide) ?_
                  refine WL.nil ?_
                  refine WK.nThen ?_
                  refine WK.next ((i + 1, L4)) rfl (.refl _) (.cons rfl (.cons rfl (.cons rfl (.cons rfl (.cons rfl (.cons rfl .nil)))))) ?_ ?_
                  · exact ⟨hA4, hC4, hD4.row hC4 hb (by omega) (by omega), by omega⟩
                  · (dsimp only; omega)
            · refine WL.nil ?_
              refine WK.nThen ?_
              refine WC.condF rfl ?_
              refine WC.exit ?_
              refine WK.eThen ?_
              refine WK.eThen ?_
              refine WK.eHit ?_
              refine WK.nBlock ?_
              refine WK.nThen ?_
              refine WC.region ?_
              refine WL.x (X.move rfl) (by decide) ?_
              refine WL.x (X.add rfl rfl (by omega) (by omega)) (by decide) ?_
              refine WL.x (X.assign rfl) (by decide) ?_
              refine WL.nil ?_
              refine WK.nThen ?_
              refine WK.next ((r + 1, L3)) rfl (.refl _) (.cons rfl (.cons rfl (.cons rfl (.cons rfl (.cons rfl .nil))))) ?_ ?_
              · exact ⟨hA3, hD3.fin (by omega), by omega⟩
              · (dsimp only; omega)
        · refine WL.nil ?_
          refine WK.nThen ?_
          refine WC.condF rfl ?_
          refine WC.exit ?_
          refine WK.eThen ?_
          refine WK.eThen ?_
          refine WK.eHit ?_
          refine WK.nThen ?_
          refine WC.seq ?_
          refine WC.region ?_
          refine WL.x (X.move rfl) (by decide) ?_
          refine WL.x (X.assign rfl) (by decide) ?_
          refine WL.nil ?_
          refine WK.nThen ?_
          refine WC.ret ?_
          refine WK.freezeF 0 rfl rfl (by simp [lenB]; omega) (fun m34 hle35 hs36 => ?_)
          replace hd := hd.mono hle35
          replace ht := ht.mono hle35
          refine WK.ret1 rfl rfl (fun w' hw' => Ret.mem hw' ?_)
          rw [← hops_end hw0 hb hA2 (show HC w l b l.length L2 from (show r = l.length by omega) ▸ hC2)]; exact hs36

set_option maxHeartbeats 4000000 in
theorem way22 (m : Mem) (cw : List Value) (w : Wind) (hw : Enc.rd m cw w) (vl : Value) (l : List Station) (hl : Sl m vl l) (a : Int) (b : Int)   : Pure Try.prog 22 #[.agg cw.toArray, vl, .int .i64 (a), .int .i64 (b)] m (fun m' v => ∃ r0, v = .tuple #[r0, .int .i64 ((wayR w l a b).2)] ∧ Sl m' r0 ((wayR w l a b).1)) := by
  obtain rfl := hw
  have ll := hl.le
  refine Pure.start Try.func22 rfl Try.ntmps22 rfl fun wld => ?_
  refine WC.seq ?_
  refine WC.region ?_
  refine WL.tn (T.boxB rfl rfl) (by decide) fun b1 => ?_
  refine WL.x (X.assign rfl) (by decide) ?_
  refine WL.x (X.assign rfl) (by decide) ?_
  refine WL.nil ?_
  refine WK.nThen ?_
  refine WC.seq ?_
  refine WC.region ?_
  refine WL.x (X.loadBA (k := 0) Try.isAgg23 Try.sizeOf23 rfl rfl rfl) (by decide) ?_
  refine WL.x (X.move rfl) (by decide) ?_
  refine WL.x (X.call Try.call63 rfl (winded63 _ _ w rfl _ _ hl )) (by decide) ?_
  refine WL.x (X.assign rfl) (by decide) ?_
  refine WL.nil ?_
  refine WK.nThen ?_
  refine WC.seq ?_
  refine WC.seq ?_
  refine WC.region ?_
  refine WL.x (X.move rfl) (by decide) ?_
  refine WL.condn (X.neq rfl rfl) (by decide) (fun h2 => ?_) (fun h2 => ?_)
  · refine WL.nil ?_
    refine WK.nThen ?_
    refine WC.condT rfl ?_
    refine WC.seq ?_
    refine WC.region ?_
    refine WL.x (X.move rfl) (by decide) ?_
    refine WL.x (X.assign rfl) (by decide) ?_
    refine WL.x (X.assign rfl) (by decide) ?_
    refine WL.nil ?_
    refine WK.nThen ?_
    refine WC.ret ?_
    refine WK.rThen ?_
    refine WK.ret2 rfl rfl rfl (fun w' hw' => Ret.mem hw' ?_)
    first | exact ⟨_, tup2 rfl (int_eq (by rw [wayR_err (by assumption)])), by rw [wayR_err (by assumption)]; exact .nil⟩ | exact ⟨_, tup2 rfl (int_eq (by rw [wayR_arg (by omega) (by omega)])), by rw [wayR_arg (by omega) (by omega)]; exact .nil⟩
  · refine WL.nil ?_
    refine WK.nThen ?_
    refine WC.condF rfl ?_
    refine WC.skip ?_
    refine WK.nThen ?_
    refine WC.seq ?_
    refine WC.seq ?_
    refine WC.region ?_
    refine WL.x (X.move rfl) (by decide) ?_
    refine WL.x (X.move rfl) (by decide) ?_
    refine WL.x (X.len Try.runUnderlying24 rfl hl) (by decide) ?_
    refine WL.x (X.sub rfl rfl (by omega) (by omega)) (by decide) ?_
    refine WL.cond (X.call Try.call67 rfl (within67 _ _ _ _ )) (by decide) (fun h3 => ?_) (fun h3 => ?_)
    · refine WL.x (X.not rfl) (by decide) ?_
      refine WL.x (X.move rfl) (by decide) ?_
      refine WL.yes rfl rfl ?_
      refine WL.x (X.move rfl) (by decide) ?_
      refine WL.yes rfl rfl ?_
      refine WL.x (X.move rfl) (by decide) ?_
      refine WL.yes rfl rfl ?_
      refine WL.x (X.len Try.runUnderlying24 rfl hl) (by decide) ?_
      refine WL.yes rfl rfl ?_
      refine WL.x (X.sub rfl rfl (by omega) (by omega)) (by decide) ?_
      refine WL.yes rfl rfl ?_
      refine WL.cond (X.call Try.call67 rfl (within67 _ _ _ _ )) (by decide) (fun h4 => ?_) (fun h4 => ?_)
      · refine WL.yes rfl rfl ?_
        refine WL.x (X.not rfl) (by decide) ?_
        refine WL.x (X.pickF rfl rfl rfl) (by decide) ?_
        refine WL.nil ?_
        refine WK.nThen ?_
        refine WC.condF rfl ?_
        refine WC.skip ?_
        refine WK.nThen ?_
        refine WC.seq ?_
        have hw0 : windedE w l = 0 := (by omega)
        have hz := windedE_zero hw0
        have hl32 := (checkS_zero (l := l) hz.1).1
        obtain ⟨na, hna⟩ : ∃ na : Nat, a = na := ⟨a.toNat, by omega⟩
        obtain ⟨nb, hnb⟩ : ∃ nb : Nat, b = nb := ⟨b.toNat, by omega⟩
        subst hna
        subst hnb
        have hbl := boundsL_len w l
        have htl := tightL_len w l
        have hhl := hopsL_len w l nb
        refine WC.region ?_
        refine WL.x (X.loadBA (k := 0) Try.isAgg23 Try.sizeOf23 rfl rfl rfl) (by decide) ?_
        refine WL.x (X.move rfl) (by decide) ?_
        refine WL.tM (T.callO Try.call68 rfl (bounds68 _ w _ _ hl hw0)) (by decide) (fun m5 _ v6 hle8 hR9 => ?_)
        obtain ⟨vs7, hvs10, rfl⟩ := hR9
        replace hl := hl.mono hle8
        refine WL.perm (([row (v6) 31 1 (vs7).length (vs7), blk b1 23 [.int .i64 (w.Fixed), .int .i64 (w.Each)]] ++ rowsOf 3 (vs7) (boundsL w l))) (perm_own _ _ _) ?_
        refine WL.freezeRows rfl (by rw [hvs10]; exact (sqL_mat _ _).1.symm) (by rw [hvs10]; exact (sqL_mat _ _).1.symm) (fun L hL => sqL_len (by omega) hL) (by have hq := (sqL_mat l.length (boundM w l)).1; unfold boundsL lenB; omega) (fun m11 hle12 hs13 => ?_)
        replace hl := hl.mono hle12
        refine WL.x (X.assign rfl) (by decide) ?_
        refine WL.nil ?_
        refine WK.nThen ?_
        refine WC.seq ?_
        refine WC.region ?_
        refine WL.x (X.loadBA (k := 0) Try.isAgg23 Try.sizeOf23 rfl rfl rfl) (by decide) ?_
        refine WL.x (X.move rfl) (by decide) ?_
        refine WL.tm (T.call Try.call64 rfl (tight64 _ _ w rfl _ _ hl (by assumption))) (by decide) fun m14 r15 hle16 hR17 => ?_
        obtain ⟨v18, hv_, hs19⟩ := hR17
        rw [← hv_] at hs19
        clear hv_ v18
        replace hl := hl.mono hle16
        replace hs13 := hs13.mono hle16
        have hl20 := hs19.le
        refine WL.x (X.assign rfl) (by decide) ?_
        refine WL.nil ?_
        refine WK.nThen ?_
        refine WC.seq ?_
        refine WC.region ?_
        refine WL.x (X.move rfl) (by decide) ?_
        refine WL.x (X.move rfl) (by decide) ?_
        refine WL.x (X.move rfl) (by decide) ?_
        refine WL.tm (T.call Try.call69 rfl (hops69 _ w l _ _ hs13 hs19 nb (by omega) hw0)) (by decide) fun m21 v22 hle23 hs24 => ?_
        replace hl := hl.mono hle23
        replace hs13 := hs13.mono hle23
        replace hs19 := hs19.mono hle23
        refine WL.x (X.assign rfl) (by decide) ?_
        refine WL.nil ?_
        refine WK.nThen ?_
        refine WC.seq ?_
        refine WC.region ?_
        refine WL.x (X.move rfl) (by decide) ?_
        refine WL.ta (T.litF (vals := [.int .i64 (↑na)]) (L := [(↑na : Int)]) sl31 rfl rfl (by intro v hv; simp at hv; subst hv; rfl) rfl rfl rfl) (by decide) (fun v25 => ?_)
        refine WL.x (X.assign rfl) (by decide) ?_
        refine WL.nil ?_
        refine WK.nThen ?_
        refine WC.seq ?_
        refine WC.region ?_
        refine WL.x (X.move rfl) (by decide) ?_
        refine WL.x (X.assign rfl) (by decide) ?_
        refine WL.nil ?_
        refine WK.nThen ?_
        refine WC.seq ?_
        refine WC.block ?_
        refine WC.loop (G := Nat × Value × List Int) (fun (c, vo, W) => hS w l nb c) (fun (c, vo, W) => m21) (fun (c, vo, W) => [rowF (vo) 3 (W), blk b1 23 [.int .i64 (w.Fixed), .int .i64 (w.Each)]]) (fun (c, vo, W) => [(3, .int .i64 (↑nb)), (11, v6), (12, r15), (13, v22), (14, vo), (15, .int .i64 (↑c))]) (fun (c, vo, W) => c < l.length ∧ W ++ pathS w l nb (hS w l nb c) c = (na : Int) :: pathS w l nb (hS w l nb na) na ∧ W.length ≤ 64) ((na, v25, [(↑na : Int)])) rfl (.refl _) (.cons rfl (.cons rfl (.cons rfl (.cons rfl (.cons rfl (.cons rfl .nil)))))) ?_ ?_
        · exact ⟨by omega, rfl, by simp⟩
        · rintro ⟨c, vo, W⟩ hF26
          show WK _ _ m21 [rowF (vo) 3 (W), blk b1 23 [.int .i64 (w.Fixed), .int .i64 (w.Each)]] [(3, .int .i64 (↑nb)), (11, v6), (12, r15), (13, v22), (14, vo), (15, .int .i64 (↑c))] _
          replace hF26 : c < l.length ∧ W ++ pathS w l nb (hS w l nb c) c = (na : Int) :: pathS w l nb (hS w l nb na) na ∧ W.length ≤ 64 := hF26
          obtain ⟨hc, hW, hWl⟩ := hF26
          refine WC.seq ?_
          refine WC.seq ?_
          refine WC.region ?_
          refine WL.x (X.move rfl) (by decide) ?_
          refine WL.x (X.move rfl) (by decide) ?_
          refine WL.condn (X.neq rfl rfl) (by decide) (fun h27 => ?_) (fun h27 => ?_)
          · refine WL.nil ?_
            refine WK.nThen ?_
            refine WC.condT rfl ?_
            refine WC.skip ?_
            refine WK.nThen ?_
            refine WC.block ?_
            refine WC.seq ?_
            obtain ⟨mm, K, hK0, hKl, hK1, hKe, hKn, hKp⟩ := hop_first hw0 (b := nb) (i := c) (by omega) (by omega) (by omega)
            have hcl := (hS_hop hw0 (b := nb) (i := c) (by omega) (by omega)).1
            refine WC.region ?_
            refine WL.x (X.assign rfl) (by decide) ?_
            refine WL.nil ?_
            refine WK.nThen ?_
            refine WC.seq ?_
            refine WC.block ?_
            refine WC.loop (G := Nat) (fun k => K - k) (fun k => m21) (fun k => [rowF (vo) 3 (W), blk b1 23 [.int .i64 (w.Fixed), .int .i64 (w.Each)]]) (fun k => [(3, .int .i64 (↑nb)), (11, v6), (12, r15), (13, v22), (14, vo), (15, .int .i64 (↑c)), (16, .int .i64 (↑k))]) (fun k => k ≤ K) 0 rfl (.refl _) (.cons rfl (.cons rfl (.cons rfl (.cons rfl (.cons rfl (.cons rfl (.cons rfl .nil))))))) ?_ ?_
            · exact Nat.zero_le _
            · rintro k hF28
              show WK _ _ m21 [rowF (vo) 3 (W), blk b1 23 [.int .i64 (w.Fixed), .int .i64 (w.Each)]] [(3, .int .i64 (↑nb)), (11, v6), (12, r15), (13, v22), (14, vo), (15, .int .i64 (↑c)), (16, .int .i64 (↑k))] _
              replace hF28 : k ≤ K := hF28
              have hk := hF28
              refine WC.seq ?_
              refine WC.seq ?_
              have q1 := boundsL_row (w := w) (l := l) (i := c) (by omega)
              have q2 := tightL_row (w := w) (l := l) (i := k) (by omega)
              have q3 := tightL_row (w := w) (l := l) (i := c) (by omega)
              have p1 := boundsL_at (w := w) (l := l) (i := c) (k := k) (by omega) (by omega)
              have p2 := tightL_at (w := w) (l := l) (i := k) (k := nb) (by omega) (by omega)
              have p3 := tightL_at (w := w) (l := l) (i := c) (k := nb) (by omega) (by omega)
              have z1 := boundM_bd hw0 c k (by omega) (by omega)
              have z2 := tightM_bd hw0 k nb (by omega) (by omega)
              have y1 := hopsL_at (w := w) (l := l) (b := nb) (i := k) (by omega)
              have y2 := hopsL_at (w := w) (l := l) (b := nb) (i := c) (by omega)
              have y3 := (hS_hop hw0 (b := nb) (i := k) (by omega) (by omega)).1
              refine WC.draw (π := (.cons 0 (.cons 1 (.cons 2 (.cons 3 (.cons 4 (.cons 5 (.cons 6 (.cons 7 (.cons 8 (.cons 9 (.cons 10 (.cons 11 (.cons 12 (.cons 13 (.cons 14 (.cons 15 (.cons 16 (.cons 17 (.cons 18 (.cons 19 (.cons 20 (.cons 21 (.cons 22 (.cons 23 (.cons 24 (.cons 25 (.cons 26 (.cons 27 (.cons 28 (.cons 29 (.cons 30 (.cons 31 (.cons 32 (.cons 33 (.cons 34 (.cons 35 (.cons 36 (.cons 37 (.cons 38 (.cons 39 .done))))))))))))))))))))))))))))))))))))))))) [] [] rfl (by kernel_rfl) ?_
              refine DW.x rfl rfl (X.move rfl) (by decide) ?_
              refine DW.x rfl rfl (X.move rfl) (by decide) ?_
              refine DW.cond rfl rfl (X.eql rfl rfl) (by decide) (fun h29 => ?_) (fun h29 => ?_)
              · refine DW.x rfl rfl (X.move rfl) (by decide) ?_
                refine DW.no rfl rfl (by decide) ?_
                refine DW.no rfl rfl (by decide) ?_
                refine DW.no rfl rfl (by decide) ?_
                refine DW.no rfl rfl (by decide) ?_
                refine DW.no rfl rfl (by decide) ?_
                refine DW.no rfl rfl (by decide) ?_
                refine DW.no rfl rfl (by decide) ?_
                refine DW.no rfl rfl (by decide) ?_
                refine DW.no rfl rfl (by decide) ?_
                refine DW.no rfl rfl (by decide) ?_
                refine DW.no rfl rfl (by decide) ?_
                refine DW.no rfl rfl (by decide) ?_
                refine DW.no rfl rfl (by decide) ?_
                refine DW.no rfl rfl (by decide) ?_
                refine DW.no rfl rfl (by decide) ?_
                refine DW.no rfl rfl (by decide) ?_
                refine DW.no rfl rfl (by decide) ?_
                refine DW.no rfl rfl (by decide) ?_
                refine DW.no rfl rfl (by decide) ?_
                refine DW.no rfl rfl (by decide) ?_
                refine DW.no rfl rfl (by decide) ?_
                refine DW.no rfl rfl (by decide) ?_
                refine DW.no rfl rfl (by decide) ?_
                refine DW.x rfl rfl (X.pickT rfl rfl rfl) (by decide) ?_
                refine DW.x rfl rfl (X.move rfl) (by decide) ?_
                refine DW.no rfl rfl (by decide) ?_
                refine DW.no rfl rfl (by decide) ?_
                refine DW.no rfl rfl (by decide) ?_
                refine DW.no rfl rfl (by decide) ?_
                refine DW.no rfl rfl (by decide) ?_
                refine DW.no rfl rfl (by decide) ?_
                refine DW.no rfl rfl (by decide) ?_
                refine DW.no rfl rfl (by decide) ?_
                refine DW.no rfl rfl (by decide) ?_
                refine DW.no rfl rfl (by decide) ?_
                refine DW.x rfl rfl (X.pickT rfl rfl rfl) (by decide) ?_
                refine DW.nil ?_
                refine WK.nThen ?_
                refine WC.condT rfl ?_
                refine WC.skip ?_
                refine WK.nThen ?_
                refine WC.block ?_
                refine WC.region ?_
                refine WL.x (X.move rfl) (by decide) ?_
                refine WL.x (X.add rfl rfl (by omega) (by omega)) (by decide) ?_
                refine WL.x (X.assign rfl) (by decide) ?_
                refine WL.nil ?_
                refine WK.nBlock ?_
                refine WK.nThen ?_
                refine WK.next (k + 1) rfl (.refl _) (.cons rfl (.cons rfl (.cons rfl (.cons rfl (.cons rfl (.cons rfl (.cons rfl .nil))))))) ?_ ?_
                · have hne : k ≠ K := fun e => (by subst e; have h1 := hKe.1; have h2 := hKe.2; omega)
                  omega
                · (have hne : k ≠ K := fun e => (by subst e; have h1 := hKe.1; have h2 := hKe.2; omega)); omega
              · refine DW.x rfl rfl (X.move rfl) (by decide) ?_
                refine DW.x rfl rfl (X.move rfl) (by decide) ?_
                refine DW.x rfl rfl (X.move rfl) (by decide) ?_
                refine DW.xe rfl rfl (E.idxN c Try.runUnderlying27 Try.sizeOf31 rfl rfl hs13 (by omega)) (by decide) (fun p30 hp31 => ?_)
                refine DW.xe rfl rfl (E.loadSl Try.isAgg31 rfl hp31) (by decide) (fun v32 hs33 => ?_)
                have hl34 := hs33.le
                refine DW.x rfl rfl (X.move rfl) (by decide) ?_
                refine DW.xe rfl rfl (E.idxN k Try.runUnderlying31 Try.sizeOf3 rfl rfl hs33 (by omega)) (by decide) (fun p35 hp36 => ?_)
                refine DW.x rfl rfl (X.loadInt Try.isAgg3 rfl hp36) (by decide) ?_
                refine DW.x rfl rfl (X.move rfl) (by decide) ?_
                refine DW.x rfl rfl (X.move rfl) (by decide) ?_
                refine DW.xe rfl rfl (E.idxN k Try.runUnderlying27 Try.sizeOf31 rfl rfl hs19 (by omega)) (by decide) (fun p37 hp38 => ?_)
                refine DW.xe rfl rfl (E.loadSl Try.isAgg31 rfl hp38) (by decide) (fun v39 hs40 => ?_)
                have hl41 := hs40.le
                refine DW.x rfl rfl (X.move rfl) (by decide) ?_
                refine DW.xe rfl rfl (E.idxN nb Try.runUnderlying31 Try.sizeOf3 rfl rfl hs40 (by omega)) (by decide) (fun p42 hp43 => ?_)
                refine DW.x rfl rfl (X.loadInt Try.isAgg3 rfl hp43) (by decide) ?_
                refine DW.x rfl rfl (X.add rfl rfl (by omega) (by omega)) (by decide) ?_
                refine DW.x rfl rfl (X.move rfl) (by decide) ?_
                refine DW.x rfl rfl (X.move rfl) (by decide) ?_
                refine DW.xe rfl rfl (E.idxN c Try.runUnderlying27 Try.sizeOf31 rfl rfl hs19 (by omega)) (by decide) (fun p44 hp45 => ?_)
                refine DW.xe rfl rfl (E.loadSl Try.isAgg31 rfl hp45) (by decide) (fun v46 hs47 => ?_)
                have hl48 := hs47.le
                refine DW.x rfl rfl (X.move rfl) (by decide) ?_
                refine DW.xe rfl rfl (E.idxN nb Try.runUnderlying31 Try.sizeOf3 rfl rfl hs47 (by omega)) (by decide) (fun p49 hp50 => ?_)
                refine DW.x rfl rfl (X.loadInt Try.isAgg3 rfl hp50) (by decide) ?_
                refine DW.condn rfl rfl (X.neq rfl rfl) (by decide) (fun h51 => ?_) (fun h51 => ?_)
                · refine DW.x rfl rfl (X.pickF rfl rfl rfl) (by decide) ?_
                  refine DW.x rfl rfl (X.move rfl) (by decide) ?_
                  refine DW.no rfl rfl (by decide) ?_
                  refine DW.no rfl rfl (by decide) ?_
                  refine DW.no rfl rfl (by decide) ?_
                  refine DW.no rfl rfl (by decide) ?_
                  refine DW.no rfl rfl (by decide) ?_
                  refine DW.no rfl rfl (by decide) ?_
                  refine DW.no rfl rfl (by decide) ?_
                  refine DW.no rfl rfl (by decide) ?_
                  refine DW.no rfl rfl (by decide) ?_
                  refine DW.no rfl rfl (by decide) ?_
                  refine DW.x rfl rfl (X.pickT rfl rfl rfl) (by decide) ?_
                  refine DW.nil ?_
                  refine WK.nThen ?_
                  refine WC.condT rfl ?_
                  refine WC.skip ?_
                  refine WK.nThen ?_
                  refine WC.block ?_
                  refine WC.region ?_
                  refine WL.x (X.move rfl) (by decide) ?_
                  refine WL.x (X.add rfl rfl (by omega) (by omega)) (by decide) ?_
                  refine WL.x (X.assign rfl) (by decide) ?_
                  refine WL.nil ?_
                  refine WK.nBlock ?_
                  refine WK.nThen ?_
                  refine WK.next (k + 1) rfl (.refl _) (.cons rfl (.cons rfl (.cons rfl (.cons rfl (.cons rfl (.cons rfl (.cons rfl .nil))))))) ?_ ?_
                  · have hne : k ≠ K := fun e => (by subst e; have h1 := hKe.1; have h2 := hKe.2; omega)
                    omega
                  · (have hne : k ≠ K := fun e => (by subst e; have h1 := hKe.1; have h2 := hKe.2; omega)); omega
                · refine DW.x rfl rfl (X.pickF rfl rfl rfl) (by decide) ?_
                  refine DW.x rfl rfl (X.move rfl) (by decide) ?_
                  refine DW.x rfl rfl (X.move rfl) (by decide) ?_
                  refine DW.x rfl rfl (X.move rfl) (by decide) ?_
                  refine DW.xe rfl rfl (E.idxN k Try.runUnderlying31 Try.sizeOf3 rfl rfl hs24 (by omega)) (by decide) (fun p52 hp53 => ?_)
                  refine DW.x rfl rfl (X.loadInt Try.isAgg3 rfl hp53) (by decide) ?_
                  refine DW.x rfl rfl (X.add rfl rfl (by omega) (by omega)) (by decide) ?_
                  refine DW.x rfl rfl (X.move rfl) (by decide) ?_
                  refine DW.x rfl rfl (X.move rfl) (by decide) ?_
                  refine DW.xe rfl rfl (E.idxN c Try.runUnderlying31 Try.sizeOf3 rfl rfl hs24 (by omega)) (by decide) (fun p54 hp55 => ?_)
                  refine DW.x rfl rfl (X.loadInt Try.isAgg3 rfl hp55) (by decide) ?_
                  refine DW.condn rfl rfl (X.neq rfl rfl) (by decide) (fun h56 => ?_) (fun h56 => ?_)
                  · refine DW.x rfl rfl (X.pickF rfl rfl rfl) (by decide) ?_
                    refine DW.nil ?_
                    refine WK.nThen ?_
                    refine WC.condT rfl ?_
                    refine WC.skip ?_
                    refine WK.nThen ?_
                    refine WC.block ?_
                    refine WC.region ?_
                    refine WL.x (X.move rfl) (by decide) ?_
                    refine WL.x (X.add rfl rfl (by omega) (by omega)) (by decide) ?_
                    refine WL.x (X.assign rfl) (by decide) ?_
                    refine WL.nil ?_
                    refine WK.nBlock ?_
                    refine WK.nThen ?_
                    refine WK.next (k + 1) rfl (.refl _) (.cons rfl (.cons rfl (.cons rfl (.cons rfl (.cons rfl (.cons rfl (.cons rfl .nil))))))) ?_ ?_
                    · have hne : k ≠ K := fun e => (by subst e; have h1 := hKe.1; have h2 := hKe.2; omega)
                      omega
                    · (have hne : k ≠ K := fun e => (by subst e; have h1 := hKe.1; have h2 := hKe.2; omega)); omega
                  · refine DW.x rfl rfl (X.pickF rfl rfl rfl) (by decide) ?_
                    refine DW.nil ?_
                    refine WK.nThen ?_
                    refine WC.condF rfl ?_
                    refine WC.exit ?_
                    refine WK.eThen ?_
                    refine WK.eThen ?_
                    refine WK.eHit ?_
                    refine WK.nThen ?_
                    refine WC.seq ?_
                    obtain rfl : k = K := (by rcases Nat.lt_or_ge k K with h1 | h1; exact absurd ⟨⟨by omega, by omega⟩, by omega⟩ (hKn k h1); omega)
                    have hwl := hWl
                    refine WC.region ?_
                    refine WL.x (X.move rfl) (by decide) ?_
                    refine WL.x (X.move rfl) (by decide) ?_
                    refine WL.tl (T.lit1 sl31 rfl rfl rfl (by decide)) (by decide) fun b57 => ?_
                    refine WL.ta (T.appendF (k := 0) (a := (↑k : Int)) sl31 rfl rfl rfl rfl (by first | omega | (simp; omega)) (by decide)) (by decide) (fun v58 => ?_)
                    refine WL.x (X.assign rfl) (by decide) ?_
                    refine WL.nil ?_
                    refine WK.nThen ?_
                    refine WC.region ?_
                    refine WL.x (X.move rfl) (by decide) ?_
                    refine WL.x (X.assign rfl) (by decide) ?_
                    refine WL.nil ?_
                    refine WK.nBlock ?_
                    refine WK.nThen ?_
                    refine WK.next ((k, v58, W ++ [(↑k : Int)])) rfl (.refl _) (.cons rfl (.cons rfl (.cons rfl (.cons rfl (.cons rfl (.cons rfl .nil)))))) ?_ ?_
                    · exact ⟨by omega, by rw [hK1, hKp W, ← hK0]; exact hW, by have h1 := congrArg List.length hW; have h2 := pathS_len (w := w) (l := l) (b := nb) (hS w l nb c) c; have h3 := pathS_len (w := w) (l := l) (b := nb) (hS w l nb na) na; have h4 := (hS_hop hw0 (b := nb) (i := na) (by omega) (by omega)).1; rw [List.length_append, List.length_cons] at h1; rw [List.length_append, List.length_singleton]; omega⟩
                    · (dsimp only; omega)
          · refine WL.nil ?_
            refine WK.nThen ?_
            refine WC.condF rfl ?_
            refine WC.exit ?_
            refine WK.eThen ?_
            refine WK.eThen ?_
            refine WK.eHit ?_
            refine WK.nThen ?_
            refine WC.seq ?_
            have hc0 : c = nb := (by omega)
            have hW0 : W = (na : Int) :: pathS w l nb (hS w l nb na) na := (by rw [← hW, hc0, hS_eq (by omega) (hop_self w l nb)]; simp [pathS])
            have hop_len := congrArg List.length hW0
            have hpl := pathS_len (w := w) (l := l) (b := nb) (hS w l nb na) na
            have hnl := (hS_hop hw0 (b := nb) (i := na) (by omega) (by omega)).1
            rw [List.length_cons, hpl] at hop_len
            refine WC.region ?_
            refine WL.x (X.move rfl) (by decide) ?_
            refine WL.x (X.assign rfl) (by decide) ?_
            refine WL.x (X.assign rfl) (by decide) ?_
            refine WL.nil ?_
            refine WK.nThen ?_
            refine WC.ret ?_
            refine WK.freezeF 0 rfl rfl (by unfold lenB; omega) (fun m59 hle60 hs61 => ?_)
            replace hl := hl.mono hle60
            replace hs13 := hs13.mono hle60
            replace hs19 := hs19.mono hle60
            replace hs24 := hs24.mono hle60
            refine WK.ret2 rfl rfl rfl (fun w' hw' => Ret.mem hw' ?_)
            have hfin := (wayR_ok hw0 rfl rfl (by omega) (by omega) : wayR w l ↑na ↑nb = _)
            rw [wayL_hop hw0 (by omega) (by omega)] at hfin
            exact ⟨_, tup2 rfl (int_eq (by rw [hfin])), by rw [hfin]; exact hW0 ▸ hs61⟩
      · refine WL.yes rfl rfl ?_
        refine WL.x (X.not rfl) (by decide) ?_
        refine WL.x (X.pickF rfl rfl rfl) (by decide) ?_
        refine WL.nil ?_
        refine WK.nThen ?_
        refine WC.condT rfl ?_
        refine WC.seq ?_
        refine WC.region ?_
        refine WL.x (X.assign rfl) (by decide) ?_
        refine WL.x (X.assign rfl) (by decide) ?_
        refine WL.nil ?_
        refine WK.nThen ?_
        refine WC.ret ?_
        refine WK.rThen ?_
        refine WK.ret2 rfl rfl rfl (fun w' hw' => Ret.mem hw' ?_)
        first | exact ⟨_, tup2 rfl (int_eq (by rw [wayR_err (by assumption)])), by rw [wayR_err (by assumption)]; exact .nil⟩ | exact ⟨_, tup2 rfl (int_eq (by rw [wayR_arg (by omega) (by omega)])), by rw [wayR_arg (by omega) (by omega)]; exact .nil⟩
    · refine WL.x (X.not rfl) (by decide) ?_
      refine WL.x (X.move rfl) (by decide) ?_
      refine WL.no rfl rfl rfl (by decide) ?_
      refine WL.no rfl rfl rfl (by decide) ?_
      refine WL.no rfl rfl rfl (by decide) ?_
      refine WL.no rfl rfl rfl (by decide) ?_
      refine WL.no rfl rfl rfl (by decide) ?_
      refine WL.no rfl rfl rfl (by decide) ?_
      refine WL.x (X.pickT rfl rfl rfl) (by decide) ?_
      refine WL.nil ?_
      refine WK.nThen ?_
      refine WC.condT rfl ?_
      refine WC.seq ?_
      refine WC.region ?_
      refine WL.x (X.assign rfl) (by decide) ?_
      refine WL.x (X.assign rfl) (by decide) ?_
      refine WL.nil ?_
      refine WK.nThen ?_
      refine WC.ret ?_
      refine WK.rThen ?_
      refine WK.ret2 rfl rfl rfl (fun w' hw' => Ret.mem hw' ?_)
      first | exact ⟨_, tup2 rfl (int_eq (by rw [wayR_err (by assumption)])), by rw [wayR_err (by assumption)]; exact .nil⟩ | exact ⟨_, tup2 rfl (int_eq (by rw [wayR_arg (by omega) (by omega)])), by rw [wayR_arg (by omega) (by omega)]; exact .nil⟩

end Go.Proofs.S5
