/- Stations: walks, second part, by program. -/
import Derived.Test.YtcpecjgppbiplaaS5Spec2
import Derived.Test.YtcpecjgppbiplaaS5W
import Derived.Test.YtcpecjgppbiplaaKxK
namespace Go.Proofs.S5
open Go Go.Kx

theorem tighten99 (m : Mem) (b n : Nat) (L : List Int) (tl : List Value) (f : Nat → Nat → Int) (hM : Mat L f) (hn : n ≤ 32) (hB : InB n 1000000000 f) : Mut Try.prog 99 #[.pointer (some ⟨b, 0, none⟩), .int .i64 ↑n] m [blk b 92 (ints L ++ tl)] (fun _ Es v => v = .tuple #[] ∧ ∃ L', Mat L' (allS n f n) ∧ Es = [blk b 92 (ints L' ++ tl)]) := by
  refine Mut.start Try.func99 rfl Try.ntmps99 rfl fun wld => ?_
  refine WC.seq ?_
  refine WC.region ?_
  refine WL.x (X.move rfl) (by decide) ?_
  refine WL.x (X.move rfl) (by decide) ?_
  refine WL.nil ?_
  refine WK.nThen ?_
  refine WC.block ?_
  refine WC.loop (G := Nat × List Int) (fun (k, L1) => n - k) (fun (k, L1) => m) (fun (k, L1) => [blk b 92 (ints (L1) ++ tl)]) (fun (k, L1) => [(0, .pointer (some ⟨b, 0, none⟩)), (1, .int .i64 (↑n)), (7, .int .i64 (↑n)), (8, .int .i64 (↑k))]) (fun (k, L1) => Mat L1 (allS n f k) ∧ k ≤ n) ((0, L)) rfl (.refl _) (.cons rfl (.cons rfl (.cons rfl (.cons rfl .nil)))) ?_ ?_
  · exact ⟨hM, Nat.zero_le _⟩
  · rintro ⟨k, L1⟩ hF1
    show WK _ _ m [blk b 92 (ints (L1) ++ tl)] [(0, .pointer (some ⟨b, 0, none⟩)), (1, .int .i64 (↑n)), (7, .int .i64 (↑n)), (8, .int .i64 (↑k))] _
    replace hF1 : Mat L1 (allS n f k) ∧ k ≤ n := hF1
    obtain ⟨hM1, hk⟩ := hF1
    have hB1 := hB.all k hk
    refine WC.seq ?_
    refine WC.region ?_
    refine WL.cond (X.lss rfl rfl) (by decide) (fun h2 => ?_) (fun h2 => ?_)
    · refine WL.nil ?_
      refine WK.nThen ?_
      refine WC.seq ?_
      refine WC.condT rfl ?_
      refine WC.skip ?_
      refine WK.nThen ?_
      refine WC.seq ?_
      refine WC.block ?_
      refine WC.seq ?_
      refine WC.region ?_
      refine WL.x (X.move rfl) (by decide) ?_
      refine WL.x (X.assign rfl) (by decide) ?_
      refine WL.nil ?_
      refine WK.nThen ?_
      refine WC.seq ?_
      refine WC.region ?_
      refine WL.x (X.move rfl) (by decide) ?_
      refine WL.x (X.move rfl) (by decide) ?_
      refine WL.nil ?_
      refine WK.nThen ?_
      refine WC.block ?_
      refine WC.loop (G := Nat × List Int) (fun (i, L2) => n - i) (fun (i, L2) => m) (fun (i, L2) => [blk b 92 (ints (L2) ++ tl)]) (fun (i, L2) => [(0, .pointer (some ⟨b, 0, none⟩)), (1, .int .i64 (↑n)), (4, .int .i64 (↑k)), (7, .int .i64 (↑n)), (8, .int .i64 (↑k)), (11, .int .i64 (↑n)), (12, .int .i64 (↑i))]) (fun (i, L2) => Mat L2 (layS n k (allS n f k) i) ∧ i ≤ n) ((0, L1)) rfl (.refl _) (.cons rfl (.cons rfl (.cons rfl (.cons rfl (.cons rfl (.cons rfl (.cons rfl .nil))))))) ?_ ?_
      · exact ⟨hM1, Nat.zero_le _⟩
      · rintro ⟨i, L2⟩ hF3
        show WK _ _ m [blk b 92 (ints (L2) ++ tl)] [(0, .pointer (some ⟨b, 0, none⟩)), (1, .int .i64 (↑n)), (4, .int .i64 (↑k)), (7, .int .i64 (↑n)), (8, .int .i64 (↑k)), (11, .int .i64 (↑n)), (12, .int .i64 (↑i))] _
        replace hF3 : Mat L2 (layS n k (allS n f k) i) ∧ i ≤ n := hF3
        obtain ⟨hM2, hi⟩ := hF3
        have hB2 := hB1.lay (k := k) (by omega) i hi
        refine WC.seq ?_
        refine WC.region ?_
        refine WL.cond (X.lss rfl rfl) (by decide) (fun h4 => ?_) (fun h4 => ?_)
        · refine WL.nil ?_
          refine WK.nThen ?_
          refine WC.seq ?_
          refine WC.condT rfl ?_
          refine WC.skip ?_
          refine WK.nThen ?_
          refine WC.seq ?_
          refine WC.block ?_
          refine WC.seq ?_
          refine WC.region ?_
          refine WL.x (X.move rfl) (by decide) ?_
          refine WL.x (X.assign rfl) (by decide) ?_
          refine WL.nil ?_
          refine WK.nThen ?_
          refine WC.seq ?_
          refine WC.region ?_
          refine WL.x (X.move rfl) (by decide) ?_
          refine WL.x (X.move rfl) (by decide) ?_
          refine WL.nil ?_
          refine WK.nThen ?_
          refine WC.block ?_
          refine WC.loop (G := Nat × List Int) (fun (j, L3) => n - j) (fun (j, L3) => m) (fun (j, L3) => [blk b 92 (ints (L3) ++ tl)]) (fun (j, L3) => [(0, .pointer (some ⟨b, 0, none⟩)), (1, .int .i64 (↑n)), (4, .int .i64 (↑k)), (5, .int .i64 (↑i)), (7, .int .i64 (↑n)), (8, .int .i64 (↑k)), (11, .int .i64 (↑n)), (12, .int .i64 (↑i)), (15, .int .i64 (↑n)), (16, .int .i64 (↑j))]) (fun (j, L3) => Mat L3 (rowS k i (layS n k (allS n f k) i) j) ∧ j ≤ n) ((0, L2)) rfl (.refl _) (.cons rfl (.cons rfl (.cons rfl (.cons rfl (.cons rfl (.cons rfl (.cons rfl (.cons rfl (.cons rfl (.cons rfl .nil)))))))))) ?_ ?_
          · exact ⟨hM2, Nat.zero_le _⟩
          · rintro ⟨j, L3⟩ hF5
            show WK _ _ m [blk b 92 (ints (L3) ++ tl)] [(0, .pointer (some ⟨b, 0, none⟩)), (1, .int .i64 (↑n)), (4, .int .i64 (↑k)), (5, .int .i64 (↑i)), (7, .int .i64 (↑n)), (8, .int .i64 (↑k)), (11, .int .i64 (↑n)), (12, .int .i64 (↑i)), (15, .int .i64 (↑n)), (16, .int .i64 (↑j))] _
            replace hF5 : Mat L3 (rowS k i (layS n k (allS n f k) i) j) ∧ j ≤ n := hF5
            obtain ⟨hM3, hj⟩ := hF5
            have hB3 := hB2.row (k := k) (i := i) (by omega) (by omega) j hj
            refine WC.seq ?_
            refine WC.region ?_
            refine WL.cond (X.lss rfl rfl) (by decide) (fun h6 => ?_) (fun h6 => ?_)
            · refine WL.nil ?_
              refine WK.nThen ?_
              refine WC.seq ?_
              refine WC.condT rfl ?_
              refine WC.skip ?_
              refine WK.nThen ?_
              refine WC.seq ?_
              refine WC.block ?_
              refine WC.seq ?_
              have hb1 := hM3.bd hn hB3 (a := i) (b := k) (by omega) (by omega)
              have hb2 := hM3.bd hn hB3 (a := k) (b := j) (by omega) (by omega)
              have hl3 := hM3.1
              refine WC.region ?_
              refine WL.x (X.move rfl) (by decide) ?_
              refine WL.x (X.assign rfl) (by decide) ?_
              refine WL.nil ?_
              refine WK.nThen ?_
              refine WC.draw (π := (.cons 0 (.cons 1 (.cons 2 (.cons 3 (.cons 4 (.cons 5 (.cons 6 (.cons 7 (.cons 8 (.cons 9 (.cons 10 (.cons 11 (.cons 12 (.cons 13 (.cons 14 (.cons 15 (.cons 16 (.cons 17 (.cons 18 (.cons 19 (.cons 20 (.cons 21 (.cons 22 (.cons 23 (.cons 24 (.cons 25 (.cons 26 (.cons 27 (.cons 28 (.cons 29 .done))))))))))))))))))))))))))))))) [29] [29] rfl (by kernel_rfl) ?_
              refine DW.x rfl rfl (X.move rfl) (by decide) ?_
              refine DW.x rfl rfl (X.move rfl) (by decide) ?_
              refine DW.x rfl rfl (X.move rfl) (by decide) ?_
              refine DW.x rfl rfl (X.move rfl) (by decide) ?_
              refine DW.x rfl rfl (X.move rfl) (by decide) ?_
              refine DW.x rfl rfl (X.move rfl) (by decide) ?_
              refine DW.x rfl rfl (X.nilCheck rfl) (by decide) ?_
              refine DW.x rfl rfl (X.idxArB i Try.underlying90 Try.sizeOf88 rfl rfl (by omega) (by omega)) (by decide) ?_
              refine DW.x rfl rfl (X.idxArB j Try.underlying88 Try.sizeOf3 rfl rfl (by omega) (by omega)) (by decide) ?_
              refine DW.x rfl rfl (X.loadAr (k := 0) Try.isAgg3 rfl rfl (by omega)) (by decide) ?_
              refine DW.x rfl rfl (X.move rfl) (by decide) ?_
              refine DW.x rfl rfl (X.move rfl) (by decide) ?_
              refine DW.x rfl rfl (X.move rfl) (by decide) ?_
              refine DW.x rfl rfl (X.nilCheck rfl) (by decide) ?_
              refine DW.x rfl rfl (X.idxArB i Try.underlying90 Try.sizeOf88 rfl rfl (by omega) (by omega)) (by decide) ?_
              refine DW.x rfl rfl (X.idxArB k Try.underlying88 Try.sizeOf3 rfl rfl (by omega) (by omega)) (by decide) ?_
              refine DW.x rfl rfl (X.loadAr (k := 0) Try.isAgg3 rfl rfl (by omega)) (by decide) ?_
              refine DW.x rfl rfl (X.move rfl) (by decide) ?_
              refine DW.x rfl rfl (X.move rfl) (by decide) ?_
              refine DW.x rfl rfl (X.move rfl) (by decide) ?_
              refine DW.x rfl rfl (X.nilCheck rfl) (by decide) ?_
              refine DW.x rfl rfl (X.idxArB k Try.underlying90 Try.sizeOf88 rfl rfl (by omega) (by omega)) (by decide) ?_
              refine DW.x rfl rfl (X.idxArB j Try.underlying88 Try.sizeOf3 rfl rfl (by omega) (by omega)) (by decide) ?_
              refine DW.x rfl rfl (X.loadAr (k := 0) Try.isAgg3 rfl rfl (by omega)) (by decide) ?_
              refine DW.x rfl rfl (X.add rfl rfl (by omega) (by omega)) (by decide) ?_
              refine DW.x rfl rfl (X.mn rfl rfl) (by decide) ?_
              refine DW.x rfl rfl (X.nilCheck rfl) (by decide) ?_
              refine DW.x rfl rfl (X.idxArB i Try.underlying90 Try.sizeOf88 rfl rfl (by omega) (by omega)) (by decide) ?_
              refine DW.x rfl rfl (X.idxArB j Try.underlying88 Try.sizeOf3 rfl rfl (by omega) (by omega)) (by decide) ?_
              refine DW.ts rfl rfl rfl rfl (T.storeAr (k := 0) Try.sizeOf3 rfl rfl rfl (by omega)) ?_
              refine DW.nil ?_
              refine WK.nBlock ?_
              refine WK.nThen ?_
              refine WC.region ?_
              refine WL.x (X.add rfl rfl (by omega) (by omega)) (by decide) ?_
              refine WL.x (X.move rfl) (by decide) ?_
              refine WL.nil ?_
              refine WK.nThen ?_
              refine WK.next ((j + 1, L3.set (0 + i * 32 + j * 1) (min (gt L3 (0 + i * 32 + j * 1)) ((gt L3 (0 + i * 32 + k * 1)) + (gt L3 (0 + k * 32 + j * 1)))))) rfl (.refl _) (.cons rfl (.cons rfl (.cons rfl (.cons rfl (.cons rfl (.cons rfl (.cons rfl (.cons rfl (.cons rfl (.cons rfl .nil)))))))))) ?_ ?_
              · exact ⟨tight_step hM3 (by omega) (by omega) (by omega), by omega⟩
              · (dsimp only; omega)
            · refine WL.nil ?_
              refine WK.nThen ?_
              refine WC.seq ?_
              refine WC.condF rfl ?_
              refine WC.exit ?_
              refine WK.eThen ?_
              refine WK.eThen ?_
              refine WK.eHit ?_
              refine WK.nBlock ?_
              refine WK.nThen ?_
              refine WC.region ?_
              refine WL.x (X.add rfl rfl (by omega) (by omega)) (by decide) ?_
              refine WL.x (X.move rfl) (by decide) ?_
              refine WL.nil ?_
              refine WK.nThen ?_
              refine WK.next ((i + 1, L3)) rfl (.refl _) (.cons rfl (.cons rfl (.cons rfl (.cons rfl (.cons rfl (.cons rfl (.cons rfl .nil))))))) ?_ ?_
              · exact ⟨(show j = n from by omega) ▸ hM3, by omega⟩
              · (dsimp only; omega)
        · refine WL.nil ?_
          refine WK.nThen ?_
          refine WC.seq ?_
          refine WC.condF rfl ?_
          refine WC.exit ?_
          refine WK.eThen ?_
          refine WK.eThen ?_
          refine WK.eHit ?_
          refine WK.nBlock ?_
          refine WK.nThen ?_
          refine WC.region ?_
          refine WL.x (X.add rfl rfl (by omega) (by omega)) (by decide) ?_
          refine WL.x (X.move rfl) (by decide) ?_
          refine WL.nil ?_
          refine WK.nThen ?_
          refine WK.next ((k + 1, L2)) rfl (.refl _) (.cons rfl (.cons rfl (.cons rfl (.cons rfl .nil)))) ?_ ?_
          · exact ⟨(show i = n from by omega) ▸ hM2, by omega⟩
          · (dsimp only; omega)
    · refine WL.nil ?_
      refine WK.nThen ?_
      refine WC.seq ?_
      refine WC.condF rfl ?_
      refine WC.exit ?_
      refine WK.eThen ?_
      refine WK.eThen ?_
      refine WK.eHit ?_
      refine WK.end0 rfl (fun w' hw' => Ret.mut hw' ?_)
      exact ⟨rfl, _, (show k = n from by omega) ▸ hM1, rfl⟩

theorem spread62 (m : Mem) (cw : List Value) (w : Wind) (hw : Enc.rd m cw w) (vl : Value) (l : List Station) (hl : Sl m vl l)   : Pure Try.prog 62 #[.agg cw.toArray, vl] m (fun m' v => ∃ r0, v = .tuple #[.pointer r0, .int .i64 (windedE w l)] ∧ (windedE w l = 0 → ∃ p, r0 = some p ∧ At m' p (regS w l))) := by
  obtain rfl := hw
  have ll := hl.le
  refine Pure.start Try.func62 rfl Try.ntmps62 rfl fun wld => ?_
  refine WC.seq ?_
  refine WC.region ?_
  refine WL.tn (T.boxB rfl rfl) (by decide) fun b1 => ?_
  refine WL.x (X.assign rfl) (by decide) ?_
  refine WL.x (X.assign rfl) (by decide) ?_
  refine WL.nil ?_
  refine WK.nThen ?_
  refine WC.seq ?_
  refine WC.seq ?_
  refine WC.region ?_
  refine WL.x (X.move rfl) (by decide) ?_
  refine WL.x (X.call Try.call53 rfl (check53 _ _ _ hl )) (by decide) ?_
  refine WL.x (X.move rfl) (by decide) ?_
  refine WL.x (X.extract rfl rfl) (by decide) ?_
  refine WL.x (X.extract rfl rfl) (by decide) ?_
  refine WL.x (X.assign rfl) (by decide) ?_
  refine WL.x (X.assign rfl) (by decide) ?_
  refine WL.nil ?_
  refine WK.nThen ?_
  refine WC.seq ?_
  refine WC.region ?_
  refine WL.x (X.move rfl) (by decide) ?_
  refine WL.condn (X.neq rfl rfl) (by decide) (fun h2 => ?_) (fun h2 => ?_)
  · refine WL.nil ?_
    refine WK.nThen ?_
    refine WC.condT rfl ?_
    refine WC.seq ?_
    refine WC.region ?_
    refine WL.x (X.move rfl) (by decide) ?_
    refine WL.x (X.assign rfl) (by decide) ?_
    refine WL.x (X.assign rfl) (by decide) ?_
    refine WL.nil ?_
    refine WK.nThen ?_
    refine WC.ret ?_
    refine WK.rThen ?_
    refine WK.ret2 rfl rfl rfl (fun w' hw' => Ret.mem hw' ?_)
    exact ⟨none, tup2 rfl (int_eq (by unfold windedE; rw [if_pos (by omega)])), fun hw => absurd (windedE_zero hw).1 (by omega)⟩
  · refine WL.nil ?_
    refine WK.nThen ?_
    refine WC.condF rfl ?_
    refine WC.skip ?_
    refine WK.nThen ?_
    refine WC.seq ?_
    refine WC.seq ?_
    refine WC.region ?_
    refine WL.x (X.loadBA (k := 0) Try.isAgg23 Try.sizeOf23 rfl rfl rfl) (by decide) ?_
    refine WL.x (X.call Try.call47 rfl (checkWind47 _ _ w rfl )) (by decide) ?_
    refine WL.x (X.assign rfl) (by decide) ?_
    refine WL.nil ?_
    refine WK.nThen ?_
    refine WC.seq ?_
    refine WC.region ?_
    refine WL.x (X.move rfl) (by decide) ?_
    refine WL.condn (X.neq rfl rfl) (by decide) (fun h3 => ?_) (fun h3 => ?_)
    · refine WL.nil ?_
      refine WK.nThen ?_
      refine WC.condT rfl ?_
      refine WC.seq ?_
      refine WC.region ?_
      refine WL.x (X.move rfl) (by decide) ?_
      refine WL.x (X.assign rfl) (by decide) ?_
      refine WL.x (X.assign rfl) (by decide) ?_
      refine WL.nil ?_
      refine WK.nThen ?_
      refine WC.ret ?_
      refine WK.rThen ?_
      refine WK.ret2 rfl rfl rfl (fun w' hw' => Ret.mem hw' ?_)
      exact ⟨none, tup2 rfl (int_eq (by unfold windedE; rw [if_neg (by omega)])), fun hw => absurd (windedE_zero hw).2 (by omega)⟩
    · refine WL.nil ?_
      refine WK.nThen ?_
      refine WC.condF rfl ?_
      refine WC.skip ?_
      refine WK.nThen ?_
      refine WC.seq ?_
      have hw0 := winded_of (w := w) (l := l) (by omega) (by omega)
      have hl32 := (checkS_zero (l := l) (by omega)).1
      refine WC.region ?_
      refine WL.x (X.loadBA (k := 0) Try.isAgg23 Try.sizeOf23 rfl rfl rfl) (by decide) ?_
      refine WL.x (X.move rfl) (by decide) ?_
      refine WL.x (X.build zv92 Try.runUnderlying92 (places92 _ Try.underlying92) rfl (fill92 _ _ _ (one_cells hl.one))) (by decide) ?_
      refine WL.tn (T.boxB rfl rfl) (by decide) fun b4 => ?_
      refine WL.x (X.assign rfl) (by decide) ?_
      refine WL.nil ?_
      refine WK.nThen ?_
      refine WC.seq ?_
      refine WC.seq ?_
      refine WC.region ?_
      refine WL.x (X.move rfl) (by decide) ?_
      refine WL.x (X.len Try.runUnderlying24 rfl hl) (by decide) ?_
      refine WL.x (X.move rfl) (by decide) ?_
      refine WL.nil ?_
      refine WK.nThen ?_
      refine WC.block ?_
      refine WC.loop (G := Nat × List Int) (fun (i, L1) => l.length - i) (fun (i, L1) => m) (fun (i, L1) => [blk b4 92 (ints (L1) ++ [.int .i64 (w.Fixed), .int .i64 (w.Each), vl]), blk b1 23 [.int .i64 (w.Fixed), .int .i64 (w.Each)]]) (fun (i, L1) => [(1, vl), (2, .pointer (some ⟨b1, 0, none⟩)), (9, .pointer (some ⟨b4, 0, none⟩)), (31, vl), (32, .int .i64 (↑l.length)), (33, .int .i64 (↑i))]) (fun (i, L1) => Mat L1 (partM w l i 0) ∧ i ≤ l.length) ((0, List.replicate 1024 0)) rfl (.refl _) (.cons rfl (.cons rfl (.cons rfl (.cons rfl (.cons rfl (.cons rfl .nil)))))) ?_ ?_
      · exact ⟨part_zero w l, Nat.zero_le _⟩
      · rintro ⟨i, L1⟩ hF5
        show WK _ _ m [blk b4 92 (ints (L1) ++ [.int .i64 (w.Fixed), .int .i64 (w.Each), vl]), blk b1 23 [.int .i64 (w.Fixed), .int .i64 (w.Each)]] [(1, vl), (2, .pointer (some ⟨b1, 0, none⟩)), (9, .pointer (some ⟨b4, 0, none⟩)), (31, vl), (32, .int .i64 (↑l.length)), (33, .int .i64 (↑i))] _
        replace hF5 : Mat L1 (partM w l i 0) ∧ i ≤ l.length := hF5
        obtain ⟨hM1, hi⟩ := hF5
        refine WC.seq ?_
        refine WC.region ?_
        refine WL.cond (X.lss rfl rfl) (by decide) (fun h6 => ?_) (fun h6 => ?_)
        · refine WL.nil ?_
          refine WK.nThen ?_
          refine WC.seq ?_
          refine WC.condT rfl ?_
          refine WC.skip ?_
          refine WK.nThen ?_
          refine WC.seq ?_
          refine WC.block ?_
          refine WC.seq ?_
          refine WC.region ?_
          refine WL.x (X.move rfl) (by decide) ?_
          refine WL.xe (E.idxN i Try.runUnderlying24 Try.sizeOf58 rfl rfl hl (by omega)) (by decide) (fun p7 hp8 => ?_)
          refine WL.xe (E.loadAgg Try.isAgg58 Try.sizeOf58 rfl hp8) (by decide) (fun c9 hc10 => ?_)
          obtain ⟨v11, rfl, hs12⟩ := hc10
          have hl13 := hs12.le
          refine WL.tn (T.alloc Try.zeroValue58 rfl) (by decide) fun b14 => ?_
          refine WL.x (X.assign rfl) (by decide) ?_
          refine WL.ts (T.storeBA (k := 0) Try.sizeOf58 rfl rfl rfl (one_cons rfl (one_cons rfl (one_cons rfl (one_cons hs12.one one_nil)))) rfl rfl) ?_
          refine WL.nil ?_
          refine WK.nThen ?_
          refine WC.seq ?_
          refine WC.region ?_
          refine WL.x (X.move rfl) (by decide) ?_
          refine WL.x (X.len Try.runUnderlying24 rfl hl) (by decide) ?_
          refine WL.x (X.move rfl) (by decide) ?_
          refine WL.nil ?_
          refine WK.nThen ?_
          refine WC.block ?_
          refine WC.loop (G := Nat × List Int) (fun (k, L2) => l.length - k) (fun (k, L2) => m) (fun (k, L2) => [blk b14 58 [.int .i64 ((gt l i).ID), .int .i64 ((gt l i).X), .int .i64 ((gt l i).Y), v11], blk b4 92 (ints (L2) ++ [.int .i64 (w.Fixed), .int .i64 (w.Each), vl]), blk b1 23 [.int .i64 (w.Fixed), .int .i64 (w.Each)]]) (fun (k, L2) => [(1, vl), (2, .pointer (some ⟨b1, 0, none⟩)), (9, .pointer (some ⟨b4, 0, none⟩)), (10, .int .i64 (↑i)), (11, .pointer (some ⟨b14, 0, none⟩)), (31, vl), (32, .int .i64 (↑l.length)), (33, .int .i64 (↑i)), (38, vl), (39, .int .i64 (↑l.length)), (40, .int .i64 (↑k))]) (fun (k, L2) => Mat L2 (partM w l i k) ∧ k ≤ l.length) ((0, L1)) rfl (.refl _) (.cons rfl (.cons rfl (.cons rfl (.cons rfl (.cons rfl (.cons rfl (.cons rfl (.cons rfl (.cons rfl (.cons rfl (.cons rfl .nil))))))))))) ?_ ?_
          · exact ⟨hM1, Nat.zero_le _⟩
          · rintro ⟨k, L2⟩ hF15
            show WK _ _ m [blk b14 58 [.int .i64 ((gt l i).ID), .int .i64 ((gt l i).X), .int .i64 ((gt l i).Y), v11], blk b4 92 (ints (L2) ++ [.int .i64 (w.Fixed), .int .i64 (w.Each), vl]), blk b1 23 [.int .i64 (w.Fixed), .int .i64 (w.Each)]] [(1, vl), (2, .pointer (some ⟨b1, 0, none⟩)), (9, .pointer (some ⟨b4, 0, none⟩)), (10, .int .i64 (↑i)), (11, .pointer (some ⟨b14, 0, none⟩)), (31, vl), (32, .int .i64 (↑l.length)), (33, .int .i64 (↑i)), (38, vl), (39, .int .i64 (↑l.length)), (40, .int .i64 (↑k))] _
            replace hF15 : Mat L2 (partM w l i k) ∧ k ≤ l.length := hF15
            obtain ⟨hM2, hk⟩ := hF15
            refine WC.seq ?_
            refine WC.region ?_
            refine WL.cond (X.lss rfl rfl) (by decide) (fun h16 => ?_) (fun h16 => ?_)
            · refine WL.nil ?_
              refine WK.nThen ?_
              refine WC.seq ?_
              refine WC.condT rfl ?_
              refine WC.skip ?_
              refine WK.nThen ?_
              refine WC.seq ?_
              refine WC.block ?_
              refine WC.seq ?_
              refine WC.region ?_
              refine WL.x (X.move rfl) (by decide) ?_
              refine WL.xe (E.idxN k Try.runUnderlying24 Try.sizeOf58 rfl rfl hl (by omega)) (by decide) (fun p17 hp18 => ?_)
              refine WL.xe (E.loadAgg Try.isAgg58 Try.sizeOf58 rfl hp18) (by decide) (fun c19 hc20 => ?_)
              obtain ⟨v21, rfl, hs22⟩ := hc20
              have hl23 := hs22.le
              refine WL.tn (T.alloc Try.zeroValue58 rfl) (by decide) fun b24 => ?_
              refine WL.x (X.assign rfl) (by decide) ?_
              refine WL.ts (T.storeBA (k := 0) Try.sizeOf58 rfl rfl rfl (one_cons rfl (one_cons rfl (one_cons rfl (one_cons hs22.one one_nil)))) rfl rfl) ?_
              refine WL.nil ?_
              refine WK.nThen ?_
              have hpa := (checkS_placed (windedE_zero hw0).1 (k := i) (by omega)).1
              have hpb := (checkS_placed (windedE_zero hw0).1 (k := k) (by omega)).1
              have hl2 := hM2.1
              refine WC.draw (π := (.cons 0 (.cons 1 (.cons 2 (.cons 3 (.cons 4 (.cons 5 (.cons 6 (.cons 7 (.cons 8 (.cons 9 (.cons 10 (.cons 11 .done))))))))))))) [11] [11] rfl (by kernel_rfl) ?_
              refine DW.x rfl rfl (X.move rfl) (by decide) ?_
              refine DW.x rfl rfl (X.move rfl) (by decide) ?_
              refine DW.x rfl rfl (X.move rfl) (by decide) ?_
              refine DW.x rfl rfl (X.loadBA (k := 3) Try.isAgg23 Try.sizeOf23 rfl rfl rfl) (by decide) ?_
              refine DW.x rfl rfl (X.loadBA (k := 1) Try.isAgg58 Try.sizeOf58 rfl rfl rfl) (by decide) ?_
              refine DW.x rfl rfl (X.loadBA (k := 0) Try.isAgg58 Try.sizeOf58 rfl rfl rfl) (by decide) ?_
              refine DW.x rfl rfl (X.call Try.call84 rfl (bound84 _ _ w rfl _ (gt l i) ⟨_, rfl, hs12⟩ _ (gt l k) ⟨_, rfl, hs22⟩ (by first | assumption | exact (windedE_zero hw0).2) (by first | assumption | exact (windedE_zero hw0).2) (by first | assumption | exact (windedE_zero hw0).2))) (by decide) ?_
              refine DW.x rfl rfl (X.nilCheck rfl) (by decide) ?_
              refine DW.x rfl rfl (X.field Try.runUnderlying92 rfl Try.sizeOf90 rfl) (by decide) ?_
              refine DW.x rfl rfl (X.idxArB i Try.underlying90 Try.sizeOf88 rfl rfl (by omega) (by omega)) (by decide) ?_
              refine DW.x rfl rfl (X.idxArB k Try.underlying88 Try.sizeOf3 rfl rfl (by omega) (by omega)) (by decide) ?_
              refine DW.ts rfl rfl rfl rfl (T.storeAr (k := 2) Try.sizeOf3 rfl rfl rfl (by omega)) ?_
              refine DW.nil ?_
              refine WK.nBlock ?_
              refine WK.nThen ?_
              refine WC.region ?_
              refine WL.x (X.add rfl rfl (by omega) (by omega)) (by decide) ?_
              refine WL.x (X.move rfl) (by decide) ?_
              refine WL.nil ?_
              refine WK.nThen ?_
              refine WK.next ((k + 1, L2.set (0 + i * 32 + k * 1) (boundS w (gt l i) (gt l k)))) rfl (.cons _ (.refl _)) (.cons rfl (.cons rfl (.cons rfl (.cons rfl (.cons rfl (.cons rfl (.cons rfl (.cons rfl (.cons rfl (.cons rfl (.cons rfl .nil))))))))))) ?_ ?_
              · exact ⟨part_next hM2 (by omega) (by omega) (by omega), by omega⟩
              · (dsimp only; omega)
            · refine WL.nil ?_
              refine WK.nThen ?_
              refine WC.seq ?_
              refine WC.condF rfl ?_
              refine WC.exit ?_
              refine WK.eThen ?_
              refine WK.eThen ?_
              refine WK.eHit ?_
              refine WK.nBlock ?_
              refine WK.nThen ?_
              refine WC.region ?_
              refine WL.x (X.add rfl rfl (by omega) (by omega)) (by decide) ?_
              refine WL.x (X.move rfl) (by decide) ?_
              refine WL.nil ?_
              refine WK.nThen ?_
              refine WK.next ((i + 1, L2)) rfl (.cons _ (.cons_cons _ (.cons_cons _ .slnil))) (.cons rfl (.cons rfl (.cons rfl (.cons rfl (.cons rfl (.cons rfl .nil)))))) ?_ ?_
              · exact ⟨part_row hM2 (by omega), by omega⟩
              · (dsimp only; omega)
        · refine WL.nil ?_
          refine WK.nThen ?_
          refine WC.seq ?_
          refine WC.condF rfl ?_
          refine WC.exit ?_
          refine WK.eThen ?_
          refine WK.eThen ?_
          refine WK.eHit ?_
          refine WK.nThen ?_
          refine WC.seq ?_
          have hM := part_end hM1 (by omega)
          refine WC.region ?_
          refine WL.x (X.move rfl) (by decide) ?_
          refine WL.x (X.nilCheck rfl) (by decide) ?_
          refine WL.x (X.field Try.runUnderlying92 rfl Try.sizeOf90 rfl) (by decide) ?_
          refine WL.x (X.move rfl) (by decide) ?_
          refine WL.x (X.len Try.runUnderlying24 rfl hl) (by decide) ?_
          refine WL.tM (T.callM (k := 0) Try.call99 rfl rfl (tighten99 _ _ _ _ [.int .i64 (w.Fixed), .int .i64 (w.Each), vl] _ hM (by omega) (boundM_bd hw0))) (by decide) (fun m25 _ _ hle27 ⟨_, L26, hM28, hEs⟩ => ?_)
          subst hEs
          replace hl := hl.mono hle27
          refine WL.nil ?_
          refine WK.nThen ?_
          refine WC.seq ?_
          refine WC.region ?_
          refine WL.x (X.move rfl) (by decide) ?_
          refine WL.x (X.assign rfl) (by decide) ?_
          refine WL.x (X.assign rfl) (by decide) ?_
          refine WL.nil ?_
          refine WK.nThen ?_
          refine WC.ret ?_
          refine WK.freezeS (x := (⟨L26, w, l⟩ : Reg)) 0 rfl rfl (reg_rd hM28.1 hl) (fun m29 hle30 hp31 => ?_)
          replace hl := hl.mono hle30
          refine WK.ret2 rfl rfl rfl (fun w' hw' => Ret.mem hw' ?_)
          exact ⟨_, by rw [hw0], fun _ => ⟨_, rfl, at_reg hp31 hM28⟩⟩

theorem sameRows23 (m : Mem) (va : Value) (a : List (List Int)) (ha : Sl m va a) (vb : Value) (b : List (List Int)) (hb : Sl m vb b)   : Exact Try.prog 23 #[va, vb] m (.bool (decide (a = b))) := by
  have la := ha.le
  have lb := hb.le
  refine Exact.start Try.func23 rfl Try.ntmps23 rfl fun wld => ?_
  refine WC.seq ?_
  refine WC.region ?_
  refine WL.x (X.assign rfl) (by decide) ?_
  refine WL.nil ?_
  refine WK.nThen ?_
  refine WC.seq ?_
  refine WC.seq ?_
  refine WC.region ?_
  refine WL.x (X.move rfl) (by decide) ?_
  refine WL.x (X.len Try.runUnderlying27 rfl ha) (by decide) ?_
  refine WL.x (X.move rfl) (by decide) ?_
  refine WL.x (X.len Try.runUnderlying27 rfl hb) (by decide) ?_
  refine WL.condn (X.neq rfl rfl) (by decide) (fun h1 => ?_) (fun h1 => ?_)
  · refine WL.nil ?_
    refine WK.nThen ?_
    refine WC.condT rfl ?_
    refine WC.seq ?_
    refine WC.region ?_
    refine WL.x (X.assign rfl) (by decide) ?_
    refine WL.nil ?_
    refine WK.nThen ?_
    refine WC.ret ?_
    refine WK.rThen ?_
    refine WK.ret1 rfl rfl (fun w' hw' => Ret.exact hw' ?_)
    exact bool_false (fun e => by subst e; omega)
  · refine WL.nil ?_
    refine WK.nThen ?_
    refine WC.condF rfl ?_
    refine WC.skip ?_
    refine WK.nThen ?_
    refine WC.seq ?_
    refine WC.seq ?_
    refine WC.region ?_
    refine WL.x (X.assign rfl) (by decide) ?_
    refine WL.nil ?_
    refine WK.nThen ?_
    refine WC.block ?_
    refine WC.loop (G := Nat) (fun k => a.length - k) (fun k => m) (fun k => []) (fun k => [(0, va), (1, vb), (5, .int .i64 (↑k))]) (fun k => k ≤ a.length ∧ (∀ j, j < k → gt a j = gt b j)) 0 rfl (.refl _) (.cons rfl (.cons rfl (.cons rfl .nil))) ?_ ?_
    · exact ⟨Nat.zero_le _, fun j hj => absurd hj (Nat.not_lt_zero _)⟩
    · rintro k hF2
      show WK _ _ m [] [(0, va), (1, vb), (5, .int .i64 (↑k))] _
      replace hF2 : k ≤ a.length ∧ (∀ j, j < k → gt a j = gt b j) := hF2
      obtain ⟨hk, hall⟩ := hF2
      refine WC.seq ?_
      refine WC.seq ?_
      refine WC.region ?_
      refine WL.x (X.move rfl) (by decide) ?_
      refine WL.x (X.move rfl) (by decide) ?_
      refine WL.x (X.len Try.runUnderlying27 rfl ha) (by decide) ?_
      refine WL.cond (X.lss rfl rfl) (by decide) (fun h3 => ?_) (fun h3 => ?_)
      · refine WL.nil ?_
        refine WK.nThen ?_
        refine WC.condT rfl ?_
        refine WC.skip ?_
        refine WK.nThen ?_
        refine WC.seq ?_
        refine WC.block ?_
        refine WC.seq ?_
        refine WC.seq ?_
        refine WC.draw (π := (.cons 0 (.cons 1 (.cons 2 (.cons 3 (.cons 4 (.cons 5 (.cons 6 (.cons 7 (.cons 8 (.cons 9 (.cons 10 .done)))))))))))) [] [] rfl (by kernel_rfl) ?_
        refine DW.x rfl rfl (X.move rfl) (by decide) ?_
        refine DW.x rfl rfl (X.move rfl) (by decide) ?_
        refine DW.xe rfl rfl (E.idxN k Try.runUnderlying27 Try.sizeOf31 rfl rfl ha (by omega)) (by decide) (fun p4 hp5 => ?_)
        refine DW.xe rfl rfl (E.loadSl Try.isAgg31 rfl hp5) (by decide) (fun v6 hs7 => ?_)
        have hl8 := hs7.le
        refine DW.x rfl rfl (X.len Try.runUnderlying31 rfl hs7) (by decide) ?_
        refine DW.x rfl rfl (X.move rfl) (by decide) ?_
        refine DW.x rfl rfl (X.move rfl) (by decide) ?_
        refine DW.xe rfl rfl (E.idxN k Try.runUnderlying27 Try.sizeOf31 rfl rfl hb (by omega)) (by decide) (fun p9 hp10 => ?_)
        refine DW.xe rfl rfl (E.loadSl Try.isAgg31 rfl hp10) (by decide) (fun v11 hs12 => ?_)
        have hl13 := hs12.le
        refine DW.x rfl rfl (X.len Try.runUnderlying31 rfl hs12) (by decide) ?_
        refine DW.condn rfl rfl (X.neq rfl rfl) (by decide) (fun h14 => ?_) (fun h14 => ?_)
        · refine DW.nil ?_
          refine WK.nThen ?_
          refine WC.condT rfl ?_
          refine WC.seq ?_
          refine WC.region ?_
          refine WL.x (X.assign rfl) (by decide) ?_
          refine WL.nil ?_
          refine WK.nThen ?_
          refine WC.ret ?_
          refine WK.rThen ?_
          refine WK.rBlock ?_
          refine WK.rThen ?_
          refine WK.rThen ?_
          refine WK.rBlock ?_
          refine WK.rThen ?_
          refine WK.ret1 rfl rfl (fun w' hw' => Ret.exact hw' ?_)
          exact bool_false (fun e => by subst e; omega)
        · refine DW.nil ?_
          refine WK.nThen ?_
          refine WC.condF rfl ?_
          refine WC.skip ?_
          refine WK.nThen ?_
          refine WC.seq ?_
          refine WC.region ?_
          refine WL.x (X.assign rfl) (by decide) ?_
          refine WL.nil ?_
          refine WK.nThen ?_
          refine WC.block ?_
          refine WC.loop (G := Nat) (fun q => (gt a k).length - q) (fun q => m) (fun q => []) (fun q => [(0, va), (1, vb), (5, .int .i64 (↑k)), (6, .int .i64 (↑q))]) (fun q => q ≤ (gt a k).length ∧ (∀ i, i < q → gt (gt a k) i = gt (gt b k) i)) 0 rfl (.refl _) (.cons rfl (.cons rfl (.cons rfl (.cons rfl .nil)))) ?_ ?_
          · exact ⟨Nat.zero_le _, fun j hj => absurd hj (Nat.not_lt_zero _)⟩
          · rintro q hF15
            show WK _ _ m [] [(0, va), (1, vb), (5, .int .i64 (↑k)), (6, .int .i64 (↑q))] _
            replace hF15 : q ≤ (gt a k).length ∧ (∀ i, i < q → gt (gt a k) i = gt (gt b k) i) := hF15
            obtain ⟨hq, hin⟩ := hF15
            refine WC.seq ?_
            refine WC.seq ?_
            refine WC.region ?_
            refine WL.x (X.move rfl) (by decide) ?_
            refine WL.x (X.move rfl) (by decide) ?_
            refine WL.x (X.move rfl) (by decide) ?_
            refine WL.xe (E.idxN k Try.runUnderlying27 Try.sizeOf31 rfl rfl ha (by omega)) (by decide) (fun p16 hp17 => ?_)
            refine WL.xe (E.loadSl Try.isAgg31 rfl hp17) (by decide) (fun v18 hs19 => ?_)
            have hl20 := hs19.le
            refine WL.x (X.len Try.runUnderlying31 rfl hs19) (by decide) ?_
            refine WL.cond (X.lss rfl rfl) (by decide) (fun h21 => ?_) (fun h21 => ?_)
            · refine WL.nil ?_
              refine WK.nThen ?_
              refine WC.condT rfl ?_
              refine WC.skip ?_
              refine WK.nThen ?_
              refine WC.seq ?_
              refine WC.block ?_
              refine WC.seq ?_
              refine WC.draw (π := (.cons 0 (.cons 1 (.cons 2 (.cons 3 (.cons 4 (.cons 5 (.cons 6 (.cons 7 (.cons 8 (.cons 9 (.cons 10 (.cons 11 (.cons 12 (.cons 13 (.cons 14 .done)))))))))))))))) [] [] rfl (by kernel_rfl) ?_
              refine DW.x rfl rfl (X.move rfl) (by decide) ?_
              refine DW.x rfl rfl (X.move rfl) (by decide) ?_
              refine DW.xe rfl rfl (E.idxN k Try.runUnderlying27 Try.sizeOf31 rfl rfl ha (by omega)) (by decide) (fun p22 hp23 => ?_)
              refine DW.xe rfl rfl (E.loadSl Try.isAgg31 rfl hp23) (by decide) (fun v24 hs25 => ?_)
              have hl26 := hs25.le
              refine DW.x rfl rfl (X.move rfl) (by decide) ?_
              refine DW.xe rfl rfl (E.idxN q Try.runUnderlying31 Try.sizeOf3 rfl rfl hs25 (by omega)) (by decide) (fun p27 hp28 => ?_)
              refine DW.x rfl rfl (X.loadInt Try.isAgg3 rfl hp28) (by decide) ?_
              refine DW.x rfl rfl (X.move rfl) (by decide) ?_
              refine DW.x rfl rfl (X.move rfl) (by decide) ?_
              refine DW.xe rfl rfl (E.idxN k Try.runUnderlying27 Try.sizeOf31 rfl rfl hb (by omega)) (by decide) (fun p29 hp30 => ?_)
              refine DW.xe rfl rfl (E.loadSl Try.isAgg31 rfl hp30) (by decide) (fun v31 hs32 => ?_)
              have hl33 := hs32.le
              refine DW.x rfl rfl (X.move rfl) (by decide) ?_
              refine DW.xe rfl rfl (E.idxN q Try.runUnderlying31 Try.sizeOf3 rfl rfl hs32 (by omega)) (by decide) (fun p34 hp35 => ?_)
              refine DW.x rfl rfl (X.loadInt Try.isAgg3 rfl hp35) (by decide) ?_
              refine DW.condn rfl rfl (X.neq rfl rfl) (by decide) (fun h36 => ?_) (fun h36 => ?_)
              · refine DW.nil ?_
                refine WK.nThen ?_
                refine WC.condT rfl ?_
                refine WC.seq ?_
                refine WC.region ?_
                refine WL.x (X.assign rfl) (by decide) ?_
                refine WL.nil ?_
                refine WK.nThen ?_
                refine WC.ret ?_
                refine WK.rBlock ?_
                refine WK.rThen ?_
                refine WK.rThen ?_
                refine WK.rBlock ?_
                refine WK.rBlock ?_
                refine WK.rThen ?_
                refine WK.rThen ?_
                refine WK.rBlock ?_
                refine WK.rThen ?_
                refine WK.ret1 rfl rfl (fun w' hw' => Ret.exact hw' ?_)
                exact bool_false (fun e => by subst e; contradiction)
              · refine DW.nil ?_
                refine WK.nThen ?_
                refine WC.condF rfl ?_
                refine WC.skip ?_
                refine WK.nBlock ?_
                refine WK.nThen ?_
                refine WC.region ?_
                refine WL.x (X.move rfl) (by decide) ?_
                refine WL.x (X.add rfl rfl (by omega) (by omega)) (by decide) ?_
                refine WL.x (X.assign rfl) (by decide) ?_
                refine WL.nil ?_
                refine WK.nThen ?_
                refine WK.next (q + 1) rfl (.refl _) (.cons rfl (.cons rfl (.cons rfl (.cons rfl .nil)))) ?_ ?_
                · exact ⟨by omega, fun i hi => by rcases Nat.lt_succ_iff_lt_or_eq.1 hi with h | h; exact hin i h; subst h; assumption⟩
                · omega
            · refine WL.nil ?_
              refine WK.nThen ?_
              refine WC.condF rfl ?_
              refine WC.exit ?_
              refine WK.eThen ?_
              refine WK.eThen ?_
              refine WK.eHit ?_
              refine WK.nBlock ?_
              refine WK.nThen ?_
              refine WC.region ?_
              refine WL.x (X.move rfl) (by decide) ?_
              refine WL.x (X.add rfl rfl (by omega) (by omega)) (by decide) ?_
              refine WL.x (X.assign rfl) (by decide) ?_
              refine WL.nil ?_
              refine WK.nThen ?_
              refine WK.next (k + 1) rfl (.refl _) (.cons rfl (.cons rfl (.cons rfl .nil))) ?_ ?_
              · exact ⟨by omega, fun j hj => by rcases Nat.lt_succ_iff_lt_or_eq.1 hj with h | h; exact hall j h; subst h; exact ext_gt (by omega) (fun i hi => hin i (by omega))⟩
              · omega
      · refine WL.nil ?_
        refine WK.nThen ?_
        refine WC.condF rfl ?_
        refine WC.exit ?_
        refine WK.eThen ?_
        refine WK.eThen ?_
        refine WK.eHit ?_
        refine WK.nThen ?_
        refine WC.seq ?_
        refine WC.region ?_
        refine WL.x (X.assign rfl) (by decide) ?_
        refine WL.nil ?_
        refine WK.nThen ?_
        refine WC.ret ?_
        refine WK.ret1 rfl rfl (fun w' hw' => Ret.exact hw' ?_)
        exact bool_true (ext_gt (by omega) (fun j hj => hall j (by omega)))

end Go.Proofs.S5
