/- Stations: walks, second part, by program. -/
import Derived.Test.YtcpecjgppbiplaaS5Spec2
import Derived.Test.YtcpecjgppbiplaaS5W
import Derived.Test.YtcpecjgppbiplaaKxK
namespace Go.Proofs.S5
open Go Go.Kx

theorem tighten99 (m : Mem) (b n : Nat) (L : List Int) (tl : List Value) (f : Nat → Nat → Int) (hM : Mat L f) (hn : n ≤ 32) (hB : InB n 1000000000 f) : Mut Try.prog 99 #[.pointer (some ⟨b, 0, none⟩), .int .i64 ↑n] m [blk b 92 (ints L ++ tl)] (fun _ Es v => v = .tuple #[] ∧ ∃ L', Mat L' (allS n f n) ∧ Es = [blk b 92 (ints L' ++ tl)]) := by
  refine Mut.start Try.func99 rfl Try.ntmps99 rfl fun wld => ?_
  refine WC.seq ?_
  refine WC.region ?_
  refine WL.x (X.move rfl) (by decide) ?_
  refine WL.x (X.move rfl) (by decide) ?_
  refine WL.nil ?_
  refine WK.nThen ?_
  refine WC.block ?_
  refine WC.loop (G := Nat × List Int) (fun (k, L1) => n - k) (fun (k, L1) => m) (fun (k, L1) => [blk b 92 (ints (L1) ++ tl)]) (fun (k, L1) => [(0, .pointer (some ⟨b, 0, none⟩)), (1, .int .i64 (↑n)), (7, .int .i64 (↑n)), (8, .int .i64 (↑k))]) (fun (k, L1) => Mat L1 (allS n f k) ∧ k ≤ n) ((0, L)) rfl (.refl _) (.cons rfl (.cons rfl (.cons rfl (.cons rfl .nil)))) ?_ ?_
  · exact ⟨hM, Nat.zero_le _⟩
  · rintro ⟨k, L1⟩ hF1
    show WK _ _ m [blk b 92 (ints (L1) ++ tl)] [(0, .pointer (some ⟨b, 0, none⟩)), (1, .int .i64 (↑n)), (7, .int .i64 (↑n)), (8, .int .i64 (↑k))] _
    replace hF1 : Mat L1 (allS n f k) ∧ k ≤ n := hF1
    obtain ⟨hM1, hk⟩ := hF1
    have hB1 := hB.all k hk
    refine WC.seq ?_
    refine WC.region ?_
    refine WL.cond (X.lss rfl rfl) (by decide) (fun h2 => ?_) (fun h2 => ?_)
    · refine WL.nil ?_
      refine WK.nThen ?_
      refine WC.seq ?_
      refine WC.condT rfl ?_
      refine WC.skip ?_
      refine WK.nThen ?_
      refine WC.seq ?_
      refine WC.block ?_
      refine WC.seq ?_
      refine WC.region ?_
      refine WL.x (X.move rfl) (by decide) ?_
      refine WL.x (X.assign rfl) (by decide) ?_
      refine WL.nil ?_
      refine WK.nThen ?_
      refine WC.seq ?_
      refine WC.region ?_
      refine WL.x (X.move rfl) (by decide) ?_
      refine WL.x (X.move rfl) (by decide) ?_
      refine WL.nil ?_
      refine WK.nThen ?_
      refine WC.block ?_
      refine WC.loop (G := Nat × List Int) (fun (i, L2) => n - i) (fun (i, L2) => m) (fun (i, L2) => [blk b 92 (ints (L2) ++ tl)]) (fun (i, L2) => [(0, .pointer (some ⟨b, 0, none⟩)), (1, .int .i64 (↑n)), (4, .int .i64 (↑k)), (7, .int .i64 (↑n)), (8, .int .i64 (↑k)), (11, .int .i64 (↑n)), (12, .int .i64 (↑i))]) (fun (i, L2) => Mat L2 (layS n k (allS n f k) i) ∧ i ≤ n) ((0, L1)) rfl (.refl _) (.cons rfl (.cons rfl (.cons rfl (.cons rfl (.cons rfl (.cons rfl (.cons rfl .nil))))))) ?_ ?_
      · exact ⟨hM1, Nat.zero_le _⟩
      · rintro ⟨i, L2⟩ hF3
        show WK _ _ m [blk b 92 (ints (L2) ++ tl)] [(0, .pointer (some ⟨b, 0, none⟩)), (1, .int .i64 (↑n)), (4, .int .i64 (↑k)), (7, .int .i64 (↑n)), (8, .int .i64 (↑k)), (11, .int .i64 (↑n)), (12, .int .i64 (↑i))] _
        replace hF3 : Mat L2 (layS n k (allS n f k) i) ∧ i ≤ n := hF3
        obtain ⟨hM2, hi⟩ := hF3
        have hB2 := hB1.lay (k := k) (by omega) i hi
        refine WC.seq ?_
        refine WC.region ?_
        refine WL.cond (X.lss rfl rfl) (by decide) (fun h4 => ?_) (fun h4 => ?_)
        · refine WL.nil ?_
          refine WK.nThen ?_
          refine WC.seq ?_
          refine WC.condT rfl ?_
          refine WC.skip ?_
          refine WK.nThen ?_
          refine WC.seq ?_
          refine WC.block ?_
          refine WC.seq ?_
          refine WC.region ?_
          refine WL.x (X.move rfl) (by decide) ?_
          refine WL.x (X.assign rfl) (by decide) ?_
          refine WL.nil ?_
          refine WK.nThen ?_
          refine WC.seq ?_
          refine WC.region ?_
          refine WL.x (X.move rfl) (by decide) ?_
          refine WL.x (X.move rfl) (by decide) ?_
          refine WL.nil ?_
          refine WK.nThen ?_
          refine WC.block ?_
          refine WC.loop (G := Nat × List Int) (fun (j, L3) => n - j) (fun (j, L3) => m) (fun (j, L3) => [blk b 92 (ints (L3) ++ tl)]) (fun (j, L3) => [(0, .pointer (some ⟨b, 0, none⟩)), (1, .int .i64 (↑n)), (4, .int .i64 (↑k)), (5, .int .i64 (↑i)), (7, .int .i64 (↑n)), (8, .int .i64 (↑k)), (11, .int .i64 (↑n)), (12, .int .i64 (↑i)), (15, .int .i64 (↑n)), (16, .int .i64 (↑j))]) (fun (j, L3) => Mat L3 (rowS k i (layS n k (allS n f k) i) j) ∧ j ≤ n) ((0, L2)) rfl (.refl _) (.cons rfl (.cons rfl (.cons rfl (.cons rfl (.cons rfl (.cons rfl (.cons rfl (.cons rfl (.cons rfl (.cons rfl .nil)))))))))) ?_ ?_
          · exact ⟨hM2, Nat.zero_le _⟩
          · rintro ⟨j, L3⟩ hF5
            show WK _ _ m [blk b 92 (ints (L3) ++ tl)] [(0, .pointer (some ⟨b, 0, none⟩)), (1, .int .i64 (↑n)), (4, .int .i64 (↑k)), (5, .int .i64 (↑i)), (7, .int .i64 (↑n)), (8, .int .i64 (↑k)), (11, .int .i64 (↑n)), (12, .int .i64 (↑i)), (15, .int .i64 (↑n)), (16, .int .i64 (↑j))] _
            replace hF5 : Mat L3 (rowS k i (layS n k (allS n f k) i) j) ∧ j ≤ n := hF5
            obtain ⟨hM3, hj⟩ := hF5
            have hB3 := hB2.row (k := k) (i := i) (by omega) (by omega) j hj
            refine WC.seq ?_
            refine WC.region ?_
            refine WL.cond (X.lss rfl rfl) (by decide) (fun h6 => ?_) (fun h6 => ?_)
            · refine WL.nil ?_
              refine WK.nThen ?_
              refine WC.seq ?_
              refine WC.condT rfl ?_
              refine WC.skip ?_
              refine WK.nThen ?_
              refine WC.seq ?_
              refine WC.block ?_
              refine WC.seq ?_
              have hb1 := hM3.bd hn hB3 (a := i) (b := k) (by omega) (by omega)
              have hb2 := hM3.bd hn hB3 (a := k) (b := j) (by omega) (by omega)
              have hl3 := hM3.1
              refine WC.region ?_
              refine WL.x (X.move rfl) (by decide) ?_
              refine WL.x (X.assign rfl) (by decide) ?_
              refine WL.nil ?_
              refine WK.nThen ?_
              refine WC.draw (π := (.cons 0 (.cons 1 (.cons 2 (.cons 3 (.cons 4 (.cons 5 (.cons 6 (.cons 7 (.cons 8 (.cons 9 (.cons 10 (.cons 11 (.cons 12 (.cons 13 (.cons 14 (.cons 15 (.cons 16 (.cons 17 (.cons 18 (.cons 19 (.cons 20 (.cons 21 (.cons 22 (.cons 23 (.cons 24 (.cons 25 (.cons 26 (.cons 27 (.cons 28 (.cons 29 .done))))))))))))))))))))))))))))))) [29] [29] rfl (by kernel_rfl) ?_
              refine DW.x rfl rfl (X.move rfl) (by decide) ?_
              refine DW.x rfl rfl (X.move rfl) (by decide) ?_
              refine DW.x rfl rfl (X.move rfl) (by decide) ?_
              refine DW.x rfl rfl (X.move rfl) (by decide) ?_
              refine DW.x rfl rfl (X.move rfl) (by decide) ?_
              refine DW.x rfl rfl (X.move rfl) (by decide) ?_
              refine DW.x rfl rfl (X.nilCheck rfl) (by decide) ?_
              refine DW.x rfl rfl (X.idxArB i Try.underlying90 Try.sizeOf88 rfl rfl (by omega) (by omega)) (by decide) ?_
              refine DW.x rfl rfl (X.idxArB j Try.underlying88 Try.sizeOf3 rfl rfl (by omega) (by omega)) (by decide) ?_
              refine DW.x rfl rfl (X.loadAr (k := 0) Try.isAgg3 rfl rfl (by omega)) (by decide) ?_
              refine DW.x rfl rfl (X.move rfl) (by decide) ?_
              refine DW.x rfl rfl (X.move rfl) (by decide) ?_
              refine DW.x rfl rfl (X.move rfl) (by decide) ?_
              refine DW.x rfl rfl (X.nilCheck rfl) (by decide) ?_
              refine DW.x rfl rfl (X.idxArB i Try.underlying90 Try.sizeOf88 rfl rfl (by omega) (by omega)) (by decide) ?_
              refine DW.x rfl rfl (X.idxArB k Try.underlying88 Try.sizeOf3 rfl rfl (by omega) (by omega)) (by decide) ?_
              refine DW.x rfl rfl (X.loadAr (k := 0) Try.isAgg3 rfl rfl (by omega)) (by decide) ?_
              refine DW.x rfl rfl (X.move rfl) (by decide) ?_
              refine DW.x rfl rfl (X.move rfl) (by decide) ?_
              refine DW.x rfl rfl (X.move rfl) (by decide) ?_
              refine DW.x rfl rfl (X.nilCheck rfl) (by decide) ?_
              refine DW.x rfl rfl (X.idxArB k Try.underlying90 Try.sizeOf88 rfl rfl (by omega) (by omega)) (by decide) ?_
              refine DW.x rfl rfl (X.idxArB j Try.underlying88 Try.sizeOf3 rfl rfl (by omega) (by omega)) (by decide) ?_
              refine DW.x rfl rfl (X.loadAr (k := 0) Try.isAgg3 rfl rfl (by omega)) (by decide) ?_
              refine DW.x rfl rfl (X.add rfl rfl (by omega) (by omega)) (by decide) ?_
              refine DW.x rfl rfl (X.mn rfl rfl) (by decide) ?_
              refine DW.x rfl rfl (X.nilCheck rfl) (by decide) ?_
              refine DW.x rfl rfl (X.idxArB i Try.underlying90 Try.sizeOf88 rfl rfl (by omega) (by omega)) (by decide) ?_
              refine DW.x rfl rfl (X.idxArB j Try.underlying88 Try.sizeOf3 rfl rfl (by omega) (by omega)) (by decide) ?_
              refine DW.ts rfl rfl rfl rfl (T.storeAr (k := 0) Try.sizeOf3 rfl rfl rfl (by omega)) ?_
              refine DW.nil ?_
              refine WK.nBlock ?_
              refine WK.nThen ?_
              refine WC.region ?_
              refine WL.x (X.add rfl rfl (by omega) (by omega)) (by decide) ?_
              refine WL.x (X.move rfl) (by decide) ?_
              refine WL.nil ?_
              refine WK.nThen ?_
              refine WK.next ((j + 1, L3.set (0 + i * 32 + j * 1) (min (gt L3 (0 + i * 32 + j * 1)) ((gt L3 (0 + i * 32 + k * 1)) + (gt L3 (0 + k * 32 + j * 1)))))) rfl (.refl _) (.cons rfl (.cons rfl (.cons rfl (.cons rfl (.cons rfl (.cons rfl (.cons rfl (.cons rfl (.cons rfl (.cons rfl .nil)))))))))) ?_ ?_
              · exact ⟨tight_step hM3 (by omega) (by omega) (by omega), by omega⟩
              · (dsimp only; omega)
            · refine WL.nil ?_
              refine WK.nThen ?_
              refine WC.seq ?_
              refine WC.condF rfl ?_
              refine WC.exit ?_
              refine WK.eThen ?_
              refine WK.eThen ?_
              refine WK.eHit ?_
              refine WK.nBlock ?_
              refine WK.nThen ?_
              refine WC.region ?_
              refine WL.x (X.add rfl rfl (by omega) (by omega)) (by decide) ?_
              refine WL.x (X.move rfl) (by decide) ?_
              refine WL.nil ?_
              refine WK.nThen ?_
              refine WK.next ((i + 1, L3)) rfl (.refl _) (.cons rfl (.cons rfl (.cons rfl (.cons rfl (.cons rfl (.cons rfl (.cons rfl .nil))))))) ?_ ?_
              · exact ⟨(show j = n from by omega) ▸ hM3, by omega⟩
              · (dsimp only; omega)
        · refine WL.nil ?_
          refine WK.nThen ?_
          refine WC.seq ?_
          refine WC.condF rfl ?_
          refine WC.exit ?_
          refine WK.eThen ?_
          refine WK.eThen ?_
          refine WK.eHit ?_
          refine WK.nBlock ?_
          refine WK.nThen ?_
          refine WC.region ?_
          refine WL.x (X.add rfl rfl (by omega) (by omega)) (by decide) ?_
          refine WL.x (X.move rfl) (by decide) ?_
          refine WL.nil ?_
          refine WK.nThen ?_
          refine WK.next ((k + 1, L2)) rfl (.refl _) (.cons rfl (.cons rfl (.cons rfl (.cons rfl .nil)))) ?_ ?_
          · exact ⟨(show i = n from by omega) ▸ hM2, by omega⟩
          · (dsimp only; omega)
    · refine WL.nil ?_
      refine WK.nThen ?_
      refine WC.seq ?_
      refine WC.condF rfl ?_
      refine WC.exit ?_
      refine WK.eThen ?_
      refine WK.eThen ?_
      refine WK.eHit ?_
      refine WK.end0 rfl (fun w' hw' => Ret.mut hw' ?_)
      exact ⟨rfl, _, (show k = n from by omega) ▸ hM1, rfl⟩

theorem spread62 (m : Mem) (cw : List Value) (w : Wind) (hw : Enc.rd m cw w) (vl : Value) (l : List Station) (hl : Sl m vl l)   : Pure Try.prog 62 #[.agg cw.toArray, vl] m (fun m' v => ∃ r0, v = .tuple #[.pointer r0, .int .i64 (windedE w l)] ∧ (windedE w l = 0 → ∃ p, r0 = some p ∧ At m' p (regS w l))) := by
  obtain rfl := hw
  have ll := hl.le
  refine Pure.start Try.func62 rfl Try.ntmps62 rfl fun wld => ?_
  refine WC.seq ?_
  refine WC.region ?_
  refine WL.tn (T.boxB rfl rfl) (by decide) fun b1 => ?_
  refine WL.x (X.assign rfl) (by decide) ?_
  refine WL.x (X.assign rfl) (by decide) ?_
  refine WL.nil ?_
  refine WK.nThen ?_
  refine WC.seq ?_
  refine WC.seq ?_
  refine WC.region ?_
  refine WL.x (X.move rfl) (by decide) ?_
  refine WL.x (X.call Try.call53 rfl (check53 _ _ _ hl )) (by decide) ?_
  refine WL.x (X.move rfl) (by decide) ?_
  refine WL.x (X.extract rfl rfl) (by decide) ?_
  refine WL.x (X.extract rfl rfl) (by decide) ?_
  refine WL.x (X.assign rfl) (by decide) ?_
  refine WL.x (X.assign rfl) (by decide) ?_
  refine WL.nil ?_
  refine WK.nThen ?_
  refine WC.seq ?_
  refine WC.region ?_
  refine WL.x (X.move rfl) (by decide) ?_
  refine WL.condn (X.neq rfl rfl) (by decide) (fun h2 => ?_) (fun h2 => ?_)
  · refine WL.nil ?_
    refine WK.nThen ?_
    refine WC.condT rfl ?_
    refine WC.seq ?_
    refine WC.region ?_
    refine WL.x (X.move rfl) (by decide) ?_
    refine WL.x (X.assign rfl) (by decide) ?_
    refine WL.x (X.assign rfl) (by decide) ?_
    refine WL.nil ?_
    refine WK.nThen ?_
    refine WC.ret ?_
    refine WK.rThen ?_
    refine WK.ret2 rfl rfl rfl (fun w' hw' => Ret.mem hw' ?_)
    exact ⟨none, tup2 rfl (int_eq (by unfold windedE; rw [if_pos (by omega)])), fun hw => absurd (windedE_zero hw).1 (by omega)⟩
  · refine WL.nil ?_
    refine WK.nThen ?_
    refine WC.condF rfl ?_
    refine WC.skip ?_
    refine WK.nThen ?_
    refine WC.seq ?_
    refine WC.seq ?_
    refine WC.region ?_
    refine WL.x (X.loadBA (k := 0) Try.isAgg23 Try.sizeOf23 rfl rfl rfl) (by decide) ?_
    refine WL.x (X.call Try.call47 rfl (checkWind47 _ _ w rfl )) (by decide) ?_
    refine WL.x (X.assign rfl) (by decide) ?_
    refine WL.nil ?_
    refine WK.nThen ?_
    refine WC.seq ?_
    refine WC.region ?_
    refine WL.x (X.move rfl) (by decide) ?_
    refine WL.condn (X.neq rfl rfl) (by decide) (fun h3 => ?_) (fun h3 => ?_)
    · refine WL.nil ?_
      refine WK.nThen ?_
      refine WC.condT rfl ?_
      refine WC.seq ?_
      refine WC.region ?_
      refine WL.x (X.move rfl) (by decide) ?_
      refine WL.x (X.assign rfl) (by decide) ?_
      refine WL.x (X.assign rfl) (by decide) ?_
      refine WL.nil ?_
      refine WK.nThen ?_
      refine WC.ret ?_
      refine WK.rThen ?_
      refine WK.ret2 rfl rfl rfl (fun w' hw' => Ret.mem hw' ?_)
      exact ⟨none, tup2 rfl (int_eq (by unfold windedE; rw [if_neg (by omega)])), fun hw => absurd (windedE_zero hw).2 (by omega)⟩
    · refine WL.nil ?_
      refine WK.nThen ?_
      refine WC.condF rfl ?_
      refine WC.skip ?_
      refine WK.nThen ?_
      refine WC.seq ?_
      have hw0 := winded_of (w := w) (l := l) (by omega) (by omega)
      have hl32 := (checkS_zero (l := l) (by omega)).1
      refine WC.region ?_
      refine WL.x (X.loadBA (k := 0) Try.isAgg23 Try.sizeOf23 rfl rfl rfl) (by decide) ?_
      refine WL.x (X.move rfl) (by decide) ?_
      refine WL.x (X.build zv92 Try.runUnderlying92 (places92 _ Try.underlying92) rfl (fill92 _ _ _ (one_cells hl.one))) (by decide) ?_
      refine WL.tn (T.boxB rfl rfl) (by decide) fun b4 => ?_
      refine WL.x (X.assign rfl) (by decide) ?_
      refine WL.nil ?_
      refine WK.nThen ?_
      refine WC.seq ?_
      refine WC.seq ?_
      refine WC.region ?_
      refine WL.x (X.move rfl) (by decide) ?_
      refine WL.x (X.len Try.runUnderlying24 rfl hl) (by decide) ?_
      refine WL.x (X.move rfl) (by decide) ?_
      refine WL.nil ?_
      refine WK.nThen ?_
      refine WC.block ?_
      refine WC.loop (G := Nat × List Int) (fun (i, L1) => l.length - i) (fun (i, L1) => m) (fun (i, L1) => [blk b4 92 (ints (L1) ++ [.int .i64 (w.Fixed), .int .i64 (w.Each), vl]), blk b1 23 [.int .i64 (w.Fixed), .int .i64 (w.Each)]]) (fun (i, L1) => [(1, vl), (2, .pointer (some ⟨b1, 0, none⟩)), (9, .pointer (some ⟨b4, 0, none⟩)), (31, vl), (32, .int .i64 (↑l.length)), (33, .int .i64 (↑i))]) (fun (i, L1) => Mat L1 (partM w l i 0) ∧ i ≤ l.length) ((0, List.replicate 1024 0)) rfl (.refl _) (.cons rfl (.cons rfl (.cons rfl (.cons rfl (.cons rfl (.cons rfl .nil)))))) ?_ ?_
      · exact ⟨part_zero w l, Nat.zero_le _⟩
      · rintro ⟨i, L1⟩ hF5
        show WK _ _ m [blk b4 92 (ints (L1) ++ [.int .i64 (w.Fixed), .int .i64 (w.Each), vl]), blk b1 23 [.int .i64 (w.Fixed), .int .i64 (w.Each)]] [(1, vl), (2, .pointer (some ⟨b1, 0, none⟩)), (9, .pointer (some ⟨b4, 0, none⟩)), (31, vl), (32, .int .i64 (↑l.length)), (33, .int .i64 (↑i))] _
        replace hF5 : Mat L1 (partM w l i 0) ∧ i ≤ l.length := hF5
        obtain ⟨hM1, hi⟩ := hF5
        refine WC.seq ?_
        refine WC.region ?_
        refine WL.cond (X.lss rfl rfl) (by decide) (fun h6 => ?_) (fun h6 => ?_)
        · refine WL.nil ?_
          refine WK.nThen ?_
          refine WC.seq ?_
          refine WC.condT rfl ?_
          refine WC.skip ?_
          refine WK.nThen ?_
          refine WC.seq ?_
          refine WC.block ?_
          refine WC.seq ?_
          refine WC.region ?_
          refine WL.x (X.move rfl) (by decide) ?_
          refine WL.xe (E.idxN i Try.runUnderlying24 Try.sizeOf58 rfl rfl hl (by omega)) (by decide) (fun p7 hp8 => ?_)
          refine WL.xe (E.loadAgg Try.isAgg58 Try.sizeOf58 rfl hp8) (by decide) (fun c9 hc10 => ?_)
          obtain ⟨v11, rfl, hs12⟩ := hc10
          have hl13 := hs12.le
          refine WL.tn (T.alloc Try.zeroValue58 rfl) (by decide) fun b14 => ?_
          refine WL.x (X.assign rfl) (by decide) ?_
          refine WL.ts (T.storeBA (k := 0) Try.sizeOf58 rfl rfl rfl (one_cons rfl (one_cons rfl (one_cons rfl (one_cons hs12.one one_nil)))) rfl rfl) ?_
          refine WL.nil ?_
          refine WK.nThen ?_
          refine WC.seq ?_
          refine WC.region ?_
          refine WL.x (X.move rfl) (by decide) ?_
          refine WL.x (X.len Try.runUnderlying24 rfl hl) (by decide) ?_
          refine WL.x (X.move rfl) (by decide) ?_
          refine WL.nil ?_
          refine WK.nThen ?_
          refine WC.block ?_
          refine WC.loop (G := Nat × List Int) (fun (k, L2) => l.length - k) (fun (k, L2) => m) (fun (k, L2) => [blk b14 58 [.int .i64 ((gt l i).ID), .int .i64 ((gt l i).X), .int .i64 ((gt l i).Y), v11], blk b4 92 (ints (L2) ++ [.int .i64 (w.Fixed), .int .i64 (w.Each), vl]), blk b1 23 [.int .i64 (w.Fixed), .int .i64 (w.Each)]]) (fun (k, L2) => [(1, vl), (2, .pointer (some ⟨b1, 0, none⟩)), (9, .pointer (some ⟨b4, 0, none⟩)), (10, .int .i64 (↑i)), (11, .pointer (some ⟨b14, 0, none⟩)), (31, vl), (32, .int .i64 (↑l.length)), (33, .int .i64 (↑i)), (38, vl), (39, .int .i64 (↑l.length)), (40, .int .i64 (↑k))]) (fun (k, L2) => Mat L2 (partM w l i k) ∧ k ≤ l.length) ((0, L1)) rfl (.refl _) (.cons rfl (.cons rfl (.cons rfl (.cons rfl (.cons rfl (.cons rfl (.cons rfl (.cons rfl (.cons rfl (.cons rfl (.cons rfl .nil))))))))))) ?_ ?_
          · exact ⟨hM1, Nat.zero_le _⟩
          · rintro ⟨k, L2⟩ hF15
            show WK _ _ m [blk b14 58 [.int .i64 ((gt l i).ID), .int .i64 ((gt l i).X), .int .i64 ((gt l i).Y), v11], blk b4 92 (ints (L2) ++ [.int .i64 (w.Fixed), .int .i64 (w.Each), vl]), blk b1 23 [.int .i64 (w.Fixed), .int .i64 (w.Each)]] [(1, vl), (2, .pointer (some ⟨b1, 0, none⟩)), (9, .pointer (some ⟨b4, 0, none⟩)), (10, .int .i64 (↑i)), (11, .pointer (some ⟨b14, 0, none⟩)), (31, vl), (32, .int .i64 (↑l.length)), (33, .int .i64 (↑i)), (38, vl), (39, .int .i64 (↑l.length)), (40, .int .i64 (↑k))] _
            replace hF15 : Mat L2 (partM w l i k) ∧ k ≤ l.length := hF15
            obtain ⟨hM2, hk⟩ := hF15
            refine WC.seq ?_
            refine WC.region ?_
            refine WL.cond (X.lss rfl rfl) (by decide) (fun h16 => ?_) (fun h16 => ?_)
            · refine WL.nil ?_
              refine WK.nThen ?_
              refine WC.seq ?_
              refine WC.condT rfl ?_
              refine WC.skip ?_
              refine WK.nThen ?_
              refine WC.seq ?_
              refine WC.block ?_
              refine WC.seq ?_
              refine WC.region ?_
              refine WL.x (X.move rfl) (by decide) ?_
              refine WL.xe (E.idxN k Try.runUnderlying24 Try.sizeOf58 rfl rfl hl (by omega)) (by decide) (fun p17 hp18 => ?_)
              refine WL.xe (E.loadAgg Try.isAgg58 Try.sizeOf58 rfl hp18) (by decide) (fun c19 hc20 => ?_)
              obtain ⟨v21, rfl, hs22⟩ := hc20
              have hl23 := hs22.le
              refine WL.tn (T.alloc Try.zeroValue58 rfl) (by decide) fun b24 => ?_
              refine WL.x (X.assign rfl) (by decide) ?_
              refine WL.ts (T.storeBA (k := 0) Try.sizeOf58 rfl rfl rfl (one_cons rfl (one_cons rfl (one_cons rfl (one_cons hs22.one one_nil)))) rfl rfl) ?_
              refine WL.nil ?_
              refine WK.nThen ?_
              have hpa := (checkS_placed (windedE_zero hw0).1 (k := i) (by omega)).1
              have hpb := (checkS_placed (windedE_zero hw0).1 (k := k) (by omega)).1
              have hl2 := hM2.1
              refine WC.draw (π := (.cons 0 (.cons 1 (.cons 2 (.cons 3 (.cons 4 (.cons 5 (.cons 6 (.cons 7 (.cons 8 (.cons 9 (.cons 10 (.cons 11 .done))))))))))))) [11] [11] rfl (by kernel_rfl) ?_
              refine DW.x rfl rfl (X.move rfl) (by decide) ?_
              refine DW.x rfl rfl (X.move rfl) (by decide) ?_
              refine DW.x rfl rfl (X.move rfl) (by decide) ?_
              refine DW.x rfl rfl (X.loadBA (k := 3) Try.isAgg23 Try.sizeOf23 rfl rfl rfl) (by decide) ?_
              refine DW.x rfl rfl (X.loadBA (k := 1) Try.isAgg58 Try.sizeOf58 rfl rfl rfl) (by decide) ?_
              refine DW.x rfl rfl (X.loadBA (k := 0) Try.isAgg58 Try.sizeOf58 rfl rfl rfl) (by decide) ?_
              refine DW.x rfl rfl (X.call Try.call84 rfl (bound84 _ _ w rfl _ (gt l i) ⟨_, rfl, hs12⟩ _ (gt l k) ⟨_, rfl, hs22⟩ (by first | assumption | exact (windedE_zero hw0).2) (by first | assumption | exact (windedE_zero hw0).2) (by first | assumption | exact (windedE_zero hw0).2))) (by decide) ?_
              refine DW.x rfl rfl (X.nilCheck rfl) (by decide) ?_
              refine DW.x rfl rfl (X.field Try.runUnderlying92 rfl Try.sizeOf90 rfl) (by decide) ?_
              refine DW.x rfl rfl (X.idxArB i Try.underlying90 Try.sizeOf88 rfl rfl (by omega) (by omega)) (by decide) ?_
              refine DW.x rfl rfl (X.idxArB k Try.underlying88 Try.sizeOf3 rfl rfl (by omega) (by omega)) (by decide) ?_
              refine DW.ts rfl rfl rfl rfl (T.storeAr (k := 2) Try.sizeOf3 rfl rfl rfl (by omega)) ?_
              refine DW.nil ?_
              refine WK.nBlock ?_
              refine WK.nThen ?_
              refine WC.region ?_
              refine WL.x (X.add rfl rfl (by omega) (by omega)) (by decide) ?_
              refine WL.x (X.move rfl) (by decide) ?_
              refine WL.nil ?_
              refine WK.nThen ?_
              refine WK.next ((k + 1, L2.set (0 + i * 32 + k * 1) (boundS w (gt l i) (gt l k)))) rfl (.cons _ (.refl _)) (.cons rfl (.cons rfl (.cons rfl (.cons rfl (.cons rfl (.cons rfl (.cons rfl (.cons rfl (.cons rfl (.cons rfl (.cons rfl .nil))))))))))) ?_ ?_
              · exact ⟨part_next hM2 (by omega) (by omega) (by omega), by omega⟩
              · (dsimp only; omega)
            · refine WL.nil ?_
              refine WK.nThen ?_
              refine WC.seq ?_
              refine WC.condF rfl ?_
              refine WC.exit ?_
              refine WK.eThen ?_
              refine WK.eThen ?_
              refine WK.eHit ?_
              refine WK.nBlock ?_
              refine WK.nThen ?_
              refine WC.region ?_
              refine WL.x (X.add rfl rfl (by omega) (by omega)) (by decide) ?_
              refine WL.x (X.move rfl) (by decide) ?_
              refine WL.nil ?_
              refine WK.nThen ?_
              refine WK.next ((i + 1, L2)) rfl (.cons _ (.cons_cons _ (.cons_cons _ .slnil))) (.cons rfl (.cons rfl (.cons rfl (.cons rfl (.cons rfl (.cons rfl .nil)))))) ?_ ?_
              · exact ⟨part_row hM2 (by omega), by omega⟩
              · (dsimp only; omega)
        · refine WL.nil ?_
          refine WK.nThen ?_
          refine WC.seq ?_
          refine WC.condF rfl ?_
          refine WC.exit ?_
          refine WK.eThen ?_
          refine WK.eThen ?_
          refine WK.eHit ?_
          refine WK.nThen ?_
          refine WC.seq ?_
          have hM := part_end hM1 (by omega)
          refine WC.region ?_
          refine WL.x (X.move rfl) (by decide) ?_
          refine WL.x (X.nilCheck rfl) (by decide) ?_
          refine WL.x (X.field Try.runUnderlying92 rfl Try.sizeOf90 rfl) (by decide) ?_
          refine WL.x (X.move rfl) (by decide) ?_
          refine WL.x (X.len Try.runUnderlying24 rfl hl) (by decide) ?_
          refine WL.tM (T.callM (k := 0) Try.call99 rfl rfl (tighten99 _ _ _ _ [.int .i64 (w.Fixed), .int .i64 (w.Each), vl] _ hM (by omega) (boundM_bd hw0))) (by decide) (fun m25 _ _ hle27 ⟨_, L26, hM28, hEs⟩ => ?_)
          subst hEs
          replace hl := hl.mono hle27
          refine WL.nil ?_
          refine WK.nThen ?_
          refine WC.seq ?_
          refine WC.region ?_
          refine WL.x (X.move rfl) (by decide) ?_
          refine WL.x (X.assign rfl) (by decide) ?_
          refine WL.x (X.assign rfl) (by decide) ?_
          refine WL.nil ?_
          refine WK.nThen ?_
          refine WC.ret ?_
          refine WK.freezeS (x := (⟨L26, w, l⟩ : Reg)) 0 rfl rfl (reg_rd hM28.1 hl) (fun m29 hle30 hp31 => ?_)
          replace hl := hl.mono hle30
          refine WK.ret2 rfl rfl rfl (fun w' hw' => Ret.mem hw' ?_)
          exact ⟨_, by rw [hw0], fun _ => ⟨_, rfl, at_reg hp31 hM28⟩⟩

theorem sameRows23 (m : Mem) (va : Value) (a : List (List Int)) (ha : Sl m va a) (vb : Value) (b : List (List Int)) (hb : Sl m vb b)   : Exact Try.prog 23 #[va, vb] m (.bool (decide (a = b))) := by
  have la := ha.le
  have lb := hb.le
  refine Exact.start Try.func23 rfl Try.ntmps23 rfl fun wld => ?_
  refine WC.seq ?_
  refine WC.region ?_
  refine WL.x (X.assign rfl) (by decide) ?_
  refine WL.nil ?_
  refine WK.nThen ?_
  refine WC.seq ?_
  refine WC.seq ?_
  refine WC.region ?_
  refine WL.x (X.move rfl) (by decide) ?_
  refine WL.x (X.len Try.runUnderlying27 rfl ha) (by decide) ?_
  refine WL.x (X.move rfl) (by decide) ?_
  refine WL.x (X.len Try.runUnderlying27 rfl hb) (by decide) ?_
  refine WL.condn (X.neq rfl rfl) (by decide) (fun h1 => ?_) (fun h1 => ?_)
  · refine WL.nil ?_
    refine WK.nThen ?_
    refine WC.condT rfl ?_
    refine WC.seq ?_
    refine WC.region ?_
    refine WL.x (X.assign rfl) (by decide) ?_
    refine WL.nil ?_
    refine WK.nThen ?_
    refine WC.ret ?_
    refine WK.rThen ?_
    refine WK.ret1 rfl rfl (fun w' hw' => Ret.exact hw' ?_)
    exact bool_false (fun e => by subst e; omega)
  · refine WL.nil ?_
    refine WK.nThen ?_
    refine WC.condF rfl ?_
    refine WC.skip ?_
    refine WK.nThen ?_
    refine WC.seq ?_
    refine WC.seq ?_
    refine WC.region ?_
    refine WL.x (X.assign rfl) (by decide) ?_
    refine WL.nil ?_
    refine WK.nThen ?_
    refine WC.block ?_
    refine WC.loop (G := Nat) (fun k => a.length - k) (fun k => m) (fun k => []) (fun k => [(0, va), (1, vb), (5, .int .i64 (↑k))]) (fun k => k ≤ a.length ∧ (∀ j, j < k → gt a j = gt b j)) 0 rfl (.refl _) (.cons rfl (.cons rfl (.cons rfl .nil))) ?_ ?_
    · exact ⟨Nat.zero_le _, fun j hj => absurd hj (Nat.not_lt_zero _)⟩
    · rintro k hF2
      show WK _ _ m [] [(0, va), (1, vb), (5, .int .i64 (↑k))] _
      replace hF2 : k ≤ a.length ∧ (∀ j, j < k → gt a j = gt b j) := hF2
      obtain ⟨hk, hall⟩ := hF2
      refine WC.seq ?_
      refine WC.seq ?_
      refine WC.region ?_
      refine WL.x (X.move rfl) (by decide) ?_
      refine WL.x (X.move rfl) (by decide) ?_
      refine WL.x (X.len Try.runUnderlying27 rfl ha) (by decide) ?_
      refine WL.cond (X.lss rfl rfl) (by decide) (fun h3 => ?_) (fun h3 => ?_)
      · refine WL.nil ?_
        refine WK.nThen ?_
        refine WC.condT rfl ?_
        refine WC.skip ?_
        refine WK.nThen ?_
        refine WC.seq ?_
        refine WC.block ?_
        refine WC.seq ?_
        refine WC.seq ?_
        refine WC.draw (π := (.cons 0 (.cons 1 (.cons 2 (.cons 3 (.cons 4 (.cons 5 (.cons 6 (.cons 7 (.cons 8 (.cons 9 (.cons 10 .done)))))))))))) [] [] rfl (by kernel_rfl) ?_
        refine DW.x rfl rfl (X.move rfl) (by decide) ?_
        refine DW.x rfl rfl (X.move rfl) (by decide) ?_
        refine DW.xe rfl rfl (E.idxN k Try.runUnderlying27 Try.sizeOf31 rfl rfl ha (by omega)) (by decide) (fun p4 hp5 => ?_)
        refine DW.xe rfl rfl (E.loadSl Try.isAgg31 rfl hp5) (by decide) (fun v6 hs7 => ?_)
        have hl8 := hs7.le
        refine DW.x rfl rfl (X.len Try.runUnderlying31 rfl hs7) (by decide) ?_
        refine DW.x rfl rfl (X.move rfl) (by decide) ?_
        refine DW.x rfl rfl (X.move rfl) (by decide) ?_
        refine DW.xe rfl rfl (E.idxN k Try.runUnderlying27 Try.sizeOf31 rfl rfl hb (by omega)) (by decide) (fun p9 hp10 => ?_)
        refine DW.xe rfl rfl (E.loadSl Try.isAgg31 rfl hp10) (by decide) (fun v11 hs12 => ?_)
        have hl13 := hs12.le
        refine DW.x rfl rfl (X.len Try.runUnderlying31 rfl hs12) (by decide) ?_
        refine DW.condn rfl rfl (X.neq rfl rfl) (by decide) (fun h14 => ?_) (fun h14 => ?_)
        · refine DW.nil ?_
          refine WK.nThen ?_
          refine WC.condT rfl ?_
          refine WC.seq ?_
          refine WC.region ?_
          refine WL.x (X.assign rfl) (by decide) ?_
          refine WL.nil ?_
          refine WK.nThen ?_
          refine WC.ret ?_
          refine WK.rThen ?_
          refine WK.rBlock ?_
          refine WK.rThen ?_
          refine WK.rThen ?_
          refine WK.rBlock ?_
          refine WK.rThen ?_
          refine WK.ret1 rfl rfl (fun w' hw' => Ret.exact hw' ?_)
          exact bool_false (fun e => by subst e; omega)
        · refine DW.nil ?_
          refine WK.nThen ?_
          refine WC.condF rfl ?_
          refine WC.skip ?_
          refine WK.nThen ?_
          refine WC.seq ?_
          refine WC.region ?_
          refine WL.x (X.assign rfl) (by decide) ?_
          refine WL.nil ?_
          refine WK.nThen ?_
          refine WC.block ?_
          refine WC.loop (G := Nat) (fun q => (gt a k).length - q) (fun q => m) (fun q => []) (fun q => [(0, va), (1, vb), (5, .int .i64 (↑k)), (6, .int .i64 (↑q))]) (fun q => q ≤ (gt a k).length ∧ (∀ i, i < q → gt (gt a k) i = gt (gt b k) i)) 0 rfl (.refl _) (.cons rfl (.cons rfl (.cons rfl (.cons rfl .nil)))) ?_ ?_
          · exact ⟨Nat.zero_le _, fun j hj => absurd hj (Nat.not_lt_zero _)⟩
          · rintro q hF15
            show WK _ _ m [] [(0, va), (1, vb), (5, .int .i64 (↑k)), (6, .int .i64 (↑q))] _
            replace hF15 : q ≤ (gt a k).length ∧ (∀ i, i < q → gt (gt a k) i = gt (gt b k) i) := hF15
            obtain ⟨hq, hin⟩ := hF15
            refine WC.seq ?_
            refine WC.seq ?_
            refine WC.region ?_
            refine WL.x (X.move rfl) (by decide) ?_
            refine WL.x (X.move rfl) (by decide) ?_
            refine WL.x (X.move rfl) (by decide) ?_
            refine WL.xe (E.idxN k Try.runUnderlying27 Try.sizeOf31 rfl rfl ha (by omega)) (by decide) (fun p16 hp17 => ?_)
            refine WL.xe (E.loadSl Try.isAgg31 rfl hp17) (by decide) (fun v18 hs19 => ?_)
            have hl20 := hs19.le
            refine WL.x (X.len Try.runUnderlying31 rfl hs19) (by decide) ?_
            refine WL.cond (X.lss rfl rfl) (by decide) (fun h21 => ?_) (fun h21 => ?_)
            · refine WL.nil ?_
              refine WK.nThen ?_
              refine WC.condT rfl ?_
              refine WC.skip ?_
              refine WK.nThen ?_
              refine WC.seq ?_
              refine WC.block ?_
              refine WC.seq ?_
              refine WC.draw (π := (.cons 0 (.cons 1 (.cons 2 (.cons 3 (.cons 4 (.cons 5 (.cons 6 (.cons 7 (.cons 8 (.cons 9 (.cons 10 (.cons 11 (.cons 12 (.cons 13 (.cons 14 .done)))))))))))))))) [] [] rfl (by kernel_rfl) ?_
              refine DW.x rfl rfl (X.move rfl) (by decide) ?_
              refine DW.x rfl rfl (X.move rfl) (by decide) ?_
              refine DW.xe rfl rfl (E.idxN k Try.runUnderlying27 Try.sizeOf31 rfl rfl ha (by omega)) (by decide) (fun p22 hp23 => ?_)
              refine DW.xe rfl rfl (E.loadSl Try.isAgg31 rfl hp23) (by decide) (fun v24 hs25 => ?_)
              have hl26 := hs25.le
              refine DW.x rfl rfl (X.move rfl) (by decide) ?_
              refine DW.xe rfl rfl (E.idxN q Try.runUnderlying31 Try.sizeOf3 rfl rfl hs25 (by omega)) (by decide) (fun p27 hp28 => ?_)
              refine DW.x rfl rfl (X.loadInt Try.isAgg3 rfl hp28) (by decide) ?_
              refine DW.x rfl rfl (X.move rfl) (by decide) ?_
              refine DW.x rfl rfl (X.move rfl) (by decide) ?_
              refine DW.xe rfl rfl (E.idxN k Try.runUnderlying27 Try.sizeOf31 rfl rfl hb (by omega)) (by decide) (fun p29 hp30 => ?_)
              refine DW.xe rfl rfl (E.loadSl Try.isAgg31 rfl hp30) (by decide) (fun v31 hs32 => ?_)
              have hl33 := hs32.le
              refine DW.x rfl rfl (X.move rfl) (by decide) ?_
              refine DW.xe rfl rfl (E.idxN q Try.runUnderlying31 Try.sizeOf3 rfl rfl hs32 (by omega)) (by decide) (fun p34 hp35 => ?_)
              refine DW.x rfl rfl (X.loadInt Try.isAgg3 rfl hp35) (by decide) ?_
              refine DW.condn rfl rfl (X.neq rfl rfl) (by decide) (fun h36 => ?_) (fun h36 => ?_)
              · refine DW.nil ?_
                refine WK.nThen ?_
                refine WC.condT rfl ?_
                refine WC.seq ?_
                refine WC.region ?_
                refine WL.x (X.assign rfl) (by decide) ?_
                refine WL.nil ?_
                refine WK.nThen ?_
                refine WC.ret ?_
                refine WK.rBlock ?_
                refine WK.rThen ?_
                refine WK.rThen ?_
                refine WK.rBlock ?_
                refine WK.rBlock ?_
                refine WK.rThen ?_
                refine WK.rThen ?_
                refine WK.rBlock ?_
                refine WK.rThen ?_
                refine WK.ret1 rfl rfl (fun w' hw' => Ret.exact hw' ?_)
                exact bool_false (fun e => by subst e; contradiction)
              · refine DW.nil ?_
                refine WK.nThen ?_
                refine WC.condF rfl ?_
                refine WC.skip ?_
                refine WK.nBlock ?_
                refine WK.nThen ?_
                refine WC.region ?_
                refine WL.x (X.move rfl) (by decide) ?_
                refine WL.x (X.add rfl rfl (by omega) (by omega)) (by decide) ?_
                refine WL.x (X.assign rfl) (by decide) ?_
                refine WL.nil ?_
                refine WK.nThen ?_
                refine WK.next (q + 1) rfl (.refl _) (.cons rfl (.cons rfl (.cons rfl (.cons rfl .nil)))) ?_ ?_
                · exact ⟨by omega, fun i hi => by rcases Nat.lt_succ_iff_lt_or_eq.1 hi with h | h; exact hin i h; subst h; assumption⟩
                · omega
            · refine WL.nil ?_
              refine WK.nThen ?_
              refine WC.condF rfl ?_
              refine WC.exit ?_
              refine WK.eThen ?_
              refine WK.eThen ?_
              refine WK.eHit ?_
              refine WK.nBlock ?_
              refine WK.nThen ?_
              refine WC.region ?_
              refine WL.x (X.move rfl) (by decide) ?_
              refine WL.x (X.add rfl rfl (by omega) (by omega)) (by decide) ?_
              refine WL.x (X.assign rfl) (by decide) ?_
              refine WL.nil ?_
              refine WK.nThen ?_
              refine WK.next (k + 1) rfl (.refl _) (.cons rfl (.cons rfl (.cons rfl .nil))) ?_ ?_
              · exact ⟨by omega, fun j hj => by rcases Nat.lt_succ_iff_lt_or_eq.1 hj with h | h; exact hall j h; subst h; exact ext_gt (by omega) (fun i hi => hin i (by omega))⟩
              · omega
      · refine WL.nil ?_
        refine WK.nThen ?_
        refine WC.condF rfl ?_
        refine WC.exit ?_
        refine WK.eThen ?_
        refine WK.eThen ?_
        refine WK.eHit ?_
        refine WK.nThen ?_
        refine WC.seq ?_
        refine WC.region ?_
        refine WL.x (X.assign rfl) (by decide) ?_
        refine WL.nil ?_
        refine WK.nThen ?_
        refine WC.ret ?_
        refine WK.ret1 rfl rfl (fun w' hw' => Ret.exact hw' ?_)
        exact bool_true (ext_gt (by omega) (fun j hj => hall j (by omega)))

theorem winded63 (m : Mem) (cw : List Value) (w : Wind) (hw : Enc.rd m cw w) (vl : Value) (l : List Station) (hl : Sl m vl l)   : Exact Try.prog 63 #[.agg cw.toArray, vl] m (.int .i64 (windedE w l)) := by
  obtain rfl := hw
  have ll := hl.le
  refine Exact.start Try.func63 rfl Try.ntmps63 rfl fun wld => ?_
  refine WC.seq ?_
  refine WC.region ?_
  refine WL.tn (T.boxB rfl rfl) (by decide) fun b1 => ?_
  refine WL.x (X.assign rfl) (by decide) ?_
  refine WL.nil ?_
  refine WK.nThen ?_
  refine WC.seq ?_
  refine WC.region ?_
  refine WL.x (X.move rfl) (by decide) ?_
  refine WL.x (X.call Try.call96 rfl (checkList96 _ _ _ hl )) (by decide) ?_
  refine WL.x (X.assign rfl) (by decide) ?_
  refine WL.nil ?_
  refine WK.nThen ?_
  refine WC.seq ?_
  refine WC.seq ?_
  refine WC.region ?_
  refine WL.x (X.move rfl) (by decide) ?_
  refine WL.condn (X.neq rfl rfl) (by decide) (fun h2 => ?_) (fun h2 => ?_)
  · refine WL.nil ?_
    refine WK.nThen ?_
    refine WC.condT rfl ?_
    refine WC.seq ?_
    refine WC.region ?_
    refine WL.x (X.move rfl) (by decide) ?_
    refine WL.x (X.assign rfl) (by decide) ?_
    refine WL.nil ?_
    refine WK.nThen ?_
    refine WC.ret ?_
    refine WK.rThen ?_
    refine WK.ret1 rfl rfl (fun w' hw' => Ret.exact hw' ?_)
    first | exact int_eq (by unfold windedE; rw [if_pos (by assumption)]) | exact int_eq (by unfold windedE; rw [if_neg (by omega)])
  · refine WL.nil ?_
    refine WK.nThen ?_
    refine WC.condF rfl ?_
    refine WC.skip ?_
    refine WK.nThen ?_
    refine WC.seq ?_
    refine WC.region ?_
    refine WL.x (X.loadBA (k := 0) Try.isAgg23 Try.sizeOf23 rfl rfl rfl) (by decide) ?_
    refine WL.x (X.call Try.call48 rfl (checkWind48 _ _ w rfl )) (by decide) ?_
    refine WL.x (X.assign rfl) (by decide) ?_
    refine WL.nil ?_
    refine WK.nThen ?_
    refine WC.ret ?_
    refine WK.ret1 rfl rfl (fun w' hw' => Ret.exact hw' ?_)
    first | exact int_eq (by unfold windedE; rw [if_pos (by assumption)]) | exact int_eq (by unfold windedE; rw [if_neg (by omega)])

theorem bounds68 (m : Mem) (w : Wind) (vl : Value) (l : List Station) (hl : Sl m vl l) (hw0 : windedE w l = 0) : Mut Try.prog 68 #[.agg [.int .i64 w.Fixed, .int .i64 w.Each].toArray, vl] m [] (fun _ Es v => ∃ vs, vs.length = l.length ∧ Es = row v 31 1 vs.length vs :: ([] ++ rowsOf 3 vs (boundsL w l))) := by
  have hz := windedE_zero hw0
  have hl32 := (checkS_zero (l := l) hz.1).1
  refine Mut.start Try.func68 rfl Try.ntmps68 rfl fun wld => ?_
  refine WC.seq ?_
  refine WC.region ?_
  refine WL.tn (T.boxB rfl rfl) (by decide) fun b1 => ?_
  refine WL.x (X.assign rfl) (by decide) ?_
  refine WL.nil ?_
  refine WK.nThen ?_
  refine WC.seq ?_
  refine WK.own0 31 1 ?_
  refine WC.region ?_
  refine WL.x (X.assign rfl) (by decide) ?_
  refine WL.nil ?_
  refine WK.nThen ?_
  refine WC.seq ?_
  refine WC.seq ?_
  refine WC.region ?_
  refine WL.x (X.assign rfl) (by decide) ?_
  refine WL.nil ?_
  refine WK.nThen ?_
  refine WC.block ?_
  refine WC.loop (G := Nat × Value × List Value) (fun (i, vo, vs) => l.length - i) (fun (i, vo, vs) => m) (fun (i, vo, vs) => ([row (vo) 31 1 (vs).length (vs), blk b1 23 [.int .i64 (w.Fixed), .int .i64 (w.Each)]] ++ rowsOf 3 (vs) ((List.range i).map (fun i => (List.range l.length).map fun k => boundM w l i k)))) (fun (i, vo, vs) => [(1, vl), (2, .pointer (some ⟨b1, 0, none⟩)), (5, vo), (6, .int .i64 (↑i))]) (fun (i, vo, vs) => vs.length = i ∧ i ≤ l.length) ((0, Value.slice none 0 0, [])) rfl (.refl _) (.cons rfl (.cons rfl (.cons rfl (.cons rfl .nil)))) ?_ ?_
  · exact ⟨rfl, Nat.zero_le _⟩
  · rintro ⟨i, vo, vs⟩ hF2
    show WK _ _ m ([row (vo) 31 1 (vs).length (vs), blk b1 23 [.int .i64 (w.Fixed), .int .i64 (w.Each)]] ++ rowsOf 3 (vs) ((List.range i).map (fun i => (List.range l.length).map fun k => boundM w l i k))) [(1, vl), (2, .pointer (some ⟨b1, 0, none⟩)), (5, vo), (6, .int .i64 (↑i))] _
    replace hF2 : vs.length = i ∧ i ≤ l.length := hF2
    obtain ⟨hvs, hi⟩ := hF2
    have hlen : vs.length = ((List.range i).map (fun i => (List.range l.length).map fun k => boundM w l i k)).length := (by simp [hvs])
    refine WC.seq ?_
    refine WC.seq ?_
    refine WC.region ?_
    refine WL.x (X.move rfl) (by decide) ?_
    refine WL.x (X.move rfl) (by decide) ?_
    refine WL.x (X.len Try.runUnderlying24 rfl hl) (by decide) ?_
    refine WL.cond (X.lss rfl rfl) (by decide) (fun h3 => ?_) (fun h3 => ?_)
    · refine WL.nil ?_
      refine WK.nThen ?_
      refine WC.condT rfl ?_
      refine WC.skip ?_
      refine WK.nThen ?_
      refine WC.seq ?_
      refine WC.block ?_
      refine WC.seq ?_
      refine WK.ownF Int 3 ?_
      refine WC.region ?_
      refine WL.x (X.assign rfl) (by decide) ?_
      refine WL.nil ?_
      refine WK.nThen ?_
      refine WC.seq ?_
      refine WC.seq ?_
      refine WC.region ?_
      refine WL.x (X.assign rfl) (by decide) ?_
      refine WL.nil ?_
      refine WK.nThen ?_
      refine WC.block ?_
      refine WC.loop (G := Nat × Value) (fun (k, vr) => l.length - k) (fun (k, vr) => m) (fun (k, vr) => ([rowF (vr) 3 ((List.range k).map fun k => boundM w l i k), row (vo) 31 1 (vs).length (vs), blk b1 23 [.int .i64 (w.Fixed), .int .i64 (w.Each)]] ++ rowsOf 3 (vs) ((List.range i).map (fun i => (List.range l.length).map fun k => boundM w l i k)))) (fun (k, vr) => [(1, vl), (2, .pointer (some ⟨b1, 0, none⟩)), (5, vo), (6, .int .i64 (↑i)), (7, vr), (8, .int .i64 (↑k))]) (fun (k, vr) => k ≤ l.length) ((0, Value.slice none 0 0)) rfl (.refl _) (.cons rfl (.cons rfl (.cons rfl (.cons rfl (.cons rfl (.cons rfl .nil)))))) ?_ ?_
      · exact Nat.zero_le _
      · rintro ⟨k, vr⟩ hF4
        show WK _ _ m ([rowF (vr) 3 ((List.range k).map fun k => boundM w l i k), row (vo) 31 1 (vs).length (vs), blk b1 23 [.int .i64 (w.Fixed), .int .i64 (w.Each)]] ++ rowsOf 3 (vs) ((List.range i).map (fun i => (List.range l.length).map fun k => boundM w l i k))) [(1, vl), (2, .pointer (some ⟨b1, 0, none⟩)), (5, vo), (6, .int .i64 (↑i)), (7, vr), (8, .int .i64 (↑k))] _
        replace hF4 : k ≤ l.length := hF4
        have hk := hF4
        refine WC.seq ?_
        refine WC.seq ?_
        refine WC.region ?_
        refine WL.x (X.move rfl) (by decide) ?_
        refine WL.x (X.move rfl) (by decide) ?_
        refine WL.x (X.len Try.runUnderlying24 rfl hl) (by decide) ?_
        refine WL.cond (X.lss rfl rfl) (by decide) (fun h5 => ?_) (fun h5 => ?_)
        · refine WL.nil ?_
          refine WK.nThen ?_
          refine WC.condT rfl ?_
          refine WC.skip ?_
          refine WK.nThen ?_
          refine WC.seq ?_
          refine WC.block ?_
          have hpa := (checkS_placed (windedE_zero hw0).1 (k := i) (by omega)).1
          have hpb := (checkS_placed (windedE_zero hw0).1 (k := k) (by omega)).1
          refine WC.draw (π := (.cons 0 (.cons 1 (.cons 2 (.cons 3 (.cons 4 (.cons 5 (.cons 6 (.cons 7 (.cons 8 (.cons 9 (.cons 10 (.cons 11 (.cons 12 (.cons 13 .done))))))))))))))) [11, 12] [12] rfl (by kernel_rfl) ?_
          refine DW.x rfl rfl (X.move rfl) (by decide) ?_
          refine DW.x rfl rfl (X.loadBA (k := 2) Try.isAgg23 Try.sizeOf23 rfl rfl rfl) (by decide) ?_
          refine DW.x rfl rfl (X.move rfl) (by decide) ?_
          refine DW.x rfl rfl (X.move rfl) (by decide) ?_
          refine DW.xe rfl rfl (E.idxN i Try.runUnderlying24 Try.sizeOf58 rfl rfl hl (by omega)) (by decide) (fun p6 hp7 => ?_)
          refine DW.xe rfl rfl (E.loadAgg Try.isAgg58 Try.sizeOf58 rfl hp7) (by decide) (fun c8 hc9 => ?_)
          obtain ⟨v10, rfl, hs11⟩ := hc9
          have hl12 := hs11.le
          refine DW.x rfl rfl (X.move rfl) (by decide) ?_
          refine DW.x rfl rfl (X.move rfl) (by decide) ?_
          refine DW.xe rfl rfl (E.idxN k Try.runUnderlying24 Try.sizeOf58 rfl rfl hl (by omega)) (by decide) (fun p13 hp14 => ?_)
          refine DW.xe rfl rfl (E.loadAgg Try.isAgg58 Try.sizeOf58 rfl hp14) (by decide) (fun c15 hc16 => ?_)
          obtain ⟨v17, rfl, hs18⟩ := hc16
          have hl19 := hs18.le
          refine DW.x rfl rfl (X.call Try.call85 rfl (bound85 _ _ w rfl _ (gt l i) ⟨_, rfl, hs11⟩ _ (gt l k) ⟨_, rfl, hs18⟩ (by first | assumption | exact (windedE_zero hw0).2) (by first | assumption | exact (windedE_zero hw0).2) (by first | assumption | exact (windedE_zero hw0).2))) (by decide) ?_
          refine DW.tl rfl rfl rfl (T.lit1 sl31 rfl rfl rfl (by decide)) (by decide) fun b20 => ?_
          refine DW.ta rfl rfl rfl rfl (T.appendF (k := 0) (a := boundS w (gt l i) (gt l k)) sl31 rfl rfl rfl rfl (by first | omega | (simp; omega)) (by decide)) (by decide) (fun v21 => ?_)
          refine DW.x rfl rfl (X.assign rfl) (by decide) ?_
          refine DW.nil ?_
          refine WK.nBlock ?_
          refine WK.nThen ?_
          refine WC.region ?_
          refine WL.x (X.move rfl) (by decide) ?_
          refine WL.x (X.add rfl rfl (by omega) (by omega)) (by decide) ?_
          refine WL.x (X.assign rfl) (by decide) ?_
          refine WL.nil ?_
          refine WK.nThen ?_
          have he22 : (((List.range k).map fun k => boundM w l i k) ++ [boundS w (gt l i) (gt l k)]) = ((List.range (k + 1)).map fun k => boundM w l i k) := by rw [← map_succ]; congr 2; exact (if_pos ⟨by omega, by omega⟩).symm
          rw [he22]
          refine WK.next ((k + 1, v21)) rfl (.refl _) (.cons rfl (.cons rfl (.cons rfl (.cons rfl (.cons rfl (.cons rfl .nil)))))) ?_ ?_
          · omega
          · (dsimp only; omega)
        · refine WL.nil ?_
          refine WK.nThen ?_
          refine WC.condF rfl ?_
          refine WC.exit ?_
          refine WK.eThen ?_
          refine WK.eThen ?_
          refine WK.eHit ?_
          refine WK.nThen ?_
          refine WC.region ?_
          refine WL.x (X.move rfl) (by decide) ?_
          refine WL.x (X.move rfl) (by decide) ?_
          refine WL.own1 (k := 0) rfl (fun ho23 => ?_)
          refine WL.tl (T.lit1 sl27 rfl (one_cells ho23) rfl (by decide)) (by decide) fun b24 => ?_
          refine WL.ta (T.appendN (k := 1) (n' := (vs ++ [vr]).length) sl27 rfl rfl rfl rfl rfl (one_cons ho23 one_nil) (by simp) (by simp; omega) (by simp; omega)) (by decide) (fun v25 => ?_)
          refine WL.x (X.assign rfl) (by decide) ?_
          refine WL.nil ?_
          refine WK.nBlock ?_
          refine WK.nThen ?_
          refine WC.region ?_
          refine WL.x (X.move rfl) (by decide) ?_
          refine WL.x (X.add rfl rfl (by omega) (by omega)) (by decide) ?_
          refine WL.x (X.assign rfl) (by decide) ?_
          refine WL.nil ?_
          refine WK.nThen ?_
          have he26 : ((List.range k).map fun k => boundM w l i k) = ((List.range l.length).map fun k => boundM w l i k) := by rw [show k = l.length by omega]
          rw [he26]
          refine WK.perm (([row (v25) 31 1 (vs ++ [vr]).length (vs ++ [vr]), blk b1 23 [.int .i64 (w.Fixed), .int .i64 (w.Each)]] ++ rowsOf 3 (vs ++ [vr]) (((List.range i).map (fun i => (List.range l.length).map fun k => boundM w l i k)) ++ [(List.range l.length).map fun k => boundM w l i k]))) (by rw [rowsOf_snoc (by simp [hlen])]; exact perm_seg [] [row (v25) 31 1 (vs ++ [vr]).length (vs ++ [vr]), blk b1 23 [.int .i64 (w.Fixed), .int .i64 (w.Each)]] _ _) ?_
          have he27 : (((List.range i).map (fun i => (List.range l.length).map fun k => boundM w l i k)) ++ [(List.range l.length).map fun k => boundM w l i k]) = ((List.range (i + 1)).map (fun i => (List.range l.length).map fun k => boundM w l i k)) := map_succ _ _
          rw [he27]
          refine WK.next ((i + 1, v25, vs ++ [vr])) rfl (.refl _) (.cons rfl (.cons rfl (.cons rfl (.cons rfl .nil)))) ?_ ?_
          · exact ⟨by simp [hvs], by omega⟩
          · (dsimp only; omega)
    · refine WL.nil ?_
      refine WK.nThen ?_
      refine WC.condF rfl ?_
      refine WC.exit ?_
      refine WK.eThen ?_
      refine WK.eThen ?_
      refine WK.eHit ?_
      refine WK.nThen ?_
      refine WC.seq ?_
      refine WK.drop (H' := ([row (vo) 31 1 (vs).length (vs)] ++ rowsOf 3 (vs) ((List.range i).map (fun i => (List.range l.length).map fun k => boundM w l i k)))) (.cons_cons _ (.cons _ (.refl _))) ?_
      refine WC.region ?_
      refine WL.x (X.move rfl) (by decide) ?_
      refine WL.x (X.assign rfl) (by decide) ?_
      refine WL.nil ?_
      refine WK.nThen ?_
      refine WC.ret ?_
      refine WK.ret1 rfl rfl (fun w' hw' => Ret.mut hw' ?_)
      obtain rfl : i = l.length := (by omega)
      exact ⟨_, hvs, rfl⟩

theorem tight64 (m : Mem) (cw : List Value) (w : Wind) (hw : Enc.rd m cw w) (vl : Value) (l : List Station) (hl : Sl m vl l)  (hw0 : windedE w l = 0) : Pure Try.prog 64 #[.agg cw.toArray, vl] m (fun m' v => ∃ r0, v = r0 ∧ Sl m' r0 (tightL w l)) := by
  obtain rfl := hw
  have ll := hl.le
  have hz := windedE_zero hw0
  have hl32 := (checkS_zero (l := l) hz.1).1
  have hB := boundM_bd hw0
  refine Pure.start Try.func64 rfl Try.ntmps64 rfl fun wld => ?_
  refine WC.seq ?_
  refine WC.region ?_
  refine WL.tn (T.boxB rfl rfl) (by decide) fun b1 => ?_
  refine WL.x (X.assign rfl) (by decide) ?_
  refine WL.nil ?_
  refine WK.nThen ?_
  refine WC.seq ?_
  refine WC.region ?_
  refine WL.x (X.loadBA (k := 0) Try.isAgg23 Try.sizeOf23 rfl rfl rfl) (by decide) ?_
  refine WL.x (X.move rfl) (by decide) ?_
  refine WL.tM (T.callO Try.call68 rfl (bounds68 _ w _ _ hl hw0)) (by decide) (fun m2 _ v3 hle5 hR6 => ?_)
  obtain ⟨vs4, hvs7, rfl⟩ := hR6
  replace hl := hl.mono hle5
  refine WL.perm (([row (v3) 31 1 (vs4).length (vs4), blk b1 23 [.int .i64 (w.Fixed), .int .i64 (w.Each)]] ++ rowsOf 3 (vs4) (boundsL w l))) (perm_own _ _ _) ?_
  refine WL.x (X.assign rfl) (by decide) ?_
  refine WL.nil ?_
  refine WK.nThen ?_
  refine WC.seq ?_
  refine WC.seq ?_
  refine WC.region ?_
  refine WL.x (X.assign rfl) (by decide) ?_
  refine WL.nil ?_
  refine WK.nThen ?_
  refine WC.block ?_
  refine WC.loop (G := Nat × List (List Int)) (fun (k, M1) => l.length - k) (fun (k, M1) => m2) (fun (k, M1) => ([row (v3) 31 1 (vs4).length (vs4), blk b1 23 [.int .i64 (w.Fixed), .int .i64 (w.Each)]] ++ rowsOf 3 (vs4) (M1))) (fun (k, M1) => [(1, vl), (5, v3), (6, .int .i64 (↑k))]) (fun (k, M1) => MatL l.length M1 (allS l.length (boundM w l) k) ∧ k ≤ l.length) ((0, boundsL w l)) rfl (.refl _) (.cons rfl (.cons rfl (.cons rfl .nil))) ?_ ?_
  · exact ⟨sqL_mat _ _, Nat.zero_le _⟩
  · rintro ⟨k, M1⟩ hF8
    show WK _ _ m2 ([row (v3) 31 1 (vs4).length (vs4), blk b1 23 [.int .i64 (w.Fixed), .int .i64 (w.Each)]] ++ rowsOf 3 (vs4) (M1)) [(1, vl), (5, v3), (6, .int .i64 (↑k))] _
    replace hF8 : MatL l.length M1 (allS l.length (boundM w l) k) ∧ k ≤ l.length := hF8
    obtain ⟨hM1, hk⟩ := hF8
    have hB1 := hB.all k hk
    have hm1 := hM1.1
    have hvs := hvs7
    refine WC.seq ?_
    refine WC.seq ?_
    refine WC.region ?_
    refine WL.x (X.move rfl) (by decide) ?_
    refine WL.x (X.move rfl) (by decide) ?_
    refine WL.x (X.len Try.runUnderlying24 rfl hl) (by decide) ?_
    refine WL.cond (X.lss rfl rfl) (by decide) (fun h9 => ?_) (fun h9 => ?_)
    · refine WL.nil ?_
      refine WK.nThen ?_
      refine WC.condT rfl ?_
      refine WC.skip ?_
      refine WK.nThen ?_
      refine WC.seq ?_
      refine WC.block ?_
      refine WC.seq ?_
      refine WC.region ?_
      refine WL.x (X.assign rfl) (by decide) ?_
      refine WL.nil ?_
      refine WK.nThen ?_
      refine WC.block ?_
      refine WC.loop (G := Nat × List (List Int)) (fun (i, M2) => l.length - i) (fun (i, M2) => m2) (fun (i, M2) => ([row (v3) 31 1 (vs4).length (vs4), blk b1 23 [.int .i64 (w.Fixed), .int .i64 (w.Each)]] ++ rowsOf 3 (vs4) (M2))) (fun (i, M2) => [(1, vl), (5, v3), (6, .int .i64 (↑k)), (7, .int .i64 (↑i))]) (fun (i, M2) => MatL l.length M2 (layS l.length k (allS l.length (boundM w l) k) i) ∧ i ≤ l.length) ((0, M1)) rfl (.refl _) (.cons rfl (.cons rfl (.cons rfl (.cons rfl .nil)))) ?_ ?_
      · exact ⟨hM1, Nat.zero_le _⟩
      · rintro ⟨i, M2⟩ hF10
        show WK _ _ m2 ([row (v3) 31 1 (vs4).length (vs4), blk b1 23 [.int .i64 (w.Fixed), .int .i64 (w.Each)]] ++ rowsOf 3 (vs4) (M2)) [(1, vl), (5, v3), (6, .int .i64 (↑k)), (7, .int .i64 (↑i))] _
        replace hF10 : MatL l.length M2 (layS l.length k (allS l.length (boundM w l) k) i) ∧ i ≤ l.length := hF10
        obtain ⟨hM2, hi⟩ := hF10
        have hB2 := hB1.lay (k := k) (by omega) i hi
        refine WC.seq ?_
        refine WC.seq ?_
        refine WC.region ?_
        refine WL.x (X.move rfl) (by decide) ?_
        refine WL.x (X.move rfl) (by decide) ?_
        refine WL.x (X.len Try.runUnderlying24 rfl hl) (by decide) ?_
        refine WL.cond (X.lss rfl rfl) (by decide) (fun h11 => ?_) (fun h11 => ?_)
        · refine WL.nil ?_
          refine WK.nThen ?_
          refine WC.condT rfl ?_
          refine WC.skip ?_
          refine WK.nThen ?_
          refine WC.seq ?_
          refine WC.block ?_
          refine WC.seq ?_
          refine WC.region ?_
          refine WL.x (X.assign rfl) (by decide) ?_
          refine WL.nil ?_
          refine WK.nThen ?_
          refine WC.block ?_
          refine WC.loop (G := Nat × List (List Int)) (fun (j, M3) => l.length - j) (fun (j, M3) => m2) (fun (j, M3) => ([row (v3) 31 1 (vs4).length (vs4), blk b1 23 [.int .i64 (w.Fixed), .int .i64 (w.Each)]] ++ rowsOf 3 (vs4) (M3))) (fun (j, M3) => [(1, vl), (5, v3), (6, .int .i64 (↑k)), (7, .int .i64 (↑i)), (8, .int .i64 (↑j))]) (fun (j, M3) => MatL l.length M3 (rowS k i (layS l.length k (allS l.length (boundM w l) k) i) j) ∧ j ≤ l.length) ((0, M2)) rfl (.refl _) (.cons rfl (.cons rfl (.cons rfl (.cons rfl (.cons rfl .nil))))) ?_ ?_
          · exact ⟨hM2, Nat.zero_le _⟩
          · rintro ⟨j, M3⟩ hF12
            show WK _ _ m2 ([row (v3) 31 1 (vs4).length (vs4), blk b1 23 [.int .i64 (w.Fixed), .int .i64 (w.Each)]] ++ rowsOf 3 (vs4) (M3)) [(1, vl), (5, v3), (6, .int .i64 (↑k)), (7, .int .i64 (↑i)), (8, .int .i64 (↑j))] _
            replace hF12 : MatL l.length M3 (rowS k i (layS l.length k (allS l.length (boundM w l) k) i) j) ∧ j ≤ l.length := hF12
            obtain ⟨hM3, hj⟩ := hF12
            have hB3 := hB2.row (k := k) (i := i) (by omega) (by omega) j hj
            have hm3 := hM3.1
            refine WC.seq ?_
            refine WC.seq ?_
            refine WC.region ?_
            refine WL.x (X.move rfl) (by decide) ?_
            refine WL.x (X.move rfl) (by decide) ?_
            refine WL.x (X.len Try.runUnderlying24 rfl hl) (by decide) ?_
            refine WL.cond (X.lss rfl rfl) (by decide) (fun h13 => ?_) (fun h13 => ?_)
            · refine WL.nil ?_
              refine WK.nThen ?_
              refine WC.condT rfl ?_
              refine WC.skip ?_
              refine WK.nThen ?_
              refine WC.seq ?_
              refine WC.block ?_
              have hb1 := hM3.bd hB3 (a := i) (b := k) (by omega) (by omega)
              have hb2 := hM3.bd hB3 (a := k) (b := j) (by omega) (by omega)
              have hri := hM3.2.1 i (by omega)
              have hrk := hM3.2.1 k (by omega)
              refine WC.draw (π := (.cons 0 (.cons 1 (.cons 2 (.cons 3 (.cons 4 (.cons 5 (.cons 6 (.cons 7 (.cons 8 (.cons 9 (.cons 10 (.cons 11 (.cons 12 (.cons 13 (.cons 14 (.cons 15 (.cons 16 (.cons 17 (.cons 18 (.cons 19 (.cons 20 (.cons 21 (.cons 22 (.cons 23 (.cons 24 (.cons 25 (.cons 26 (.cons 27 (.cons 28 (.cons 29 .done))))))))))))))))))))))))))))))) [29] [29] rfl (by kernel_rfl) ?_
              refine DW.x rfl rfl (X.move rfl) (by decide) ?_
              refine DW.x rfl rfl (X.move rfl) (by decide) ?_
              refine DW.x rfl rfl (X.idxRow1 (k := 0) Try.runUnderlying27 Try.sizeOf31 rfl rfl rfl (by first | omega | (simp; omega) | simp) (by first | omega | (simp; omega) | simp)) (by decide) ?_
              refine DW.x rfl rfl (X.loadRows (k := 0) Try.isAgg31 rfl rfl (by first | omega | (simp; omega) | simp)) (by decide) ?_
              refine DW.x rfl rfl (X.move rfl) (by decide) ?_
              refine DW.x rfl rfl (X.move rfl) (by decide) ?_
              refine DW.x rfl rfl (X.move rfl) (by decide) ?_
              refine DW.x rfl rfl (X.idxRow1 (k := 0) Try.runUnderlying27 Try.sizeOf31 rfl rfl rfl (by first | omega | (simp; omega) | simp) (by first | omega | (simp; omega) | simp)) (by decide) ?_
              refine DW.x rfl rfl (X.loadRows (k := 0) Try.isAgg31 rfl rfl (by first | omega | (simp; omega) | simp)) (by decide) ?_
              refine DW.x rfl rfl (X.move rfl) (by decide) ?_
              refine DW.x rfl rfl (X.idxRows (i := i) (j := j) Try.runUnderlying31 Try.sizeOf3 rfl rfl rfl (by omega) (by omega) (by omega) (by omega)) (by decide) ?_
              refine DW.x rfl rfl (X.loadRI Try.isAgg3 rfl rfl (by omega) (by omega) (by omega)) (by decide) ?_
              refine DW.x rfl rfl (X.move rfl) (by decide) ?_
              refine DW.x rfl rfl (X.move rfl) (by decide) ?_
              refine DW.x rfl rfl (X.idxRow1 (k := 0) Try.runUnderlying27 Try.sizeOf31 rfl rfl rfl (by first | omega | (simp; omega) | simp) (by first | omega | (simp; omega) | simp)) (by decide) ?_
              refine DW.x rfl rfl (X.loadRows (k := 0) Try.isAgg31 rfl rfl (by first | omega | (simp; omega) | simp)) (by decide) ?_
              refine DW.x rfl rfl (X.move rfl) (by decide) ?_
              refine DW.x rfl rfl (X.idxRows (i := i) (j := k) Try.runUnderlying31 Try.sizeOf3 rfl rfl rfl (by omega) (by omega) (by omega) (by omega)) (by decide) ?_
              refine DW.x rfl rfl (X.loadRI Try.isAgg3 rfl rfl (by omega) (by omega) (by omega)) (by decide) ?_
              refine DW.x rfl rfl (X.move rfl) (by decide) ?_
              refine DW.x rfl rfl (X.move rfl) (by decide) ?_
              refine DW.x rfl rfl (X.idxRow1 (k := 0) Try.runUnderlying27 Try.sizeOf31 rfl rfl rfl (by first | omega | (simp; omega) | simp) (by first | omega | (simp; omega) | simp)) (by decide) ?_
              refine DW.x rfl rfl (X.loadRows (k := 0) Try.isAgg31 rfl rfl (by first | omega | (simp; omega) | simp)) (by decide) ?_
              refine DW.x rfl rfl (X.move rfl) (by decide) ?_
              refine DW.x rfl rfl (X.idxRows (i := k) (j := j) Try.runUnderlying31 Try.sizeOf3 rfl rfl rfl (by omega) (by omega) (by omega) (by omega)) (by decide) ?_
              refine DW.x rfl rfl (X.loadRI Try.isAgg3 rfl rfl (by omega) (by omega) (by omega)) (by decide) ?_
              refine DW.x rfl rfl (X.add rfl rfl (by omega) (by omega)) (by decide) ?_
              refine DW.x rfl rfl (X.mn rfl rfl) (by decide) ?_
              refine DW.x rfl rfl (X.idxRows (i := i) (j := j) Try.runUnderlying31 Try.sizeOf3 rfl rfl rfl (by omega) (by omega) (by omega) (by omega)) (by decide) ?_
              refine DW.ts rfl rfl rfl rfl (T.storeRI Try.sizeOf3 rfl rfl rfl (by omega) (by omega) (by omega)) ?_
              refine DW.nil ?_
              refine WK.nBlock ?_
              refine WK.nThen ?_
              refine WC.region ?_
              refine WL.x (X.move rfl) (by decide) ?_
              refine WL.x (X.add rfl rfl (by omega) (by omega)) (by decide) ?_
              refine WL.x (X.assign rfl) (by decide) ?_
              refine WL.nil ?_
              refine WK.nThen ?_
              refine WK.next ((j + 1, M3.set i ((gt M3 i).set j (min (gt (gt M3 i) j) ((gt (gt M3 i) k) + (gt (gt M3 k) j)))))) rfl (.refl _) (.cons rfl (.cons rfl (.cons rfl (.cons rfl (.cons rfl .nil))))) ?_ ?_
              · exact ⟨tight_stepL hM3 (by omega) (by omega) (by omega), by omega⟩
              · (dsimp only; omega)
            · refine WL.nil ?_
              refine WK.nThen ?_
              refine WC.condF rfl ?_
              refine WC.exit ?_
              refine WK.eThen ?_
              refine WK.eThen ?_
              refine WK.eHit ?_
              refine WK.nBlock ?_
              refine WK.nThen ?_
              refine WC.region ?_
              refine WL.x (X.move rfl) (by decide) ?_
              refine WL.x (X.add rfl rfl (by omega) (by omega)) (by decide) ?_
              refine WL.x (X.assign rfl) (by decide) ?_
              refine WL.nil ?_
              refine WK.nThen ?_
              refine WK.next ((i + 1, M3)) rfl (.refl _) (.cons rfl (.cons rfl (.cons rfl (.cons rfl .nil)))) ?_ ?_
              · exact ⟨(show j = l.length from by omega) ▸ hM3, by omega⟩
              · (dsimp only; omega)
        · refine WL.nil ?_
          refine WK.nThen ?_
          refine WC.condF rfl ?_
          refine WC.exit ?_
          refine WK.eThen ?_
          refine WK.eThen ?_
          refine WK.eHit ?_
          refine WK.nBlock ?_
          refine WK.nThen ?_
          refine WC.region ?_
          refine WL.x (X.move rfl) (by decide) ?_
          refine WL.x (X.add rfl rfl (by omega) (by omega)) (by decide) ?_
          refine WL.x (X.assign rfl) (by decide) ?_
          refine WL.nil ?_
          refine WK.nThen ?_
          refine WK.next ((k + 1, M2)) rfl (.refl _) (.cons rfl (.cons rfl (.cons rfl .nil))) ?_ ?_
          · exact ⟨(show i = l.length from by omega) ▸ hM2, by omega⟩
          · (dsimp only; omega)
    · refine WL.nil ?_
      refine WK.nThen ?_
      refine WC.condF rfl ?_
      refine WC.exit ?_
      refine WK.eThen ?_
      refine WK.eThen ?_
      refine WK.eHit ?_
      refine WK.nThen ?_
      refine WC.seq ?_
      refine WK.drop (H' := ([row (v3) 31 1 (vs4).length (vs4)] ++ rowsOf 3 (vs4) (M1))) (.cons_cons _ (.cons _ (.refl _))) ?_
      have hfin := hM1; rw [show k = l.length by omega] at hfin
      refine WK.freezeRows (A := []) rfl (by omega) (by omega) (fun L hL => sqL_len (f := tightM w l) (by omega) (hfin.eq ▸ hL)) (by unfold lenB; omega) (fun m14 hle15 hs16 => ?_)
      replace hl := hl.mono hle15
      rw [hfin.eq] at hs16
      refine WC.region ?_
      refine WL.x (X.move rfl) (by decide) ?_
      refine WL.x (X.assign rfl) (by decide) ?_
      refine WL.nil ?_
      refine WK.nThen ?_
      refine WC.ret ?_
      refine WK.ret1 rfl rfl (fun w' hw' => Ret.mem hw' ?_)
      exact ⟨_, rfl, hs16⟩

theorem tight20 (m : Mem) (cw : List Value) (w : Wind) (hw : Enc.rd m cw w) (vl : Value) (l : List Station) (hl : Sl m vl l)   : Pure Try.prog 20 #[.agg cw.toArray, vl] m (fun m' v => ∃ r0, v = .tuple #[r0, .int .i64 (windedE w l)] ∧ Sl m' r0 (tightR w l)) := by
  obtain rfl := hw
  have ll := hl.le
  refine Pure.start Try.func20 rfl Try.ntmps20 rfl fun wld => ?_
  refine WC.seq ?_
  refine WC.region ?_
  refine WL.tn (T.boxB rfl rfl) (by decide) fun b1 => ?_
  refine WL.x (X.assign rfl) (by decide) ?_
  refine WL.x (X.assign rfl) (by decide) ?_
  refine WL.nil ?_
  refine WK.nThen ?_
  refine WC.seq ?_
  refine WC.region ?_
  refine WL.x (X.loadBA (k := 0) Try.isAgg23 Try.sizeOf23 rfl rfl rfl) (by decide) ?_
  refine WL.x (X.move rfl) (by decide) ?_
  refine WL.x (X.call Try.call63 rfl (winded63 _ _ w rfl _ _ hl )) (by decide) ?_
  refine WL.x (X.assign rfl) (by decide) ?_
  refine WL.nil ?_
  refine WK.nThen ?_
  refine WC.seq ?_
  refine WC.seq ?_
  refine WC.region ?_
  refine WL.x (X.move rfl) (by decide) ?_
  refine WL.condn (X.neq rfl rfl) (by decide) (fun h2 => ?_) (fun h2 => ?_)
  · refine WL.nil ?_
    refine WK.nThen ?_
    refine WC.condT rfl ?_
    refine WC.seq ?_
    refine WC.region ?_
    refine WL.x (X.move rfl) (by decide) ?_
    refine WL.x (X.assign rfl) (by decide) ?_
    refine WL.x (X.assign rfl) (by decide) ?_
    refine WL.nil ?_
    refine WK.nThen ?_
    refine WC.ret ?_
    refine WK.rThen ?_
    refine WK.ret2 rfl rfl rfl (fun w' hw' => Ret.mem hw' ?_)
    exact ⟨_, rfl, by rw [tightR, if_neg (by omega)]; exact .nil⟩
  · refine WL.nil ?_
    refine WK.nThen ?_
    refine WC.condF rfl ?_
    refine WC.skip ?_
    refine WK.nThen ?_
    refine WC.seq ?_
    refine WC.region ?_
    refine WL.x (X.loadBA (k := 0) Try.isAgg23 Try.sizeOf23 rfl rfl rfl) (by decide) ?_
    refine WL.x (X.move rfl) (by decide) ?_
    refine WL.tm (T.call Try.call64 rfl (tight64 _ _ w rfl _ _ hl (by first | assumption | omega))) (by decide) fun m3 r4 hle5 hR6 => ?_
    obtain ⟨v7, rfl, hs8⟩ := hR6
    replace hl := hl.mono hle5
    have hl9 := hs8.le
    refine WL.x (X.assign rfl) (by decide) ?_
    refine WL.x (X.assign rfl) (by decide) ?_
    refine WL.nil ?_
    refine WK.nThen ?_
    refine WC.ret ?_
    refine WK.ret2 rfl rfl rfl (fun w' hw' => Ret.mem hw' ?_)
    have hw0 : windedE w l = 0 := (by omega)
    rw [hw0]
    exact ⟨_, rfl, by rw [tightR, if_pos hw0]; exact hs8⟩

end Go.Proofs.S5
