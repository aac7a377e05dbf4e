/- Stations: walks, fourth part, by program. -/
import Derived.Test.YtcpecjgppbiplaaS5Awake
import Derived.Test.YtcpecjgppbiplaaS5W3
namespace Go.Proofs.S5
open Go Go.Kx

theorem muLe {c : Bool} {L L' : List Int} {w : Wind} {l : List Station} {week : Int} {list : List Int} {p : Prop} (h1 : c = true → seaMu w l week list L < seaMu w l week list L') (h2 : c = false → L = L' ∧ p) : seaMu w l week list L ≤ seaMu w l week list L' := by
  cases c with
  | true => exact Nat.le_of_lt (h1 rfl)
  | false => rw [(h2 rfl).1]; exact Nat.le_refl _

theorem seaside27 (m : Mem) (cw : List Value) (w : Wind) (hw : Enc.rd m cw w) (vl : Value) (l : List Station) (hl : Sl m vl l) (week : Int) (vlist : Value) (list : List Int) (hlist : Sl m vlist list)   : Pure Try.prog 27 #[.agg cw.toArray, vl, .int .i64 (week), vlist] m (fun m' v => ∃ r0, v = .tuple #[r0, .int .i64 ((sideR w l week list).2)] ∧ Sl m' r0 ((sideR w l week list).1)) := by
  obtain rfl := hw
  have ll := hl.le
  have llist := hlist.le
  refine Pure.start Try.func27 rfl Try.ntmps27 rfl fun wld => ?_
  refine WC.seq ?_
  refine WC.region ?_
  refine WL.tn (T.boxB rfl rfl) (by decide) fun b1 => ?_
  refine WL.x (X.assign rfl) (by decide) ?_
  refine WL.x (X.assign rfl) (by decide) ?_
  refine WL.nil ?_
  refine WK.nThen ?_
  refine WC.scope ?_
  refine WC.seq ?_
  refine WC.region ?_
  refine WL.x (X.loadBA (k := 0) Try.isAgg23 Try.sizeOf23 rfl rfl rfl) (by decide) ?_
  refine WL.x (X.move rfl) (by decide) ?_
  refine WL.x (X.move rfl) (by decide) ?_
  refine WL.x (X.move rfl) (by decide) ?_
  refine WL.tm (T.call Try.call70 rfl (levels70 _ _ w rfl _ _ hl _ _ _ hlist )) (by decide) fun m2 r3 hle4 hR5 => ?_
  obtain ⟨q6, v8, rfl, hq7, hs9⟩ := hR5
  replace hl := hl.mono hle4
  replace hlist := hlist.mono hle4
  have hl10 := hs9.le
  refine WL.x (X.move rfl) (by decide) ?_
  refine WL.x (X.extract rfl rfl) (by decide) ?_
  refine WL.x (X.extract rfl rfl) (by decide) ?_
  refine WL.x (X.extract rfl rfl) (by decide) ?_
  refine WL.x (X.assign rfl) (by decide) ?_
  refine WL.x (X.assign rfl) (by decide) ?_
  refine WL.x (X.assign rfl) (by decide) ?_
  refine WL.nil ?_
  refine WK.nThen ?_
  refine WC.seq ?_
  refine WC.seq ?_
  refine WC.region ?_
  refine WL.x (X.move rfl) (by decide) ?_
  refine WL.condn (X.neq rfl rfl) (by decide) (fun h11 => ?_) (fun h11 => ?_)
  · refine WL.nil ?_
    refine WK.nThen ?_
    refine WC.condT rfl ?_
    refine WC.seq ?_
    refine WC.region ?_
    refine WL.x (X.move rfl) (by decide) ?_
    refine WL.x (X.assign rfl) (by decide) ?_
    refine WL.x (X.assign rfl) (by decide) ?_
    refine WL.nil ?_
    refine WK.nThen ?_
    refine WC.ret ?_
    refine WK.rThen ?_
    refine WK.rScope ?_
    refine WK.ret2 rfl rfl rfl (fun w' hw' => Ret.mem hw' ?_)
    first | exact ⟨_, tup2 rfl (int_eq (by rw [sideR_err (by omega)])), by rw [sideR_err (by omega)]; exact .nil⟩ | exact ⟨_, tup2 rfl (int_eq (by rw [sideR_no hlz (hend.over (j := i) (by omega) (by omega))])), by rw [sideR_no hlz (hend.over (j := i) (by omega) (by omega))]; exact .nil⟩
  · refine WL.nil ?_
    refine WK.nThen ?_
    refine WC.condF rfl ?_
    refine WC.skip ?_
    refine WK.nThen ?_
    refine WC.seq ?_
    have hlz : levelsE w l week list = 0 := (by omega)
    have hz := levelsE_zero hlz
    have hw0 := hz.1
    have hl32 := (checkS_zero (l := l) (windedE_zero hw0).1).1
    have hrl := (regB_mat w l).1
    have htt := tight_tt hw0
    obtain ⟨p12, rfl, hp13⟩ := hq7 hlz
    rw [show levelsL w l week list = seasL l week list from if_pos hlz] at hs9
    have hsl : (seasL l week list).length = l.length := (by simp [seasL])
    refine WC.region ?_
    refine WL.x (X.move rfl) (by decide) ?_
    refine WL.x (X.len Try.runUnderlying24 rfl hl) (by decide) ?_
    refine WL.ta (T.makeN l.length (a := (0 : Int)) sl31 rfl rfl rfl (by omega) (by decide)) (by decide) (fun v14 => ?_)
    refine WL.tn (T.alloc Try.zeroValue31 rfl) (by decide) fun b15 => ?_
    refine WL.own1 (k := 1) rfl (fun ho16 => ?_)
    refine WL.ts (T.storeB (k := 0) Try.sizeOf31 rfl rfl rfl ho16 (Nat.le_of_ble_eq_true rfl)) ?_
    refine WL.nil ?_
    refine WK.nThen ?_
    refine WC.seq ?_
    refine WC.seq ?_
    have hrep : (List.replicate l.length (0 : Int)).length = l.length := List.length_replicate
    refine WC.region ?_
    refine WL.x (X.loadB (k := 0) Try.isAgg31 rfl rfl rfl) (by decide) ?_
    refine WL.x (X.lenF (k := 1) Try.runUnderlying31 rfl rfl) (by decide) ?_
    refine WL.x (X.move rfl) (by decide) ?_
    refine WL.nil ?_
    refine WK.nThen ?_
    refine WC.block ?_
    refine WC.loop (G := Nat × List Int) (fun (k, L1) => l.length - k) (fun (k, L1) => m2) (fun (k, L1) => [blk b15 31 [v14], rowF (v14) 3 (L1), blk b1 23 [.int .i64 (w.Fixed), .int .i64 (w.Each)]]) (fun (k, L1) => [(10, .pointer (some (p12))), (11, v8), (13, .pointer (some ⟨b15, 0, none⟩)), (37, .int .i64 (↑(List.replicate l.length (0 : Int)).length)), (38, .int .i64 (↑k))]) (fun (k, L1) => (L1.length = l.length ∧ ∀ j, j < k → gt L1 j = (gt (seasL l week list) j).Lo) ∧ k ≤ l.length) ((0, List.replicate l.length (0 : Int))) rfl (.refl _) (.cons rfl (.cons rfl (.cons rfl (.cons rfl (.cons rfl .nil))))) ?_ ?_
    · exact ⟨⟨by simp, fun j hj => absurd hj (Nat.not_lt_zero _)⟩, Nat.zero_le _⟩
    · rintro ⟨k, L1⟩ hF17
      show WK _ _ m2 [blk b15 31 [v14], rowF (v14) 3 (L1), blk b1 23 [.int .i64 (w.Fixed), .int .i64 (w.Each)]] [(10, .pointer (some (p12))), (11, v8), (13, .pointer (some ⟨b15, 0, none⟩)), (37, .int .i64 (↑(List.replicate l.length (0 : Int)).length)), (38, .int .i64 (↑k))] _
      replace hF17 : (L1.length = l.length ∧ ∀ j, j < k → gt L1 j = (gt (seasL l week list) j).Lo) ∧ k ≤ l.length := hF17
      obtain ⟨hL1, hk⟩ := hF17
      refine WC.seq ?_
      refine WC.region ?_
      refine WL.cond (X.lss rfl rfl) (by decide) (fun h18 => ?_) (fun h18 => ?_)
      · refine WL.nil ?_
        refine WK.nThen ?_
        refine WC.seq ?_
        refine WC.condT rfl ?_
        refine WC.skip ?_
        refine WK.nThen ?_
        refine WC.seq ?_
        refine WC.block ?_
        refine WC.seq ?_
        refine WC.region ?_
        refine WL.x (X.move rfl) (by decide) ?_
        refine WL.x (X.assign rfl) (by decide) ?_
        refine WL.nil ?_
        refine WK.nThen ?_
        have hl1 := hL1.1
        refine WC.draw (π := (.cons 0 (.cons 1 (.cons 2 (.cons 3 (.cons 4 (.cons 5 (.cons 6 (.cons 7 (.cons 8 .done)))))))))) [8] [8] rfl (by kernel_rfl) ?_
        refine DW.x rfl rfl (X.loadB (k := 0) Try.isAgg31 rfl rfl rfl) (by decide) ?_
        refine DW.x rfl rfl (X.move rfl) (by decide) ?_
        refine DW.x rfl rfl (X.move rfl) (by decide) ?_
        refine DW.x rfl rfl (X.move rfl) (by decide) ?_
        refine DW.xe rfl rfl (E.idxN k Try.runUnderlying100 Try.sizeOf49 rfl rfl hs9 (by omega)) (by decide) (fun p19 hp20 => ?_)
        have hp21 := At.Span_0 hp20
        refine DW.x rfl rfl (X.field Try.runUnderlying49 rfl Try.sizeOf3 rfl) (by decide) ?_
        refine DW.x rfl rfl (X.loadInt Try.isAgg3 rfl hp21) (by decide) ?_
        refine DW.x rfl rfl (X.idxI (k := 1) Try.runUnderlying31 Try.sizeOf3 rfl rfl rfl (by first | omega | (simp; omega) | simp) (by first | omega | (simp; omega) | simp)) (by decide) ?_
        refine DW.ts rfl rfl rfl rfl (T.storeI (k := 1) (i := k) Try.sizeOf3 rfl rfl rfl (by first | omega | (simp; omega) | simp)) ?_
        refine DW.nil ?_
        refine WK.nBlock ?_
        refine WK.nThen ?_
        refine WC.region ?_
        refine WL.x (X.add rfl rfl (by omega) (by omega)) (by decide) ?_
        refine WL.x (X.move rfl) (by decide) ?_
        refine WL.nil ?_
        refine WK.nThen ?_
        refine WK.next ((k + 1, L1.set k ((gt (seasL l week list) k).Lo))) rfl (.refl _) (.cons rfl (.cons rfl (.cons rfl (.cons rfl (.cons rfl .nil))))) ?_ ?_
        · exact ⟨⟨by rw [List.length_set]; exact hL1.1, fun j hj => by rw [gt_set (by omega)]; (split <;> rename_i e) <;> first | (subst e; rfl) | exact hL1.2 j (by omega)⟩, by omega⟩
        · (dsimp only; omega)
      · refine WL.nil ?_
        refine WK.nThen ?_
        refine WC.seq ?_
        refine WC.condF rfl ?_
        refine WC.exit ?_
        refine WK.eThen ?_
        refine WK.eThen ?_
        refine WK.eHit ?_
        refine WK.nThen ?_
        refine WC.seq ?_
        refine WC.region ?_
        refine WL.x (X.makeFunc (by intro x hx; simp at hx; subst hx; all_goals exact ⟨_, rfl⟩) rfl) (by decide) ?_
        refine WL.x (X.assign rfl) (by decide) ?_
        refine WL.nil ?_
        refine WK.nThen ?_
        refine WC.seq ?_
        refine WC.region ?_
        refine WL.x (X.assign rfl) (by decide) ?_
        refine WL.nil ?_
        refine WK.nThen ?_
        refine WC.seq ?_
        refine WC.label ?_
        refine WK.nThen ?_
        refine WC.cut (G := List Int) (fun L => m2) (fun L => [blk b15 31 [v14], rowF (v14) 3 (L), blk b1 23 [.int .i64 (w.Fixed), .int .i64 (w.Each)]]) (fun L => [(11, v8), (13, .pointer (some ⟨b15, 0, none⟩))]) (fun L => SeaEnd w l week list L) ?_ ?_
        · refine WC.block ?_
          refine WC.loop (G := Bool × List Int) (fun (c, L) => cond c (seaMu w l week list L + 1) 0) (fun (c, L) => m2) (fun (c, L) => [blk b15 31 [v14], rowF (v14) 3 (L), blk b1 23 [.int .i64 (w.Fixed), .int .i64 (w.Each)]]) (fun (c, L) => [(10, .pointer (some (p12))), (11, v8), (13, .pointer (some ⟨b15, 0, none⟩)), (15, .func (.func 71) #[] [.pointer (some ⟨b15, 0, none⟩)].toArray), (16, .bool (c))]) (fun (c, L) => SeaOk w l week list L ∧ (c = false → SeaDn w l L l.length 0)) ((true, L1)) rfl (.refl _) (.cons rfl (.cons rfl (.cons rfl (.cons rfl (.cons rfl .nil))))) ?_ ?_
          · exact ⟨SeaOk.start hL1.1 (fun j hj => hL1.2 j (by omega)), fun h => by cases h⟩
          · rintro ⟨c, L⟩ hF22
            show WK _ _ m2 [blk b15 31 [v14], rowF (v14) 3 (L), blk b1 23 [.int .i64 (w.Fixed), .int .i64 (w.Each)]] [(10, .pointer (some (p12))), (11, v8), (13, .pointer (some ⟨b15, 0, none⟩)), (15, .func (.func 71) #[] [.pointer (some ⟨b15, 0, none⟩)].toArray), (16, .bool (c))] _
            replace hF22 : SeaOk w l week list L ∧ (c = false → SeaDn w l L l.length 0) := hF22
            obtain ⟨hok0, hfix⟩ := hF22
            refine WC.seq ?_
            refine WC.seq ?_
            refine WC.region ?_
            refine WL.x (X.move rfl) (by decide) ?_
            refine WL.nil ?_
            refine WK.nThen ?_
            refine WC.condb rfl (fun h23 => ?_) (fun h23 => ?_)
            · refine WC.skip ?_
              refine WK.nThen ?_
              refine WC.block ?_
              refine WC.seq ?_
              refine WC.region ?_
              refine WL.x (X.assign rfl) (by decide) ?_
              refine WL.nil ?_
              refine WK.nThen ?_
              refine WC.seq ?_
              have hl0 := hok0.len
              refine WC.region ?_
              refine WL.x (X.loadB (k := 0) Try.isAgg31 rfl rfl rfl) (by decide) ?_
              refine WL.x (X.lenF (k := 1) Try.runUnderlying31 rfl rfl) (by decide) ?_
              refine WL.x (X.move rfl) (by decide) ?_
              refine WL.nil ?_
              refine WK.nThen ?_
              refine WC.block ?_
              refine WC.loop (G := Nat × Bool × List Int) (fun (i, c1, L1) => l.length - i) (fun (i, c1, L1) => m2) (fun (i, c1, L1) => [blk b15 31 [v14], rowF (v14) 3 (L1), blk b1 23 [.int .i64 (w.Fixed), .int .i64 (w.Each)]]) (fun (i, c1, L1) => [(10, .pointer (some (p12))), (11, v8), (13, .pointer (some ⟨b15, 0, none⟩)), (15, .func (.func 71) #[] [.pointer (some ⟨b15, 0, none⟩)].toArray), (16, .bool (c1)), (53, .int .i64 (↑L.length)), (54, .int .i64 (↑i))]) (fun (i, c1, L1) => SeaOk w l week list L1 ∧ i ≤ l.length ∧ (c1 = true → seaMu w l week list L1 < seaMu w l week list L) ∧ (c1 = false → L1 = L ∧ SeaDn w l L1 i 0)) ((0, false, L)) rfl (.refl _) (.cons rfl (.cons rfl (.cons rfl (.cons rfl (.cons rfl (.cons rfl (.cons rfl .nil))))))) ?_ ?_
              · exact ⟨hok0, Nat.zero_le _, (fun h => by cases h), fun _ => ⟨rfl, SDn.zero⟩⟩
              · rintro ⟨i, c1, L1⟩ hF24
                show WK _ _ m2 [blk b15 31 [v14], rowF (v14) 3 (L1), blk b1 23 [.int .i64 (w.Fixed), .int .i64 (w.Each)]] [(10, .pointer (some (p12))), (11, v8), (13, .pointer (some ⟨b15, 0, none⟩)), (15, .func (.func 71) #[] [.pointer (some ⟨b15, 0, none⟩)].toArray), (16, .bool (c1)), (53, .int .i64 (↑L.length)), (54, .int .i64 (↑i))] _
                replace hF24 : SeaOk w l week list L1 ∧ i ≤ l.length ∧ (c1 = true → seaMu w l week list L1 < seaMu w l week list L) ∧ (c1 = false → L1 = L ∧ SeaDn w l L1 i 0) := hF24
                obtain ⟨hok1, hi, hc1, hd1⟩ := hF24
                refine WC.seq ?_
                refine WC.region ?_
                refine WL.cond (X.lss rfl rfl) (by decide) (fun h25 => ?_) (fun h25 => ?_)
                · refine WL.nil ?_
                  refine WK.nThen ?_
                  refine WC.seq ?_
                  refine WC.condT rfl ?_
                  refine WC.skip ?_
                  refine WK.nThen ?_
                  refine WC.seq ?_
                  refine WC.block ?_
                  refine WC.seq ?_
                  refine WC.region ?_
                  refine WL.x (X.move rfl) (by decide) ?_
                  refine WL.x (X.assign rfl) (by decide) ?_
                  refine WL.nil ?_
                  refine WK.nThen ?_
                  refine WC.seq ?_
                  refine WC.seq ?_
                  have hl1 := hok1.len
                  refine WC.region ?_
                  refine WL.x (X.loadB (k := 0) Try.isAgg31 rfl rfl rfl) (by decide) ?_
                  refine WL.x (X.lenF (k := 1) Try.runUnderlying31 rfl rfl) (by decide) ?_
                  refine WL.x (X.move rfl) (by decide) ?_
                  refine WL.nil ?_
                  refine WK.nThen ?_
                  refine WC.block ?_
                  refine WC.loop (G := Nat × Bool × List Int) (fun (k, c2, L2) => l.length - k) (fun (k, c2, L2) => m2) (fun (k, c2, L2) => [blk b15 31 [v14], rowF (v14) 3 (L2), blk b1 23 [.int .i64 (w.Fixed), .int .i64 (w.Each)]]) (fun (k, c2, L2) => [(10, .pointer (some (p12))), (11, v8), (13, .pointer (some ⟨b15, 0, none⟩)), (15, .func (.func 71) #[] [.pointer (some ⟨b15, 0, none⟩)].toArray), (16, .bool (c2)), (17, .int .i64 (↑i)), (53, .int .i64 (↑L.length)), (54, .int .i64 (↑i)), (58, .int .i64 (↑L1.length)), (59, .int .i64 (↑k))]) (fun (k, c2, L2) => SeaOk w l week list L2 ∧ k ≤ l.length ∧ (c2 = true → seaMu w l week list L2 < seaMu w l week list L) ∧ (c2 = false → L2 = L ∧ SeaDn w l L2 i k)) ((0, c1, L1)) rfl (.refl _) (.cons rfl (.cons rfl (.cons rfl (.cons rfl (.cons rfl (.cons rfl (.cons rfl (.cons rfl (.cons rfl (.cons rfl .nil)))))))))) ?_ ?_
                  · exact ⟨hok1, Nat.zero_le _, hc1, hd1⟩
                  · rintro ⟨k, c2, L2⟩ hF26
                    show WK _ _ m2 [blk b15 31 [v14], rowF (v14) 3 (L2), blk b1 23 [.int .i64 (w.Fixed), .int .i64 (w.Each)]] [(10, .pointer (some (p12))), (11, v8), (13, .pointer (some ⟨b15, 0, none⟩)), (15, .func (.func 71) #[] [.pointer (some ⟨b15, 0, none⟩)].toArray), (16, .bool (c2)), (17, .int .i64 (↑i)), (53, .int .i64 (↑L.length)), (54, .int .i64 (↑i)), (58, .int .i64 (↑L1.length)), (59, .int .i64 (↑k))] _
                    replace hF26 : SeaOk w l week list L2 ∧ k ≤ l.length ∧ (c2 = true → seaMu w l week list L2 < seaMu w l week list L) ∧ (c2 = false → L2 = L ∧ SeaDn w l L2 i k) := hF26
                    obtain ⟨hok2, hk, hc2, hd2⟩ := hF26
                    refine WK.good (fun hgood3 => ?_)
                    refine WC.seq ?_
                    refine WC.region ?_
                    refine WL.cond (X.lss rfl rfl) (by decide) (fun h27 => ?_) (fun h27 => ?_)
                    · refine WL.nil ?_
                      refine WK.nThen ?_
                      refine WC.seq ?_
                      refine WC.condT rfl ?_
                      refine WC.skip ?_
                      refine WK.nThen ?_
                      refine WC.seq ?_
                      refine WC.block ?_
                      refine WC.seq ?_
                      refine WC.region ?_
                      refine WL.x (X.move rfl) (by decide) ?_
                      refine WL.x (X.assign rfl) (by decide) ?_
                      refine WL.nil ?_
                      refine WK.nThen ?_
                      have hgt := gt_regB (w := w) (l := l) (a := k) (b := i) (by omega) (by omega)
                      have hb1 := SeaOk.range hlz hok2 (j := k) (by omega)
                      have hb2 := tightM_bd hw0 k i (by omega) (by omega)
                      have hl2 := hok2.len
                      have hval : gt L2 k - gt (regB w l) (0 + k * 32 + i * 1) = gt L2 k - tightM w l k i := (by rw [hgt])
                      refine WC.draw (π := (.cons 0 (.cons 1 (.cons 2 (.cons 3 (.cons 4 (.cons 5 (.cons 6 (.cons 7 (.cons 8 (.cons 9 (.cons 10 (.cons 11 (.cons 12 (.cons 13 (.cons 14 (.cons 15 (.cons 16 (.cons 17 (.cons 18 (.cons 19 .done))))))))))))))))))))) [15] [15] rfl (by kernel_rfl) ?_
                      refine DW.x rfl rfl (X.move rfl) (by decide) ?_
                      refine DW.x rfl rfl (X.move rfl) (by decide) ?_
                      refine DW.x rfl rfl (X.loadB (k := 0) Try.isAgg31 rfl rfl rfl) (by decide) ?_
                      refine DW.x rfl rfl (X.move rfl) (by decide) ?_
                      refine DW.x rfl rfl (X.idxI (k := 1) Try.runUnderlying31 Try.sizeOf3 rfl rfl rfl (by first | omega | (simp; omega) | simp) (by first | omega | (simp; omega) | simp)) (by decide) ?_
                      refine DW.x rfl rfl (X.loadI (k := 1) (i := k) Try.isAgg3 rfl rfl (by first | omega | (simp; omega) | simp)) (by decide) ?_
                      refine DW.x rfl rfl (X.move rfl) (by decide) ?_
                      refine DW.x rfl rfl (X.move rfl) (by decide) ?_
                      refine DW.x rfl rfl (X.move rfl) (by decide) ?_
                      refine DW.x rfl rfl (X.nilCheck rfl) (by decide) ?_
                      have hp28 : Cells m2 (p12) (ints (regB w l)) := At.Reg_0 hp13
                      refine DW.x rfl rfl (X.field Try.runUnderlying92 rfl Try.sizeOf90 rfl) (by decide) ?_
                      refine DW.x rfl rfl (X.idxArM (off := 0) hp28 k Try.underlying90 Try.sizeOf88 rfl rfl (by omega) (by omega)) (by decide) ?_
                      refine DW.x rfl rfl (X.idxArM (off := 0 + k * 32) hp28 i Try.underlying88 Try.sizeOf3 rfl rfl (by omega) (by omega)) (by decide) ?_
                      refine DW.x rfl rfl (X.loadArM (off := 0 + k * 32 + i * 1) Try.isAgg3 rfl hp28 (by omega)) (by decide) ?_
                      refine DW.x rfl rfl (X.sub rfl rfl (by omega) (by omega)) (by decide) ?_
                      refine DW.tM rfl rfl rfl rfl (T.callcP (A := [blk b1 23 [.int .i64 (w.Fixed), .int .i64 (w.Each)]]) Try.call71 rfl rfl (List.Perm.refl _) (raise71 _ _ _ _ i _ (by omega))) (by decide) (fun m29 _ r30 hle31 hR32 => ?_)
                      obtain ⟨rfl, rfl⟩ := hR32
                      replace hl := hl.mono hle31
                      replace hlist := hlist.mono hle31
                      replace hs9 := hs9.mono hle31
                      replace hp13 := hp13.mono hle31
                      replace hp28 := hp28.mono hle31
                      by_cases h33 : gt L2 i < ((gt L2 k) - (gt (regB w l) (0 + k * 32 + i * 1)))
                      · rw [decide_eq_true h33, if_pos h33]
                        refine DW.x rfl rfl (X.move rfl) (by decide) ?_
                        refine DW.no rfl rfl (by decide) ?_
                        refine DW.x rfl rfl (X.pickT rfl rfl rfl) (by decide) ?_
                        refine DW.x rfl rfl (X.assign rfl) (by decide) ?_
                        refine DW.nil ?_
                        refine WK.nBlock ?_
                        refine WK.nThen ?_
                        refine WC.region ?_
                        refine WL.x (X.add rfl rfl (by omega) (by omega)) (by decide) ?_
                        refine WL.x (X.move rfl) (by decide) ?_
                        refine WL.nil ?_
                        refine WK.nThen ?_
                        refine WK.back hgood3 hle31 ?_
                        refine WK.next ((k + 1, true, L2.set i ((gt L2 k) - (gt (regB w l) (0 + k * 32 + i * 1))))) rfl (.refl _) (.cons rfl (.cons rfl (.cons rfl (.cons rfl (.cons rfl (.cons rfl (.cons rfl (.cons rfl (.cons rfl (.cons rfl .nil)))))))))) ?_ ?_
                        · exact ⟨(hok2.set htt (i := i) (k := k) (by omega) (by omega) hval ‹_›).1, by omega, fun _ => by have := (hok2.set htt (i := i) (k := k) (by omega) (by omega) hval ‹_›).2; exact Nat.lt_of_lt_of_le this (muLe hc2 hd2), fun h => by cases h⟩
                        · (dsimp only; omega)
                      · rw [decide_eq_false h33, if_neg h33]
                        refine DW.x rfl rfl (X.move rfl) (by decide) ?_
                        refine DW.x rfl rfl (X.move rfl) (by decide) ?_
                        refine DW.x rfl rfl (X.pickF rfl rfl rfl) (by decide) ?_
                        refine DW.x rfl rfl (X.assign rfl) (by decide) ?_
                        refine DW.nil ?_
                        refine WK.nBlock ?_
                        refine WK.nThen ?_
                        refine WC.region ?_
                        refine WL.x (X.add rfl rfl (by omega) (by omega)) (by decide) ?_
                        refine WL.x (X.move rfl) (by decide) ?_
                        refine WL.nil ?_
                        refine WK.nThen ?_
                        refine WK.back hgood3 hle31 ?_
                        refine WK.next ((k + 1, c2, L2)) rfl (.refl _) (.cons rfl (.cons rfl (.cons rfl (.cons rfl (.cons rfl (.cons rfl (.cons rfl (.cons rfl (.cons rfl (.cons rfl .nil)))))))))) ?_ ?_
                        · exact ⟨hok2, by omega, hc2, fun h => ⟨(hd2 h).1, (hd2 h).2.next hval ‹_›⟩⟩
                        · (dsimp only; omega)
                    · refine WL.nil ?_
                      refine WK.nThen ?_
                      refine WC.seq ?_
                      refine WC.condF rfl ?_
                      refine WC.exit ?_
                      refine WK.eThen ?_
                      refine WK.eThen ?_
                      refine WK.eHit ?_
                      refine WK.nThen ?_
                      refine WC.seq ?_
                      have hl2 := hok2.len
                      refine WC.draw (π := (.cons 0 (.cons 1 (.cons 2 (.cons 3 (.cons 4 (.cons 5 (.cons 6 (.cons 7 (.cons 8 (.cons 9 .done))))))))))) [] [] rfl (by kernel_rfl) ?_
                      refine DW.x rfl rfl (X.loadB (k := 0) Try.isAgg31 rfl rfl rfl) (by decide) ?_
                      refine DW.x rfl rfl (X.move rfl) (by decide) ?_
                      refine DW.x rfl rfl (X.idxI (k := 1) Try.runUnderlying31 Try.sizeOf3 rfl rfl rfl (by first | omega | (simp; omega) | simp) (by first | omega | (simp; omega) | simp)) (by decide) ?_
                      refine DW.x rfl rfl (X.loadI (k := 1) (i := i) Try.isAgg3 rfl rfl (by first | omega | (simp; omega) | simp)) (by decide) ?_
                      refine DW.x rfl rfl (X.move rfl) (by decide) ?_
                      refine DW.x rfl rfl (X.move rfl) (by decide) ?_
                      refine DW.xe rfl rfl (E.idxN i Try.runUnderlying100 Try.sizeOf49 rfl rfl hs9 (by omega)) (by decide) (fun p34 hp35 => ?_)
                      have hp36 := At.Span_1 hp35
                      refine DW.x rfl rfl (X.field Try.runUnderlying49 rfl Try.sizeOf3 rfl) (by decide) ?_
                      refine DW.x rfl rfl (X.loadInt Try.isAgg3 rfl hp36) (by decide) ?_
                      refine DW.cond rfl rfl (X.gtr rfl rfl) (by decide) (fun h37 => ?_) (fun h37 => ?_)
                      · refine DW.nil ?_
                        refine WK.nThen ?_
                        refine WC.condT rfl ?_
                        refine WC.exit ?_
                        refine WK.eMiss rfl ?_
                        refine WK.eThen ?_
                        refine WK.eThen ?_
                        refine WK.eMiss rfl ?_
                        refine WK.eMiss rfl ?_
                        refine WK.eThen ?_
                        refine WK.eHit ?_
                        refine WK.nThen ?_
                        refine WK.meet L2 rfl (.refl _) (.cons rfl (.cons rfl .nil)) ?_
                        exact ⟨hok2, .inr ⟨i, by omega, by omega⟩⟩
                      · refine DW.nil ?_
                        refine WK.nThen ?_
                        refine WC.condF rfl ?_
                        refine WC.skip ?_
                        refine WK.nBlock ?_
                        refine WK.nThen ?_
                        refine WC.region ?_
                        refine WL.x (X.add rfl rfl (by omega) (by omega)) (by decide) ?_
                        refine WL.x (X.move rfl) (by decide) ?_
                        refine WL.nil ?_
                        refine WK.nThen ?_
                        refine WK.next ((i + 1, c2, L2)) rfl (.refl _) (.cons rfl (.cons rfl (.cons rfl (.cons rfl (.cons rfl (.cons rfl (.cons rfl .nil))))))) ?_ ?_
                        · exact ⟨hok2, by omega, hc2, fun h => ⟨(hd2 h).1, (hd2 h).2.row (by omega)⟩⟩
                        · (dsimp only; omega)
                · refine WL.nil ?_
                  refine WK.nThen ?_
                  refine WC.seq ?_
                  refine WC.condF rfl ?_
                  refine WC.exit ?_
                  refine WK.eThen ?_
                  refine WK.eThen ?_
                  refine WK.eHit ?_
                  refine WK.nBlock ?_
                  refine WK.nThen ?_
                  refine WK.next ((c1, L1)) rfl (.refl _) (.cons rfl (.cons rfl (.cons rfl (.cons rfl (.cons rfl .nil))))) ?_ ?_
                  · exact ⟨hok1, fun h => by have := (hd1 h).2; rw [show i = l.length by omega] at this; exact this⟩
                  · (dsimp only; subst_vars; cases c1 with | false => simp | true => have := hc1 rfl; simp only [cond]; omega)
            · refine WC.exit ?_
              refine WK.eThen ?_
              refine WK.eThen ?_
              refine WK.eHit ?_
              refine WK.nThen ?_
              refine WK.meet L rfl (.refl _) (.cons rfl (.cons rfl .nil)) ?_
              exact ⟨hok0, .inl (fun j hj => hok0.fix (hfix ‹_›) (Nat.le_refl _) hj)⟩
        · rintro L hF38
          show WK _ _ m2 [blk b15 31 [v14], rowF (v14) 3 (L), blk b1 23 [.int .i64 (w.Fixed), .int .i64 (w.Each)]] [(11, v8), (13, .pointer (some ⟨b15, 0, none⟩))] _
          replace hF38 : SeaEnd w l week list L := hF38
          have hend := hF38
          refine WC.seq ?_
          refine WC.seq ?_
          have hlf := hend.1.len
          refine WC.region ?_
          refine WL.x (X.loadB (k := 0) Try.isAgg31 rfl rfl rfl) (by decide) ?_
          refine WL.x (X.lenF (k := 1) Try.runUnderlying31 rfl rfl) (by decide) ?_
          refine WL.x (X.move rfl) (by decide) ?_
          refine WL.nil ?_
          refine WK.nThen ?_
          refine WC.block ?_
          refine WC.loop (G := Nat) (fun i => l.length - i) (fun i => m2) (fun i => [blk b15 31 [v14], rowF (v14) 3 (L), blk b1 23 [.int .i64 (w.Fixed), .int .i64 (w.Each)]]) (fun i => [(11, v8), (13, .pointer (some ⟨b15, 0, none⟩)), (93, v14), (94, .int .i64 (↑L.length)), (95, .int .i64 (↑i))]) (fun i => (∀ j, j < i → gt L j ≤ (gt (seasL l week list) j).Hi) ∧ i ≤ l.length) 0 rfl (.refl _) (.cons rfl (.cons rfl (.cons rfl (.cons rfl (.cons rfl .nil))))) ?_ ?_
          · exact ⟨fun j hj => absurd hj (Nat.not_lt_zero _), Nat.zero_le _⟩
          · rintro i hF39
            show WK _ _ m2 [blk b15 31 [v14], rowF (v14) 3 (L), blk b1 23 [.int .i64 (w.Fixed), .int .i64 (w.Each)]] [(11, v8), (13, .pointer (some ⟨b15, 0, none⟩)), (93, v14), (94, .int .i64 (↑L.length)), (95, .int .i64 (↑i))] _
            replace hF39 : (∀ j, j < i → gt L j ≤ (gt (seasL l week list) j).Hi) ∧ i ≤ l.length := hF39
            obtain ⟨hall, hi⟩ := hF39
            refine WC.seq ?_
            refine WC.region ?_
            refine WL.cond (X.lss rfl rfl) (by decide) (fun h40 => ?_) (fun h40 => ?_)
            · refine WL.nil ?_
              refine WK.nThen ?_
              refine WC.seq ?_
              refine WC.condT rfl ?_
              refine WC.skip ?_
              refine WK.nThen ?_
              refine WC.seq ?_
              refine WC.block ?_
              refine WC.seq ?_
              refine WC.region ?_
              refine WL.x (X.move rfl) (by decide) ?_
              refine WL.x (X.idxI (k := 1) Try.runUnderlying31 Try.sizeOf3 rfl rfl rfl (by first | omega | (simp; omega) | simp) (by first | omega | (simp; omega) | simp)) (by decide) ?_
              refine WL.x (X.loadI (k := 1) (i := i) Try.isAgg3 rfl rfl (by first | omega | (simp; omega) | simp)) (by decide) ?_
              refine WL.x (X.assign rfl) (by decide) ?_
              refine WL.x (X.assign rfl) (by decide) ?_
              refine WL.nil ?_
              refine WK.nThen ?_
              refine WC.seq ?_
              refine WC.region ?_
              refine WL.x (X.move rfl) (by decide) ?_
              refine WL.x (X.move rfl) (by decide) ?_
              refine WL.x (X.move rfl) (by decide) ?_
              refine WL.xe (E.idxN i Try.runUnderlying100 Try.sizeOf49 rfl rfl hs9 (by omega)) (by decide) (fun p41 hp42 => ?_)
              have hp43 := At.Span_1 hp42
              refine WL.x (X.field Try.runUnderlying49 rfl Try.sizeOf3 rfl) (by decide) ?_
              refine WL.x (X.loadInt Try.isAgg3 rfl hp43) (by decide) ?_
              refine WL.cond (X.gtr rfl rfl) (by decide) (fun h44 => ?_) (fun h44 => ?_)
              · refine WL.nil ?_
                refine WK.nThen ?_
                refine WC.condT rfl ?_
                refine WC.seq ?_
                refine WC.region ?_
                refine WL.x (X.assign rfl) (by decide) ?_
                refine WL.x (X.assign rfl) (by decide) ?_
                refine WL.nil ?_
                refine WK.nThen ?_
                refine WC.ret ?_
                refine WK.rBlock ?_
                refine WK.rThen ?_
                refine WK.rThen ?_
                refine WK.rBlock ?_
                refine WK.rThen ?_
                refine WK.rScope ?_
                refine WK.ret2 rfl rfl rfl (fun w' hw' => Ret.mem hw' ?_)
                first | exact ⟨_, tup2 rfl (int_eq (by rw [sideR_err (by omega)])), by rw [sideR_err (by omega)]; exact .nil⟩ | exact ⟨_, tup2 rfl (int_eq (by rw [sideR_no hlz (hend.over (j := i) (by omega) (by omega))])), by rw [sideR_no hlz (hend.over (j := i) (by omega) (by omega))]; exact .nil⟩
              · refine WL.nil ?_
                refine WK.nThen ?_
                refine WC.condF rfl ?_
                refine WC.skip ?_
                refine WK.nBlock ?_
                refine WK.nThen ?_
                refine WC.region ?_
                refine WL.x (X.add rfl rfl (by omega) (by omega)) (by decide) ?_
                refine WL.x (X.move rfl) (by decide) ?_
                refine WL.nil ?_
                refine WK.nThen ?_
                refine WK.next (i + 1) rfl (.refl _) (.cons rfl (.cons rfl (.cons rfl (.cons rfl (.cons rfl .nil))))) ?_ ?_
                · exact ⟨fun j hj => by rcases Nat.lt_succ_iff_lt_or_eq.1 hj with h | h; exact hall j h; subst h; omega, by omega⟩
                · omega
            · refine WL.nil ?_
              refine WK.nThen ?_
              refine WC.seq ?_
              refine WC.condF rfl ?_
              refine WC.exit ?_
              refine WK.eThen ?_
              refine WK.eThen ?_
              refine WK.eHit ?_
              refine WK.nThen ?_
              refine WC.seq ?_
              refine WC.region ?_
              refine WL.x (X.loadB (k := 0) Try.isAgg31 rfl rfl rfl) (by decide) ?_
              refine WL.x (X.assign rfl) (by decide) ?_
              refine WL.x (X.assign rfl) (by decide) ?_
              refine WL.nil ?_
              refine WK.nThen ?_
              refine WC.ret ?_
              refine WK.rScope ?_
              refine WK.freezeF 1 rfl rfl (by simp [lenB]; omega) (fun m45 hle46 hs47 => ?_)
              replace hl := hl.mono hle46
              replace hlist := hlist.mono hle46
              replace hs9 := hs9.mono hle46
              replace hp13 := hp13.mono hle46
              refine WK.ret2 rfl rfl rfl (fun w' hw' => Ret.mem hw' ?_)
              have hfin := hend.all (fun j hj => hall j (by omega))
              exact ⟨_, tup2 rfl (int_eq (by rw [sideR_yes hlz hfin.1])), by rw [sideR_yes hlz hfin.1, ← hfin.2]; exact hs47⟩

theorem sample61 (m : Mem)    : Pure Try.prog 61 #[] m (fun m' v => ∃ r0, v = r0 ∧ Sl m' r0 (sampleS)) := by
  refine Pure.start Try.func61 rfl Try.ntmps61 rfl fun wld => ?_
  refine WC.seq ?_
  refine WC.region ?_
  refine WL.x (X.assign rfl) (by decide) ?_
  refine WL.nil ?_
  refine WK.nThen ?_
  refine WC.seq ?_
  refine WC.region ?_
  refine WL.x (V := Value.agg [.int .i64 (100), .int .i64 (100)].toArray) (X.build Try.zeroValue49 Try.runUnderlying49 (places49 _ Try.underlying49) rfl rfl) (by decide) ?_
  refine WL.x (V := Value.agg [.int .i64 (0), .int .i64 (100), .int .i64 (100)].toArray) (X.build Try.zeroValue71 Try.runUnderlying71 (places71 _ Try.underlying71) rfl rfl) (by decide) ?_
  refine WL.tm (T.litM (α := Height) (vals := [.agg [.int .i64 (0), .int .i64 (100), .int .i64 (100)].toArray]) (L := [(Height.mk (0) ((Span.mk (100) (100))))]) sl56 rfl (.cons rfl rfl .nil) rfl rfl) (by decide) (fun m1 v2 hle3 hs4 => ?_)
  refine WL.x (V := Value.agg [.int .i64 (1), .int .i64 (0), .int .i64 (0), v2].toArray) (X.build Try.zeroValue58 Try.runUnderlying58 (places58 _ Try.underlying58) rfl (by simp only [Instr.fill, one_cells hs4.one]; rfl)) (by decide) ?_
  refine WL.x (V := Value.agg [.int .i64 (0), .int .i64 (0), .int .i64 (0)].toArray) (X.build Try.zeroValue71 Try.runUnderlying71 (places71 _ Try.underlying71) rfl rfl) (by decide) ?_
  refine WL.x (V := Value.agg [.int .i64 (80), .int .i64 (160)].toArray) (X.build Try.zeroValue49 Try.runUnderlying49 (places49 _ Try.underlying49) rfl rfl) (by decide) ?_
  refine WL.x (V := Value.agg [.int .i64 (50), .int .i64 (80), .int .i64 (160)].toArray) (X.build Try.zeroValue71 Try.runUnderlying71 (places71 _ Try.underlying71) rfl rfl) (by decide) ?_
  refine WL.tm (T.litM (α := Height) (vals := [.agg [.int .i64 (0), .int .i64 (0), .int .i64 (0)].toArray, .agg [.int .i64 (50), .int .i64 (80), .int .i64 (160)].toArray]) (L := [(Height.mk (0) ((Span.mk (0) (0)))), (Height.mk (50) ((Span.mk (80) (160))))]) sl56 rfl (.cons rfl rfl (.cons rfl rfl .nil)) rfl rfl) (by decide) (fun m5 v6 hle7 hs8 => ?_)
  replace hs4 := hs4.mono hle7
  refine WL.x (V := Value.agg [.int .i64 (2), .int .i64 (3), .int .i64 (4), v6].toArray) (X.build Try.zeroValue58 Try.runUnderlying58 (places58 _ Try.underlying58) rfl (by simp only [Instr.fill, one_cells hs8.one]; rfl)) (by decide) ?_
  refine WL.x (V := Value.agg [.int .i64 (400), .int .i64 (400)].toArray) (X.build Try.zeroValue49 Try.runUnderlying49 (places49 _ Try.underlying49) rfl rfl) (by decide) ?_
  refine WL.x (V := Value.agg [.int .i64 (0), .int .i64 (400), .int .i64 (400)].toArray) (X.build Try.zeroValue71 Try.runUnderlying71 (places71 _ Try.underlying71) rfl rfl) (by decide) ?_
  refine WL.tm (T.litM (α := Height) (vals := [.agg [.int .i64 (0), .int .i64 (400), .int .i64 (400)].toArray]) (L := [(Height.mk (0) ((Span.mk (400) (400))))]) sl56 rfl (.cons rfl rfl .nil) rfl rfl) (by decide) (fun m9 v10 hle11 hs12 => ?_)
  replace hs4 := hs4.mono hle11
  replace hs8 := hs8.mono hle11
  refine WL.x (V := Value.agg [.int .i64 (3), .int .i64 (6), .int .i64 (8), v10].toArray) (X.build Try.zeroValue58 Try.runUnderlying58 (places58 _ Try.underlying58) rfl (by simp only [Instr.fill, one_cells hs12.one]; rfl)) (by decide) ?_
  refine WL.tm (T.litM (α := Station) (vals := [.agg [.int .i64 (1), .int .i64 (0), .int .i64 (0), v2].toArray, .agg [.int .i64 (2), .int .i64 (3), .int .i64 (4), v6].toArray, .agg [.int .i64 (3), .int .i64 (6), .int .i64 (8), v10].toArray]) (L := [(Station.mk (1) (0) (0) ([(Height.mk (0) ((Span.mk (100) (100))))])), (Station.mk (2) (3) (4) ([(Height.mk (0) ((Span.mk (0) (0)))), (Height.mk (50) ((Span.mk (80) (160))))])), (Station.mk (3) (6) (8) ([(Height.mk (0) ((Span.mk (400) (400))))]))]) sl24 rfl (.cons rfl ⟨_, rfl, hs4⟩ (.cons rfl ⟨_, rfl, hs8⟩ (.cons rfl ⟨_, rfl, hs12⟩ .nil))) rfl rfl) (by decide) (fun m13 v14 hle15 hs16 => ?_)
  replace hs4 := hs4.mono hle15
  replace hs8 := hs8.mono hle15
  replace hs12 := hs12.mono hle15
  refine WL.x (X.assign rfl) (by decide) ?_
  refine WL.nil ?_
  refine WK.nThen ?_
  refine WC.ret ?_
  refine WK.ret1 rfl rfl (fun w' hw' => Ret.mem hw' ?_)
  exact ⟨_, rfl, hs16⟩

theorem awake17 (m : Mem)    : Exact Try.prog 17 #[] m (.bool true) := by
  have hsml : sampleS.length = 3 := rfl
  refine Exact.start Try.func17 rfl Try.ntmps17 rfl fun wld => ?_
  refine WC.seq ?_
  refine WC.region ?_
  refine WL.x (X.assign rfl) (by decide) ?_
  refine WL.nil ?_
  refine WK.nThen ?_
  refine WC.seq ?_
  refine WC.region ?_
  refine WL.x (V := Value.agg [.int .i64 (0), .int .i64 (30)].toArray) (X.build Try.zeroValue23 Try.runUnderlying23 (places23 _ Try.underlying23) rfl rfl) (by decide) ?_
  refine WL.tn (T.alloc Try.zeroValue23 rfl) (by decide) fun b1 => ?_
  refine WL.ts (T.storeBA (k := 0) Try.sizeOf23 rfl rfl rfl (one_cons rfl (one_cons rfl one_nil)) rfl rfl) ?_
  refine WL.nil ?_
  refine WK.nThen ?_
  refine WC.seq ?_
  refine WC.draw (π := (.cons 0 (.cons 1 (.cons 2 (.cons 3 (.cons 4 (.cons 5 (.cons 6 (.cons 7 .done))))))))) [1, 2] [] rfl (by kernel_rfl) ?_
  refine DW.x rfl rfl (X.loadBA (k := 0) Try.isAgg23 Try.sizeOf23 rfl rfl rfl) (by decide) ?_
  refine DW.tm rfl rfl rfl (T.call Try.call61 rfl (sample61 _  )) (by decide) fun m2 r3 hle4 hR5 => ?_
  obtain ⟨v6, hv_, hs7⟩ := hR5
  rw [← hv_] at hs7
  clear hv_ v6
  have hl8 := hs7.le
  refine DW.tm rfl rfl rfl (T.call Try.call19 rfl (tight19 _ _ ((Wind.mk (0) (30))) rfl _ _ hs7 )) (by decide) fun m9 r10 hle11 hR12 => ?_
  obtain ⟨v13, rfl, hs14⟩ := hR12
  replace hs7 := hs7.mono hle11
  have hl15 := hs14.le
  refine DW.x rfl rfl (X.move rfl) (by decide) ?_
  refine DW.x rfl rfl (X.extract rfl rfl) (by decide) ?_
  refine DW.x rfl rfl (X.extract rfl rfl) (by decide) ?_
  refine DW.x rfl rfl (X.assign rfl) (by decide) ?_
  refine DW.x rfl rfl (X.assign rfl) (by decide) ?_
  refine DW.nil ?_
  refine WK.nThen ?_
  refine WC.seq ?_
  rw [aw_e]
  rw [aw_tight] at hs14
  refine WC.draw (π := (.cons 0 (.cons 1 (.cons 2 (.cons 3 (.cons 4 (.cons 5 (.cons 6 (.cons 7 .done))))))))) [1, 2] [] rfl (by kernel_rfl) ?_
  refine DW.x rfl rfl (X.loadBA (k := 0) Try.isAgg23 Try.sizeOf23 rfl rfl rfl) (by decide) ?_
  refine DW.tm rfl rfl rfl (T.call Try.call61 rfl (sample61 _  )) (by decide) fun m16 r17 hle18 hR19 => ?_
  obtain ⟨v20, hv_, hs21⟩ := hR19
  rw [← hv_] at hs21
  clear hv_ v20
  replace hs7 := hs7.mono hle18
  replace hs14 := hs14.mono hle18
  have hl22 := hs21.le
  refine DW.tm rfl rfl rfl (T.call Try.call21 rfl (way21 _ _ ((Wind.mk (0) (30))) rfl _ _ hs21 _ _ )) (by decide) fun m23 r24 hle25 hR26 => ?_
  obtain ⟨v27, rfl, hs28⟩ := hR26
  replace hs7 := hs7.mono hle25
  replace hs14 := hs14.mono hle25
  replace hs21 := hs21.mono hle25
  have hl29 := hs28.le
  refine DW.x rfl rfl (X.move rfl) (by decide) ?_
  refine DW.x rfl rfl (X.extract rfl rfl) (by decide) ?_
  refine DW.x rfl rfl (X.extract rfl rfl) (by decide) ?_
  refine DW.x rfl rfl (X.assign rfl) (by decide) ?_
  refine DW.x rfl rfl (X.assign rfl) (by decide) ?_
  refine DW.nil ?_
  refine WK.nThen ?_
  rw [aw_way2]
  rw [aw_way1] at hs28
  refine WC.cut (G := Mem × Value) (fun (m30, v45) => m30) (fun (m30, v45) => [blk b1 23 [.int .i64 (0), .int .i64 (30)]]) (fun (m30, v45) => [(1, .pointer (some ⟨b1, 0, none⟩)), (2, v13), (3, .int .i64 (0)), (4, v27), (5, .int .i64 (0)), (6, v45), (7, .int .i64 ((sideR ((Wind.mk (0) (30))) sampleS 50 ([10000, 10000, 9642])).2))]) (fun (m30, v45) => m23.le m30 ∧ Sl (α := Int) m30 v45 ((sideR ((Wind.mk (0) (30))) sampleS 50 ([10000, 10000, 9642])).1)) ?_ ?_
  · refine WC.draw (π := (.cons 0 (.fork (.cons 1 (.cons 2 (.cons 3 (.cons 4 (.cons 5 (.cons 6 (.cons 7 (.cons 8 .done)))))))) (.cons 2 (.cons 1 (.cons 3 (.cons 4 (.cons 5 (.cons 6 (.cons 7 (.cons 8 .done))))))))))) [1, 2, 3] [] rfl (by kernel_rfl) ?_
    refine DW.x rfl rfl (X.loadBA (k := 0) Try.isAgg23 Try.sizeOf23 rfl rfl rfl) (by decide) ?_
    refine DW.fork (List.cons_ne_nil _ _) ?_ ?_
    · refine DW.tm rfl rfl rfl (T.call Try.call61 rfl (sample61 _  )) (by decide) fun m31 r32 hle33 hR34 => ?_
      obtain ⟨v35, hv_, hs36⟩ := hR34
      rw [← hv_] at hs36
      clear hv_ v35
      replace hs7 := hs7.mono hle33
      replace hs14 := hs14.mono hle33
      replace hs21 := hs21.mono hle33
      replace hs28 := hs28.mono hle33
      have hl37 := hs36.le
      refine DW.tm rfl rfl rfl (T.litM (α := Int) (vals := [.int .i64 (10000), .int .i64 (10000), .int .i64 (9642)]) (L := [10000, 10000, 9642]) sl31 rfl (.cons rfl rfl (.cons rfl rfl (.cons rfl rfl .nil))) rfl rfl) (by decide) (fun m38 v39 hle40 hs41 => ?_)
      replace hs7 := hs7.mono hle40
      replace hs14 := hs14.mono hle40
      replace hs21 := hs21.mono hle40
      replace hs28 := hs28.mono hle40
      replace hs36 := hs36.mono hle40
      refine DW.tm rfl rfl rfl (T.call Try.call27 rfl (seaside27 _ _ ((Wind.mk (0) (30))) rfl _ _ hs36 _ _ _ hs41 )) (by decide) fun m42 r43 hle44 hR45 => ?_
      obtain ⟨v46, rfl, hs47⟩ := hR45
      replace hs7 := hs7.mono hle44
      replace hs14 := hs14.mono hle44
      replace hs21 := hs21.mono hle44
      replace hs28 := hs28.mono hle44
      replace hs36 := hs36.mono hle44
      replace hs41 := hs41.mono hle44
      have hl48 := hs47.le
      refine DW.x rfl rfl (X.move rfl) (by decide) ?_
      refine DW.x rfl rfl (X.extract rfl rfl) (by decide) ?_
      refine DW.x rfl rfl (X.extract rfl rfl) (by decide) ?_
      refine DW.x rfl rfl (X.assign rfl) (by decide) ?_
      refine DW.x rfl rfl (X.assign rfl) (by decide) ?_
      refine DW.nil ?_
      refine WK.nThen ?_
      exact WK.meet (m42, v46) rfl (.refl _) (.cons rfl (.cons rfl (.cons rfl (.cons rfl (.cons rfl (.cons rfl (.cons rfl .nil))))))) ⟨(Mem.le_trans hle33 (Mem.le_trans hle40 hle44)), hs47⟩
    · refine DW.tm rfl rfl rfl (T.litM (α := Int) (vals := [.int .i64 (10000), .int .i64 (10000), .int .i64 (9642)]) (L := [10000, 10000, 9642]) sl31 rfl (.cons rfl rfl (.cons rfl rfl (.cons rfl rfl .nil))) rfl rfl) (by decide) (fun m49 v50 hle51 hs52 => ?_)
      replace hs7 := hs7.mono hle51
      replace hs14 := hs14.mono hle51
      replace hs21 := hs21.mono hle51
      replace hs28 := hs28.mono hle51
      refine DW.tm rfl rfl rfl (T.call Try.call61 rfl (sample61 _  )) (by decide) fun m53 r54 hle55 hR56 => ?_
      obtain ⟨v57, hv_, hs58⟩ := hR56
      rw [← hv_] at hs58
      clear hv_ v57
      replace hs7 := hs7.mono hle55
      replace hs14 := hs14.mono hle55
      replace hs21 := hs21.mono hle55
      replace hs28 := hs28.mono hle55
      replace hs52 := hs52.mono hle55
      have hl59 := hs58.le
      refine DW.tm rfl rfl rfl (T.call Try.call27 rfl (seaside27 _ _ ((Wind.mk (0) (30))) rfl _ _ hs58 _ _ _ hs52 )) (by decide) fun m60 r61 hle62 hR63 => ?_
      obtain ⟨v64, rfl, hs65⟩ := hR63
      replace hs7 := hs7.mono hle62
      replace hs14 := hs14.mono hle62
      replace hs21 := hs21.mono hle62
      replace hs28 := hs28.mono hle62
      replace hs52 := hs52.mono hle62
      replace hs58 := hs58.mono hle62
      have hl66 := hs65.le
      refine DW.x rfl rfl (X.move rfl) (by decide) ?_
      refine DW.x rfl rfl (X.extract rfl rfl) (by decide) ?_
      refine DW.x rfl rfl (X.extract rfl rfl) (by decide) ?_
      refine DW.x rfl rfl (X.assign rfl) (by decide) ?_
      refine DW.x rfl rfl (X.assign rfl) (by decide) ?_
      refine DW.nil ?_
      refine WK.nThen ?_
      exact WK.meet (m60, v64) rfl (.refl _) (.cons rfl (.cons rfl (.cons rfl (.cons rfl (.cons rfl (.cons rfl (.cons rfl .nil))))))) ⟨(Mem.le_trans hle51 (Mem.le_trans hle55 hle62)), hs65⟩
  · rintro ⟨m30, v45⟩ ⟨hle67, hs68⟩
    show WK _ _ m30 [blk b1 23 [.int .i64 (0), .int .i64 (30)]] [(1, .pointer (some ⟨b1, 0, none⟩)), (2, v13), (3, .int .i64 (0)), (4, v27), (5, .int .i64 (0)), (6, v45), (7, .int .i64 ((sideR ((Wind.mk (0) (30))) sampleS 50 ([10000, 10000, 9642])).2))] _
    replace hs7 := hs7.mono hle67
    replace hs14 := hs14.mono hle67
    replace hs21 := hs21.mono hle67
    replace hs28 := hs28.mono hle67
    have hl69 := hs68.le
    rw [aw_side2]
    rw [aw_side1] at hs68
    refine WC.cut (G := Mem × Value) (fun (m70, v85) => m70) (fun (m70, v85) => [blk b1 23 [.int .i64 (0), .int .i64 (30)]]) (fun (m70, v85) => [(2, v13), (3, .int .i64 (0)), (4, v27), (5, .int .i64 (0)), (6, v45), (7, .int .i64 (0)), (8, v85), (9, .int .i64 ((apartR ((Wind.mk (0) (30))) sampleS 0 ([10000, 10126, 9640])).2))]) (fun (m70, v85) => m30.le m70 ∧ Sl (α := Int) m70 v85 ((apartR ((Wind.mk (0) (30))) sampleS 0 ([10000, 10126, 9640])).1)) ?_ ?_
    · refine WC.draw (π := (.cons 0 (.fork (.cons 1 (.cons 2 (.cons 3 (.cons 4 (.cons 5 (.cons 6 (.cons 7 (.cons 8 .done)))))))) (.cons 2 (.cons 1 (.cons 3 (.cons 4 (.cons 5 (.cons 6 (.cons 7 (.cons 8 .done))))))))))) [1, 2, 3] [] rfl (by kernel_rfl) ?_
      refine DW.x rfl rfl (X.loadBA (k := 0) Try.isAgg23 Try.sizeOf23 rfl rfl rfl) (by decide) ?_
      refine DW.fork (List.cons_ne_nil _ _) ?_ ?_
      · refine DW.tm rfl rfl rfl (T.call Try.call61 rfl (sample61 _  )) (by decide) fun m71 r72 hle73 hR74 => ?_
        obtain ⟨v75, hv_, hs76⟩ := hR74
        rw [← hv_] at hs76
        clear hv_ v75
        replace hs7 := hs7.mono hle73
        replace hs14 := hs14.mono hle73
        replace hs21 := hs21.mono hle73
        replace hs28 := hs28.mono hle73
        replace hs68 := hs68.mono hle73
        have hl77 := hs76.le
        refine DW.tm rfl rfl rfl (T.litM (α := Int) (vals := [.int .i64 (10000), .int .i64 (10126), .int .i64 (9640)]) (L := [10000, 10126, 9640]) sl31 rfl (.cons rfl rfl (.cons rfl rfl (.cons rfl rfl .nil))) rfl rfl) (by decide) (fun m78 v79 hle80 hs81 => ?_)
        replace hs7 := hs7.mono hle80
        replace hs14 := hs14.mono hle80
        replace hs21 := hs21.mono hle80
        replace hs28 := hs28.mono hle80
        replace hs68 := hs68.mono hle80
        replace hs76 := hs76.mono hle80
        refine DW.tm rfl rfl rfl (T.call Try.call29 rfl (apart29 _ _ ((Wind.mk (0) (30))) rfl _ _ hs76 _ _ _ hs81 )) (by decide) fun m82 r83 hle84 hR85 => ?_
        obtain ⟨v86, rfl, hs87⟩ := hR85
        replace hs7 := hs7.mono hle84
        replace hs14 := hs14.mono hle84
        replace hs21 := hs21.mono hle84
        replace hs28 := hs28.mono hle84
        replace hs68 := hs68.mono hle84
        replace hs76 := hs76.mono hle84
        replace hs81 := hs81.mono hle84
        have hl88 := hs87.le
        refine DW.x rfl rfl (X.move rfl) (by decide) ?_
        refine DW.x rfl rfl (X.extract rfl rfl) (by decide) ?_
        refine DW.x rfl rfl (X.extract rfl rfl) (by decide) ?_
        refine DW.x rfl rfl (X.assign rfl) (by decide) ?_
        refine DW.x rfl rfl (X.assign rfl) (by decide) ?_
        refine DW.nil ?_
        refine WK.nThen ?_
        exact WK.meet (m82, v86) rfl (.refl _) (.cons rfl (.cons rfl (.cons rfl (.cons rfl (.cons rfl (.cons rfl (.cons rfl (.cons rfl .nil)))))))) ⟨(Mem.le_trans hle73 (Mem.le_trans hle80 hle84)), hs87⟩
      · refine DW.tm rfl rfl rfl (T.litM (α := Int) (vals := [.int .i64 (10000), .int .i64 (10126), .int .i64 (9640)]) (L := [10000, 10126, 9640]) sl31 rfl (.cons rfl rfl (.cons rfl rfl (.cons rfl rfl .nil))) rfl rfl) (by decide) (fun m89 v90 hle91 hs92 => ?_)
        replace hs7 := hs7.mono hle91
        replace hs14 := hs14.mono hle91
        replace hs21 := hs21.mono hle91
        replace hs28 := hs28.mono hle91
        replace hs68 := hs68.mono hle91
        refine DW.tm rfl rfl rfl (T.call Try.call61 rfl (sample61 _  )) (by decide) fun m93 r94 hle95 hR96 => ?_
        obtain ⟨v97, hv_, hs98⟩ := hR96
        rw [← hv_] at hs98
        clear hv_ v97
        replace hs7 := hs7.mono hle95
        replace hs14 := hs14.mono hle95
        replace hs21 := hs21.mono hle95
        replace hs28 := hs28.mono hle95
        replace hs68 := hs68.mono hle95
        replace hs92 := hs92.mono hle95
        have hl99 := hs98.le
        refine DW.tm rfl rfl rfl (T.call Try.call29 rfl (apart29 _ _ ((Wind.mk (0) (30))) rfl _ _ hs98 _ _ _ hs92 )) (by decide) fun m100 r101 hle102 hR103 => ?_
        obtain ⟨v104, rfl, hs105⟩ := hR103
        replace hs7 := hs7.mono hle102
        replace hs14 := hs14.mono hle102
        replace hs21 := hs21.mono hle102
        replace hs28 := hs28.mono hle102
        replace hs68 := hs68.mono hle102
        replace hs92 := hs92.mono hle102
        replace hs98 := hs98.mono hle102
        have hl106 := hs105.le
        refine DW.x rfl rfl (X.move rfl) (by decide) ?_
        refine DW.x rfl rfl (X.extract rfl rfl) (by decide) ?_
        refine DW.x rfl rfl (X.extract rfl rfl) (by decide) ?_
        refine DW.x rfl rfl (X.assign rfl) (by decide) ?_
        refine DW.x rfl rfl (X.assign rfl) (by decide) ?_
        refine DW.nil ?_
        refine WK.nThen ?_
        exact WK.meet (m100, v104) rfl (.refl _) (.cons rfl (.cons rfl (.cons rfl (.cons rfl (.cons rfl (.cons rfl (.cons rfl (.cons rfl .nil)))))))) ⟨(Mem.le_trans hle91 (Mem.le_trans hle95 hle102)), hs105⟩
    · rintro ⟨m70, v85⟩ ⟨hle107, hs108⟩
      show WK _ _ m70 [blk b1 23 [.int .i64 (0), .int .i64 (30)]] [(2, v13), (3, .int .i64 (0)), (4, v27), (5, .int .i64 (0)), (6, v45), (7, .int .i64 (0)), (8, v85), (9, .int .i64 ((apartR ((Wind.mk (0) (30))) sampleS 0 ([10000, 10126, 9640])).2))] _
      replace hs7 := hs7.mono hle107
      replace hs14 := hs14.mono hle107
      replace hs21 := hs21.mono hle107
      replace hs28 := hs28.mono hle107
      replace hs68 := hs68.mono hle107
      have hl109 := hs108.le
      refine WC.seq ?_
      rw [aw_apart2]
      rw [aw_apart1] at hs108
      refine WC.region ?_
      refine WL.x (X.call Try.call38 rfl (lands38 _ _ _ )) (by decide) ?_
      refine WL.x (X.move rfl) (by decide) ?_
      refine WL.x (X.extract rfl rfl) (by decide) ?_
      refine WL.x (X.extract rfl rfl) (by decide) ?_
      refine WL.tn (T.alloc Try.zeroValue49 rfl) (by decide) fun b110 => ?_
      refine WL.ts (T.storeBA (k := 0) Try.sizeOf49 rfl rfl rfl (one_cons rfl (one_cons rfl one_nil)) rfl rfl) ?_
      refine WL.x (X.assign rfl) (by decide) ?_
      refine WL.nil ?_
      refine WK.nThen ?_
      rw [aw_landsL]
      rw [aw_landsH]
      rw [aw_lands2]
      refine WC.cut (G := Mem × Nat) (fun (m111, b139) => m111) (fun (m111, b139) => [blk b139 63 [.int .i64 ((speedR (gt sampleS 0) (gt sampleS 2) 4).1.Num), .int .i64 ((speedR (gt sampleS 0) (gt sampleS 2) 4).1.Den)], blk b110 49 [.int .i64 (10001), .int .i64 (10001)], blk b1 23 [.int .i64 (0), .int .i64 (30)]]) (fun (m111, b139) => [(2, v13), (3, .int .i64 (0)), (4, v27), (5, .int .i64 (0)), (6, v45), (7, .int .i64 (0)), (8, v85), (9, .int .i64 (0)), (10, .pointer (some ⟨b110, 0, none⟩)), (11, .int .i64 (0)), (12, .pointer (some ⟨b139, 0, none⟩)), (13, .int .i64 ((speedR (gt sampleS 0) (gt sampleS 2) 4).2))]) (fun (m111, b139) => m70.le m111) ?_ ?_
      · refine WC.draw (π := (.fork (.cons 0 (.cons 1 (.cons 2 (.fork (.cons 3 (.cons 4 (.cons 5 (.cons 6 (.cons 7 (.cons 8 (.cons 9 (.cons 10 (.cons 11 (.cons 12 .done)))))))))) (.cons 10 (.cons 3 (.cons 4 (.cons 5 (.cons 6 (.cons 7 (.cons 8 (.cons 9 (.cons 11 (.cons 12 .done)))))))))))))) (.cons 10 (.cons 0 (.cons 1 (.cons 2 (.cons 3 (.cons 4 (.cons 5 (.cons 6 (.cons 7 (.cons 8 (.cons 9 (.cons 11 (.cons 12 .done))))))))))))))) [0, 3, 10, 11] [11] rfl (by kernel_rfl) ?_
        refine DW.fork (List.cons_ne_nil _ _) ?_ ?_
        · refine DW.tm rfl rfl rfl (T.call Try.call61 rfl (sample61 _  )) (by decide) fun m112 r113 hle114 hR115 => ?_
          obtain ⟨v116, hv_, hs117⟩ := hR115
          rw [← hv_] at hs117
          clear hv_ v116
          replace hs7 := hs7.mono hle114
          replace hs14 := hs14.mono hle114
          replace hs21 := hs21.mono hle114
          replace hs28 := hs28.mono hle114
          replace hs68 := hs68.mono hle114
          replace hs108 := hs108.mono hle114
          have hl118 := hs117.le
          refine DW.xe rfl rfl (E.idxN 0 Try.runUnderlying24 Try.sizeOf58 rfl rfl hs117 (by omega)) (by decide) (fun p119 hp120 => ?_)
          refine DW.xe rfl rfl (E.loadAgg Try.isAgg58 Try.sizeOf58 rfl hp120) (by decide) (fun c121 hc122 => ?_)
          obtain ⟨v123, rfl, hs124⟩ := hc122
          have hl125 := hs124.le
          refine DW.fork (List.cons_ne_nil _ _) ?_ ?_
          · refine DW.tm rfl rfl rfl (T.call Try.call61 rfl (sample61 _  )) (by decide) fun m126 r127 hle128 hR129 => ?_
            obtain ⟨v130, hv_, hs131⟩ := hR129
            rw [← hv_] at hs131
            clear hv_ v130
            replace hs7 := hs7.mono hle128
            replace hs14 := hs14.mono hle128
            replace hs21 := hs21.mono hle128
            replace hs28 := hs28.mono hle128
            replace hs68 := hs68.mono hle128
            replace hs108 := hs108.mono hle128
            replace hs117 := hs117.mono hle128
            replace hp120 := hp120.mono hle128
            replace hs124 := hs124.mono hle128
            have hl132 := hs131.le
            refine DW.xe rfl rfl (E.idxN 2 Try.runUnderlying24 Try.sizeOf58 rfl rfl hs131 (by omega)) (by decide) (fun p133 hp134 => ?_)
            refine DW.xe rfl rfl (E.loadAgg Try.isAgg58 Try.sizeOf58 rfl hp134) (by decide) (fun c135 hc136 => ?_)
            obtain ⟨v137, rfl, hs138⟩ := hc136
            have hl139 := hs138.le
            refine DW.x rfl rfl (X.call Try.call45 rfl (speed45 _ _ (gt sampleS 0) ⟨_, rfl, hs124⟩ _ (gt sampleS 2) ⟨_, rfl, hs138⟩ _ )) (by decide) ?_
            refine DW.x rfl rfl (X.move rfl) (by decide) ?_
            refine DW.x rfl rfl (X.extract rfl rfl) (by decide) ?_
            refine DW.x rfl rfl (X.extract rfl rfl) (by decide) ?_
            refine DW.tn rfl rfl rfl (T.alloc Try.zeroValue63 rfl) (by decide) fun b140 => ?_
            refine DW.ts rfl rfl rfl rfl (T.storeBA (k := 0) Try.sizeOf63 rfl rfl rfl (one_cons rfl (one_cons rfl one_nil)) rfl rfl) ?_
            refine DW.x rfl rfl (X.assign rfl) (by decide) ?_
            refine DW.nil ?_
            refine WK.nThen ?_
            exact WK.meet (m126, b140) rfl (.refl _) (.cons rfl (.cons rfl (.cons rfl (.cons rfl (.cons rfl (.cons rfl (.cons rfl (.cons rfl (.cons rfl (.cons rfl (.cons rfl (.cons rfl .nil)))))))))))) (Mem.le_trans hle114 hle128)
          · refine DW.tn rfl rfl rfl (T.alloc Try.zeroValue63 rfl) (by decide) fun b141 => ?_
            refine DW.tm rfl rfl rfl (T.call Try.call61 rfl (sample61 _  )) (by decide) fun m142 r143 hle144 hR145 => ?_
            obtain ⟨v146, hv_, hs147⟩ := hR145
            rw [← hv_] at hs147
            clear hv_ v146
            replace hs7 := hs7.mono hle144
            replace hs14 := hs14.mono hle144
            replace hs21 := hs21.mono hle144
            replace hs28 := hs28.mono hle144
            replace hs68 := hs68.mono hle144
            replace hs108 := hs108.mono hle144
            replace hs117 := hs117.mono hle144
            replace hp120 := hp120.mono hle144
            replace hs124 := hs124.mono hle144
            have hl148 := hs147.le
            refine DW.xe rfl rfl (E.idxN 2 Try.runUnderlying24 Try.sizeOf58 rfl rfl hs147 (by omega)) (by decide) (fun p149 hp150 => ?_)
            refine DW.xe rfl rfl (E.loadAgg Try.isAgg58 Try.sizeOf58 rfl hp150) (by decide) (fun c151 hc152 => ?_)
            obtain ⟨v153, rfl, hs154⟩ := hc152
            have hl155 := hs154.le
            refine DW.x rfl rfl (X.call Try.call45 rfl (speed45 _ _ (gt sampleS 0) ⟨_, rfl, hs124⟩ _ (gt sampleS 2) ⟨_, rfl, hs154⟩ _ )) (by decide) ?_
            refine DW.x rfl rfl (X.move rfl) (by decide) ?_
            refine DW.x rfl rfl (X.extract rfl rfl) (by decide) ?_
            refine DW.x rfl rfl (X.extract rfl rfl) (by decide) ?_
            refine DW.ts rfl rfl rfl rfl (T.storeBA (k := 0) Try.sizeOf63 rfl rfl rfl (one_cons rfl (one_cons rfl one_nil)) rfl rfl) ?_
            refine DW.x rfl rfl (X.assign rfl) (by decide) ?_
            refine DW.nil ?_
            refine WK.nThen ?_
            exact WK.meet (m142, b141) rfl (.refl _) (.cons rfl (.cons rfl (.cons rfl (.cons rfl (.cons rfl (.cons rfl (.cons rfl (.cons rfl (.cons rfl (.cons rfl (.cons rfl (.cons rfl .nil)))))))))))) (Mem.le_trans hle114 hle144)
        · refine DW.tn rfl rfl rfl (T.alloc Try.zeroValue63 rfl) (by decide) fun b156 => ?_
          refine DW.tm rfl rfl rfl (T.call Try.call61 rfl (sample61 _  )) (by decide) fun m157 r158 hle159 hR160 => ?_
          obtain ⟨v161, hv_, hs162⟩ := hR160
          rw [← hv_] at hs162
          clear hv_ v161
          replace hs7 := hs7.mono hle159
          replace hs14 := hs14.mono hle159
          replace hs21 := hs21.mono hle159
          replace hs28 := hs28.mono hle159
          replace hs68 := hs68.mono hle159
          replace hs108 := hs108.mono hle159
          have hl163 := hs162.le
          refine DW.xe rfl rfl (E.idxN 0 Try.runUnderlying24 Try.sizeOf58 rfl rfl hs162 (by omega)) (by decide) (fun p164 hp165 => ?_)
          refine DW.xe rfl rfl (E.loadAgg Try.isAgg58 Try.sizeOf58 rfl hp165) (by decide) (fun c166 hc167 => ?_)
          obtain ⟨v168, rfl, hs169⟩ := hc167
          have hl170 := hs169.le
          refine DW.tm rfl rfl rfl (T.call Try.call61 rfl (sample61 _  )) (by decide) fun m171 r172 hle173 hR174 => ?_
          obtain ⟨v175, hv_, hs176⟩ := hR174
          rw [← hv_] at hs176
          clear hv_ v175
          replace hs7 := hs7.mono hle173
          replace hs14 := hs14.mono hle173
          replace hs21 := hs21.mono hle173
          replace hs28 := hs28.mono hle173
          replace hs68 := hs68.mono hle173
          replace hs108 := hs108.mono hle173
          replace hs162 := hs162.mono hle173
          replace hp165 := hp165.mono hle173
          replace hs169 := hs169.mono hle173
          have hl177 := hs176.le
          refine DW.xe rfl rfl (E.idxN 2 Try.runUnderlying24 Try.sizeOf58 rfl rfl hs176 (by omega)) (by decide) (fun p178 hp179 => ?_)
          refine DW.xe rfl rfl (E.loadAgg Try.isAgg58 Try.sizeOf58 rfl hp179) (by decide) (fun c180 hc181 => ?_)
          obtain ⟨v182, rfl, hs183⟩ := hc181
          have hl184 := hs183.le
          refine DW.x rfl rfl (X.call Try.call45 rfl (speed45 _ _ (gt sampleS 0) ⟨_, rfl, hs169⟩ _ (gt sampleS 2) ⟨_, rfl, hs183⟩ _ )) (by decide) ?_
          refine DW.x rfl rfl (X.move rfl) (by decide) ?_
          refine DW.x rfl rfl (X.extract rfl rfl) (by decide) ?_
          refine DW.x rfl rfl (X.extract rfl rfl) (by decide) ?_
          refine DW.ts rfl rfl rfl rfl (T.storeBA (k := 0) Try.sizeOf63 rfl rfl rfl (one_cons rfl (one_cons rfl one_nil)) rfl rfl) ?_
          refine DW.x rfl rfl (X.assign rfl) (by decide) ?_
          refine DW.nil ?_
          refine WK.nThen ?_
          exact WK.meet (m171, b156) rfl (.refl _) (.cons rfl (.cons rfl (.cons rfl (.cons rfl (.cons rfl (.cons rfl (.cons rfl (.cons rfl (.cons rfl (.cons rfl (.cons rfl (.cons rfl .nil)))))))))))) (Mem.le_trans hle159 hle173)
      · rintro ⟨m111, b139⟩ hle185
        show WK _ _ m111 [blk b139 63 [.int .i64 ((speedR (gt sampleS 0) (gt sampleS 2) 4).1.Num), .int .i64 ((speedR (gt sampleS 0) (gt sampleS 2) 4).1.Den)], blk b110 49 [.int .i64 (10001), .int .i64 (10001)], blk b1 23 [.int .i64 (0), .int .i64 (30)]] [(2, v13), (3, .int .i64 (0)), (4, v27), (5, .int .i64 (0)), (6, v45), (7, .int .i64 (0)), (8, v85), (9, .int .i64 (0)), (10, .pointer (some ⟨b110, 0, none⟩)), (11, .int .i64 (0)), (12, .pointer (some ⟨b139, 0, none⟩)), (13, .int .i64 ((speedR (gt sampleS 0) (gt sampleS 2) 4).2))] _
        replace hs7 := hs7.mono hle185
        replace hs14 := hs14.mono hle185
        replace hs21 := hs21.mono hle185
        replace hs28 := hs28.mono hle185
        replace hs68 := hs68.mono hle185
        replace hs108 := hs108.mono hle185
        refine WC.seq ?_
        refine WC.seq ?_
        rw [aw_speedN]
        rw [aw_speedD]
        rw [aw_speed2]
        refine WC.region ?_
        refine WL.x (X.move rfl) (by decide) ?_
        refine WL.x (X.neq rfl rfl) (by decide) ?_
        refine WL.x (X.move rfl) (by decide) ?_
        refine WL.yes rfl rfl ?_
        refine WL.x (X.move rfl) (by decide) ?_
        refine WL.yes rfl rfl ?_
        refine WL.x (X.neq rfl rfl) (by decide) ?_
        refine WL.x (X.pickF rfl rfl rfl) (by decide) ?_
        refine WL.x (X.move rfl) (by decide) ?_
        refine WL.yes rfl rfl ?_
        refine WL.x (X.move rfl) (by decide) ?_
        refine WL.yes rfl rfl ?_
        refine WL.x (X.neq rfl rfl) (by decide) ?_
        refine WL.x (X.pickF rfl rfl rfl) (by decide) ?_
        refine WL.x (X.move rfl) (by decide) ?_
        refine WL.yes rfl rfl ?_
        refine WL.x (X.move rfl) (by decide) ?_
        refine WL.yes rfl rfl ?_
        refine WL.x (X.neq rfl rfl) (by decide) ?_
        refine WL.x (X.pickF rfl rfl rfl) (by decide) ?_
        refine WL.x (X.move rfl) (by decide) ?_
        refine WL.yes rfl rfl ?_
        refine WL.x (X.move rfl) (by decide) ?_
        refine WL.yes rfl rfl ?_
        refine WL.x (X.neq rfl rfl) (by decide) ?_
        refine WL.x (X.pickF rfl rfl rfl) (by decide) ?_
        refine WL.x (X.move rfl) (by decide) ?_
        refine WL.yes rfl rfl ?_
        refine WL.x (X.move rfl) (by decide) ?_
        refine WL.yes rfl rfl ?_
        refine WL.x (X.neq rfl rfl) (by decide) ?_
        refine WL.x (X.pickF rfl rfl rfl) (by decide) ?_
        refine WL.nil ?_
        refine WK.nThen ?_
        refine WC.condF rfl ?_
        refine WC.skip ?_
        refine WK.nThen ?_
        refine WC.seq ?_
        refine WC.region ?_
        refine WL.x (X.move rfl) (by decide) ?_
        refine WL.tm (T.litM (α := Int) (vals := [.int .i64 (0), .int .i64 (1), .int .i64 (2)]) (L := [0, 1, 2]) sl31 rfl (.cons rfl rfl (.cons rfl rfl (.cons rfl rfl .nil))) rfl rfl) (by decide) (fun m186 v187 hle188 hs189 => ?_)
        replace hs7 := hs7.mono hle188
        replace hs14 := hs14.mono hle188
        replace hs21 := hs21.mono hle188
        replace hs28 := hs28.mono hle188
        replace hs68 := hs68.mono hle188
        replace hs108 := hs108.mono hle188
        refine WL.tm (T.litM (α := Int) (vals := [.int .i64 (1), .int .i64 (0), .int .i64 (1)]) (L := [1, 0, 1]) sl31 rfl (.cons rfl rfl (.cons rfl rfl (.cons rfl rfl .nil))) rfl rfl) (by decide) (fun m190 v191 hle192 hs193 => ?_)
        replace hs7 := hs7.mono hle192
        replace hs14 := hs14.mono hle192
        replace hs21 := hs21.mono hle192
        replace hs28 := hs28.mono hle192
        replace hs68 := hs68.mono hle192
        replace hs108 := hs108.mono hle192
        replace hs189 := hs189.mono hle192
        refine WL.tm (T.litM (α := Int) (vals := [.int .i64 (2), .int .i64 (1), .int .i64 (0)]) (L := [2, 1, 0]) sl31 rfl (.cons rfl rfl (.cons rfl rfl (.cons rfl rfl .nil))) rfl rfl) (by decide) (fun m194 v195 hle196 hs197 => ?_)
        replace hs7 := hs7.mono hle196
        replace hs14 := hs14.mono hle196
        replace hs21 := hs21.mono hle196
        replace hs28 := hs28.mono hle196
        replace hs68 := hs68.mono hle196
        replace hs108 := hs108.mono hle196
        replace hs189 := hs189.mono hle196
        replace hs193 := hs193.mono hle196
        refine WL.tm (T.litM (α := List Int) (vals := [v187, v191, v195]) (L := [[0, 1, 2], [1, 0, 1], [2, 1, 0]]) sl27 rfl (.cons (one_cells hs189.one) ⟨_, rfl, hs189⟩ (.cons (one_cells hs193.one) ⟨_, rfl, hs193⟩ (.cons (one_cells hs197.one) ⟨_, rfl, hs197⟩ .nil))) rfl rfl) (by decide) (fun m198 v199 hle200 hs201 => ?_)
        replace hs7 := hs7.mono hle200
        replace hs14 := hs14.mono hle200
        replace hs21 := hs21.mono hle200
        replace hs28 := hs28.mono hle200
        replace hs68 := hs68.mono hle200
        replace hs108 := hs108.mono hle200
        replace hs189 := hs189.mono hle200
        replace hs193 := hs193.mono hle200
        replace hs197 := hs197.mono hle200
        refine WL.x (OpX.t (X.call Try.call23 rfl (sameRows23 _ _ _ hs14 _ _ hs201 )) rfl) (by decide) ?_
        refine WL.x (X.move rfl) (by decide) ?_
        refine WL.yes rfl rfl ?_
        refine WL.x (X.move rfl) (by decide) ?_
        refine WL.yes rfl rfl ?_
        refine WL.tm (T.litM (α := Int) (vals := [.int .i64 (0), .int .i64 (1), .int .i64 (2)]) (L := [0, 1, 2]) sl31 rfl (.cons rfl rfl (.cons rfl rfl (.cons rfl rfl .nil))) rfl rfl) (by decide) (fun m202 v203 hle204 hs205 => ?_)
        replace hs7 := hs7.mono hle204
        replace hs14 := hs14.mono hle204
        replace hs21 := hs21.mono hle204
        replace hs28 := hs28.mono hle204
        replace hs68 := hs68.mono hle204
        replace hs108 := hs108.mono hle204
        replace hs189 := hs189.mono hle204
        replace hs193 := hs193.mono hle204
        replace hs197 := hs197.mono hle204
        replace hs201 := hs201.mono hle204
        refine WL.yes rfl rfl ?_
        refine WL.x (OpX.t (X.call Try.call24 rfl (sameInts24 _ _ _ hs28 _ _ hs205 )) rfl) (by decide) ?_
        refine WL.x (X.pickT rfl rfl rfl) (by decide) ?_
        refine WL.x (X.move rfl) (by decide) ?_
        refine WL.yes rfl rfl ?_
        refine WL.x (X.move rfl) (by decide) ?_
        refine WL.yes rfl rfl ?_
        refine WL.tm (T.litM (α := Int) (vals := [.int .i64 (10125), .int .i64 (10124), .int .i64 (10124)]) (L := [10125, 10124, 10124]) sl31 rfl (.cons rfl rfl (.cons rfl rfl (.cons rfl rfl .nil))) rfl rfl) (by decide) (fun m206 v207 hle208 hs209 => ?_)
        replace hs7 := hs7.mono hle208
        replace hs14 := hs14.mono hle208
        replace hs21 := hs21.mono hle208
        replace hs28 := hs28.mono hle208
        replace hs68 := hs68.mono hle208
        replace hs108 := hs108.mono hle208
        replace hs189 := hs189.mono hle208
        replace hs193 := hs193.mono hle208
        replace hs197 := hs197.mono hle208
        replace hs201 := hs201.mono hle208
        replace hs205 := hs205.mono hle208
        refine WL.yes rfl rfl ?_
        refine WL.x (OpX.t (X.call Try.call24 rfl (sameInts24 _ _ _ hs68 _ _ hs209 )) rfl) (by decide) ?_
        refine WL.x (X.pickT rfl rfl rfl) (by decide) ?_
        refine WL.x (X.move rfl) (by decide) ?_
        refine WL.yes rfl rfl ?_
        refine WL.x (X.move rfl) (by decide) ?_
        refine WL.yes rfl rfl ?_
        refine WL.tm (T.litM (α := Int) (vals := [.int .i64 (0), .int .i64 (2)]) (L := [0, 2]) sl31 rfl (.cons rfl rfl (.cons rfl rfl .nil)) rfl rfl) (by decide) (fun m210 v211 hle212 hs213 => ?_)
        replace hs7 := hs7.mono hle212
        replace hs14 := hs14.mono hle212
        replace hs21 := hs21.mono hle212
        replace hs28 := hs28.mono hle212
        replace hs68 := hs68.mono hle212
        replace hs108 := hs108.mono hle212
        replace hs189 := hs189.mono hle212
        replace hs193 := hs193.mono hle212
        replace hs197 := hs197.mono hle212
        replace hs201 := hs201.mono hle212
        replace hs205 := hs205.mono hle212
        replace hs209 := hs209.mono hle212
        refine WL.yes rfl rfl ?_
        refine WL.x (OpX.t (X.call Try.call24 rfl (sameInts24 _ _ _ hs108 _ _ hs213 )) rfl) (by decide) ?_
        refine WL.x (X.pickT rfl rfl rfl) (by decide) ?_
        refine WL.x (X.move rfl) (by decide) ?_
        refine WL.yes rfl rfl ?_
        refine WL.x (X.loadBA (k := 1) Try.isAgg49 Try.sizeOf49 rfl rfl rfl) (by decide) ?_
        refine WL.yes rfl rfl ?_
        refine WL.x (V := Value.agg [.int .i64 (10001), .int .i64 (10001)].toArray) (X.build Try.zeroValue49 Try.runUnderlying49 (places49 _ Try.underlying49) rfl rfl) (by decide) ?_
        refine WL.yes rfl rfl ?_
        refine WL.x (OpX.t (X.eqlS (a := (Span.mk (10001) (10001))) (b := (Span.mk (10001) (10001))) gd49 (fun w => eqS49 9998 _ _ w) rfl rfl) rfl) (by decide) ?_
        refine WL.x (X.pickT rfl rfl rfl) (by decide) ?_
        refine WL.x (X.move rfl) (by decide) ?_
        refine WL.yes rfl rfl ?_
        refine WL.x (X.loadBA (k := 0) Try.isAgg63 Try.sizeOf63 rfl rfl rfl) (by decide) ?_
        refine WL.yes rfl rfl ?_
        refine WL.x (V := Value.agg [.int .i64 (5), .int .i64 (2)].toArray) (X.build Try.zeroValue63 Try.runUnderlying63 (places63 _ Try.underlying63) rfl rfl) (by decide) ?_
        refine WL.yes rfl rfl ?_
        refine WL.x (OpX.t (X.eqlS (a := (Ratio.mk (5) (2))) (b := (Ratio.mk (5) (2))) gd63 (fun w => eqS63 9998 _ _ w) rfl rfl) rfl) (by decide) ?_
        refine WL.x (X.pickT rfl rfl rfl) (by decide) ?_
        refine WL.x (X.assign rfl) (by decide) ?_
        refine WL.nil ?_
        refine WK.nThen ?_
        refine WC.ret ?_
        refine WK.ret1 rfl rfl (fun w' hw' => Ret.exact hw' ?_)
        first | rfl | exact absurd rfl ‹_›

end Go.Proofs.S5
