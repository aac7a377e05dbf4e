/- Stations: walks, by program: lengths of ways. -/
import Derived.Test.YtcpecjgppbiplaaS5Mix3
import Derived.Test.YtcpecjgppbiplaaS5W7
namespace Go.Proofs.S5
open Go Go.Kx

theorem long33 (m : Mem) (cw : List Value) (w : Wind) (hw : Enc.rd m cw w) (vl : Value) (l : List Station) (hl : Sl m vl l) (vway : Value) (way : List Int) (hway : Sl m vway way)  (hw60 : way.length ≤ 60) : Exact Try.prog 33 #[.agg cw.toArray, vl, vway] m (.tuple #[.int .i64 ((longR w l way).1), .bool ((longR w l way).2)]) := by
  obtain rfl := hw
  have ll := hl.le
  have lway := hway.le
  refine Exact.start Try.func33 rfl Try.ntmps33 rfl fun wld => ?_
  refine WC.seq ?_
  refine WC.region ?_
  refine WL.tn (T.boxB rfl rfl) (by decide) fun b1 => ?_
  refine WL.x (X.assign rfl) (by decide) ?_
  refine WL.x (X.assign rfl) (by decide) ?_
  refine WL.nil ?_
  refine WK.nThen ?_
  refine WC.seq ?_
  refine WC.region ?_
  refine WL.x (X.assign rfl) (by decide) ?_
  refine WL.nil ?_
  refine WK.nThen ?_
  refine WC.seq ?_
  refine WC.seq ?_
  refine WC.region ?_
  refine WL.x (X.assign rfl) (by decide) ?_
  refine WL.nil ?_
  refine WK.nThen ?_
  refine WC.block ?_
  refine WC.loop (G := Nat) (fun k => way.length - k) (fun k => m) (fun k => [blk b1 23 [.int .i64 (w.Fixed), .int .i64 (w.Each)]]) (fun k => [(1, vl), (2, vway), (3, .pointer (some ⟨b1, 0, none⟩)), (8, .int .i64 (longN w l way k)), (9, .int .i64 (↑k))]) (fun k => (∀ j, j < k → longAt w l way j) ∧ k ≤ way.length) 0 rfl (.refl _) (.cons rfl (.cons rfl (.cons rfl (.cons rfl (.cons rfl .nil))))) ?_ ?_
  · exact ⟨fun j hj => absurd hj (Nat.not_lt_zero _), Nat.zero_le _⟩
  · rintro k hF2
    show WK _ _ m [blk b1 23 [.int .i64 (w.Fixed), .int .i64 (w.Each)]] [(1, vl), (2, vway), (3, .pointer (some ⟨b1, 0, none⟩)), (8, .int .i64 (longN w l way k)), (9, .int .i64 (↑k))] _
    replace hF2 : (∀ j, j < k → longAt w l way j) ∧ k ≤ way.length := hF2
    obtain ⟨hall, hk⟩ := hF2
    refine WC.seq ?_
    refine WC.seq ?_
    refine WC.region ?_
    refine WL.x (X.move rfl) (by decide) ?_
    refine WL.x (X.move rfl) (by decide) ?_
    refine WL.x (X.len Try.runUnderlying31 rfl hway) (by decide) ?_
    refine WL.cond (X.lss rfl rfl) (by decide) (fun h3 => ?_) (fun h3 => ?_)
    · refine WL.nil ?_
      refine WK.nThen ?_
      refine WC.condT rfl ?_
      refine WC.skip ?_
      refine WK.nThen ?_
      refine WC.seq ?_
      refine WC.block ?_
      refine WC.seq ?_
      refine WC.seq ?_
      refine WC.region ?_
      refine WL.x (X.move rfl) (by decide) ?_
      refine WL.x (X.move rfl) (by decide) ?_
      refine WL.xe (E.idxN k Try.runUnderlying31 Try.sizeOf3 rfl rfl hway (by omega)) (by decide) (fun p4 hp5 => ?_)
      refine WL.x (X.loadInt Try.isAgg3 rfl hp5) (by decide) ?_
      refine WL.cond (X.lss rfl rfl) (by decide) (fun h6 => ?_) (fun h6 => ?_)
      · refine WL.x (X.move rfl) (by decide) ?_
        refine WL.no rfl rfl rfl (by decide) ?_
        refine WL.no rfl rfl rfl (by decide) ?_
        refine WL.no rfl rfl rfl (by decide) ?_
        refine WL.no rfl rfl rfl (by decide) ?_
        refine WL.no rfl rfl rfl (by decide) ?_
        refine WL.no rfl rfl rfl (by decide) ?_
        refine WL.no rfl rfl rfl (by decide) ?_
        refine WL.x (X.pickT rfl rfl rfl) (by decide) ?_
        refine WL.nil ?_
        refine WK.nThen ?_
        refine WC.condT rfl ?_
        refine WC.seq ?_
        refine WC.region ?_
        refine WL.x (X.assign rfl) (by decide) ?_
        refine WL.x (X.assign rfl) (by decide) ?_
        refine WL.nil ?_
        refine WK.nThen ?_
        refine WC.ret ?_
        refine WK.rThen ?_
        refine WK.rBlock ?_
        refine WK.rThen ?_
        refine WK.rThen ?_
        refine WK.rBlock ?_
        refine WK.rThen ?_
        refine WK.ret2 rfl rfl rfl (fun w' hw' => Ret.exact hw' ?_)
        have hb := longR_bad (w := w) (l := l) (way := way) (i := k) (by omega) (by unfold longAt stepR stopAt; omega)
        exact tup2 (int_eq (by rw [hb])) (bool_eq (by rw [hb]))
      · refine WL.x (X.move rfl) (by decide) ?_
        refine WL.yes rfl rfl ?_
        refine WL.x (X.move rfl) (by decide) ?_
        refine WL.yes rfl rfl ?_
        refine WL.x (X.move rfl) (by decide) ?_
        refine WL.yes rfl rfl ?_
        refine WL.xe (E.idxN k Try.runUnderlying31 Try.sizeOf3 rfl rfl hway (by omega)) (by decide) (fun p7 hp8 => ?_)
        refine WL.yes rfl rfl ?_
        refine WL.x (X.loadInt Try.isAgg3 rfl hp8) (by decide) ?_
        refine WL.yes rfl rfl ?_
        refine WL.x (X.move rfl) (by decide) ?_
        refine WL.yes rfl rfl ?_
        refine WL.x (X.len Try.runUnderlying24 rfl hl) (by decide) ?_
        refine WL.yes rfl rfl ?_
        refine WL.cond (X.geq rfl rfl) (by decide) (fun h9 => ?_) (fun h9 => ?_)
        · refine WL.x (X.pickF rfl rfl rfl) (by decide) ?_
          refine WL.nil ?_
          refine WK.nThen ?_
          refine WC.condT rfl ?_
          refine WC.seq ?_
          refine WC.region ?_
          refine WL.x (X.assign rfl) (by decide) ?_
          refine WL.x (X.assign rfl) (by decide) ?_
          refine WL.nil ?_
          refine WK.nThen ?_
          refine WC.ret ?_
          refine WK.rThen ?_
          refine WK.rBlock ?_
          refine WK.rThen ?_
          refine WK.rThen ?_
          refine WK.rBlock ?_
          refine WK.rThen ?_
          refine WK.ret2 rfl rfl rfl (fun w' hw' => Ret.exact hw' ?_)
          have hb := longR_bad (w := w) (l := l) (way := way) (i := k) (by omega) (by unfold longAt stepR stopAt; omega)
          exact tup2 (int_eq (by rw [hb])) (bool_eq (by rw [hb]))
        · refine WL.x (X.pickF rfl rfl rfl) (by decide) ?_
          refine WL.nil ?_
          refine WK.nThen ?_
          refine WC.condF rfl ?_
          refine WC.skip ?_
          refine WK.nThen ?_
          refine WC.seq ?_
          refine WC.seq ?_
          refine WC.region ?_
          refine WL.x (X.move rfl) (by decide) ?_
          refine WL.cond (X.eql rfl rfl) (by decide) (fun h10 => ?_) (fun h10 => ?_)
          · refine WL.nil ?_
            refine WK.nThen ?_
            refine WC.condT rfl ?_
            refine WC.exit ?_
            refine WK.eThen ?_
            refine WK.eHit ?_
            refine WK.nThen ?_
            refine WC.region ?_
            refine WL.x (X.move rfl) (by decide) ?_
            refine WL.x (X.add rfl rfl (by omega) (by omega)) (by decide) ?_
            refine WL.x (X.assign rfl) (by decide) ?_
            refine WL.nil ?_
            refine WK.nThen ?_
            have hn1 : longN w l way k = longN w l way (k + 1) := (by have h0 : k = 0 := (by omega); subst h0; simp [longN])
            rw [hn1]
            refine WK.next (k + 1) rfl (.refl _) (.cons rfl (.cons rfl (.cons rfl (.cons rfl (.cons rfl .nil))))) ?_ ?_
            · exact ⟨fun j hj => by rcases Nat.lt_succ_iff_lt_or_eq.1 hj with h | h; exact hall j h; subst h; unfold longAt stepR stopAt; omega, by omega⟩
            · omega
          · refine WL.nil ?_
            refine WK.nThen ?_
            refine WC.condF rfl ?_
            refine WC.skip ?_
            refine WK.nThen ?_
            refine WC.seq ?_
            have hprev := (hall (k - 1) (by omega)).1
            refine WC.draw (π := (.cons 0 (.cons 1 (.cons 2 (.cons 3 (.cons 4 (.cons 5 (.cons 6 (.cons 7 (.cons 8 (.cons 9 (.cons 10 (.cons 11 (.cons 12 (.cons 13 (.cons 14 (.cons 15 (.cons 16 (.cons 17 (.cons 18 (.cons 19 (.cons 20 (.cons 21 .done))))))))))))))))))))))) [] [] rfl (by kernel_rfl) ?_
            refine DW.x rfl rfl (X.loadBA (k := 0) Try.isAgg23 Try.sizeOf23 rfl rfl rfl) (by decide) ?_
            refine DW.x rfl rfl (X.move rfl) (by decide) ?_
            refine DW.x rfl rfl (X.move rfl) (by decide) ?_
            refine DW.x rfl rfl (X.move rfl) (by decide) ?_
            refine DW.x rfl rfl (X.sub rfl rfl (by omega) (by omega)) (by decide) ?_
            refine DW.xe rfl rfl (E.idxE (k - 1) Try.runUnderlying31 Try.sizeOf3 rfl rfl hway (by omega) (by omega)) (by decide) (fun p11 hp12 => ?_)
            refine DW.x rfl rfl (X.loadInt Try.isAgg3 rfl hp12) (by decide) ?_
            refine DW.xe rfl rfl (E.idx Try.runUnderlying24 Try.sizeOf58 rfl rfl hl (by omega) (by omega)) (by decide) (fun p13 hp14 => ?_)
            refine DW.xe rfl rfl (E.loadAgg Try.isAgg58 Try.sizeOf58 rfl hp14) (by decide) (fun c15 hc16 => ?_)
            obtain ⟨v17, rfl, hs18⟩ := hc16
            have hl19 := hs18.le
            refine DW.x rfl rfl (X.move rfl) (by decide) ?_
            refine DW.x rfl rfl (X.move rfl) (by decide) ?_
            refine DW.x rfl rfl (X.move rfl) (by decide) ?_
            refine DW.xe rfl rfl (E.idxN k Try.runUnderlying31 Try.sizeOf3 rfl rfl hway (by omega)) (by decide) (fun p20 hp21 => ?_)
            refine DW.x rfl rfl (X.loadInt Try.isAgg3 rfl hp21) (by decide) ?_
            refine DW.xe rfl rfl (E.idx Try.runUnderlying24 Try.sizeOf58 rfl rfl hl (by omega) (by omega)) (by decide) (fun p22 hp23 => ?_)
            refine DW.xe rfl rfl (E.loadAgg Try.isAgg58 Try.sizeOf58 rfl hp23) (by decide) (fun c24 hc25 => ?_)
            obtain ⟨v26, rfl, hs27⟩ := hc25
            have hl28 := hs27.le
            refine DW.x rfl rfl (X.call Try.call43 rfl (within43 _ _ w rfl _ (gt l ((gt way (k - 1) : Int).toNat)) ⟨_, rfl, hs18⟩ _ (gt l ((gt way k : Int).toNat)) ⟨_, rfl, hs27⟩ )) (by decide) ?_
            refine DW.x rfl rfl (X.move rfl) (by decide) ?_
            refine DW.x rfl rfl (X.extract rfl rfl) (by decide) ?_
            refine DW.x rfl rfl (X.extract rfl rfl) (by decide) ?_
            refine DW.x rfl rfl (X.assign rfl) (by decide) ?_
            refine DW.x rfl rfl (X.assign rfl) (by decide) ?_
            refine DW.nil ?_
            refine WK.nThen ?_
            refine WC.seq ?_
            refine WC.seq ?_
            refine WC.region ?_
            refine WL.x (X.move rfl) (by decide) ?_
            refine WL.condn (X.neq rfl rfl) (by decide) (fun h29 => ?_) (fun h29 => ?_)
            · refine WL.nil ?_
              refine WK.nThen ?_
              refine WC.condT rfl ?_
              refine WC.seq ?_
              refine WC.region ?_
              refine WL.x (X.assign rfl) (by decide) ?_
              refine WL.x (X.assign rfl) (by decide) ?_
              refine WL.nil ?_
              refine WK.nThen ?_
              refine WC.ret ?_
              refine WK.rThen ?_
              refine WK.rBlock ?_
              refine WK.rThen ?_
              refine WK.rThen ?_
              refine WK.rBlock ?_
              refine WK.rThen ?_
              refine WK.ret2 rfl rfl rfl (fun w' hw' => Ret.exact hw' ?_)
              have hb := longR_bad (w := w) (l := l) (way := way) (i := k) (by omega) (by unfold longAt stepR stopAt; omega)
              exact tup2 (int_eq (by rw [hb])) (bool_eq (by rw [hb]))
            · refine WL.nil ?_
              refine WK.nThen ?_
              refine WC.condF rfl ?_
              refine WC.skip ?_
              refine WK.nThen ?_
              have hnb := longN_bd w l way k
              have hwb := withinR_bd w (gt l (gt way (k - 1)).toNat) (gt l (gt way k).toNat)
              refine WC.region ?_
              refine WL.x (X.move rfl) (by decide) ?_
              refine WL.x (X.move rfl) (by decide) ?_
              refine WL.x (X.add rfl rfl (by omega) (by omega)) (by decide) ?_
              refine WL.x (X.assign rfl) (by decide) ?_
              refine WL.nil ?_
              refine WK.nBlock ?_
              refine WK.nThen ?_
              refine WC.region ?_
              refine WL.x (X.move rfl) (by decide) ?_
              refine WL.x (X.add rfl rfl (by omega) (by omega)) (by decide) ?_
              refine WL.x (X.assign rfl) (by decide) ?_
              refine WL.nil ?_
              refine WK.nThen ?_
              have hn1 : (longN w l way k) + ((withinR w (gt l ((gt way (k - 1) : Int).toNat)) (gt l ((gt way k : Int).toNat))).1) = longN w l way (k + 1) := (by rw [longN, if_neg (by omega)]; rfl)
              rw [hn1]
              refine WK.next (k + 1) rfl (.refl _) (.cons rfl (.cons rfl (.cons rfl (.cons rfl (.cons rfl .nil))))) ?_ ?_
              · exact ⟨fun j hj => by rcases Nat.lt_succ_iff_lt_or_eq.1 hj with h | h; exact hall j h; subst h; unfold longAt stepR stopAt; omega, by omega⟩
              · omega
    · refine WL.nil ?_
      refine WK.nThen ?_
      refine WC.condF rfl ?_
      refine WC.exit ?_
      refine WK.eThen ?_
      refine WK.eThen ?_
      refine WK.eHit ?_
      refine WK.nThen ?_
      refine WC.seq ?_
      refine WC.region ?_
      refine WL.x (X.move rfl) (by decide) ?_
      refine WL.x (X.move rfl) (by decide) ?_
      refine WL.x (X.len Try.runUnderlying31 rfl hway) (by decide) ?_
      refine WL.x (X.gtr rfl rfl) (by decide) ?_
      refine WL.x (X.assign rfl) (by decide) ?_
      refine WL.x (X.assign rfl) (by decide) ?_
      refine WL.nil ?_
      refine WK.nThen ?_
      refine WC.ret ?_
      refine WK.ret2 rfl rfl rfl (fun w' hw' => Ret.exact hw' ?_)
      have hb := longR_ok (w := w) (l := l) (way := way) (fun j hj => hall j (by omega))
      exact tup2 (int_eq (by rw [hb, show k = way.length by omega])) (bool_eq (by rw [hb]; exact decide_eq_decide.2 (by omega)))

end Go.Proofs.S5
