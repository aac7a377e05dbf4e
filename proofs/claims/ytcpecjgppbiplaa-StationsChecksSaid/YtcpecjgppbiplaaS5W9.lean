/- Stations: walks, ninth part, by program. -/
import Derived.Test.YtcpecjgppbiplaaS5W7
import Derived.Test.YtcpecjgppbiplaaS5Move
namespace Go.Proofs.S5
open Go Go.Kx
set_option linter.unusedVariables false

theorem sameStation52 (m : Mem) (ca : List Value) (a : Station) (ha : Enc.rd m ca a) (cb : List Value) (b : Station) (hb : Enc.rd m cb b)   : Exact Try.prog 52 #[.agg ca.toArray, .agg cb.toArray] m (.bool (decide (a = b))) := by
  obtain ⟨v1, rfl, hs2⟩ := ha
  have hl3 := hs2.le
  obtain ⟨v4, rfl, hs5⟩ := hb
  have hl6 := hs5.le
  refine Exact.start Try.func52 rfl Try.ntmps52 rfl fun wld => ?_
  refine WC.seq ?_
  refine WC.region ?_
  refine WL.tn (T.boxB rfl rfl) (by decide) fun b7 => ?_
  refine WL.tn (T.boxB rfl rfl) (by decide) fun b8 => ?_
  refine WL.x (X.assign rfl) (by decide) ?_
  refine WL.nil ?_
  refine WK.nThen ?_
  refine WC.seq ?_
  refine WC.seq ?_
  refine WC.region ?_
  refine WL.x (X.field Try.runUnderlying58 rfl Try.sizeOf3 rfl) (by decide) ?_
  refine WL.x (X.loadB (k := 1) Try.isAgg3 rfl rfl rfl) (by decide) ?_
  refine WL.x (X.field Try.runUnderlying58 rfl Try.sizeOf3 rfl) (by decide) ?_
  refine WL.x (X.loadB (k := 0) Try.isAgg3 rfl rfl rfl) (by decide) ?_
  refine WL.condn (X.neq rfl rfl) (by decide) (fun h9 => ?_) (fun h9 => ?_)
  · refine WL.x (X.move rfl) (by decide) ?_
    refine WL.no rfl rfl rfl (by decide) ?_
    refine WL.no rfl rfl rfl (by decide) ?_
    refine WL.no rfl rfl rfl (by decide) ?_
    refine WL.no rfl rfl rfl (by decide) ?_
    refine WL.no rfl rfl rfl (by decide) ?_
    refine WL.x (X.pickT rfl rfl rfl) (by decide) ?_
    refine WL.x (X.move rfl) (by decide) ?_
    refine WL.no rfl rfl rfl (by decide) ?_
    refine WL.no rfl rfl rfl (by decide) ?_
    refine WL.no rfl rfl rfl (by decide) ?_
    refine WL.no rfl rfl rfl (by decide) ?_
    refine WL.no rfl rfl rfl (by decide) ?_
    refine WL.x (X.pickT rfl rfl rfl) (by decide) ?_
    refine WL.x (X.move rfl) (by decide) ?_
    refine WL.no rfl rfl rfl (by decide) ?_
    refine WL.no rfl rfl rfl (by decide) ?_
    refine WL.no rfl rfl rfl (by decide) ?_
    refine WL.no rfl rfl rfl (by decide) ?_
    refine WL.no rfl rfl rfl (by decide) ?_
    refine WL.no rfl rfl rfl (by decide) ?_
    refine WL.no rfl rfl rfl (by decide) ?_
    refine WL.x (X.pickT rfl rfl rfl) (by decide) ?_
    refine WL.nil ?_
    refine WK.nThen ?_
    refine WC.condT rfl ?_
    refine WC.seq ?_
    refine WC.region ?_
    refine WL.x (X.assign rfl) (by decide) ?_
    refine WL.nil ?_
    refine WK.nThen ?_
    refine WC.ret ?_
    refine WK.rThen ?_
    refine WK.ret1 rfl rfl (fun w' hw' => Ret.exact hw' ?_)
    first | exact bool_false (fun e => by subst e; first | omega | contradiction) | exact bool_true (station_eq (by omega) (by omega) (by omega) (ext_gt (by omega) (fun j hj => hall j (by omega))))
  · refine WL.x (X.move rfl) (by decide) ?_
    refine WL.yes rfl rfl ?_
    refine WL.x (X.field Try.runUnderlying58 rfl Try.sizeOf3 rfl) (by decide) ?_
    refine WL.yes rfl rfl ?_
    refine WL.x (X.loadB (k := 1) Try.isAgg3 rfl rfl rfl) (by decide) ?_
    refine WL.yes rfl rfl ?_
    refine WL.x (X.field Try.runUnderlying58 rfl Try.sizeOf3 rfl) (by decide) ?_
    refine WL.yes rfl rfl ?_
    refine WL.x (X.loadB (k := 0) Try.isAgg3 rfl rfl rfl) (by decide) ?_
    refine WL.yes rfl rfl ?_
    refine WL.condn (X.neq rfl rfl) (by decide) (fun h10 => ?_) (fun h10 => ?_)
    · refine WL.x (X.pickF rfl rfl rfl) (by decide) ?_
      refine WL.x (X.move rfl) (by decide) ?_
      refine WL.no rfl rfl rfl (by decide) ?_
      refine WL.no rfl rfl rfl (by decide) ?_
      refine WL.no rfl rfl rfl (by decide) ?_
      refine WL.no rfl rfl rfl (by decide) ?_
      refine WL.no rfl rfl rfl (by decide) ?_
      refine WL.x (X.pickT rfl rfl rfl) (by decide) ?_
      refine WL.x (X.move rfl) (by decide) ?_
      refine WL.no rfl rfl rfl (by decide) ?_
      refine WL.no rfl rfl rfl (by decide) ?_
      refine WL.no rfl rfl rfl (by decide) ?_
      refine WL.no rfl rfl rfl (by decide) ?_
      refine WL.no rfl rfl rfl (by decide) ?_
      refine WL.no rfl rfl rfl (by decide) ?_
      refine WL.no rfl rfl rfl (by decide) ?_
      refine WL.x (X.pickT rfl rfl rfl) (by decide) ?_
      refine WL.nil ?_
      refine WK.nThen ?_
      refine WC.condT rfl ?_
      refine WC.seq ?_
      refine WC.region ?_
      refine WL.x (X.assign rfl) (by decide) ?_
      refine WL.nil ?_
      refine WK.nThen ?_
      refine WC.ret ?_
      refine WK.rThen ?_
      refine WK.ret1 rfl rfl (fun w' hw' => Ret.exact hw' ?_)
      first | exact bool_false (fun e => by subst e; first | omega | contradiction) | exact bool_true (station_eq (by omega) (by omega) (by omega) (ext_gt (by omega) (fun j hj => hall j (by omega))))
    · refine WL.x (X.pickF rfl rfl rfl) (by decide) ?_
      refine WL.x (X.move rfl) (by decide) ?_
      refine WL.yes rfl rfl ?_
      refine WL.x (X.field Try.runUnderlying58 rfl Try.sizeOf3 rfl) (by decide) ?_
      refine WL.yes rfl rfl ?_
      refine WL.x (X.loadB (k := 1) Try.isAgg3 rfl rfl rfl) (by decide) ?_
      refine WL.yes rfl rfl ?_
      refine WL.x (X.field Try.runUnderlying58 rfl Try.sizeOf3 rfl) (by decide) ?_
      refine WL.yes rfl rfl ?_
      refine WL.x (X.loadB (k := 0) Try.isAgg3 rfl rfl rfl) (by decide) ?_
      refine WL.yes rfl rfl ?_
      refine WL.condn (X.neq rfl rfl) (by decide) (fun h11 => ?_) (fun h11 => ?_)
      · refine WL.x (X.pickF rfl rfl rfl) (by decide) ?_
        refine WL.x (X.move rfl) (by decide) ?_
        refine WL.no rfl rfl rfl (by decide) ?_
        refine WL.no rfl rfl rfl (by decide) ?_
        refine WL.no rfl rfl rfl (by decide) ?_
        refine WL.no rfl rfl rfl (by decide) ?_
        refine WL.no rfl rfl rfl (by decide) ?_
        refine WL.no rfl rfl rfl (by decide) ?_
        refine WL.no rfl rfl rfl (by decide) ?_
        refine WL.x (X.pickT rfl rfl rfl) (by decide) ?_
        refine WL.nil ?_
        refine WK.nThen ?_
        refine WC.condT rfl ?_
        refine WC.seq ?_
        refine WC.region ?_
        refine WL.x (X.assign rfl) (by decide) ?_
        refine WL.nil ?_
        refine WK.nThen ?_
        refine WC.ret ?_
        refine WK.rThen ?_
        refine WK.ret1 rfl rfl (fun w' hw' => Ret.exact hw' ?_)
        first | exact bool_false (fun e => by subst e; first | omega | contradiction) | exact bool_true (station_eq (by omega) (by omega) (by omega) (ext_gt (by omega) (fun j hj => hall j (by omega))))
      · refine WL.x (X.pickF rfl rfl rfl) (by decide) ?_
        refine WL.x (X.move rfl) (by decide) ?_
        refine WL.yes rfl rfl ?_
        refine WL.x (X.field Try.runUnderlying58 rfl Try.sizeOf56 rfl) (by decide) ?_
        refine WL.yes rfl rfl ?_
        refine WL.x (X.loadB (k := 1) Try.isAgg56 rfl rfl rfl) (by decide) ?_
        refine WL.yes rfl rfl ?_
        refine WL.x (X.len Try.runUnderlying56 rfl hs2) (by decide) ?_
        refine WL.yes rfl rfl ?_
        refine WL.x (X.field Try.runUnderlying58 rfl Try.sizeOf56 rfl) (by decide) ?_
        refine WL.yes rfl rfl ?_
        refine WL.x (X.loadB (k := 0) Try.isAgg56 rfl rfl rfl) (by decide) ?_
        refine WL.yes rfl rfl ?_
        refine WL.x (X.len Try.runUnderlying56 rfl hs5) (by decide) ?_
        refine WL.yes rfl rfl ?_
        refine WL.condn (X.neq rfl rfl) (by decide) (fun h12 => ?_) (fun h12 => ?_)
        · refine WL.x (X.pickF rfl rfl rfl) (by decide) ?_
          refine WL.nil ?_
          refine WK.nThen ?_
          refine WC.condT rfl ?_
          refine WC.seq ?_
          refine WC.region ?_
          refine WL.x (X.assign rfl) (by decide) ?_
          refine WL.nil ?_
          refine WK.nThen ?_
          refine WC.ret ?_
          refine WK.rThen ?_
          refine WK.ret1 rfl rfl (fun w' hw' => Ret.exact hw' ?_)
          first | exact bool_false (fun e => by subst e; first | omega | contradiction) | exact bool_true (station_eq (by omega) (by omega) (by omega) (ext_gt (by omega) (fun j hj => hall j (by omega))))
        · refine WL.x (X.pickF rfl rfl rfl) (by decide) ?_
          refine WL.nil ?_
          refine WK.nThen ?_
          refine WC.condF rfl ?_
          refine WC.skip ?_
          refine WK.nThen ?_
          refine WC.seq ?_
          refine WC.seq ?_
          refine WC.region ?_
          refine WL.x (X.assign rfl) (by decide) ?_
          refine WL.nil ?_
          refine WK.nThen ?_
          refine WC.block ?_
          refine WC.loop (G := Nat) (fun k => a.Heights.length - k) (fun k => m) (fun k => [blk b8 58 [.int .i64 (b.ID), .int .i64 (b.X), .int .i64 (b.Y), v4], blk b7 58 [.int .i64 (a.ID), .int .i64 (a.X), .int .i64 (a.Y), v1]]) (fun k => [(2, .pointer (some ⟨b7, 0, none⟩)), (3, .pointer (some ⟨b8, 0, none⟩)), (5, .int .i64 (↑k))]) (fun k => k ≤ a.Heights.length ∧ (∀ j, j < k → gt a.Heights j = gt b.Heights j)) 0 rfl (.refl _) (.cons rfl (.cons rfl (.cons rfl .nil))) ?_ ?_
          · exact ⟨Nat.zero_le _, fun j hj => absurd hj (Nat.not_lt_zero _)⟩
          · rintro k hF13
            show WK _ _ m [blk b8 58 [.int .i64 (b.ID), .int .i64 (b.X), .int .i64 (b.Y), v4], blk b7 58 [.int .i64 (a.ID), .int .i64 (a.X), .int .i64 (a.Y), v1]] [(2, .pointer (some ⟨b7, 0, none⟩)), (3, .pointer (some ⟨b8, 0, none⟩)), (5, .int .i64 (↑k))] _
            replace hF13 : k ≤ a.Heights.length ∧ (∀ j, j < k → gt a.Heights j = gt b.Heights j) := hF13
            obtain ⟨hk, hall⟩ := hF13
            refine WC.seq ?_
            refine WC.seq ?_
            refine WC.region ?_
            refine WL.x (X.move rfl) (by decide) ?_
            refine WL.x (X.field Try.runUnderlying58 rfl Try.sizeOf56 rfl) (by decide) ?_
            refine WL.x (X.loadB (k := 1) Try.isAgg56 rfl rfl rfl) (by decide) ?_
            refine WL.x (X.len Try.runUnderlying56 rfl hs2) (by decide) ?_
            refine WL.cond (X.lss rfl rfl) (by decide) (fun h14 => ?_) (fun h14 => ?_)
            · refine WL.nil ?_
              refine WK.nThen ?_
              refine WC.condT rfl ?_
              refine WC.skip ?_
              refine WK.nThen ?_
              refine WC.seq ?_
              refine WC.block ?_
              refine WC.seq ?_
              refine WC.draw (π := (.cons 0 (.cons 1 (.cons 2 (.cons 3 (.cons 4 (.cons 5 (.cons 6 (.cons 7 (.cons 8 (.cons 9 (.cons 10 .done)))))))))))) [] [] rfl (by kernel_rfl) ?_
              refine DW.x rfl rfl (X.field Try.runUnderlying58 rfl Try.sizeOf56 rfl) (by decide) ?_
              refine DW.x rfl rfl (X.loadB (k := 1) Try.isAgg56 rfl rfl rfl) (by decide) ?_
              refine DW.x rfl rfl (X.move rfl) (by decide) ?_
              refine DW.xe rfl rfl (E.idxN k Try.runUnderlying56 Try.sizeOf71 rfl rfl hs2 (by omega)) (by decide) (fun p15 hp16 => ?_)
              refine DW.xe rfl rfl (E.loadAgg Try.isAgg71 Try.sizeOf71 rfl hp16) (by decide) (fun c17 hc18 => ?_)
              obtain rfl := hc18
              refine DW.x rfl rfl (X.field Try.runUnderlying58 rfl Try.sizeOf56 rfl) (by decide) ?_
              refine DW.x rfl rfl (X.loadB (k := 0) Try.isAgg56 rfl rfl rfl) (by decide) ?_
              refine DW.x rfl rfl (X.move rfl) (by decide) ?_
              refine DW.xe rfl rfl (E.idxN k Try.runUnderlying56 Try.sizeOf71 rfl rfl hs5 (by omega)) (by decide) (fun p19 hp20 => ?_)
              refine DW.xe rfl rfl (E.loadAgg Try.isAgg71 Try.sizeOf71 rfl hp20) (by decide) (fun c21 hc22 => ?_)
              obtain rfl := hc22
              refine DW.condn rfl rfl (X.neqS (a := gt a.Heights k) (b := gt b.Heights k) gd71 (fun w => eqS71 9997 _ _ w) rfl rfl) (by decide) (fun h23 => ?_) (fun h23 => ?_)
              · refine DW.nil ?_
                refine WK.nThen ?_
                refine WC.condT rfl ?_
                refine WC.seq ?_
                refine WC.region ?_
                refine WL.x (X.assign rfl) (by decide) ?_
                refine WL.nil ?_
                refine WK.nThen ?_
                refine WC.ret ?_
                refine WK.rBlock ?_
                refine WK.rThen ?_
                refine WK.rThen ?_
                refine WK.rBlock ?_
                refine WK.rThen ?_
                refine WK.ret1 rfl rfl (fun w' hw' => Ret.exact hw' ?_)
                first | exact bool_false (fun e => by subst e; first | omega | contradiction) | exact bool_true (station_eq (by omega) (by omega) (by omega) (ext_gt (by omega) (fun j hj => hall j (by omega))))
              · refine DW.nil ?_
                refine WK.nThen ?_
                refine WC.condF rfl ?_
                refine WC.skip ?_
                refine WK.nBlock ?_
                refine WK.nThen ?_
                refine WC.region ?_
                refine WL.x (X.move rfl) (by decide) ?_
                refine WL.x (X.add rfl rfl (by omega) (by omega)) (by decide) ?_
                refine WL.x (X.assign rfl) (by decide) ?_
                refine WL.nil ?_
                refine WK.nThen ?_
                refine WK.next (k + 1) rfl (.refl _) (.cons rfl (.cons rfl (.cons rfl .nil))) ?_ ?_
                · exact ⟨by omega, fun j hj => by rcases Nat.lt_succ_iff_lt_or_eq.1 hj with h | h; exact hall j h; subst h; assumption⟩
                · omega
            · refine WL.nil ?_
              refine WK.nThen ?_
              refine WC.condF rfl ?_
              refine WC.exit ?_
              refine WK.eThen ?_
              refine WK.eThen ?_
              refine WK.eHit ?_
              refine WK.nThen ?_
              refine WC.seq ?_
              refine WC.region ?_
              refine WL.x (X.assign rfl) (by decide) ?_
              refine WL.nil ?_
              refine WK.nThen ?_
              refine WC.ret ?_
              refine WK.ret1 rfl rfl (fun w' hw' => Ret.exact hw' ?_)
              first | exact bool_false (fun e => by subst e; first | omega | contradiction) | exact bool_true (station_eq (by omega) (by omega) (by omega) (ext_gt (by omega) (fun j hj => hall j (by omega))))

theorem stationOf56 (m : Mem) (vl : Value) (l : List Station) (hl : Sl m vl l) (id : Int)   : Exact Try.prog 56 #[vl, .int .i64 (id)] m (.tuple #[.int .i64 ((ofR l id).1), .int .i64 ((ofR l id).2)]) := by
  have ll := hl.le
  refine Exact.start Try.func56 rfl Try.ntmps56 rfl fun wld => ?_
  refine WC.seq ?_
  refine WC.region ?_
  refine WL.x (X.assign rfl) (by decide) ?_
  refine WL.x (X.assign rfl) (by decide) ?_
  refine WL.nil ?_
  refine WK.nThen ?_
  refine WC.seq ?_
  refine WC.region ?_
  refine WL.x (X.move rfl) (by decide) ?_
  refine WL.x (X.call Try.call96 rfl (checkList96 _ _ _ hl )) (by decide) ?_
  refine WL.x (X.assign rfl) (by decide) ?_
  refine WL.nil ?_
  refine WK.nThen ?_
  refine WC.seq ?_
  refine WC.seq ?_
  refine WC.region ?_
  refine WL.x (X.move rfl) (by decide) ?_
  refine WL.condn (X.neq rfl rfl) (by decide) (fun h1 => ?_) (fun h1 => ?_)
  · refine WL.nil ?_
    refine WK.nThen ?_
    refine WC.condT rfl ?_
    refine WC.seq ?_
    refine WC.region ?_
    refine WL.x (X.move rfl) (by decide) ?_
    refine WL.x (X.assign rfl) (by decide) ?_
    refine WL.x (X.assign rfl) (by decide) ?_
    refine WL.nil ?_
    refine WK.nThen ?_
    refine WC.ret ?_
    refine WK.rThen ?_
    refine WK.ret2 rfl rfl rfl (fun w' hw' => Ret.exact hw' ?_)
    first | exact tup2 (int_eq (by rw [ofR_bad (by omega)])) (int_eq (by rw [ofR_bad (by omega)])) | exact tup2 (int_eq (by rw [ofR_yes (by omega) (by omega) hall (by assumption)])) (int_eq (by rw [ofR_yes (by omega) (by omega) hall (by assumption)])) | exact tup2 (int_eq (by rw [ofR_no (by omega) (fun j hj => hall j (by omega))])) (int_eq (by rw [ofR_no (by omega) (fun j hj => hall j (by omega))]))
  · refine WL.nil ?_
    refine WK.nThen ?_
    refine WC.condF rfl ?_
    refine WC.skip ?_
    refine WK.nThen ?_
    refine WC.seq ?_
    refine WC.seq ?_
    refine WC.region ?_
    refine WL.x (X.assign rfl) (by decide) ?_
    refine WL.nil ?_
    refine WK.nThen ?_
    refine WC.block ?_
    refine WC.loop (G := Nat) (fun k => l.length - k) (fun k => m) (fun k => []) (fun k => [(0, vl), (1, .int .i64 (id)), (7, .int .i64 (↑k))]) (fun k => k ≤ l.length ∧ (∀ j, j < k → ¬ (gt l j).ID = id)) 0 rfl (.refl _) (.cons rfl (.cons rfl (.cons rfl .nil))) ?_ ?_
    · exact ⟨Nat.zero_le _, fun j hj => absurd hj (Nat.not_lt_zero _)⟩
    · rintro k hF2
      show WK _ _ m [] [(0, vl), (1, .int .i64 (id)), (7, .int .i64 (↑k))] _
      replace hF2 : k ≤ l.length ∧ (∀ j, j < k → ¬ (gt l j).ID = id) := hF2
      obtain ⟨hk, hall⟩ := hF2
      refine WC.seq ?_
      refine WC.seq ?_
      refine WC.region ?_
      refine WL.x (X.move rfl) (by decide) ?_
      refine WL.x (X.move rfl) (by decide) ?_
      refine WL.x (X.len Try.runUnderlying24 rfl hl) (by decide) ?_
      refine WL.cond (X.lss rfl rfl) (by decide) (fun h3 => ?_) (fun h3 => ?_)
      · refine WL.nil ?_
        refine WK.nThen ?_
        refine WC.condT rfl ?_
        refine WC.skip ?_
        refine WK.nThen ?_
        refine WC.seq ?_
        refine WC.block ?_
        refine WC.seq ?_
        refine WC.region ?_
        refine WL.x (X.move rfl) (by decide) ?_
        refine WL.x (X.move rfl) (by decide) ?_
        refine WL.xe (E.idxN k Try.runUnderlying24 Try.sizeOf58 rfl rfl hl (by omega)) (by decide) (fun p4 hp5 => ?_)
        have hp6 := At.Station_0 hp5
        refine WL.x (X.field Try.runUnderlying58 rfl Try.sizeOf3 rfl) (by decide) ?_
        refine WL.x (X.loadInt Try.isAgg3 rfl hp6) (by decide) ?_
        refine WL.x (X.move rfl) (by decide) ?_
        refine WL.cond (X.eql rfl rfl) (by decide) (fun h7 => ?_) (fun h7 => ?_)
        · refine WL.nil ?_
          refine WK.nThen ?_
          refine WC.condT rfl ?_
          refine WC.seq ?_
          refine WC.region ?_
          refine WL.x (X.move rfl) (by decide) ?_
          refine WL.x (X.assign rfl) (by decide) ?_
          refine WL.x (X.assign rfl) (by decide) ?_
          refine WL.nil ?_
          refine WK.nThen ?_
          refine WC.ret ?_
          refine WK.rBlock ?_
          refine WK.rThen ?_
          refine WK.rThen ?_
          refine WK.rBlock ?_
          refine WK.rThen ?_
          refine WK.ret2 rfl rfl rfl (fun w' hw' => Ret.exact hw' ?_)
          first | exact tup2 (int_eq (by rw [ofR_bad (by omega)])) (int_eq (by rw [ofR_bad (by omega)])) | exact tup2 (int_eq (by rw [ofR_yes (by omega) (by omega) hall (by assumption)])) (int_eq (by rw [ofR_yes (by omega) (by omega) hall (by assumption)])) | exact tup2 (int_eq (by rw [ofR_no (by omega) (fun j hj => hall j (by omega))])) (int_eq (by rw [ofR_no (by omega) (fun j hj => hall j (by omega))]))
        · refine WL.nil ?_
          refine WK.nThen ?_
          refine WC.condF rfl ?_
          refine WC.skip ?_
          refine WK.nBlock ?_
          refine WK.nThen ?_
          refine WC.region ?_
          refine WL.x (X.move rfl) (by decide) ?_
          refine WL.x (X.add rfl rfl (by omega) (by omega)) (by decide) ?_
          refine WL.x (X.assign rfl) (by decide) ?_
          refine WL.nil ?_
          refine WK.nThen ?_
          refine WK.next (k + 1) rfl (.refl _) (.cons rfl (.cons rfl (.cons rfl .nil))) ?_ ?_
          · exact ⟨by omega, fun j hj => by rcases Nat.lt_succ_iff_lt_or_eq.1 hj with h | h; exact hall j h; subst h; assumption⟩
          · omega
      · refine WL.nil ?_
        refine WK.nThen ?_
        refine WC.condF rfl ?_
        refine WC.exit ?_
        refine WK.eThen ?_
        refine WK.eThen ?_
        refine WK.eHit ?_
        refine WK.nThen ?_
        refine WC.seq ?_
        refine WC.region ?_
        refine WL.x (X.assign rfl) (by decide) ?_
        refine WL.x (X.assign rfl) (by decide) ?_
        refine WL.nil ?_
        refine WK.nThen ?_
        refine WC.ret ?_
        refine WK.ret2 rfl rfl rfl (fun w' hw' => Ret.exact hw' ?_)
        first | exact tup2 (int_eq (by rw [ofR_bad (by omega)])) (int_eq (by rw [ofR_bad (by omega)])) | exact tup2 (int_eq (by rw [ofR_yes (by omega) (by omega) hall (by assumption)])) (int_eq (by rw [ofR_yes (by omega) (by omega) hall (by assumption)])) | exact tup2 (int_eq (by rw [ofR_no (by omega) (fun j hj => hall j (by omega))])) (int_eq (by rw [ofR_no (by omega) (fun j hj => hall j (by omega))]))

set_option maxHeartbeats 2000000 in
theorem move58 (m : Mem) (cs : List Value) (s : Station) (hs : Enc.rd m cs s) (ch : List Value) (h : Height) (hh : Enc.rd m ch h)   : Pure Try.prog 58 #[.agg cs.toArray, .agg ch.toArray] m (fun m' v => ∃ r0, v = .tuple #[.agg r0.toArray, .int .i64 ((moveR s h).2)] ∧ Enc.rd m' r0 ((moveR s h).1)) := by
  obtain ⟨v1, rfl, hs2⟩ := hs
  have hl3 := hs2.le
  obtain rfl := hh
  refine Pure.start Try.func58 rfl Try.ntmps58 rfl fun wld => ?_
  refine WC.seq ?_
  refine WC.region ?_
  refine WL.tn (T.boxB rfl rfl) (by decide) fun b4 => ?_
  refine WL.tn (T.boxB rfl rfl) (by decide) fun b5 => ?_
  refine WL.tn (T.alloc Try.zeroValue58 rfl) (by decide) fun b6 => ?_
  refine WL.x (X.assign rfl) (by decide) ?_
  refine WL.nil ?_
  refine WK.nThen ?_
  refine WC.seq ?_
  refine WC.region ?_
  refine WL.x (X.loadBA (k := 2) Try.isAgg58 Try.sizeOf58 rfl rfl rfl) (by decide) ?_
  refine WL.x (X.call Try.call97 rfl (one97 _ _ s ⟨_, rfl, hs2⟩ )) (by decide) ?_
  refine WL.x (X.assign rfl) (by decide) ?_
  refine WL.nil ?_
  refine WK.nThen ?_
  refine WC.seq ?_
  refine WC.seq ?_
  refine WC.region ?_
  refine WL.x (X.move rfl) (by decide) ?_
  refine WL.condn (X.neq rfl rfl) (by decide) (fun h7 => ?_) (fun h7 => ?_)
  · refine WL.nil ?_
    refine WK.nThen ?_
    refine WC.condT rfl ?_
    refine WC.seq ?_
    refine WC.region ?_
    refine WL.x (V := Value.agg [.int .i64 (0), .int .i64 (0), .int .i64 (0), .slice none 0 0].toArray) (X.build Try.zeroValue58 Try.runUnderlying58 (places58 _ Try.underlying58) rfl rfl) (by decide) ?_
    refine WL.x (X.move rfl) (by decide) ?_
    refine WL.ts (T.storeBA (k := 0) Try.sizeOf58 rfl rfl rfl (one_cons rfl (one_cons rfl (one_cons rfl (one_cons rfl one_nil)))) rfl rfl) ?_
    refine WL.x (X.assign rfl) (by decide) ?_
    refine WL.nil ?_
    refine WK.nThen ?_
    refine WC.ret ?_
    refine WK.rThen ?_
    refine WK.retC2 0 rfl rfl rfl rfl Try.isAgg58 Try.sizeOf58 (fun w' hw' => Ret.mem hw' ?_)
    first | exact ⟨_, tup2 rfl (int_eq (by rw [moveR_bad (by omega)])), by rw [moveR_bad (by omega)]; exact ⟨_, rfl, .nil⟩⟩ | exact ⟨_, tup2 rfl (int_eq (by rw [moveR_no (by omega) (fun h_ => by have h2_ := hmr.1.2 h_; contradiction)])), by rw [moveR_no (by omega) (fun h_ => by have h2_ := hmr.1.2 h_; contradiction)]; exact ⟨_, rfl, .nil⟩⟩ | exact ⟨_, tup2 rfl (int_eq (by rw [moveR_ok (by omega) (hmr.1.1 (by assumption))])), by rw [moveR_ok (by omega) (hmr.1.1 (by assumption)), ← hmr.2 (hmr.1.1 (by assumption))]; exact ⟨_, rfl, .nil⟩⟩
  · refine WL.nil ?_
    refine WK.nThen ?_
    refine WC.condF rfl ?_
    refine WC.skip ?_
    refine WK.nThen ?_
    refine WC.seq ?_
    have hone := oneE_zero (s := s) (by omega)
    have hhl := hone.2.1
    refine WC.region ?_
    refine WL.x (X.field Try.runUnderlying58 rfl Try.sizeOf3 rfl) (by decide) ?_
    refine WL.x (X.loadB (k := 2) Try.isAgg3 rfl rfl rfl) (by decide) ?_
    refine WL.x (X.field Try.runUnderlying58 rfl Try.sizeOf3 rfl) (by decide) ?_
    refine WL.x (X.loadB (k := 2) Try.isAgg3 rfl rfl rfl) (by decide) ?_
    refine WL.x (X.field Try.runUnderlying58 rfl Try.sizeOf3 rfl) (by decide) ?_
    refine WL.x (X.loadB (k := 2) Try.isAgg3 rfl rfl rfl) (by decide) ?_
    refine WL.x (V := Value.agg [.int .i64 (s.ID), .int .i64 (s.X), .int .i64 (s.Y), .slice none 0 0].toArray) (X.build Try.zeroValue58 Try.runUnderlying58 (places58 _ Try.underlying58) rfl rfl) (by decide) ?_
    refine WL.tn (T.alloc Try.zeroValue58 rfl) (by decide) fun b8 => ?_
    refine WL.ts (T.storeBA (k := 0) Try.sizeOf58 rfl rfl rfl (one_cons rfl (one_cons rfl (one_cons rfl (one_cons rfl one_nil)))) rfl rfl) ?_
    refine WL.nil ?_
    refine WK.nThen ?_
    refine WC.seq ?_
    refine WK.ownF Height 71 ?_
    refine WC.region ?_
    refine WL.x (X.assign rfl) (by decide) ?_
    refine WL.nil ?_
    refine WK.nThen ?_
    refine WC.seq ?_
    refine WC.seq ?_
    refine WC.region ?_
    refine WL.x (X.assign rfl) (by decide) ?_
    refine WL.nil ?_
    refine WK.nThen ?_
    refine WC.block ?_
    refine WC.loop (G := Nat × Bool × Value) (fun (k, pb, vo) => s.Heights.length - k) (fun (k, pb, vo) => m) (fun (k, pb, vo) => [rowF (vo) 71 (insK s.Heights h k pb), blk b8 58 [.int .i64 (s.ID), .int .i64 (s.X), .int .i64 (s.Y), vo], blk b6 58 [.int .i64 (0), .int .i64 (0), .int .i64 (0), .slice none 0 0], blk b5 71 [.int .i64 (h.Week), .int .i64 (h.Metres.Lo), .int .i64 (h.Metres.Hi)], blk b4 58 [.int .i64 (s.ID), .int .i64 (s.X), .int .i64 (s.Y), v1]]) (fun (k, pb, vo) => [(2, .pointer (some ⟨b4, 0, none⟩)), (3, .pointer (some ⟨b5, 0, none⟩)), (4, .pointer (some ⟨b6, 0, none⟩)), (7, .pointer (some ⟨b8, 0, none⟩)), (8, .bool (pb)), (9, .int .i64 (↑k))]) (fun (k, pb, vo) => k ≤ s.Heights.length ∧ putP s.Heights h k pb) ((0, false, Value.slice none 0 0)) rfl (.refl _) (.cons rfl (.cons rfl (.cons rfl (.cons rfl (.cons rfl (.cons rfl .nil)))))) ?_ ?_
    · exact ⟨Nat.zero_le _, fun _ y hy => absurd hy (by simp), fun h_ => Bool.noConfusion h_⟩
    · rintro ⟨k, pb, vo⟩ hF9
      show WK _ _ m [rowF (vo) 71 (insK s.Heights h k pb), blk b8 58 [.int .i64 (s.ID), .int .i64 (s.X), .int .i64 (s.Y), vo], blk b6 58 [.int .i64 (0), .int .i64 (0), .int .i64 (0), .slice none 0 0], blk b5 71 [.int .i64 (h.Week), .int .i64 (h.Metres.Lo), .int .i64 (h.Metres.Hi)], blk b4 58 [.int .i64 (s.ID), .int .i64 (s.X), .int .i64 (s.Y), v1]] [(2, .pointer (some ⟨b4, 0, none⟩)), (3, .pointer (some ⟨b5, 0, none⟩)), (4, .pointer (some ⟨b6, 0, none⟩)), (7, .pointer (some ⟨b8, 0, none⟩)), (8, .bool (pb)), (9, .int .i64 (↑k))] _
      replace hF9 : k ≤ s.Heights.length ∧ putP s.Heights h k pb := hF9
      obtain ⟨hk, hput⟩ := hF9
      refine WC.seq ?_
      refine WC.seq ?_
      refine WC.region ?_
      refine WL.x (X.move rfl) (by decide) ?_
      refine WL.x (X.field Try.runUnderlying58 rfl Try.sizeOf56 rfl) (by decide) ?_
      refine WL.x (X.loadB (k := 4) Try.isAgg56 rfl rfl rfl) (by decide) ?_
      refine WL.x (X.len Try.runUnderlying56 rfl hs2) (by decide) ?_
      refine WL.cond (X.lss rfl rfl) (by decide) (fun h10 => ?_) (fun h10 => ?_)
      · refine WL.nil ?_
        refine WK.nThen ?_
        refine WC.condT rfl ?_
        refine WC.skip ?_
        refine WK.nThen ?_
        refine WC.seq ?_
        refine WC.block ?_
        refine WC.seq ?_
        refine WC.seq ?_
        have hil := insK_len s.Heights h k pb
        refine WC.draw (π := (.cons 0 (.cons 1 (.cons 2 (.cons 3 (.cons 4 (.cons 5 (.cons 6 (.cons 7 (.cons 8 (.cons 9 (.cons 10 (.cons 11 (.cons 12 .done)))))))))))))) [] [] rfl (by kernel_rfl) ?_
        refine DW.x rfl rfl (X.move rfl) (by decide) ?_
        refine DW.condb rfl rfl (X.not rfl) (by decide) (fun h11 => ?_) (fun h11 => ?_)
        · refine DW.x rfl rfl (X.move rfl) (by decide) ?_
          refine DW.x rfl rfl (X.field Try.runUnderlying58 rfl Try.sizeOf56 rfl) (by decide) ?_
          refine DW.x rfl rfl (X.loadB (k := 4) Try.isAgg56 rfl rfl rfl) (by decide) ?_
          refine DW.x rfl rfl (X.move rfl) (by decide) ?_
          refine DW.xe rfl rfl (E.idxN k Try.runUnderlying56 Try.sizeOf71 rfl rfl hs2 (by omega)) (by decide) (fun p12 hp13 => ?_)
          have hp14 := At.Height_0 hp13
          refine DW.x rfl rfl (X.field Try.runUnderlying71 rfl Try.sizeOf3 rfl) (by decide) ?_
          refine DW.x rfl rfl (X.loadInt Try.isAgg3 rfl hp14) (by decide) ?_
          refine DW.x rfl rfl (X.field Try.runUnderlying71 rfl Try.sizeOf3 rfl) (by decide) ?_
          refine DW.x rfl rfl (X.loadB (k := 3) Try.isAgg3 rfl rfl rfl) (by decide) ?_
          refine DW.cond rfl rfl (X.gtr rfl rfl) (by decide) (fun h15 => ?_) (fun h15 => ?_)
          · refine DW.x rfl rfl (X.pickT rfl rfl rfl) (by decide) ?_
            refine DW.nil ?_
            refine WK.nThen ?_
            refine WC.condT rfl ?_
            refine WC.seq ?_
            refine WC.region ?_
            refine WL.x (X.field Try.runUnderlying58 rfl Try.sizeOf56 rfl) (by decide) ?_
            refine WL.x (X.loadB (k := 1) Try.isAgg56 rfl rfl rfl) (by decide) ?_
            refine WL.x (X.loadBA (k := 3) Try.isAgg71 Try.sizeOf71 rfl rfl rfl) (by decide) ?_
            refine WL.tl (T.lit1 sl56 rfl rfl rfl (by decide)) (by decide) fun b16 => ?_
            refine WL.ta (T.appendF (k := 0) (a := h) sl56 rfl rfl rfl rfl (by first | omega | (simp; done) | (simp; omega)) (by decide)) (by decide) (fun v17 => ?_)
            refine WL.x (X.field Try.runUnderlying58 rfl Try.sizeOf56 rfl) (by decide) ?_
            refine WL.own1 (k := 0) rfl (fun ho18 => ?_)
            refine WL.ts (T.storeB (k := 1) Try.sizeOf56 rfl rfl rfl ho18 (Nat.le_of_ble_eq_true rfl)) ?_
            refine WL.nil ?_
            refine WK.nThen ?_
            refine WC.region ?_
            refine WL.x (X.assign rfl) (by decide) ?_
            refine WL.nil ?_
            refine WK.nThen ?_
            refine WC.draw (π := (.cons 0 (.cons 1 (.cons 2 (.cons 3 (.cons 4 (.cons 5 (.cons 6 (.cons 7 (.cons 8 (.cons 9 (.cons 10 .done)))))))))))) [7, 8, 10] [8, 10] rfl (by kernel_rfl) ?_
            refine DW.x rfl rfl (X.field Try.runUnderlying58 rfl Try.sizeOf56 rfl) (by decide) ?_
            refine DW.x rfl rfl (X.loadB (k := 1) Try.isAgg56 rfl rfl rfl) (by decide) ?_
            refine DW.x rfl rfl (X.field Try.runUnderlying58 rfl Try.sizeOf56 rfl) (by decide) ?_
            refine DW.x rfl rfl (X.loadB (k := 4) Try.isAgg56 rfl rfl rfl) (by decide) ?_
            refine DW.x rfl rfl (X.move rfl) (by decide) ?_
            refine DW.xe rfl rfl (E.idxN k Try.runUnderlying56 Try.sizeOf71 rfl rfl hs2 (by omega)) (by decide) (fun p19 hp20 => ?_)
            refine DW.xe rfl rfl (E.loadAgg Try.isAgg71 Try.sizeOf71 rfl hp20) (by decide) (fun c21 hc22 => ?_)
            obtain rfl := hc22
            refine DW.tl rfl rfl rfl (T.lit1 sl56 rfl rfl rfl (by decide)) (by decide) fun b23 => ?_
            refine DW.ta rfl rfl rfl rfl (T.appendF (k := 0) (a := gt s.Heights k) sl56 rfl rfl rfl rfl (by first | omega | (simp; done) | (simp; omega)) (by decide)) (by decide) (fun v24 => ?_)
            refine DW.x rfl rfl (X.field Try.runUnderlying58 rfl Try.sizeOf56 rfl) (by decide) ?_
            refine DW.ts rfl rfl rfl rfl (OpTo.own1 (k := 0) rfl trivial (defd2 rfl rfl rfl) fun ho25 => T.storeB (k := 1) Try.sizeOf56 rfl rfl rfl ho25 (Nat.le_of_ble_eq_true rfl)) ?_
            refine DW.nil ?_
            refine WK.nBlock ?_
            refine WK.nThen ?_
            refine WC.region ?_
            refine WL.x (X.move rfl) (by decide) ?_
            refine WL.x (X.add rfl rfl (by omega) (by omega)) (by decide) ?_
            refine WL.x (X.assign rfl) (by decide) ?_
            refine WL.nil ?_
            refine WK.nThen ?_
            have hst : ((insK s.Heights h k pb) ++ [h]) ++ [gt s.Heights k] = insK s.Heights h (k + 1) true ∧ putP s.Heights h (k + 1) true := (by first | exact insK_put (by omega) (by simpa using (‹(!pb) = true› : (!pb) = true)) (by assumption) hput | exact insK_keep (by omega) (by simpa using (‹(!pb) = true› : (!pb) = true)) (by assumption) hput | exact insK_more (by omega) (by simpa using (‹(!pb) = false› : (!pb) = false)) hput)
            have he26 : (((insK s.Heights h k pb) ++ [h]) ++ [gt s.Heights k]) = (insK s.Heights h (k + 1) true) := hst.1
            rw [he26]
            refine WK.next ((k + 1, true, v24)) rfl (.refl _) (.cons rfl (.cons rfl (.cons rfl (.cons rfl (.cons rfl (.cons rfl .nil)))))) ?_ ?_
            · exact ⟨by omega, hst.2⟩
            · (dsimp only; omega)
          · refine DW.x rfl rfl (X.pickT rfl rfl rfl) (by decide) ?_
            refine DW.nil ?_
            refine WK.nThen ?_
            refine WC.condF rfl ?_
            refine WC.skip ?_
            refine WK.nThen ?_
            refine WC.draw (π := (.cons 0 (.cons 1 (.cons 2 (.cons 3 (.cons 4 (.cons 5 (.cons 6 (.cons 7 (.cons 8 (.cons 9 (.cons 10 .done)))))))))))) [7, 8, 10] [8, 10] rfl (by kernel_rfl) ?_
            refine DW.x rfl rfl (X.field Try.runUnderlying58 rfl Try.sizeOf56 rfl) (by decide) ?_
            refine DW.x rfl rfl (X.loadB (k := 1) Try.isAgg56 rfl rfl rfl) (by decide) ?_
            refine DW.x rfl rfl (X.field Try.runUnderlying58 rfl Try.sizeOf56 rfl) (by decide) ?_
            refine DW.x rfl rfl (X.loadB (k := 4) Try.isAgg56 rfl rfl rfl) (by decide) ?_
            refine DW.x rfl rfl (X.move rfl) (by decide) ?_
            refine DW.xe rfl rfl (E.idxN k Try.runUnderlying56 Try.sizeOf71 rfl rfl hs2 (by omega)) (by decide) (fun p27 hp28 => ?_)
            refine DW.xe rfl rfl (E.loadAgg Try.isAgg71 Try.sizeOf71 rfl hp28) (by decide) (fun c29 hc30 => ?_)
            obtain rfl := hc30
            refine DW.tl rfl rfl rfl (T.lit1 sl56 rfl rfl rfl (by decide)) (by decide) fun b31 => ?_
            refine DW.ta rfl rfl rfl rfl (T.appendF (k := 0) (a := gt s.Heights k) sl56 rfl rfl rfl rfl (by first | omega | (simp; done) | (simp; omega)) (by decide)) (by decide) (fun v32 => ?_)
            refine DW.x rfl rfl (X.field Try.runUnderlying58 rfl Try.sizeOf56 rfl) (by decide) ?_
            refine DW.ts rfl rfl rfl rfl (OpTo.own1 (k := 0) rfl trivial (defd2 rfl rfl rfl) fun ho33 => T.storeB (k := 1) Try.sizeOf56 rfl rfl rfl ho33 (Nat.le_of_ble_eq_true rfl)) ?_
            refine DW.nil ?_
            refine WK.nBlock ?_
            refine WK.nThen ?_
            refine WC.region ?_
            refine WL.x (X.move rfl) (by decide) ?_
            refine WL.x (X.add rfl rfl (by omega) (by omega)) (by decide) ?_
            refine WL.x (X.assign rfl) (by decide) ?_
            refine WL.nil ?_
            refine WK.nThen ?_
            have hst : (insK s.Heights h k pb) ++ [gt s.Heights k] = insK s.Heights h (k + 1) pb ∧ putP s.Heights h (k + 1) pb := (by first | exact insK_put (by omega) (by simpa using (‹(!pb) = true› : (!pb) = true)) (by assumption) hput | exact insK_keep (by omega) (by simpa using (‹(!pb) = true› : (!pb) = true)) (by assumption) hput | exact insK_more (by omega) (by simpa using (‹(!pb) = false› : (!pb) = false)) hput)
            have he34 : ((insK s.Heights h k pb) ++ [gt s.Heights k]) = (insK s.Heights h (k + 1) pb) := hst.1
            rw [he34]
            refine WK.next ((k + 1, pb, v32)) rfl (.refl _) (.cons rfl (.cons rfl (.cons rfl (.cons rfl (.cons rfl (.cons rfl .nil)))))) ?_ ?_
            · exact ⟨by omega, hst.2⟩
            · (dsimp only; omega)
        · refine DW.x rfl rfl (X.move rfl) (by decide) ?_
          refine DW.no rfl rfl (by decide) ?_
          refine DW.no rfl rfl (by decide) ?_
          refine DW.no rfl rfl (by decide) ?_
          refine DW.no rfl rfl (by decide) ?_
          refine DW.no rfl rfl (by decide) ?_
          refine DW.no rfl rfl (by decide) ?_
          refine DW.no rfl rfl (by decide) ?_
          refine DW.no rfl rfl (by decide) ?_
          refine DW.no rfl rfl (by decide) ?_
          refine DW.x rfl rfl (X.pickF rfl rfl rfl) (by decide) ?_
          refine DW.nil ?_
          refine WK.nThen ?_
          refine WC.condF rfl ?_
          refine WC.skip ?_
          refine WK.nThen ?_
          refine WC.draw (π := (.cons 0 (.cons 1 (.cons 2 (.cons 3 (.cons 4 (.cons 5 (.cons 6 (.cons 7 (.cons 8 (.cons 9 (.cons 10 .done)))))))))))) [7, 8, 10] [8, 10] rfl (by kernel_rfl) ?_
          refine DW.x rfl rfl (X.field Try.runUnderlying58 rfl Try.sizeOf56 rfl) (by decide) ?_
          refine DW.x rfl rfl (X.loadB (k := 1) Try.isAgg56 rfl rfl rfl) (by decide) ?_
          refine DW.x rfl rfl (X.field Try.runUnderlying58 rfl Try.sizeOf56 rfl) (by decide) ?_
          refine DW.x rfl rfl (X.loadB (k := 4) Try.isAgg56 rfl rfl rfl) (by decide) ?_
          refine DW.x rfl rfl (X.move rfl) (by decide) ?_
          refine DW.xe rfl rfl (E.idxN k Try.runUnderlying56 Try.sizeOf71 rfl rfl hs2 (by omega)) (by decide) (fun p35 hp36 => ?_)
          refine DW.xe rfl rfl (E.loadAgg Try.isAgg71 Try.sizeOf71 rfl hp36) (by decide) (fun c37 hc38 => ?_)
          obtain rfl := hc38
          refine DW.tl rfl rfl rfl (T.lit1 sl56 rfl rfl rfl (by decide)) (by decide) fun b39 => ?_
          refine DW.ta rfl rfl rfl rfl (T.appendF (k := 0) (a := gt s.Heights k) sl56 rfl rfl rfl rfl (by first | omega | (simp; done) | (simp; omega)) (by decide)) (by decide) (fun v40 => ?_)
          refine DW.x rfl rfl (X.field Try.runUnderlying58 rfl Try.sizeOf56 rfl) (by decide) ?_
          refine DW.ts rfl rfl rfl rfl (OpTo.own1 (k := 0) rfl trivial (defd2 rfl rfl rfl) fun ho41 => T.storeB (k := 1) Try.sizeOf56 rfl rfl rfl ho41 (Nat.le_of_ble_eq_true rfl)) ?_
          refine DW.nil ?_
          refine WK.nBlock ?_
          refine WK.nThen ?_
          refine WC.region ?_
          refine WL.x (X.move rfl) (by decide) ?_
          refine WL.x (X.add rfl rfl (by omega) (by omega)) (by decide) ?_
          refine WL.x (X.assign rfl) (by decide) ?_
          refine WL.nil ?_
          refine WK.nThen ?_
          have hst : (insK s.Heights h k pb) ++ [gt s.Heights k] = insK s.Heights h (k + 1) pb ∧ putP s.Heights h (k + 1) pb := (by first | exact insK_put (by omega) (by simpa using (‹(!pb) = true› : (!pb) = true)) (by assumption) hput | exact insK_keep (by omega) (by simpa using (‹(!pb) = true› : (!pb) = true)) (by assumption) hput | exact insK_more (by omega) (by simpa using (‹(!pb) = false› : (!pb) = false)) hput)
          have he42 : ((insK s.Heights h k pb) ++ [gt s.Heights k]) = (insK s.Heights h (k + 1) pb) := hst.1
          rw [he42]
          refine WK.next ((k + 1, pb, v40)) rfl (.refl _) (.cons rfl (.cons rfl (.cons rfl (.cons rfl (.cons rfl (.cons rfl .nil)))))) ?_ ?_
          · exact ⟨by omega, hst.2⟩
          · (dsimp only; omega)
      · refine WL.nil ?_
        refine WK.nThen ?_
        refine WC.condF rfl ?_
        refine WC.exit ?_
        refine WK.eThen ?_
        refine WK.eThen ?_
        refine WK.eHit ?_
        refine WK.nThen ?_
        refine WC.seq ?_
        refine WC.seq ?_
        have hil := insK_len s.Heights h k pb
        have hke : k = s.Heights.length := (by omega)
        have hend := insK_end (l := s.Heights) (h := h) (pb := pb) (by rw [← hke]; exact hput)
        refine WC.region ?_
        refine WL.x (X.move rfl) (by decide) ?_
        refine WL.condb (X.not rfl) (by decide) (fun h43 => ?_) (fun h43 => ?_)
        · refine WL.nil ?_
          refine WK.nThen ?_
          refine WC.condT rfl ?_
          refine WC.region ?_
          refine WL.x (X.field Try.runUnderlying58 rfl Try.sizeOf56 rfl) (by decide) ?_
          refine WL.x (X.loadB (k := 1) Try.isAgg56 rfl rfl rfl) (by decide) ?_
          refine WL.x (X.loadBA (k := 3) Try.isAgg71 Try.sizeOf71 rfl rfl rfl) (by decide) ?_
          refine WL.tl (T.lit1 sl56 rfl rfl rfl (by decide)) (by decide) fun b44 => ?_
          refine WL.ta (T.appendF (k := 0) (a := h) sl56 rfl rfl rfl rfl (by first | omega | (simp; done) | (simp; omega)) (by decide)) (by decide) (fun v45 => ?_)
          refine WL.x (X.field Try.runUnderlying58 rfl Try.sizeOf56 rfl) (by decide) ?_
          refine WL.own1 (k := 0) rfl (fun ho46 => ?_)
          refine WL.ts (T.storeB (k := 1) Try.sizeOf56 rfl rfl rfl ho46 (Nat.le_of_ble_eq_true rfl)) ?_
          refine WL.nil ?_
          refine WK.nThen ?_
          refine WC.seq ?_
          refine WC.seq ?_
          have he47 : ((insK s.Heights h k pb) ++ [h]) = (insR s.Heights h) := (by rw [hke]; first | exact hend.2 (by simpa using (‹(!pb) = true› : (!pb) = true)) | exact hend.1 (by simpa using (‹(!pb) = false› : (!pb) = false)))
          rw [he47]
          refine WC.region ?_
          refine WL.x (X.field Try.runUnderlying58 rfl Try.sizeOf56 rfl) (by decide) ?_
          refine WL.x (X.loadB (k := 1) Try.isAgg56 rfl rfl rfl) (by decide) ?_
          refine WL.freezeF 0 rfl rfl (by rw [insR_len]; unfold lenB; omega) (fun m48 hle49 hs50 => ?_)
          replace hs2 := hs2.mono hle49
          refine WL.cond (X.call Try.call92 rfl (rightHeights92 _ _ _ hs50 )) (by decide) (fun h51 => ?_) (fun h51 => ?_)
          · refine WL.x (X.not rfl) (by decide) ?_
            refine WL.nil ?_
            refine WK.nThen ?_
            refine WC.condF rfl ?_
            refine WC.skip ?_
            refine WK.nThen ?_
            refine WC.seq ?_
            have hmr := move_ref (s := s) (h := h) (by omega)
            refine WC.region ?_
            refine WL.x (X.loadBA (k := 0) Try.isAgg58 Try.sizeOf58 rfl rfl rfl) (by decide) ?_
            refine WL.ts (T.storeBA (k := 1) Try.sizeOf58 rfl rfl rfl (one_cons rfl (one_cons rfl (one_cons rfl (one_cons hs50.one one_nil)))) rfl rfl) ?_
            refine WL.x (X.assign rfl) (by decide) ?_
            refine WL.nil ?_
            refine WK.nThen ?_
            refine WC.ret ?_
            refine WK.retC2 1 rfl rfl rfl rfl Try.isAgg58 Try.sizeOf58 (fun w' hw' => Ret.mem hw' ?_)
            first | exact ⟨_, tup2 rfl (int_eq (by rw [moveR_bad (by omega)])), by rw [moveR_bad (by omega)]; exact ⟨_, rfl, hs50⟩⟩ | exact ⟨_, tup2 rfl (int_eq (by rw [moveR_no (by omega) (fun h_ => by have h2_ := hmr.1.2 h_; contradiction)])), by rw [moveR_no (by omega) (fun h_ => by have h2_ := hmr.1.2 h_; contradiction)]; exact ⟨_, rfl, hs50⟩⟩ | exact ⟨_, tup2 rfl (int_eq (by rw [moveR_ok (by omega) (hmr.1.1 (by assumption))])), by rw [moveR_ok (by omega) (hmr.1.1 (by assumption)), ← hmr.2 (hmr.1.1 (by assumption))]; exact ⟨_, rfl, hs50⟩⟩
          · refine WL.x (X.not rfl) (by decide) ?_
            refine WL.nil ?_
            refine WK.nThen ?_
            refine WC.condT rfl ?_
            refine WC.seq ?_
            have hmr := move_ref (s := s) (h := h) (by omega)
            refine WC.region ?_
            refine WL.x (V := Value.agg [.int .i64 (0), .int .i64 (0), .int .i64 (0), .slice none 0 0].toArray) (X.build Try.zeroValue58 Try.runUnderlying58 (places58 _ Try.underlying58) rfl rfl) (by decide) ?_
            refine WL.ts (T.storeBA (k := 1) Try.sizeOf58 rfl rfl rfl (one_cons rfl (one_cons rfl (one_cons rfl (one_cons rfl one_nil)))) rfl rfl) ?_
            refine WL.x (X.assign rfl) (by decide) ?_
            refine WL.nil ?_
            refine WK.nThen ?_
            refine WC.ret ?_
            refine WK.rThen ?_
            refine WK.retC2 1 rfl rfl rfl rfl Try.isAgg58 Try.sizeOf58 (fun w' hw' => Ret.mem hw' ?_)
            first | exact ⟨_, tup2 rfl (int_eq (by rw [moveR_bad (by omega)])), by rw [moveR_bad (by omega)]; exact ⟨_, rfl, .nil⟩⟩ | exact ⟨_, tup2 rfl (int_eq (by rw [moveR_no (by omega) (fun h_ => by have h2_ := hmr.1.2 h_; contradiction)])), by rw [moveR_no (by omega) (fun h_ => by have h2_ := hmr.1.2 h_; contradiction)]; exact ⟨_, rfl, .nil⟩⟩ | exact ⟨_, tup2 rfl (int_eq (by rw [moveR_ok (by omega) (hmr.1.1 (by assumption))])), by rw [moveR_ok (by omega) (hmr.1.1 (by assumption)), ← hmr.2 (hmr.1.1 (by assumption))]; exact ⟨_, rfl, .nil⟩⟩
        · refine WL.nil ?_
          refine WK.nThen ?_
          refine WC.condF rfl ?_
          refine WC.skip ?_
          refine WK.nThen ?_
          refine WC.seq ?_
          refine WC.seq ?_
          have he52 : (insK s.Heights h k pb) = (insR s.Heights h) := (by rw [hke]; first | exact hend.2 (by simpa using (‹(!pb) = true› : (!pb) = true)) | exact hend.1 (by simpa using (‹(!pb) = false› : (!pb) = false)))
          rw [he52]
          refine WC.region ?_
          refine WL.x (X.field Try.runUnderlying58 rfl Try.sizeOf56 rfl) (by decide) ?_
          refine WL.x (X.loadB (k := 1) Try.isAgg56 rfl rfl rfl) (by decide) ?_
          refine WL.freezeF 0 rfl rfl (by rw [insR_len]; unfold lenB; omega) (fun m53 hle54 hs55 => ?_)
          replace hs2 := hs2.mono hle54
          refine WL.cond (X.call Try.call92 rfl (rightHeights92 _ _ _ hs55 )) (by decide) (fun h56 => ?_) (fun h56 => ?_)
          · refine WL.x (X.not rfl) (by decide) ?_
            refine WL.nil ?_
            refine WK.nThen ?_
            refine WC.condF rfl ?_
            refine WC.skip ?_
            refine WK.nThen ?_
            refine WC.seq ?_
            have hmr := move_ref (s := s) (h := h) (by omega)
            refine WC.region ?_
            refine WL.x (X.loadBA (k := 0) Try.isAgg58 Try.sizeOf58 rfl rfl rfl) (by decide) ?_
            refine WL.ts (T.storeBA (k := 1) Try.sizeOf58 rfl rfl rfl (one_cons rfl (one_cons rfl (one_cons rfl (one_cons hs55.one one_nil)))) rfl rfl) ?_
            refine WL.x (X.assign rfl) (by decide) ?_
            refine WL.nil ?_
            refine WK.nThen ?_
            refine WC.ret ?_
            refine WK.retC2 1 rfl rfl rfl rfl Try.isAgg58 Try.sizeOf58 (fun w' hw' => Ret.mem hw' ?_)
            first | exact ⟨_, tup2 rfl (int_eq (by rw [moveR_bad (by omega)])), by rw [moveR_bad (by omega)]; exact ⟨_, rfl, hs55⟩⟩ | exact ⟨_, tup2 rfl (int_eq (by rw [moveR_no (by omega) (fun h_ => by have h2_ := hmr.1.2 h_; contradiction)])), by rw [moveR_no (by omega) (fun h_ => by have h2_ := hmr.1.2 h_; contradiction)]; exact ⟨_, rfl, hs55⟩⟩ | exact ⟨_, tup2 rfl (int_eq (by rw [moveR_ok (by omega) (hmr.1.1 (by assumption))])), by rw [moveR_ok (by omega) (hmr.1.1 (by assumption)), ← hmr.2 (hmr.1.1 (by assumption))]; exact ⟨_, rfl, hs55⟩⟩
          · refine WL.x (X.not rfl) (by decide) ?_
            refine WL.nil ?_
            refine WK.nThen ?_
            refine WC.condT rfl ?_
            refine WC.seq ?_
            have hmr := move_ref (s := s) (h := h) (by omega)
            refine WC.region ?_
            refine WL.x (V := Value.agg [.int .i64 (0), .int .i64 (0), .int .i64 (0), .slice none 0 0].toArray) (X.build Try.zeroValue58 Try.runUnderlying58 (places58 _ Try.underlying58) rfl rfl) (by decide) ?_
            refine WL.ts (T.storeBA (k := 1) Try.sizeOf58 rfl rfl rfl (one_cons rfl (one_cons rfl (one_cons rfl (one_cons rfl one_nil)))) rfl rfl) ?_
            refine WL.x (X.assign rfl) (by decide) ?_
            refine WL.nil ?_
            refine WK.nThen ?_
            refine WC.ret ?_
            refine WK.rThen ?_
            refine WK.retC2 1 rfl rfl rfl rfl Try.isAgg58 Try.sizeOf58 (fun w' hw' => Ret.mem hw' ?_)
            first | exact ⟨_, tup2 rfl (int_eq (by rw [moveR_bad (by omega)])), by rw [moveR_bad (by omega)]; exact ⟨_, rfl, .nil⟩⟩ | exact ⟨_, tup2 rfl (int_eq (by rw [moveR_no (by omega) (fun h_ => by have h2_ := hmr.1.2 h_; contradiction)])), by rw [moveR_no (by omega) (fun h_ => by have h2_ := hmr.1.2 h_; contradiction)]; exact ⟨_, rfl, .nil⟩⟩ | exact ⟨_, tup2 rfl (int_eq (by rw [moveR_ok (by omega) (hmr.1.1 (by assumption))])), by rw [moveR_ok (by omega) (hmr.1.1 (by assumption)), ← hmr.2 (hmr.1.1 (by assumption))]; exact ⟨_, rfl, .nil⟩⟩

theorem steps60 (m : Mem) (cs : List Value) (s : Station) (hs : Enc.rd m cs s)   : Pure Try.prog 60 #[.agg cs.toArray] m (fun m' v => ∃ r0, v = .tuple #[r0, .int .i64 ((stepsR s).2)] ∧ Sl m' r0 ((stepsR s).1)) := by
  obtain ⟨v1, rfl, hs2⟩ := hs
  have hl3 := hs2.le
  refine Pure.start Try.func60 rfl Try.ntmps60 rfl fun wld => ?_
  refine WC.seq ?_
  refine WC.region ?_
  refine WL.tn (T.boxB rfl rfl) (by decide) fun b4 => ?_
  refine WL.x (X.assign rfl) (by decide) ?_
  refine WL.x (X.assign rfl) (by decide) ?_
  refine WL.nil ?_
  refine WK.nThen ?_
  refine WC.seq ?_
  refine WC.region ?_
  refine WL.x (X.loadBA (k := 0) Try.isAgg58 Try.sizeOf58 rfl rfl rfl) (by decide) ?_
  refine WL.x (X.call Try.call97 rfl (one97 _ _ s ⟨_, rfl, hs2⟩ )) (by decide) ?_
  refine WL.x (X.assign rfl) (by decide) ?_
  refine WL.nil ?_
  refine WK.nThen ?_
  refine WC.seq ?_
  refine WC.seq ?_
  refine WC.region ?_
  refine WL.x (X.move rfl) (by decide) ?_
  refine WL.condn (X.neq rfl rfl) (by decide) (fun h5 => ?_) (fun h5 => ?_)
  · refine WL.nil ?_
    refine WK.nThen ?_
    refine WC.condT rfl ?_
    refine WC.seq ?_
    refine WC.region ?_
    refine WL.x (X.move rfl) (by decide) ?_
    refine WL.x (X.assign rfl) (by decide) ?_
    refine WL.x (X.assign rfl) (by decide) ?_
    refine WL.nil ?_
    refine WK.nThen ?_
    refine WC.ret ?_
    refine WK.rThen ?_
    refine WK.ret2 rfl rfl rfl (fun w' hw' => Ret.mem hw' ?_)
    first | exact ⟨_, tup2 rfl (int_eq (by rw [stepsR_bad (by omega)])), by rw [stepsR_bad (by omega)]; exact .nil⟩ | exact ⟨_, tup2 rfl (int_eq (by rw [stepsR_ok (by omega)])), by rw [stepsR_ok (by omega)]; exact .nil⟩
  · refine WL.nil ?_
    refine WK.nThen ?_
    refine WC.condF rfl ?_
    refine WC.skip ?_
    refine WK.nThen ?_
    refine WC.seq ?_
    refine WK.ownF Int 3 ?_
    refine WC.region ?_
    refine WL.x (X.assign rfl) (by decide) ?_
    refine WL.nil ?_
    refine WK.nThen ?_
    refine WC.seq ?_
    refine WC.seq ?_
    have hone := oneE_zero (s := s) (by omega)
    have hhl := hone.2.1
    refine WC.region ?_
    refine WL.x (X.assign rfl) (by decide) ?_
    refine WL.nil ?_
    refine WK.nThen ?_
    refine WC.block ?_
    have he6 : (([] : List Int)) = (stpN s.Heights 1) := (stp_one _).symm
    rw [he6]
    refine WC.loop (G := Nat × Value) (fun (k, vo) => s.Heights.length - k) (fun (k, vo) => m) (fun (k, vo) => [rowF (vo) 3 (stpN s.Heights k), blk b4 58 [.int .i64 (s.ID), .int .i64 (s.X), .int .i64 (s.Y), v1]]) (fun (k, vo) => [(1, .pointer (some ⟨b4, 0, none⟩)), (5, vo), (6, .int .i64 (↑k))]) (fun (k, vo) => 1 ≤ k ∧ k ≤ s.Heights.length) ((1, Value.slice none 0 0)) rfl (.refl _) (.cons rfl (.cons rfl (.cons rfl .nil))) ?_ ?_
    · omega
    · rintro ⟨k, vo⟩ hF7
      show WK _ _ m [rowF (vo) 3 (stpN s.Heights k), blk b4 58 [.int .i64 (s.ID), .int .i64 (s.X), .int .i64 (s.Y), v1]] [(1, .pointer (some ⟨b4, 0, none⟩)), (5, vo), (6, .int .i64 (↑k))] _
      replace hF7 : 1 ≤ k ∧ k ≤ s.Heights.length := hF7
      have hk := hF7
      refine WC.seq ?_
      refine WC.seq ?_
      refine WC.region ?_
      refine WL.x (X.move rfl) (by decide) ?_
      refine WL.x (X.field Try.runUnderlying58 rfl Try.sizeOf56 rfl) (by decide) ?_
      refine WL.x (X.loadB (k := 1) Try.isAgg56 rfl rfl rfl) (by decide) ?_
      refine WL.x (X.len Try.runUnderlying56 rfl hs2) (by decide) ?_
      refine WL.cond (X.lss rfl rfl) (by decide) (fun h8 => ?_) (fun h8 => ?_)
      · refine WL.nil ?_
        refine WK.nThen ?_
        refine WC.condT rfl ?_
        refine WC.skip ?_
        refine WK.nThen ?_
        refine WC.seq ?_
        refine WC.block ?_
        refine WC.seq ?_
        have hsl := stp_len s.Heights k
        have hkx : ((↑k : Int) - 1).toNat = k - 1 := (by omega)
        refine WC.draw (π := (.cons 0 (.cons 1 (.cons 2 (.cons 3 (.cons 4 (.cons 5 (.cons 6 (.cons 7 (.cons 8 (.cons 9 (.cons 10 (.cons 11 (.cons 12 (.cons 13 .done))))))))))))))) [] [] rfl (by kernel_rfl) ?_
        refine DW.x rfl rfl (X.field Try.runUnderlying58 rfl Try.sizeOf56 rfl) (by decide) ?_
        refine DW.x rfl rfl (X.loadB (k := 1) Try.isAgg56 rfl rfl rfl) (by decide) ?_
        refine DW.x rfl rfl (X.move rfl) (by decide) ?_
        refine DW.xe rfl rfl (E.idxN k Try.runUnderlying56 Try.sizeOf71 rfl rfl hs2 (by omega)) (by decide) (fun p9 hp10 => ?_)
        have hp11 := At.Height_1 hp10
        refine DW.x rfl rfl (X.field Try.runUnderlying71 rfl Try.sizeOf49 rfl) (by decide) ?_
        refine DW.xe rfl rfl (E.loadAgg Try.isAgg49 Try.sizeOf49 rfl hp11) (by decide) (fun c12 hc13 => ?_)
        obtain rfl := hc13
        refine DW.x rfl rfl (X.field Try.runUnderlying58 rfl Try.sizeOf56 rfl) (by decide) ?_
        refine DW.x rfl rfl (X.loadB (k := 1) Try.isAgg56 rfl rfl rfl) (by decide) ?_
        refine DW.x rfl rfl (X.move rfl) (by decide) ?_
        refine DW.x rfl rfl (X.sub rfl rfl (by omega) (by omega)) (by decide) ?_
        refine DW.xe rfl rfl (E.idxE (k - 1) Try.runUnderlying56 Try.sizeOf71 rfl rfl hs2 (by omega) (by omega)) (by decide) (fun p14 hp15 => ?_)
        have hp16 := At.Height_1 hp15
        refine DW.x rfl rfl (X.field Try.runUnderlying71 rfl Try.sizeOf49 rfl) (by decide) ?_
        refine DW.xe rfl rfl (E.loadAgg Try.isAgg49 Try.sizeOf49 rfl hp16) (by decide) (fun c17 hc18 => ?_)
        obtain rfl := hc18
        refine DW.condn rfl rfl (X.neqS (a := (gt s.Heights k).Metres) (b := (gt s.Heights (k - 1)).Metres) gd49 (fun w => eqS49 9998 _ _ w) rfl rfl) (by decide) (fun h19 => ?_) (fun h19 => ?_)
        · refine DW.nil ?_
          refine WK.nThen ?_
          refine WC.condT rfl ?_
          refine WC.region ?_
          refine WL.x (X.move rfl) (by decide) ?_
          refine WL.x (X.field Try.runUnderlying58 rfl Try.sizeOf56 rfl) (by decide) ?_
          refine WL.x (X.loadB (k := 1) Try.isAgg56 rfl rfl rfl) (by decide) ?_
          refine WL.x (X.move rfl) (by decide) ?_
          refine WL.xe (E.idxN k Try.runUnderlying56 Try.sizeOf71 rfl rfl hs2 (by omega)) (by decide) (fun p20 hp21 => ?_)
          have hp22 := At.Height_0 hp21
          refine WL.x (X.field Try.runUnderlying71 rfl Try.sizeOf3 rfl) (by decide) ?_
          refine WL.x (X.loadInt Try.isAgg3 rfl hp22) (by decide) ?_
          refine WL.tl (T.lit1 sl31 rfl rfl rfl (by decide)) (by decide) fun b23 => ?_
          refine WL.ta (T.appendF (k := 0) (a := (gt s.Heights k).Week) sl31 rfl rfl rfl rfl (by first | omega | (simp; done) | (simp; omega)) (by decide)) (by decide) (fun v24 => ?_)
          refine WL.x (X.assign rfl) (by decide) ?_
          refine WL.nil ?_
          refine WK.nBlock ?_
          refine WK.nThen ?_
          refine WC.region ?_
          refine WL.x (X.move rfl) (by decide) ?_
          refine WL.x (X.add rfl rfl (by omega) (by omega)) (by decide) ?_
          refine WL.x (X.assign rfl) (by decide) ?_
          refine WL.nil ?_
          refine WK.nThen ?_
          have he25 : ((stpN s.Heights k) ++ [(gt s.Heights k).Week]) = (stpN s.Heights (k + 1)) := (by first | exact stp_yes (by omega) (by assumption) | exact stp_no (by assumption) | (rw [hkx] at *; first | exact stp_yes (by omega) (by assumption) | exact stp_no (by assumption)))
          rw [he25]
          refine WK.next ((k + 1, v24)) rfl (.refl _) (.cons rfl (.cons rfl (.cons rfl .nil))) ?_ ?_
          · omega
          · (dsimp only; omega)
        · refine DW.nil ?_
          refine WK.nThen ?_
          refine WC.condF rfl ?_
          refine WC.skip ?_
          refine WK.nBlock ?_
          refine WK.nThen ?_
          refine WC.region ?_
          refine WL.x (X.move rfl) (by decide) ?_
          refine WL.x (X.add rfl rfl (by omega) (by omega)) (by decide) ?_
          refine WL.x (X.assign rfl) (by decide) ?_
          refine WL.nil ?_
          refine WK.nThen ?_
          have he26 : (stpN s.Heights k) = (stpN s.Heights (k + 1)) := (by first | exact stp_yes (by omega) (by assumption) | exact stp_no (by assumption) | (rw [hkx] at *; first | exact stp_yes (by omega) (by assumption) | exact stp_no (by assumption)))
          rw [he26]
          refine WK.next ((k + 1, vo)) rfl (.refl _) (.cons rfl (.cons rfl (.cons rfl .nil))) ?_ ?_
          · omega
          · (dsimp only; omega)
      · refine WL.nil ?_
        refine WK.nThen ?_
        refine WC.condF rfl ?_
        refine WC.exit ?_
        refine WK.eThen ?_
        refine WK.eThen ?_
        refine WK.eHit ?_
        refine WK.nThen ?_
        refine WC.seq ?_
        have he27 : (stpN s.Heights k) = (stpN s.Heights s.Heights.length) := (by rw [show k = s.Heights.length by omega])
        rw [he27]
        refine WC.region ?_
        refine WL.x (X.move rfl) (by decide) ?_
        refine WL.x (X.assign rfl) (by decide) ?_
        refine WL.x (X.assign rfl) (by decide) ?_
        refine WL.nil ?_
        refine WK.nThen ?_
        refine WC.ret ?_
        refine WK.freezeF 0 rfl rfl (by have := stp_len s.Heights s.Heights.length; unfold lenB; omega) (fun m28 hle29 hs30 => ?_)
        replace hs2 := hs2.mono hle29
        refine WK.ret2 rfl rfl rfl (fun w' hw' => Ret.mem hw' ?_)
        first | exact ⟨_, tup2 rfl (int_eq (by rw [stepsR_bad (by omega)])), by rw [stepsR_bad (by omega)]; exact hs30⟩ | exact ⟨_, tup2 rfl (int_eq (by rw [stepsR_ok (by omega)])), by rw [stepsR_ok (by omega)]; exact hs30⟩

theorem steps59 (m : Mem) (cs : List Value) (s : Station) (hs : Enc.rd m cs s)   : Pure Try.prog 59 #[.agg cs.toArray] m (fun m' v => ∃ r0, v = .tuple #[r0, .int .i64 ((stepsR s).2)] ∧ Sl m' r0 ((stepsR s).1)) := by
  obtain ⟨v1, rfl, hs2⟩ := hs
  have hl3 := hs2.le
  have hal := aloneE_one s
  refine Pure.start Try.func59 rfl Try.ntmps59 rfl fun wld => ?_
  refine WC.seq ?_
  refine WC.region ?_
  refine WL.tn (T.boxB rfl rfl) (by decide) fun b4 => ?_
  refine WL.x (X.assign rfl) (by decide) ?_
  refine WL.x (X.assign rfl) (by decide) ?_
  refine WL.nil ?_
  refine WK.nThen ?_
  refine WC.seq ?_
  refine WC.seq ?_
  refine WC.region ?_
  refine WL.x (X.loadBA (k := 0) Try.isAgg58 Try.sizeOf58 rfl rfl rfl) (by decide) ?_
  refine WL.tm (T.litM (α := Station) (vals := [.agg [.int .i64 (s.ID), .int .i64 (s.X), .int .i64 (s.Y), v1].toArray]) (L := [s]) sl24 rfl (.cons rfl ⟨_, rfl, hs2⟩ .nil) rfl rfl) (by decide) (fun m5 v6 hle7 hs8 => ?_)
  replace hs2 := hs2.mono hle7
  refine WL.x (X.call Try.call80 rfl (alone80 _ _ _ hs8 )) (by decide) ?_
  refine WL.x (X.assign rfl) (by decide) ?_
  refine WL.nil ?_
  refine WK.nThen ?_
  refine WC.seq ?_
  refine WC.region ?_
  refine WL.x (X.move rfl) (by decide) ?_
  refine WL.condn (X.neq rfl rfl) (by decide) (fun h9 => ?_) (fun h9 => ?_)
  · refine WL.nil ?_
    refine WK.nThen ?_
    refine WC.condT rfl ?_
    refine WC.seq ?_
    refine WC.region ?_
    refine WL.x (X.move rfl) (by decide) ?_
    refine WL.x (X.assign rfl) (by decide) ?_
    refine WL.x (X.assign rfl) (by decide) ?_
    refine WL.nil ?_
    refine WK.nThen ?_
    refine WC.ret ?_
    refine WK.rThen ?_
    refine WK.ret2 rfl rfl rfl (fun w' hw' => Ret.mem hw' ?_)
    first | exact ⟨_, tup2 rfl (int_eq (by rw [stepsR_bad (by omega)]; omega)), by rw [stepsR_bad (by omega)]; exact .nil⟩ | exact ⟨_, tup2 rfl (int_eq (by rw [stepsR_bad (by omega)])), by rw [stepsR_bad (by omega)]; exact .nil⟩ | exact ⟨_, tup2 rfl (int_eq (by rw [stepsR_ok (by omega)]; omega)), by rw [stepsR_ok (by omega)]; exact .nil⟩ | exact ⟨_, tup2 rfl (int_eq (by rw [stepsR_ok (by omega)])), by rw [stepsR_ok (by omega)]; exact .nil⟩
  · refine WL.nil ?_
    refine WK.nThen ?_
    refine WC.condF rfl ?_
    refine WC.skip ?_
    refine WK.nThen ?_
    refine WC.seq ?_
    have hone := oneE_zero (s := s) (by omega)
    have hhl := hone.2.1
    have hdl : (s.Heights.drop 1).length = s.Heights.length - 1 := List.length_drop
    refine WK.ownF Int 3 ?_
    refine WC.region ?_
    refine WL.x (X.assign rfl) (by decide) ?_
    refine WL.nil ?_
    refine WK.nThen ?_
    refine WC.seq ?_
    refine WC.seq ?_
    refine WC.region ?_
    refine WL.x (X.field Try.runUnderlying58 rfl Try.sizeOf56 rfl) (by decide) ?_
    refine WL.x (X.loadB (k := 1) Try.isAgg56 rfl rfl rfl) (by decide) ?_
    refine WL.xe (E.slL 1 Try.underlying56 Try.sizeOf71 rfl rfl hs2 (by omega) (by omega)) (by decide) (fun v10 hs11 => ?_)
    refine WL.x (X.len Try.runUnderlying56 rfl hs11) (by decide) ?_
    refine WL.x (X.move rfl) (by decide) ?_
    refine WL.nil ?_
    refine WK.nThen ?_
    refine WC.block ?_
    have he12 : (([] : List Int)) = (stpN s.Heights (0 + 1)) := (stp_one _).symm
    rw [he12]
    refine WC.loop (G := Nat × Value) (fun (k, vo) => (s.Heights.drop 1).length - k) (fun (k, vo) => m5) (fun (k, vo) => [rowF (vo) 3 (stpN s.Heights (k + 1)), blk b4 58 [.int .i64 (s.ID), .int .i64 (s.X), .int .i64 (s.Y), v1]]) (fun (k, vo) => [(1, .pointer (some ⟨b4, 0, none⟩)), (5, vo), (16, v10), (17, .int .i64 (↑(s.Heights.drop 1).length)), (18, .int .i64 (↑k))]) (fun (k, vo) => k ≤ (s.Heights.drop 1).length) ((0, Value.slice none 0 0)) rfl (.refl _) (.cons rfl (.cons rfl (.cons rfl (.cons rfl (.cons rfl .nil))))) ?_ ?_
    · exact Nat.zero_le _
    · rintro ⟨k, vo⟩ hF13
      show WK _ _ m5 [rowF (vo) 3 (stpN s.Heights (k + 1)), blk b4 58 [.int .i64 (s.ID), .int .i64 (s.X), .int .i64 (s.Y), v1]] [(1, .pointer (some ⟨b4, 0, none⟩)), (5, vo), (16, v10), (17, .int .i64 (↑(s.Heights.drop 1).length)), (18, .int .i64 (↑k))] _
      replace hF13 : k ≤ (s.Heights.drop 1).length := hF13
      have hk := hF13
      refine WC.seq ?_
      refine WC.region ?_
      refine WL.cond (X.lss rfl rfl) (by decide) (fun h14 => ?_) (fun h14 => ?_)
      · refine WL.nil ?_
        refine WK.nThen ?_
        refine WC.seq ?_
        refine WC.condT rfl ?_
        refine WC.skip ?_
        refine WK.nThen ?_
        refine WC.seq ?_
        refine WC.block ?_
        refine WC.seq ?_
        refine WC.region ?_
        refine WL.x (X.move rfl) (by decide) ?_
        refine WL.xe (E.idxN k Try.runUnderlying56 Try.sizeOf71 rfl rfl hs11 (by omega)) (by decide) (fun p15 hp16 => ?_)
        refine WL.xe (E.loadAgg Try.isAgg71 Try.sizeOf71 rfl hp16) (by decide) (fun c17 hc18 => ?_)
        obtain rfl := hc18
        refine WL.tn (T.alloc Try.zeroValue71 rfl) (by decide) fun b19 => ?_
        refine WL.x (X.assign rfl) (by decide) ?_
        refine WL.ts (T.storeBA (k := 0) Try.sizeOf71 rfl rfl rfl (one_cons rfl (one_cons rfl (one_cons rfl one_nil))) rfl rfl) ?_
        refine WL.nil ?_
        refine WK.nThen ?_
        refine WC.seq ?_
        have hsl := stp_len s.Heights (k + 1)
        refine WC.draw (π := (.cons 0 (.cons 1 (.cons 2 (.cons 3 (.cons 4 (.cons 5 (.cons 6 (.cons 7 (.cons 8 .done)))))))))) [] [] rfl (by kernel_rfl) ?_
        refine DW.x rfl rfl (X.field Try.runUnderlying71 rfl Try.sizeOf49 rfl) (by decide) ?_
        refine DW.x rfl rfl (X.loadBP (k := 0) (vs := [.int .i64 (((gt (s.Heights.drop 1) k).Metres).Lo), .int .i64 (((gt (s.Heights.drop 1) k).Metres).Hi)]) Try.isAgg49 Try.sizeOf49 rfl rfl rfl rfl) (by decide) ?_
        refine DW.x rfl rfl (X.field Try.runUnderlying58 rfl Try.sizeOf56 rfl) (by decide) ?_
        refine DW.x rfl rfl (X.loadB (k := 2) Try.isAgg56 rfl rfl rfl) (by decide) ?_
        refine DW.x rfl rfl (X.move rfl) (by decide) ?_
        refine DW.xe rfl rfl (E.idxN k Try.runUnderlying56 Try.sizeOf71 rfl rfl hs2 (by omega)) (by decide) (fun p20 hp21 => ?_)
        have hp22 := At.Height_1 hp21
        refine DW.x rfl rfl (X.field Try.runUnderlying71 rfl Try.sizeOf49 rfl) (by decide) ?_
        refine DW.xe rfl rfl (E.loadAgg Try.isAgg49 Try.sizeOf49 rfl hp22) (by decide) (fun c23 hc24 => ?_)
        obtain rfl := hc24
        refine DW.condn rfl rfl (X.neqS (a := (gt (s.Heights.drop 1) k).Metres) (b := (gt s.Heights k).Metres) gd49 (fun w => eqS49 9998 _ _ w) rfl rfl) (by decide) (fun h25 => ?_) (fun h25 => ?_)
        · refine DW.nil ?_
          refine WK.nThen ?_
          refine WC.condT rfl ?_
          refine WC.region ?_
          refine WL.x (X.move rfl) (by decide) ?_
          refine WL.x (X.field Try.runUnderlying71 rfl Try.sizeOf3 rfl) (by decide) ?_
          refine WL.x (X.loadB (k := 0) Try.isAgg3 rfl rfl rfl) (by decide) ?_
          refine WL.tl (T.lit1 sl31 rfl rfl rfl (by decide)) (by decide) fun b26 => ?_
          refine WL.ta (T.appendF (k := 1) (a := (gt (s.Heights.drop 1) k).Week) sl31 rfl rfl rfl rfl (by first | omega | (simp; done) | (simp; omega)) (by decide)) (by decide) (fun v27 => ?_)
          refine WL.x (X.assign rfl) (by decide) ?_
          refine WL.nil ?_
          refine WK.nBlock ?_
          refine WK.nThen ?_
          refine WC.region ?_
          refine WL.x (X.add rfl rfl (by omega) (by omega)) (by decide) ?_
          refine WL.x (X.move rfl) (by decide) ?_
          refine WL.nil ?_
          refine WK.nThen ?_
          have he28 : ((stpN s.Heights (k + 1)) ++ [(gt (s.Heights.drop 1) k).Week]) = (stpN s.Heights (k + 1 + 1)) := (by first | exact stp_yes1 (by assumption) | exact stp_no1 (by assumption))
          rw [he28]
          refine WK.next ((k + 1, v27)) rfl (.cons _ (.refl _)) (.cons rfl (.cons rfl (.cons rfl (.cons rfl (.cons rfl .nil))))) ?_ ?_
          · omega
          · (dsimp only; omega)
        · refine DW.nil ?_
          refine WK.nThen ?_
          refine WC.condF rfl ?_
          refine WC.skip ?_
          refine WK.nBlock ?_
          refine WK.nThen ?_
          refine WC.region ?_
          refine WL.x (X.add rfl rfl (by omega) (by omega)) (by decide) ?_
          refine WL.x (X.move rfl) (by decide) ?_
          refine WL.nil ?_
          refine WK.nThen ?_
          have he29 : (stpN s.Heights (k + 1)) = (stpN s.Heights (k + 1 + 1)) := (by first | exact stp_yes1 (by assumption) | exact stp_no1 (by assumption))
          rw [he29]
          refine WK.next ((k + 1, vo)) rfl (.cons _ (.refl _)) (.cons rfl (.cons rfl (.cons rfl (.cons rfl (.cons rfl .nil))))) ?_ ?_
          · omega
          · (dsimp only; omega)
      · refine WL.nil ?_
        refine WK.nThen ?_
        refine WC.seq ?_
        refine WC.condF rfl ?_
        refine WC.exit ?_
        refine WK.eThen ?_
        refine WK.eThen ?_
        refine WK.eHit ?_
        refine WK.nThen ?_
        refine WC.seq ?_
        have he30 : (stpN s.Heights (k + 1)) = (stpN s.Heights s.Heights.length) := (by rw [show k + 1 = s.Heights.length by omega])
        rw [he30]
        refine WC.region ?_
        refine WL.x (X.move rfl) (by decide) ?_
        refine WL.x (X.assign rfl) (by decide) ?_
        refine WL.x (X.assign rfl) (by decide) ?_
        refine WL.nil ?_
        refine WK.nThen ?_
        refine WC.ret ?_
        refine WK.freezeF 0 rfl rfl (by have := stp_len s.Heights s.Heights.length; unfold lenB; omega) (fun m31 hle32 hs33 => ?_)
        replace hs2 := hs2.mono hle32
        replace hs8 := hs8.mono hle32
        replace hs11 := hs11.mono hle32
        refine WK.ret2 rfl rfl rfl (fun w' hw' => Ret.mem hw' ?_)
        first | exact ⟨_, tup2 rfl (int_eq (by rw [stepsR_bad (by omega)]; omega)), by rw [stepsR_bad (by omega)]; exact hs33⟩ | exact ⟨_, tup2 rfl (int_eq (by rw [stepsR_bad (by omega)])), by rw [stepsR_bad (by omega)]; exact hs33⟩ | exact ⟨_, tup2 rfl (int_eq (by rw [stepsR_ok (by omega)]; omega)), by rw [stepsR_ok (by omega)]; exact hs33⟩ | exact ⟨_, tup2 rfl (int_eq (by rw [stepsR_ok (by omega)])), by rw [stepsR_ok (by omega)]; exact hs33⟩

end Go.Proofs.S5
