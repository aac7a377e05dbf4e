/- Clocks: walks, tenth part, by program. -/
import Derived.Test.YtmnipmbgdbdjeaaC2W9
import Derived.Test.YtmnipmbgdbdjeaaC2LH
namespace Go.Proofs.C2
open Go Go.Kx
set_option linter.unusedVariables false

set_option maxHeartbeats 1000000 in
theorem pairs41 (m : Mem) (cx : List Value) (x : Clk) (hx : Enc.rd m cx x)   : Exact Try.prog 41 #[.agg cx.toArray] m (.bool (decide (twoP x))) := by
  obtain ⟨v1, v3, v5, rfl, hs2, hs4, hs6⟩ := hx
  have hl7 := hs2.le
  have hl8 := hs4.le
  have hl9 := hs6.le
  refine Exact.start Try.func41 rfl Try.ntmps41 rfl fun wld => ?_
  refine WC.seq ?_
  refine WC.region ?_
  refine WL.tn (T.boxB rfl rfl) (by decide) fun b10 => ?_
  refine WL.x (X.assign rfl) (by decide) ?_
  refine WL.nil ?_
  refine WK.nThen ?_
  refine WC.seq ?_
  refine WC.region ?_
  refine WL.x (X.field Try.runUnderlying28 rfl Try.sizeOf25 rfl) (by decide) ?_
  refine WL.x (X.loadBP (k := 0) (vs := [v1, v3]) Try.isAgg25 Try.sizeOf25 rfl rfl rfl rfl) (by decide) ?_
  refine WL.x (X.call Try.call33 rfl (feasible33 _ _ x.D ⟨_, _, rfl, hs2, hs4⟩ _ _ .nil )) (by decide) ?_
  refine WL.x (X.move rfl) (by decide) ?_
  refine WL.x (X.extract rfl rfl) (by decide) ?_
  refine WL.x (X.extract rfl rfl) (by decide) ?_
  refine WL.x (X.assign rfl) (by decide) ?_
  refine WL.x (X.assign rfl) (by decide) ?_
  refine WL.nil ?_
  refine WK.nThen ?_
  refine WC.seq ?_
  refine WC.seq ?_
  refine WC.region ?_
  refine WL.x (X.move rfl) (by decide) ?_
  refine WL.condn (X.neq rfl rfl) (by decide) (fun h11 => ?_) (fun h11 => ?_)
  · refine WL.x (X.move rfl) (by decide) ?_
    refine WL.no rfl rfl rfl (by decide) ?_
    refine WL.no rfl rfl rfl (by decide) ?_
    refine WL.x (X.pickT rfl rfl rfl) (by decide) ?_
    refine WL.nil ?_
    refine WK.nThen ?_
    refine WC.condT rfl ?_
    refine WC.seq ?_
    refine WC.region ?_
    refine WL.x (X.assign rfl) (by decide) ?_
    refine WL.nil ?_
    refine WK.nThen ?_
    refine WC.ret ?_
    refine WK.rThen ?_
    refine WK.ret1 rfl rfl (fun w' hw' => Ret.exact hw' ?_)
    first | exact bool_true ⟨hnon, fun i_ hi_ => hall0 i_ (by omega)⟩ | exact bool_false (fun h_ => by have := h_.1.1; omega) | exact bool_false (fun h_ => by have := (h_.2 i (by omega) k (by omega)).1; omega) | (refine bool_false (fun h_ => ?_); have := (h_.2 i (by omega) k (by omega)).2; simp_all; done) | (refine bool_false (fun h_ => ?_); have := h_.1.2; simp_all; done)
  · refine WL.x (X.move rfl) (by decide) ?_
    refine WL.yes rfl rfl ?_
    refine WL.x (X.move rfl) (by decide) ?_
    refine WL.yes rfl rfl ?_
    refine WL.condb (X.not rfl) (by decide) (fun h12 => ?_) (fun h12 => ?_)
    · refine WL.x (X.pickF rfl rfl rfl) (by decide) ?_
      refine WL.nil ?_
      refine WK.nThen ?_
      refine WC.condT rfl ?_
      refine WC.seq ?_
      refine WC.region ?_
      refine WL.x (X.assign rfl) (by decide) ?_
      refine WL.nil ?_
      refine WK.nThen ?_
      refine WC.ret ?_
      refine WK.rThen ?_
      refine WK.ret1 rfl rfl (fun w' hw' => Ret.exact hw' ?_)
      first | exact bool_true ⟨hnon, fun i_ hi_ => hall0 i_ (by omega)⟩ | exact bool_false (fun h_ => by have := h_.1.1; omega) | exact bool_false (fun h_ => by have := (h_.2 i (by omega) k (by omega)).1; omega) | (refine bool_false (fun h_ => ?_); have := (h_.2 i (by omega) k (by omega)).2; simp_all; done) | (refine bool_false (fun h_ => ?_); have := h_.1.2; simp_all; done)
    · refine WL.x (X.pickF rfl rfl rfl) (by decide) ?_
      refine WL.nil ?_
      refine WK.nThen ?_
      refine WC.condF rfl ?_
      refine WC.skip ?_
      refine WK.nThen ?_
      refine WC.seq ?_
      refine WC.seq ?_
      refine WC.region ?_
      refine WL.x (X.assign rfl) (by decide) ?_
      refine WL.nil ?_
      refine WK.nThen ?_
      refine WC.block ?_
      have hnon : nonP x.D := ⟨by omega, by simp_all⟩
      refine WC.loop (G := Nat) (fun i => x.M.length - i) (fun i => m) (fun i => [blk b10 28 [v1, v3, v5]]) (fun i => [(1, .pointer (some ⟨b10, 0, none⟩)), (5, .int .i64 (↑i))]) (fun i => i ≤ x.M.length ∧ (∀ j, j < i → ∀ k, k < j + 1 → agrP x.D (gt x.M j) (gt x.M k))) 0 rfl (.refl _) (.cons rfl (.cons rfl .nil)) ?_ ?_
      · exact ⟨Nat.zero_le _, fun j hj => absurd hj (Nat.not_lt_zero _)⟩
      · rintro i hF13
        show WK _ _ m [blk b10 28 [v1, v3, v5]] [(1, .pointer (some ⟨b10, 0, none⟩)), (5, .int .i64 (↑i))] _
        replace hF13 : i ≤ x.M.length ∧ (∀ j, j < i → ∀ k, k < j + 1 → agrP x.D (gt x.M j) (gt x.M k)) := hF13
        obtain ⟨hi, hall0⟩ := hF13
        refine WC.seq ?_
        refine WC.seq ?_
        refine WC.region ?_
        refine WL.x (X.move rfl) (by decide) ?_
        refine WL.x (X.field Try.runUnderlying28 rfl Try.sizeOf26 rfl) (by decide) ?_
        refine WL.x (X.loadB (k := 0) Try.isAgg26 rfl rfl rfl) (by decide) ?_
        refine WL.x (X.len Try.runUnderlying26 rfl hs6) (by decide) ?_
        refine WL.cond (X.lss rfl rfl) (by decide) (fun h14 => ?_) (fun h14 => ?_)
        · refine WL.nil ?_
          refine WK.nThen ?_
          refine WC.condT rfl ?_
          refine WC.skip ?_
          refine WK.nThen ?_
          refine WC.seq ?_
          refine WC.block ?_
          refine WC.seq ?_
          refine WC.region ?_
          refine WL.x (X.assign rfl) (by decide) ?_
          refine WL.nil ?_
          refine WK.nThen ?_
          refine WC.block ?_
          refine WC.loop (G := Nat) (fun k => i + 1 - k) (fun k => m) (fun k => [blk b10 28 [v1, v3, v5]]) (fun k => [(1, .pointer (some ⟨b10, 0, none⟩)), (5, .int .i64 (↑i)), (6, .int .i64 (↑k))]) (fun k => k ≤ i + 1 ∧ (∀ j, j < k → agrP x.D (gt x.M i) (gt x.M j))) 0 rfl (.refl _) (.cons rfl (.cons rfl (.cons rfl .nil))) ?_ ?_
          · exact ⟨Nat.zero_le _, fun j hj => absurd hj (Nat.not_lt_zero _)⟩
          · rintro k hF15
            show WK _ _ m [blk b10 28 [v1, v3, v5]] [(1, .pointer (some ⟨b10, 0, none⟩)), (5, .int .i64 (↑i)), (6, .int .i64 (↑k))] _
            replace hF15 : k ≤ i + 1 ∧ (∀ j, j < k → agrP x.D (gt x.M i) (gt x.M j)) := hF15
            obtain ⟨hk, hall⟩ := hF15
            refine WC.seq ?_
            refine WC.seq ?_
            refine WC.region ?_
            refine WL.x (X.move rfl) (by decide) ?_
            refine WL.x (X.move rfl) (by decide) ?_
            refine WL.cond (X.leq rfl rfl) (by decide) (fun h16 => ?_) (fun h16 => ?_)
            · refine WL.nil ?_
              refine WK.nThen ?_
              refine WC.condT rfl ?_
              refine WC.skip ?_
              refine WK.nThen ?_
              refine WC.seq ?_
              refine WC.block ?_
              refine WC.seq ?_
              refine WC.draw (π := (.cons 0 (.cons 1 (.cons 2 (.cons 3 (.cons 4 (.cons 5 (.cons 6 (.cons 7 (.cons 8 (.cons 9 (.cons 10 (.cons 11 (.cons 12 (.cons 13 (.cons 14 (.cons 15 (.cons 16 (.cons 17 .done))))))))))))))))))) [] [] rfl (by kernel_rfl) ?_
              refine DW.x rfl rfl (X.field Try.runUnderlying28 rfl Try.sizeOf25 rfl) (by decide) ?_
              refine DW.x rfl rfl (X.loadBP (k := 0) (vs := [v1, v3]) Try.isAgg25 Try.sizeOf25 rfl rfl rfl rfl) (by decide) ?_
              refine DW.x rfl rfl (X.field Try.runUnderlying28 rfl Try.sizeOf26 rfl) (by decide) ?_
              refine DW.x rfl rfl (X.loadB (k := 0) Try.isAgg26 rfl rfl rfl) (by decide) ?_
              refine DW.x rfl rfl (X.move rfl) (by decide) ?_
              refine DW.xe rfl rfl (E.idxN i Try.runUnderlying26 Try.sizeOf33 rfl rfl hs6 (by omega)) (by decide) (fun p17 hp18 => ?_)
              refine DW.xe rfl rfl (E.loadAgg Try.isAgg33 Try.sizeOf33 rfl hp18) (by decide) (fun c19 hc20 => ?_)
              obtain rfl := hc20
              refine DW.x rfl rfl (X.field Try.runUnderlying28 rfl Try.sizeOf26 rfl) (by decide) ?_
              refine DW.x rfl rfl (X.loadB (k := 0) Try.isAgg26 rfl rfl rfl) (by decide) ?_
              refine DW.x rfl rfl (X.move rfl) (by decide) ?_
              refine DW.xe rfl rfl (E.idxN k Try.runUnderlying26 Try.sizeOf33 rfl rfl hs6 (by omega)) (by decide) (fun p21 hp22 => ?_)
              refine DW.xe rfl rfl (E.loadAgg Try.isAgg33 Try.sizeOf33 rfl hp22) (by decide) (fun c23 hc24 => ?_)
              obtain rfl := hc24
              refine DW.x rfl rfl (X.call Try.call55 rfl (agree55 _ _ x.D ⟨_, _, rfl, hs2, hs4⟩ _ (gt x.M i) rfl _ (gt x.M k) rfl )) (by decide) ?_
              refine DW.x rfl rfl (X.move rfl) (by decide) ?_
              refine DW.x rfl rfl (X.extract rfl rfl) (by decide) ?_
              refine DW.x rfl rfl (X.extract rfl rfl) (by decide) ?_
              refine DW.x rfl rfl (X.assign rfl) (by decide) ?_
              refine DW.x rfl rfl (X.assign rfl) (by decide) ?_
              refine DW.nil ?_
              refine WK.nThen ?_
              refine WC.seq ?_
              refine WC.region ?_
              refine WL.x (X.move rfl) (by decide) ?_
              refine WL.condn (X.neq rfl rfl) (by decide) (fun h25 => ?_) (fun h25 => ?_)
              · refine WL.x (X.move rfl) (by decide) ?_
                refine WL.no rfl rfl rfl (by decide) ?_
                refine WL.no rfl rfl rfl (by decide) ?_
                refine WL.x (X.pickT rfl rfl rfl) (by decide) ?_
                refine WL.nil ?_
                refine WK.nThen ?_
                refine WC.condT rfl ?_
                refine WC.seq ?_
                refine WC.region ?_
                refine WL.x (X.assign rfl) (by decide) ?_
                refine WL.nil ?_
                refine WK.nThen ?_
                refine WC.ret ?_
                refine WK.rBlock ?_
                refine WK.rThen ?_
                refine WK.rThen ?_
                refine WK.rBlock ?_
                refine WK.rBlock ?_
                refine WK.rThen ?_
                refine WK.rThen ?_
                refine WK.rBlock ?_
                refine WK.rThen ?_
                refine WK.ret1 rfl rfl (fun w' hw' => Ret.exact hw' ?_)
                first | exact bool_true ⟨hnon, fun i_ hi_ => hall0 i_ (by omega)⟩ | exact bool_false (fun h_ => by have := h_.1.1; omega) | exact bool_false (fun h_ => by have := (h_.2 i (by omega) k (by omega)).1; omega) | (refine bool_false (fun h_ => ?_); have := (h_.2 i (by omega) k (by omega)).2; simp_all; done) | (refine bool_false (fun h_ => ?_); have := h_.1.2; simp_all; done)
              · refine WL.x (X.move rfl) (by decide) ?_
                refine WL.yes rfl rfl ?_
                refine WL.x (X.move rfl) (by decide) ?_
                refine WL.yes rfl rfl ?_
                refine WL.condb (X.not rfl) (by decide) (fun h26 => ?_) (fun h26 => ?_)
                · refine WL.x (X.pickF rfl rfl rfl) (by decide) ?_
                  refine WL.nil ?_
                  refine WK.nThen ?_
                  refine WC.condT rfl ?_
                  refine WC.seq ?_
                  refine WC.region ?_
                  refine WL.x (X.assign rfl) (by decide) ?_
                  refine WL.nil ?_
                  refine WK.nThen ?_
                  refine WC.ret ?_
                  refine WK.rBlock ?_
                  refine WK.rThen ?_
                  refine WK.rThen ?_
                  refine WK.rBlock ?_
                  refine WK.rBlock ?_
                  refine WK.rThen ?_
                  refine WK.rThen ?_
                  refine WK.rBlock ?_
                  refine WK.rThen ?_
                  refine WK.ret1 rfl rfl (fun w' hw' => Ret.exact hw' ?_)
                  first | exact bool_true ⟨hnon, fun i_ hi_ => hall0 i_ (by omega)⟩ | exact bool_false (fun h_ => by have := h_.1.1; omega) | exact bool_false (fun h_ => by have := (h_.2 i (by omega) k (by omega)).1; omega) | (refine bool_false (fun h_ => ?_); have := (h_.2 i (by omega) k (by omega)).2; simp_all; done) | (refine bool_false (fun h_ => ?_); have := h_.1.2; simp_all; done)
                · refine WL.x (X.pickF rfl rfl rfl) (by decide) ?_
                  refine WL.nil ?_
                  refine WK.nThen ?_
                  refine WC.condF rfl ?_
                  refine WC.skip ?_
                  refine WK.nBlock ?_
                  refine WK.nThen ?_
                  refine WC.region ?_
                  refine WL.x (X.move rfl) (by decide) ?_
                  refine WL.x (X.add rfl rfl (by omega) (by omega)) (by decide) ?_
                  refine WL.x (X.assign rfl) (by decide) ?_
                  refine WL.nil ?_
                  refine WK.nThen ?_
                  refine WK.next (k + 1) rfl (.refl _) (.cons rfl (.cons rfl (.cons rfl .nil))) ?_ ?_
                  · exact ⟨by omega, fun j hj => by rcases Nat.lt_succ_iff_lt_or_eq.1 hj with h | h; exact hall j h; subst h; exact ⟨by omega, by (simp_all; done)⟩⟩
                  · omega
            · refine WL.nil ?_
              refine WK.nThen ?_
              refine WC.condF rfl ?_
              refine WC.exit ?_
              refine WK.eThen ?_
              refine WK.eThen ?_
              refine WK.eHit ?_
              refine WK.nBlock ?_
              refine WK.nThen ?_
              refine WC.region ?_
              refine WL.x (X.move rfl) (by decide) ?_
              refine WL.x (X.add rfl rfl (by omega) (by omega)) (by decide) ?_
              refine WL.x (X.assign rfl) (by decide) ?_
              refine WL.nil ?_
              refine WK.nThen ?_
              refine WK.next (i + 1) rfl (.refl _) (.cons rfl (.cons rfl .nil)) ?_ ?_
              · exact ⟨by omega, fun j hj => by rcases Nat.lt_succ_iff_lt_or_eq.1 hj with h | h; exact hall0 j h; subst h; exact fun q_ hq_ => hall q_ (by omega)⟩
              · omega
        · refine WL.nil ?_
          refine WK.nThen ?_
          refine WC.condF rfl ?_
          refine WC.exit ?_
          refine WK.eThen ?_
          refine WK.eThen ?_
          refine WK.eHit ?_
          refine WK.nThen ?_
          refine WC.seq ?_
          refine WC.region ?_
          refine WL.x (X.assign rfl) (by decide) ?_
          refine WL.nil ?_
          refine WK.nThen ?_
          refine WC.ret ?_
          refine WK.ret1 rfl rfl (fun w' hw' => Ret.exact hw' ?_)
          first | exact bool_true ⟨hnon, fun i_ hi_ => hall0 i_ (by omega)⟩ | exact bool_false (fun h_ => by have := h_.1.1; omega) | exact bool_false (fun h_ => by have := (h_.2 i (by omega) k (by omega)).1; omega) | (refine bool_false (fun h_ => ?_); have := (h_.2 i (by omega) k (by omega)).2; simp_all; done) | (refine bool_false (fun h_ => ?_); have := h_.1.2; simp_all; done)

end Go.Proofs.C2
