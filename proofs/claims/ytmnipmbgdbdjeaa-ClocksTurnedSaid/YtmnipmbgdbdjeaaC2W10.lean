import Derived.Test.YtmnipmbgdbdjeaaC2W9
import Derived.Test.YtmnipmbgdbdjeaaC2LN
/- Clocks: walks, tenth part, by program. -/
namespace Go.Proofs.C2
open Go Go.Kx
set_option linter.unusedVariables false

set_option maxHeartbeats 1000000 in
theorem pairs41 (m : Mem) (cx : List Value) (x : Clk) (hx : Enc.rd m cx x)   : Exact Try.prog 41 #[.agg cx.toArray] m (.bool (decide (twoP x))) := by
  obtain ⟨v1, v3, v5, rfl, hs2, hs4, hs6⟩ := hx
  have hl7 := hs2.le
  have hl8 := hs4.le
  have hl9 := hs6.le
  refine Exact.start Try.func41 rfl Try.ntmps41 rfl fun wld => ?_
  refine WC.seq ?_
  refine WC.region ?_
  refine WL.tn (T.boxB rfl rfl) (by decide) fun b10 => ?_
  refine WL.x (X.assign rfl) (by decide) ?_
  refine WL.nil ?_
  refine WK.nThen ?_
  refine WC.seq ?_
  refine WC.region ?_
  refine WL.x (X.field Try.runUnderlying28 rfl Try.sizeOf25 rfl) (by decide) ?_
  refine WL.x (X.loadBP (k := 0) (vs := [v1, v3]) Try.isAgg25 Try.sizeOf25 rfl rfl rfl rfl) (by decide) ?_
  refine WL.x (X.call Try.call33 rfl (feasible33 _ _ x.D ⟨_, _, rfl, hs2, hs4⟩ _ _ .nil )) (by decide) ?_
  refine WL.x (X.move rfl) (by decide) ?_
  refine WL.x (X.extract rfl rfl) (by decide) ?_
  refine WL.x (X.extract rfl rfl) (by decide) ?_
  refine WL.x (X.assign rfl) (by decide) ?_
  refine WL.x (X.assign rfl) (by decide) ?_
  refine WL.nil ?_
  refine WK.nThen ?_
  refine WC.seq ?_
  refine WC.seq ?_
  refine WC.region ?_
  refine WL.x (X.move rfl) (by decide) ?_
  refine WL.condn (X.neq rfl rfl) (by decide) (fun h11 => ?_) (fun h11 => ?_)
  · refine WL.x (X.move rfl) (by decide) ?_
    refine WL.no rfl rfl rfl (by decide) ?_
    refine WL.no rfl rfl rfl (by decide) ?_
    refine WL.x (X.pickT rfl rfl rfl) (by decide) ?_
    refine WL.nil ?_
    refine WK.nThen ?_
    refine WC.condT rfl ?_
    refine WC.seq ?_
    refine WC.region ?_
    refine WL.x (X.assign rfl) (by decide) ?_
    refine WL.nil ?_
    refine WK.nThen ?_
    refine WC.ret ?_
    refine WK.rThen ?_
    refine WK.ret1 rfl rfl (fun w' hw' => Ret.exact hw' ?_)
    first | exact bool_true ⟨hnon, fun i_ hi_ => hall0 i_ (by omega)⟩ | exact bool_false (fun h_ => by have := h_.1.1; omega) | exact bool_false (fun h_ => by have := (h_.2 i (by omega) k (by omega)).1; omega) | (refine bool_false (fun h_ => ?_); have := (h_.2 i (by omega) k (by omega)).2; simp_all; done) | (refine bool_false (fun h_ => ?_); have := h_.1.2; simp_all; done)
  · refine WL.x (X.move rfl) (by decide) ?_
    refine WL.yes rfl rfl ?_
    refine WL.x (X.move rfl) (by decide) ?_
    refine WL.yes rfl rfl ?_
    refine WL.condb (X.not rfl) (by decide) (fun h12 => ?_) (fun h12 => ?_)
    · refine WL.x (X.pickF rfl rfl rfl) (by decide) ?_
      refine WL.nil ?_
      refine WK.nThen ?_
      refine WC.condT rfl ?_
      refine WC.seq ?_
      refine WC.region ?_
      refine WL.x (X.assign rfl) (by decide) ?_
      refine WL.nil ?_
      refine WK.nThen ?_
      refine WC.ret ?_
      refine WK.rThen ?_
      refine WK.ret1 rfl rfl (fun w' hw' => Ret.exact hw' ?_)
      first | exact bool_true ⟨hnon, fun i_ hi_ => hall0 i_ (by omega)⟩ | exact bool_false (fun h_ => by have := h_.1.1; omega) | exact bool_false (fun h_ => by have := (h_.2 i (by omega) k (by omega)).1; omega) | (refine bool_false (fun h_ => ?_); have := (h_.2 i (by omega) k (by omega)).2; simp_all; done) | (refine bool_false (fun h_ => ?_); have := h_.1.2; simp_all; done)
    · refine WL.x (X.pickF rfl rfl rfl) (by decide) ?_
      refine WL.nil ?_
      refine WK.nThen ?_
      refine WC.condF rfl ?_
      refine WC.skip ?_
      refine WK.nThen ?_
      refine WC.seq ?_
      refine WC.seq ?_
      refine WC.region ?_
      refine WL.x (X.assign rfl) (by decide) ?_
      refine WL.nil ?_
      refine WK.nThen ?_
      refine WC.block ?_
      have hnon : nonP x.D := ⟨by omega, by simp_all⟩
      refine WC.loop (G := Nat) (fun i => x.M.length - i) (fun i => m) (fun i => [blk b10 28 [v1, v3, v5]]) (fun i => [(1, .pointer (some ⟨b10, 0, none⟩)), (5, .int .i64 (↑i))]) (fun i => i ≤ x.M.length ∧ (∀ j, j < i → ∀ k, k < j + 1 → agrP x.D (gt x.M j) (gt x.M k))) 0 rfl (.refl _) (.cons rfl (.cons rfl .nil)) ?_ ?_
      · exact ⟨Nat.zero_le _, fun j hj => absurd hj (Nat.not_lt_zero _)⟩
      · rintro i hF13
        show WK _ _ m [blk b10 28 [v1, v3, v5]] [(1, .pointer (some ⟨b10, 0, none⟩)), (5, .int .i64 (↑i))] _
        replace hF13 : i ≤ x.M.length ∧ (∀ j, j < i → ∀ k, k < j + 1 → agrP x.D (gt x.M j) (gt x.M k)) := hF13
        obtain ⟨hi, hall0⟩ := hF13
        refine WC.seq ?_
        refine WC.seq ?_
        refine WC.region ?_
        refine WL.x (X.move rfl) (by decide) ?_
        refine WL.x (X.field Try.runUnderlying28 rfl Try.sizeOf26 rfl) (by decide) ?_
        refine WL.x (X.loadB (k := 0) Try.isAgg26 rfl rfl rfl) (by decide) ?_
        refine WL.x (X.len Try.runUnderlying26 rfl hs6) (by decide) ?_
        refine WL.cond (X.lss rfl rfl) (by decide) (fun h14 => ?_) (fun h14 => ?_)
        · refine WL.nil ?_
          refine WK.nThen ?_
          refine WC.condT rfl ?_
          refine WC.skip ?_
          refine WK.nThen ?_
          refine WC.seq ?_
          refine WC.block ?_
          refine WC.seq ?_
          refine WC.region ?_
          refine WL.x (X.assign rfl) (by decide) ?_
          refine WL.nil ?_
          refine WK.nThen ?_
          refine WC.block ?_
          refine WC.loop (G := Nat) (fun k => i + 1 - k) (fun k => m) (fun k => [blk b10 28 [v1, v3, v5]]) (fun k => [(1, .pointer (some ⟨b10, 0, none⟩)), (5, .int .i64 (↑i)), (6, .int .i64 (↑k))]) (fun k => k ≤ i + 1 ∧ (∀ j, j < k → agrP x.D (gt x.M i) (gt x.M j))) 0 rfl (.refl _) (.cons rfl (.cons rfl (.cons rfl .nil))) ?_ ?_
          · exact ⟨Nat.zero_le _, fun j hj => absurd hj (Nat.not_lt_zero _)⟩
          · rintro k hF15
            show WK _ _ m [blk b10 28 [v1, v3, v5]] [(1, .pointer (some ⟨b10, 0, none⟩)), (5, .int .i64 (↑i)), (6, .int .i64 (↑k))] _
            replace hF15 : k ≤ i + 1 ∧ (∀ j, j < k → agrP x.D (gt x.M i) (gt x.M j)) := hF15
            obtain ⟨hk, hall⟩ := hF15
            refine WC.seq ?_
            refine WC.seq ?_
            refine WC.region ?_
            refine WL.x (X.move rfl) (by decide) ?_
            refine WL.x (X.move rfl) (by decide) ?_
            refine WL.cond (X.leq rfl rfl) (by decide) (fun h16 => ?_) (fun h16 => ?_)
            · refine WL.nil ?_
              refine WK.nThen ?_
              refine WC.condT rfl ?_
              refine WC.skip ?_
              refine WK.nThen ?_
              refine WC.seq ?_
              refine WC.block ?_
              refine WC.seq ?_
              refine WC.draw (π := (.cons 0 (.cons 1 (.cons 2 (.cons 3 (.cons 4 (.cons 5 (.cons 6 (.cons 7 (.cons 8 (.cons 9 (.cons 10 (.cons 11 (.cons 12 (.cons 13 (.cons 14 (.cons 15 (.cons 16 (.cons 17 .done))))))))))))))))))) [] [] rfl (by kernel_rfl) ?_
              refine DW.x rfl rfl (X.field Try.runUnderlying28 rfl Try.sizeOf25 rfl) (by decide) ?_
              refine DW.x rfl rfl (X.loadBP (k := 0) (vs := [v1, v3]) Try.isAgg25 Try.sizeOf25 rfl rfl rfl rfl) (by decide) ?_
              refine DW.x rfl rfl (X.field Try.runUnderlying28 rfl Try.sizeOf26 rfl) (by decide) ?_
              refine DW.x rfl rfl (X.loadB (k := 0) Try.isAgg26 rfl rfl rfl) (by decide) ?_
              refine DW.x rfl rfl (X.move rfl) (by decide) ?_
              refine DW.xe rfl rfl (E.idxN i Try.runUnderlying26 Try.sizeOf33 rfl rfl hs6 (by omega)) (by decide) (fun p17 hp18 => ?_)
              refine DW.xe rfl rfl (E.loadAgg Try.isAgg33 Try.sizeOf33 rfl hp18) (by decide) (fun c19 hc20 => ?_)
              obtain rfl := hc20
              refine DW.x rfl rfl (X.field Try.runUnderlying28 rfl Try.sizeOf26 rfl) (by decide) ?_
              refine DW.x rfl rfl (X.loadB (k := 0) Try.isAgg26 rfl rfl rfl) (by decide) ?_
              refine DW.x rfl rfl (X.move rfl) (by decide) ?_
              refine DW.xe rfl rfl (E.idxN k Try.runUnderlying26 Try.sizeOf33 rfl rfl hs6 (by omega)) (by decide) (fun p21 hp22 => ?_)
              refine DW.xe rfl rfl (E.loadAgg Try.isAgg33 Try.sizeOf33 rfl hp22) (by decide) (fun c23 hc24 => ?_)
              obtain rfl := hc24
              refine DW.x rfl rfl (X.call Try.call55 rfl (agree55 _ _ x.D ⟨_, _, rfl, hs2, hs4⟩ _ (gt x.M i) rfl _ (gt x.M k) rfl )) (by decide) ?_
              refine DW.x rfl rfl (X.move rfl) (by decide) ?_
              refine DW.x rfl rfl (X.extract rfl rfl) (by decide) ?_
              refine DW.x rfl rfl (X.extract rfl rfl) (by decide) ?_
              refine DW.x rfl rfl (X.assign rfl) (by decide) ?_
              refine DW.x rfl rfl (X.assign rfl) (by decide) ?_
              refine DW.nil ?_
              refine WK.nThen ?_
              refine WC.seq ?_
              refine WC.region ?_
              refine WL.x (X.move rfl) (by decide) ?_
              refine WL.condn (X.neq rfl rfl) (by decide) (fun h25 => ?_) (fun h25 => ?_)
              · refine WL.x (X.move rfl) (by decide) ?_
                refine WL.no rfl rfl rfl (by decide) ?_
                refine WL.no rfl rfl rfl (by decide) ?_
                refine WL.x (X.pickT rfl rfl rfl) (by decide) ?_
                refine WL.nil ?_
                refine WK.nThen ?_
                refine WC.condT rfl ?_
                refine WC.seq ?_
                refine WC.region ?_
                refine WL.x (X.assign rfl) (by decide) ?_
                refine WL.nil ?_
                refine WK.nThen ?_
                refine WC.ret ?_
                refine WK.rBlock ?_
                refine WK.rThen ?_
                refine WK.rThen ?_
                refine WK.rBlock ?_
                refine WK.rBlock ?_
                refine WK.rThen ?_
                refine WK.rThen ?_
                refine WK.rBlock ?_
                refine WK.rThen ?_
                refine WK.ret1 rfl rfl (fun w' hw' => Ret.exact hw' ?_)
                first | exact bool_true ⟨hnon, fun i_ hi_ => hall0 i_ (by omega)⟩ | exact bool_false (fun h_ => by have := h_.1.1; omega) | exact bool_false (fun h_ => by have := (h_.2 i (by omega) k (by omega)).1; omega) | (refine bool_false (fun h_ => ?_); have := (h_.2 i (by omega) k (by omega)).2; simp_all; done) | (refine bool_false (fun h_ => ?_); have := h_.1.2; simp_all; done)
              · refine WL.x (X.move rfl) (by decide) ?_
                refine WL.yes rfl rfl ?_
                refine WL.x (X.move rfl) (by decide) ?_
                refine WL.yes rfl rfl ?_
                refine WL.condb (X.not rfl) (by decide) (fun h26 => ?_) (fun h26 => ?_)
                · refine WL.x (X.pickF rfl rfl rfl) (by decide) ?_
                  refine WL.nil ?_
                  refine WK.nThen ?_
                  refine WC.condT rfl ?_
                  refine WC.seq ?_
                  refine WC.region ?_
                  refine WL.x (X.assign rfl) (by decide) ?_
                  refine WL.nil ?_
                  refine WK.nThen ?_
                  refine WC.ret ?_
                  refine WK.rBlock ?_
                  refine WK.rThen ?_
                  refine WK.rThen ?_
                  refine WK.rBlock ?_
                  refine WK.rBlock ?_
                  refine WK.rThen ?_
                  refine WK.rThen ?_
                  refine WK.rBlock ?_
                  refine WK.rThen ?_
                  refine WK.ret1 rfl rfl (fun w' hw' => Ret.exact hw' ?_)
                  first | exact bool_true ⟨hnon, fun i_ hi_ => hall0 i_ (by omega)⟩ | exact bool_false (fun h_ => by have := h_.1.1; omega) | exact bool_false (fun h_ => by have := (h_.2 i (by omega) k (by omega)).1; omega) | (refine bool_false (fun h_ => ?_); have := (h_.2 i (by omega) k (by omega)).2; simp_all; done) | (refine bool_false (fun h_ => ?_); have := h_.1.2; simp_all; done)
                · refine WL.x (X.pickF rfl rfl rfl) (by decide) ?_
                  refine WL.nil ?_
                  refine WK.nThen ?_
                  refine WC.condF rfl ?_
                  refine WC.skip ?_
                  refine WK.nBlock ?_
                  refine WK.nThen ?_
                  refine WC.region ?_
                  refine WL.x (X.move rfl) (by decide) ?_
                  refine WL.x (X.add rfl rfl (by omega) (by omega)) (by decide) ?_
                  refine WL.x (X.assign rfl) (by decide) ?_
                  refine WL.nil ?_
                  refine WK.nThen ?_
                  refine WK.next (k + 1) rfl (.refl _) (.cons rfl (.cons rfl (.cons rfl .nil))) ?_ ?_
                  · exact ⟨by omega, fun j hj => by rcases Nat.lt_succ_iff_lt_or_eq.1 hj with h | h; exact hall j h; subst h; exact ⟨by omega, by (simp_all; done)⟩⟩
                  · omega
            · refine WL.nil ?_
              refine WK.nThen ?_
              refine WC.condF rfl ?_
              refine WC.exit ?_
              refine WK.eThen ?_
              refine WK.eThen ?_
              refine WK.eHit ?_
              refine WK.nBlock ?_
              refine WK.nThen ?_
              refine WC.region ?_
              refine WL.x (X.move rfl) (by decide) ?_
              refine WL.x (X.add rfl rfl (by omega) (by omega)) (by decide) ?_
              refine WL.x (X.assign rfl) (by decide) ?_
              refine WL.nil ?_
              refine WK.nThen ?_
              refine WK.next (i + 1) rfl (.refl _) (.cons rfl (.cons rfl .nil)) ?_ ?_
              · exact ⟨by omega, fun j hj => by rcases Nat.lt_succ_iff_lt_or_eq.1 hj with h | h; exact hall0 j h; subst h; exact fun q_ hq_ => hall q_ (by omega)⟩
              · omega
        · refine WL.nil ?_
          refine WK.nThen ?_
          refine WC.condF rfl ?_
          refine WC.exit ?_
          refine WK.eThen ?_
          refine WK.eThen ?_
          refine WK.eHit ?_
          refine WK.nThen ?_
          refine WC.seq ?_
          refine WC.region ?_
          refine WL.x (X.assign rfl) (by decide) ?_
          refine WL.nil ?_
          refine WK.nThen ?_
          refine WC.ret ?_
          refine WK.ret1 rfl rfl (fun w' hw' => Ret.exact hw' ?_)
          first | exact bool_true ⟨hnon, fun i_ hi_ => hall0 i_ (by omega)⟩ | exact bool_false (fun h_ => by have := h_.1.1; omega) | exact bool_false (fun h_ => by have := (h_.2 i (by omega) k (by omega)).1; omega) | (refine bool_false (fun h_ => ?_); have := (h_.2 i (by omega) k (by omega)).2; simp_all; done) | (refine bool_false (fun h_ => ?_); have := h_.1.2; simp_all; done)

theorem without36 (m : Mem) (vm_ : Value) (m_ : List Mark) (hm_ : Sl m vm_ m_) (vl : Value) (l : List Int) (hl : Sl m vl l)  (h1 : m_.length ≤ 1000) : Pure Try.prog 36 #[vm_, vl] m (fun m' v => ∃ r0, v = r0 ∧ Sl m' r0 (woN m_ l m_.length)) := by
  have lm_ := hm_.le
  have ll := hl.le
  have hwl_ := woN_len m_ l
  refine Pure.start Try.func36 rfl Try.ntmps36 rfl fun wld => ?_
  refine WC.seq ?_
  refine WC.region ?_
  refine WL.x (X.assign rfl) (by decide) ?_
  refine WL.nil ?_
  refine WK.nThen ?_
  refine WC.seq ?_
  refine WK.ownF Mark 33 ?_
  refine WC.region ?_
  refine WL.x (X.assign rfl) (by decide) ?_
  refine WL.nil ?_
  refine WK.nThen ?_
  refine WC.seq ?_
  refine WC.seq ?_
  refine WC.region ?_
  refine WL.x (X.assign rfl) (by decide) ?_
  refine WL.nil ?_
  refine WK.nThen ?_
  refine WC.block ?_
  refine WC.loop (G := Nat × Value) (fun (k, vo) => m_.length - k) (fun (k, vo) => m) (fun (k, vo) => [rowF (vo) 33 (woN m_ l k)]) (fun (k, vo) => [(0, vm_), (1, vl), (5, vo), (6, .int .i64 (↑k))]) (fun (k, vo) => k ≤ m_.length) ((0, Value.slice none 0 0)) rfl (.refl _) (.cons rfl (.cons rfl (.cons rfl (.cons rfl .nil)))) ?_ ?_
  · exact Nat.zero_le _
  · rintro ⟨k, vo⟩ hF1
    show WK _ _ m [rowF (vo) 33 (woN m_ l k)] [(0, vm_), (1, vl), (5, vo), (6, .int .i64 (↑k))] _
    replace hF1 : k ≤ m_.length := hF1
    have hk := hF1
    refine WC.seq ?_
    refine WC.seq ?_
    refine WC.region ?_
    refine WL.x (X.move rfl) (by decide) ?_
    refine WL.x (X.move rfl) (by decide) ?_
    refine WL.x (X.len Try.runUnderlying26 rfl hm_) (by decide) ?_
    refine WL.cond (X.lss rfl rfl) (by decide) (fun h2 => ?_) (fun h2 => ?_)
    · refine WL.nil ?_
      refine WK.nThen ?_
      refine WC.condT rfl ?_
      refine WC.skip ?_
      refine WK.nThen ?_
      refine WC.seq ?_
      refine WC.block ?_
      refine WC.seq ?_
      have hwl := woN_len m_ l k
      refine WC.region ?_
      refine WL.x (X.move rfl) (by decide) ?_
      refine WL.x (X.move rfl) (by decide) ?_
      refine WL.cond (X.call Try.call32 rfl (has32 _ _ _ hl _ )) (by decide) (fun h3 => ?_) (fun h3 => ?_)
      · refine WL.x (X.not rfl) (by decide) ?_
        refine WL.nil ?_
        refine WK.nThen ?_
        refine WC.condF rfl ?_
        refine WC.skip ?_
        refine WK.nBlock ?_
        refine WK.nThen ?_
        refine WC.region ?_
        refine WL.x (X.move rfl) (by decide) ?_
        refine WL.x (X.add rfl rfl (by omega) (by omega)) (by decide) ?_
        refine WL.x (X.assign rfl) (by decide) ?_
        refine WL.nil ?_
        refine WK.nThen ?_
        have he4 : (woN m_ l k) = (woN m_ l ((k + 1))) := (by first | exact woN_yes (by assumption) | exact woN_no (by assumption))
        rw [he4]
        refine WK.next ((k + 1, vo)) rfl (.refl _) (.cons rfl (.cons rfl (.cons rfl (.cons rfl .nil)))) ?_ ?_
        · omega
        · (dsimp only; omega)
      · refine WL.x (X.not rfl) (by decide) ?_
        refine WL.nil ?_
        refine WK.nThen ?_
        refine WC.condT rfl ?_
        refine WC.region ?_
        refine WL.x (X.move rfl) (by decide) ?_
        refine WL.x (X.move rfl) (by decide) ?_
        refine WL.x (X.move rfl) (by decide) ?_
        refine WL.xe (E.idxN k Try.runUnderlying26 Try.sizeOf33 rfl rfl hm_ (by omega)) (by decide) (fun p5 hp6 => ?_)
        refine WL.xe (E.loadAgg Try.isAgg33 Try.sizeOf33 rfl hp6) (by decide) (fun c7 hc8 => ?_)
        obtain rfl := hc8
        refine WL.tl (T.lit1 sl26 rfl rfl rfl (by decide)) (by decide) fun b9 => ?_
        refine WL.ta (T.appendF (k := 0) (a := gt m_ k) sl26 rfl rfl rfl rfl (by first | omega | (simp; done) | (simp; omega)) (by decide)) (by decide) (fun v10 => ?_)
        refine WL.x (X.assign rfl) (by decide) ?_
        refine WL.nil ?_
        refine WK.nBlock ?_
        refine WK.nThen ?_
        refine WC.region ?_
        refine WL.x (X.move rfl) (by decide) ?_
        refine WL.x (X.add rfl rfl (by omega) (by omega)) (by decide) ?_
        refine WL.x (X.assign rfl) (by decide) ?_
        refine WL.nil ?_
        refine WK.nThen ?_
        have he11 : ((woN m_ l k) ++ [gt m_ k]) = (woN m_ l ((k + 1))) := (by first | exact woN_yes (by assumption) | exact woN_no (by assumption))
        rw [he11]
        refine WK.next ((k + 1, v10)) rfl (.refl _) (.cons rfl (.cons rfl (.cons rfl (.cons rfl .nil)))) ?_ ?_
        · omega
        · (dsimp only; omega)
    · refine WL.nil ?_
      refine WK.nThen ?_
      refine WC.condF rfl ?_
      refine WC.exit ?_
      refine WK.eThen ?_
      refine WK.eThen ?_
      refine WK.eHit ?_
      refine WK.nThen ?_
      refine WC.seq ?_
      obtain rfl : k = m_.length := (by omega)
      refine WC.region ?_
      refine WL.x (X.move rfl) (by decide) ?_
      refine WL.x (X.assign rfl) (by decide) ?_
      refine WL.nil ?_
      refine WK.nThen ?_
      refine WC.ret ?_
      refine WK.freezeF 0 rfl rfl (by have := woN_len m_ l m_.length; unfold lenB; omega) (fun m12 hle13 hs14 => ?_)
      replace hm_ := hm_.mono hle13
      replace hl := hl.mono hle13
      refine WK.ret1 rfl rfl (fun w' hw' => Ret.mem hw' ?_)
      exact ⟨_, rfl, hs14⟩

theorem pick34 (m : Mem) (vm_ : Value) (m_ : List Mark) (hm_ : Sl m vm_ m_) (vl : Value) (l : List Int) (hl : Sl m vl l)  (h1 : l.length ≤ 1000) : Pure Try.prog 34 #[vm_, vl] m (fun m' v => ∃ r0, v = r0 ∧ Sl m' r0 (pickN m_ l l.length)) := by
  have lm_ := hm_.le
  have ll := hl.le
  refine Pure.start Try.func34 rfl Try.ntmps34 rfl fun wld => ?_
  refine WC.seq ?_
  refine WC.region ?_
  refine WL.x (X.assign rfl) (by decide) ?_
  refine WL.nil ?_
  refine WK.nThen ?_
  refine WC.seq ?_
  refine WK.ownF Mark 33 ?_
  refine WC.region ?_
  refine WL.x (X.assign rfl) (by decide) ?_
  refine WL.nil ?_
  refine WK.nThen ?_
  refine WC.seq ?_
  refine WC.seq ?_
  refine WC.region ?_
  refine WL.x (X.assign rfl) (by decide) ?_
  refine WL.nil ?_
  refine WK.nThen ?_
  refine WC.block ?_
  refine WC.loop (G := Nat × Value) (fun (k, vo) => l.length - k) (fun (k, vo) => m) (fun (k, vo) => [rowF (vo) 33 (pickN m_ l k)]) (fun (k, vo) => [(0, vm_), (1, vl), (5, vo), (6, .int .i64 (↑k))]) (fun (k, vo) => k ≤ l.length) ((0, Value.slice none 0 0)) rfl (.refl _) (.cons rfl (.cons rfl (.cons rfl (.cons rfl .nil)))) ?_ ?_
  · exact Nat.zero_le _
  · rintro ⟨k, vo⟩ hF1
    show WK _ _ m [rowF (vo) 33 (pickN m_ l k)] [(0, vm_), (1, vl), (5, vo), (6, .int .i64 (↑k))] _
    replace hF1 : k ≤ l.length := hF1
    have hk := hF1
    refine WC.seq ?_
    refine WC.seq ?_
    refine WC.region ?_
    refine WL.x (X.move rfl) (by decide) ?_
    refine WL.x (X.move rfl) (by decide) ?_
    refine WL.x (X.len Try.runUnderlying29 rfl hl) (by decide) ?_
    refine WL.cond (X.lss rfl rfl) (by decide) (fun h2 => ?_) (fun h2 => ?_)
    · refine WL.nil ?_
      refine WK.nThen ?_
      refine WC.condT rfl ?_
      refine WC.skip ?_
      refine WK.nThen ?_
      refine WC.seq ?_
      refine WC.block ?_
      refine WC.seq ?_
      have hwl := pickN_len m_ l k
      refine WC.region ?_
      refine WL.x (X.move rfl) (by decide) ?_
      refine WL.x (X.move rfl) (by decide) ?_
      refine WL.xe (E.idxN k Try.runUnderlying29 Try.sizeOf3 rfl rfl hl (by omega)) (by decide) (fun p3 hp4 => ?_)
      refine WL.x (X.loadInt Try.isAgg3 rfl hp4) (by decide) ?_
      refine WL.cond (X.geq rfl rfl) (by decide) (fun h5 => ?_) (fun h5 => ?_)
      · refine WL.x (X.move rfl) (by decide) ?_
        refine WL.yes rfl rfl ?_
        refine WL.x (X.move rfl) (by decide) ?_
        refine WL.yes rfl rfl ?_
        refine WL.x (X.move rfl) (by decide) ?_
        refine WL.yes rfl rfl ?_
        refine WL.xe (E.idxN k Try.runUnderlying29 Try.sizeOf3 rfl rfl hl (by omega)) (by decide) (fun p6 hp7 => ?_)
        refine WL.yes rfl rfl ?_
        refine WL.x (X.loadInt Try.isAgg3 rfl hp7) (by decide) ?_
        refine WL.yes rfl rfl ?_
        refine WL.x (X.move rfl) (by decide) ?_
        refine WL.yes rfl rfl ?_
        refine WL.x (X.len Try.runUnderlying26 rfl hm_) (by decide) ?_
        refine WL.yes rfl rfl ?_
        refine WL.cond (X.lss rfl rfl) (by decide) (fun h8 => ?_) (fun h8 => ?_)
        · refine WL.x (X.pickT rfl rfl rfl) (by decide) ?_
          refine WL.nil ?_
          refine WK.nThen ?_
          refine WC.condT rfl ?_
          refine WC.region ?_
          refine WL.x (X.move rfl) (by decide) ?_
          refine WL.x (X.move rfl) (by decide) ?_
          refine WL.x (X.move rfl) (by decide) ?_
          refine WL.x (X.move rfl) (by decide) ?_
          refine WL.xe (E.idxN k Try.runUnderlying29 Try.sizeOf3 rfl rfl hl (by omega)) (by decide) (fun p9 hp10 => ?_)
          refine WL.x (X.loadInt Try.isAgg3 rfl hp10) (by decide) ?_
          refine WL.xe (E.idx Try.runUnderlying26 Try.sizeOf33 rfl rfl hm_ (by omega) (by omega)) (by decide) (fun p11 hp12 => ?_)
          refine WL.xe (E.loadAgg Try.isAgg33 Try.sizeOf33 rfl hp12) (by decide) (fun c13 hc14 => ?_)
          obtain rfl := hc14
          refine WL.tl (T.lit1 sl26 rfl rfl rfl (by decide)) (by decide) fun b15 => ?_
          refine WL.ta (T.appendF (k := 0) (a := gt m_ ((gt l k : Int).toNat)) sl26 rfl rfl rfl rfl (by first | omega | (simp; done) | (simp; omega)) (by decide)) (by decide) (fun v16 => ?_)
          refine WL.x (X.assign rfl) (by decide) ?_
          refine WL.nil ?_
          refine WK.nBlock ?_
          refine WK.nThen ?_
          refine WC.region ?_
          refine WL.x (X.move rfl) (by decide) ?_
          refine WL.x (X.add rfl rfl (by omega) (by omega)) (by decide) ?_
          refine WL.x (X.assign rfl) (by decide) ?_
          refine WL.nil ?_
          refine WK.nThen ?_
          have he17 : ((pickN m_ l k) ++ [gt m_ ((gt l k : Int).toNat)]) = (pickN m_ l ((k + 1))) := (by first | exact pickN_yes ⟨by omega, by omega⟩ | exact pickN_no (fun h_ => by unfold inM at h_; omega))
          rw [he17]
          refine WK.next ((k + 1, v16)) rfl (.refl _) (.cons rfl (.cons rfl (.cons rfl (.cons rfl .nil)))) ?_ ?_
          · omega
          · (dsimp only; omega)
        · refine WL.x (X.pickT rfl rfl rfl) (by decide) ?_
          refine WL.nil ?_
          refine WK.nThen ?_
          refine WC.condF rfl ?_
          refine WC.skip ?_
          refine WK.nBlock ?_
          refine WK.nThen ?_
          refine WC.region ?_
          refine WL.x (X.move rfl) (by decide) ?_
          refine WL.x (X.add rfl rfl (by omega) (by omega)) (by decide) ?_
          refine WL.x (X.assign rfl) (by decide) ?_
          refine WL.nil ?_
          refine WK.nThen ?_
          have he18 : (pickN m_ l k) = (pickN m_ l ((k + 1))) := (by first | exact pickN_yes ⟨by omega, by omega⟩ | exact pickN_no (fun h_ => by unfold inM at h_; omega))
          rw [he18]
          refine WK.next ((k + 1, vo)) rfl (.refl _) (.cons rfl (.cons rfl (.cons rfl (.cons rfl .nil)))) ?_ ?_
          · omega
          · (dsimp only; omega)
      · refine WL.x (X.move rfl) (by decide) ?_
        refine WL.no rfl rfl rfl (by decide) ?_
        refine WL.no rfl rfl rfl (by decide) ?_
        refine WL.no rfl rfl rfl (by decide) ?_
        refine WL.no rfl rfl rfl (by decide) ?_
        refine WL.no rfl rfl rfl (by decide) ?_
        refine WL.no rfl rfl rfl (by decide) ?_
        refine WL.no rfl rfl rfl (by decide) ?_
        refine WL.x (X.pickF rfl rfl rfl) (by decide) ?_
        refine WL.nil ?_
        refine WK.nThen ?_
        refine WC.condF rfl ?_
        refine WC.skip ?_
        refine WK.nBlock ?_
        refine WK.nThen ?_
        refine WC.region ?_
        refine WL.x (X.move rfl) (by decide) ?_
        refine WL.x (X.add rfl rfl (by omega) (by omega)) (by decide) ?_
        refine WL.x (X.assign rfl) (by decide) ?_
        refine WL.nil ?_
        refine WK.nThen ?_
        have he19 : (pickN m_ l k) = (pickN m_ l ((k + 1))) := (by first | exact pickN_yes ⟨by omega, by omega⟩ | exact pickN_no (fun h_ => by unfold inM at h_; omega))
        rw [he19]
        refine WK.next ((k + 1, vo)) rfl (.refl _) (.cons rfl (.cons rfl (.cons rfl (.cons rfl .nil)))) ?_ ?_
        · omega
        · (dsimp only; omega)
    · refine WL.nil ?_
      refine WK.nThen ?_
      refine WC.condF rfl ?_
      refine WC.exit ?_
      refine WK.eThen ?_
      refine WK.eThen ?_
      refine WK.eHit ?_
      refine WK.nThen ?_
      refine WC.seq ?_
      obtain rfl : k = l.length := (by omega)
      refine WC.region ?_
      refine WL.x (X.move rfl) (by decide) ?_
      refine WL.x (X.assign rfl) (by decide) ?_
      refine WL.nil ?_
      refine WK.nThen ?_
      refine WC.ret ?_
      refine WK.freezeF 0 rfl rfl (by have := pickN_len m_ l l.length; unfold lenB; omega) (fun m20 hle21 hs22 => ?_)
      replace hm_ := hm_.mono hle21
      replace hl := hl.mono hle21
      refine WK.ret1 rfl rfl (fun w' hw' => Ret.mem hw' ?_)
      exact ⟨_, rfl, hs22⟩

theorem back49 (m : Mem) (vl : Value) (l : List Int) (hl : Sl m vl l)  (h1 : l.length ≤ 1000) (hpb : ∀ i, i < l.length → 0 ≤ gt l i ∧ gt l i ≤ 400) : Pure Try.prog 49 #[vl] m (fun m' v => ∃ r0, v = r0 ∧ Sl m' r0 (backL l)) := by
  have ll := hl.le
  refine Pure.start Try.func49 rfl Try.ntmps49 rfl fun wld => ?_
  refine WC.seq ?_
  refine WC.region ?_
  refine WL.x (X.assign rfl) (by decide) ?_
  refine WL.nil ?_
  refine WK.nThen ?_
  refine WC.seq ?_
  refine WK.ownF Int 3 ?_
  refine WC.region ?_
  refine WL.x (X.assign rfl) (by decide) ?_
  refine WL.nil ?_
  refine WK.nThen ?_
  refine WC.seq ?_
  refine WC.seq ?_
  refine WC.region ?_
  refine WL.x (X.move rfl) (by decide) ?_
  refine WL.x (X.len Try.runUnderlying29 rfl hl) (by decide) ?_
  refine WL.x (X.sub rfl rfl (by omega) (by omega)) (by decide) ?_
  refine WL.x (X.assign rfl) (by decide) ?_
  refine WL.nil ?_
  refine WK.nThen ?_
  refine WC.block ?_
  refine WC.loop (G := Nat × Value × Int) (fun (k, vo, i) => l.length - k) (fun (k, vo, i) => m) (fun (k, vo, i) => [rowF (vo) 3 ((List.range k).map (fun j => 400 - gt l (l.length - 1 - j)))]) (fun (k, vo, i) => [(0, vl), (3, vo), (4, .int .i64 (i))]) (fun (k, vo, i) => k ≤ l.length ∧ i = (↑l.length : Int) - 1 - ↑k) ((0, Value.slice none 0 0, (↑l.length : Int) - 1)) rfl (.refl _) (.cons rfl (.cons rfl (.cons rfl .nil))) ?_ ?_
  · exact ⟨Nat.zero_le _, by omega⟩
  · rintro ⟨k, vo, i⟩ hF1
    show WK _ _ m [rowF (vo) 3 ((List.range k).map (fun j => 400 - gt l (l.length - 1 - j)))] [(0, vl), (3, vo), (4, .int .i64 (i))] _
    replace hF1 : k ≤ l.length ∧ i = (↑l.length : Int) - 1 - ↑k := hF1
    obtain ⟨hk, hik⟩ := hF1
    refine WC.seq ?_
    refine WC.seq ?_
    refine WC.region ?_
    refine WL.x (X.move rfl) (by decide) ?_
    refine WL.cond (X.geq rfl rfl) (by decide) (fun h2 => ?_) (fun h2 => ?_)
    · refine WL.nil ?_
      refine WK.nThen ?_
      refine WC.condT rfl ?_
      refine WC.skip ?_
      refine WK.nThen ?_
      refine WC.seq ?_
      refine WC.block ?_
      have hgl := hpb i.toNat (by omega)
      have hiq : i.toNat = l.length - 1 - k := (by omega)
      refine WC.region ?_
      refine WL.x (X.move rfl) (by decide) ?_
      refine WL.x (X.move rfl) (by decide) ?_
      refine WL.x (X.move rfl) (by decide) ?_
      refine WL.xe (E.idx Try.runUnderlying29 Try.sizeOf3 rfl rfl hl (by omega) (by omega)) (by decide) (fun p3 hp4 => ?_)
      refine WL.x (X.loadInt Try.isAgg3 rfl hp4) (by decide) ?_
      refine WL.x (X.sub rfl rfl (by omega) (by omega)) (by decide) ?_
      refine WL.tl (T.lit1 sl29 rfl rfl rfl (by decide)) (by decide) fun b5 => ?_
      refine WL.ta (T.appendF (k := 0) (a := 400 - (gt l ((i : Int).toNat))) sl29 rfl rfl rfl rfl (by first | omega | (simp; done) | (simp; omega)) (by decide)) (by decide) (fun v6 => ?_)
      refine WL.x (X.assign rfl) (by decide) ?_
      refine WL.nil ?_
      refine WK.nBlock ?_
      refine WK.nThen ?_
      refine WC.region ?_
      refine WL.x (X.move rfl) (by decide) ?_
      refine WL.x (X.sub rfl rfl (by omega) (by omega)) (by decide) ?_
      refine WL.x (X.assign rfl) (by decide) ?_
      refine WL.nil ?_
      refine WK.nThen ?_
      have he7 : (((List.range k).map (fun j => 400 - gt l (l.length - 1 - j))) ++ [400 - (gt l ((i : Int).toNat))]) = ((List.range (k + 1)).map (fun j => 400 - gt l (l.length - 1 - j))) := (by rw [hiq]; exact map_succ2 _ _)
      rw [he7]
      refine WK.next ((k + 1, v6, i - 1)) rfl (.refl _) (.cons rfl (.cons rfl (.cons rfl .nil))) ?_ ?_
      · exact ⟨by omega, by omega⟩
      · (dsimp only; omega)
    · refine WL.nil ?_
      refine WK.nThen ?_
      refine WC.condF rfl ?_
      refine WC.exit ?_
      refine WK.eThen ?_
      refine WK.eThen ?_
      refine WK.eHit ?_
      refine WK.nThen ?_
      refine WC.seq ?_
      obtain rfl : k = l.length := (by omega)
      refine WC.region ?_
      refine WL.x (X.move rfl) (by decide) ?_
      refine WL.x (X.assign rfl) (by decide) ?_
      refine WL.nil ?_
      refine WK.nThen ?_
      refine WC.ret ?_
      refine WK.freezeF 0 rfl rfl (by simp [lenB]; omega) (fun m8 hle9 hs10 => ?_)
      replace hl := hl.mono hle9
      refine WK.ret1 rfl rfl (fun w' hw' => Ret.mem hw' ?_)
      exact ⟨_, rfl, hs10⟩

theorem turned45 (m : Mem) (cx : List Value) (x : Clk) (hx : Enc.rd m cx x)  (hok : Ok x.D x.M) : Pure Try.prog 45 #[.agg cx.toArray] m (fun m' v => ∃ r0, v = .agg r0.toArray ∧ Enc.rd m' r0 (turnC x)) := by
  obtain ⟨v1, v3, v5, rfl, hs2, hs4, hs6⟩ := hx
  have hl7 := hs2.le
  have hl8 := hs4.le
  have hl9 := hs6.le
  have hn_ := hok.dr.1.1.2
  have hs_ := hok.dr.1.2
  have hm_ := hok.n
  refine Pure.start Try.func45 rfl Try.ntmps45 rfl fun wld => ?_
  refine WC.seq ?_
  refine WC.region ?_
  refine WL.tn (T.boxB rfl rfl) (by decide) fun b10 => ?_
  refine WL.tn (T.alloc Try.zeroValue28 rfl) (by decide) fun b11 => ?_
  refine WL.nil ?_
  refine WK.nThen ?_
  refine WC.seq ?_
  refine WC.region ?_
  refine WL.tn (T.alloc Try.zeroValue28 rfl) (by decide) fun b12 => ?_
  refine WL.nil ?_
  refine WK.nThen ?_
  refine WC.seq ?_
  refine WK.ownF Span 31 ?_
  refine WK.ownF Stop 34 ?_
  refine WK.ownF Mark 33 ?_
  refine WC.region ?_
  refine WL.x (X.field Try.runUnderlying28 rfl Try.sizeOf25 rfl) (by decide) ?_
  refine WL.x (X.field Try.runUnderlying25 rfl Try.sizeOf22 rfl) (by decide) ?_
  refine WL.x (X.loadB (k := 5) Try.isAgg22 rfl rfl rfl) (by decide) ?_
  refine WL.x (X.len Try.runUnderlying22 rfl hs2) (by decide) ?_
  refine WL.x (X.assign rfl) (by decide) ?_
  refine WL.nil ?_
  refine WK.nThen ?_
  refine WC.seq ?_
  refine WC.seq ?_
  refine WC.region ?_
  refine WL.x (X.move rfl) (by decide) ?_
  refine WL.x (X.sub rfl rfl (by omega) (by omega)) (by decide) ?_
  refine WL.x (X.assign rfl) (by decide) ?_
  refine WL.nil ?_
  refine WK.nThen ?_
  refine WC.block ?_
  refine WC.loop (G := Nat × Value × Int) (fun (k, w0, i) => x.D.Rates.length - k) (fun (k, w0, i) => m) (fun (k, w0, i) => [rowF (((.slice none 0 0))) 33 (([] : List Mark)), rowF ((.slice none 0 0)) 34 (([] : List Stop)), rowF (w0) 31 ((List.range k).map (fun j => gt x.D.Rates (x.D.Rates.length - 1 - j))), blk b12 28 [w0, (.slice none 0 0), ((.slice none 0 0))], blk b11 28 [.slice none 0 0, .slice none 0 0, .slice none 0 0], blk b10 28 [v1, v3, v5]]) (fun (k, w0, i) => [(1, .pointer (some ⟨b10, 0, none⟩)), (2, .pointer (some ⟨b11, 0, none⟩)), (3, .pointer (some ⟨b12, 0, none⟩)), (4, .int .i64 (↑x.D.Rates.length)), (5, .int .i64 (i))]) (fun (k, w0, i) => k ≤ x.D.Rates.length ∧ i = (↑x.D.Rates.length : Int) - 1 - ↑k) ((0, Value.slice none 0 0, (↑x.D.Rates.length : Int) - 1)) rfl (.refl _) (.cons rfl (.cons rfl (.cons rfl (.cons rfl (.cons rfl .nil))))) ?_ ?_
  · exact ⟨Nat.zero_le _, by omega⟩
  · rintro ⟨k, w0, i⟩ hF13
    show WK _ _ m [rowF (((.slice none 0 0))) 33 (([] : List Mark)), rowF ((.slice none 0 0)) 34 (([] : List Stop)), rowF (w0) 31 ((List.range k).map (fun j => gt x.D.Rates (x.D.Rates.length - 1 - j))), blk b12 28 [w0, (.slice none 0 0), ((.slice none 0 0))], blk b11 28 [.slice none 0 0, .slice none 0 0, .slice none 0 0], blk b10 28 [v1, v3, v5]] [(1, .pointer (some ⟨b10, 0, none⟩)), (2, .pointer (some ⟨b11, 0, none⟩)), (3, .pointer (some ⟨b12, 0, none⟩)), (4, .int .i64 (↑x.D.Rates.length)), (5, .int .i64 (i))] _
    replace hF13 : k ≤ x.D.Rates.length ∧ i = (↑x.D.Rates.length : Int) - 1 - ↑k := hF13
    obtain ⟨hk, hik⟩ := hF13
    refine WC.seq ?_
    refine WC.seq ?_
    refine WC.region ?_
    refine WL.x (X.move rfl) (by decide) ?_
    refine WL.cond (X.geq rfl rfl) (by decide) (fun h14 => ?_) (fun h14 => ?_)
    · refine WL.nil ?_
      refine WK.nThen ?_
      refine WC.condT rfl ?_
      refine WC.skip ?_
      refine WK.nThen ?_
      refine WC.seq ?_
      refine WC.block ?_
      have hiq : i.toNat = x.D.Rates.length - 1 - k := (by omega)
      refine WC.draw (π := (.cons 0 (.cons 1 (.cons 2 (.cons 3 (.cons 4 (.cons 5 (.cons 6 (.cons 7 (.cons 8 (.cons 9 (.cons 10 (.cons 11 (.cons 12 (.cons 13 .done))))))))))))))) [9, 10, 13] [10, 13] rfl (by kernel_rfl) ?_
      refine DW.x rfl rfl (X.field Try.runUnderlying28 rfl Try.sizeOf25 rfl) (by decide) ?_
      refine DW.x rfl rfl (X.field Try.runUnderlying25 rfl Try.sizeOf22 rfl) (by decide) ?_
      refine DW.x rfl rfl (X.loadB (k := 3) Try.isAgg22 rfl rfl rfl) (by decide) ?_
      refine DW.x rfl rfl (X.field Try.runUnderlying28 rfl Try.sizeOf25 rfl) (by decide) ?_
      refine DW.x rfl rfl (X.field Try.runUnderlying25 rfl Try.sizeOf22 rfl) (by decide) ?_
      refine DW.x rfl rfl (X.loadB (k := 5) Try.isAgg22 rfl rfl rfl) (by decide) ?_
      refine DW.x rfl rfl (X.move rfl) (by decide) ?_
      refine DW.xe rfl rfl (E.idx Try.runUnderlying22 Try.sizeOf31 rfl rfl hs2 (by omega) (by omega)) (by decide) (fun p15 hp16 => ?_)
      refine DW.xe rfl rfl (E.loadAgg Try.isAgg31 Try.sizeOf31 rfl hp16) (by decide) (fun c17 hc18 => ?_)
      obtain rfl := hc18
      refine DW.tl rfl rfl rfl (T.lit1 sl22 rfl rfl rfl (by decide)) (by decide) fun b19 => ?_
      refine DW.ta rfl rfl rfl rfl (T.appendF (k := 2) (a := gt x.D.Rates ((i : Int).toNat)) sl22 rfl rfl rfl rfl (by first | omega | (simp; done) | (simp; omega)) (by decide)) (by decide) (fun v20 => ?_)
      refine DW.x rfl rfl (X.field Try.runUnderlying28 rfl Try.sizeOf25 rfl) (by decide) ?_
      refine DW.x rfl rfl (X.field Try.runUnderlying25 rfl Try.sizeOf22 rfl) (by decide) ?_
      refine DW.ts rfl rfl rfl rfl (OpTo.own1 (k := 2) rfl trivial (defd2 rfl rfl rfl) fun ho21 => T.storeB (k := 3) Try.sizeOf22 rfl rfl rfl ho21 (Nat.le_of_ble_eq_true rfl)) ?_
      refine DW.nil ?_
      refine WK.nBlock ?_
      refine WK.nThen ?_
      refine WC.region ?_
      refine WL.x (X.move rfl) (by decide) ?_
      refine WL.x (X.sub rfl rfl (by omega) (by omega)) (by decide) ?_
      refine WL.x (X.assign rfl) (by decide) ?_
      refine WL.nil ?_
      refine WK.nThen ?_
      have he22 : (((List.range k).map (fun j => gt x.D.Rates (x.D.Rates.length - 1 - j))) ++ [gt x.D.Rates ((i : Int).toNat)]) = ((List.range (k + 1)).map (fun j => gt x.D.Rates (x.D.Rates.length - 1 - j))) := (by rw [hiq]; exact map_succ2 _ _)
      rw [he22]
      refine WK.next ((k + 1, v20, i - 1)) rfl (.refl _) (.cons rfl (.cons rfl (.cons rfl (.cons rfl (.cons rfl .nil))))) ?_ ?_
      · exact ⟨by omega, by omega⟩
      · (dsimp only; omega)
    · refine WL.nil ?_
      refine WK.nThen ?_
      refine WC.condF rfl ?_
      refine WC.exit ?_
      refine WK.eThen ?_
      refine WK.eThen ?_
      refine WK.eHit ?_
      refine WK.nThen ?_
      refine WC.seq ?_
      refine WC.seq ?_
      refine WC.region ?_
      refine WL.x (X.assign rfl) (by decide) ?_
      refine WL.nil ?_
      refine WK.nThen ?_
      refine WC.block ?_
      refine WC.loop (G := Nat × Value) (fun (k1, w1) => x.D.Stops.length - k1) (fun (k1, w1) => m) (fun (k1, w1) => [rowF (((.slice none 0 0))) 33 (([] : List Mark)), rowF (w1) 34 ((List.range k1).map (fun j => (⟨(x.D.Rates.length : Int) - 1 - (gt x.D.Stops j).Column, (gt x.D.Stops j).Ticks⟩ : Stop))), rowF (w0) 31 ((List.range k).map (fun j => gt x.D.Rates (x.D.Rates.length - 1 - j))), blk b12 28 [w0, w1, ((.slice none 0 0))], blk b11 28 [.slice none 0 0, .slice none 0 0, .slice none 0 0], blk b10 28 [v1, v3, v5]]) (fun (k1, w1) => [(1, .pointer (some ⟨b10, 0, none⟩)), (2, .pointer (some ⟨b11, 0, none⟩)), (3, .pointer (some ⟨b12, 0, none⟩)), (4, .int .i64 (↑x.D.Rates.length)), (6, .int .i64 (↑k1))]) (fun (k1, w1) => k1 ≤ x.D.Stops.length) ((0, (Value.slice none 0 0))) rfl (.refl _) (.cons rfl (.cons rfl (.cons rfl (.cons rfl (.cons rfl .nil))))) ?_ ?_
      · exact Nat.zero_le _
      · rintro ⟨k1, w1⟩ hF23
        show WK _ _ m [rowF (((.slice none 0 0))) 33 (([] : List Mark)), rowF (w1) 34 ((List.range k1).map (fun j => (⟨(x.D.Rates.length : Int) - 1 - (gt x.D.Stops j).Column, (gt x.D.Stops j).Ticks⟩ : Stop))), rowF (w0) 31 ((List.range k).map (fun j => gt x.D.Rates (x.D.Rates.length - 1 - j))), blk b12 28 [w0, w1, ((.slice none 0 0))], blk b11 28 [.slice none 0 0, .slice none 0 0, .slice none 0 0], blk b10 28 [v1, v3, v5]] [(1, .pointer (some ⟨b10, 0, none⟩)), (2, .pointer (some ⟨b11, 0, none⟩)), (3, .pointer (some ⟨b12, 0, none⟩)), (4, .int .i64 (↑x.D.Rates.length)), (6, .int .i64 (↑k1))] _
        replace hF23 : k1 ≤ x.D.Stops.length := hF23
        have hk1 := hF23
        refine WC.seq ?_
        refine WC.seq ?_
        refine WC.region ?_
        refine WL.x (X.move rfl) (by decide) ?_
        refine WL.x (X.field Try.runUnderlying28 rfl Try.sizeOf25 rfl) (by decide) ?_
        refine WL.x (X.field Try.runUnderlying25 rfl Try.sizeOf23 rfl) (by decide) ?_
        refine WL.x (X.loadB (k := 5) Try.isAgg23 rfl rfl rfl) (by decide) ?_
        refine WL.x (X.len Try.runUnderlying23 rfl hs4) (by decide) ?_
        refine WL.cond (X.lss rfl rfl) (by decide) (fun h24 => ?_) (fun h24 => ?_)
        · refine WL.nil ?_
          refine WK.nThen ?_
          refine WC.condT rfl ?_
          refine WC.skip ?_
          refine WK.nThen ?_
          refine WC.seq ?_
          refine WC.block ?_
          refine WC.seq ?_
          have hst := stop_ok hok.dr (i := k1) (by omega)
          unfold spOk at hst
          refine WC.region ?_
          refine WL.x (X.field Try.runUnderlying28 rfl Try.sizeOf25 rfl) (by decide) ?_
          refine WL.x (X.field Try.runUnderlying25 rfl Try.sizeOf23 rfl) (by decide) ?_
          refine WL.x (X.loadB (k := 5) Try.isAgg23 rfl rfl rfl) (by decide) ?_
          refine WL.x (X.move rfl) (by decide) ?_
          refine WL.xe (E.idxN k1 Try.runUnderlying23 Try.sizeOf34 rfl rfl hs4 (by omega)) (by decide) (fun p25 hp26 => ?_)
          refine WL.xe (E.loadAgg Try.isAgg34 Try.sizeOf34 rfl hp26) (by decide) (fun c27 hc28 => ?_)
          obtain rfl := hc28
          refine WL.tn (T.alloc Try.zeroValue34 rfl) (by decide) fun b29 => ?_
          refine WL.ts (T.storeBA (k := 0) Try.sizeOf34 rfl rfl rfl (one_cons rfl (one_cons rfl (one_cons rfl one_nil))) rfl rfl) ?_
          refine WL.nil ?_
          refine WK.nThen ?_
          refine WC.region ?_
          refine WL.x (X.field Try.runUnderlying28 rfl Try.sizeOf25 rfl) (by decide) ?_
          refine WL.x (X.field Try.runUnderlying25 rfl Try.sizeOf23 rfl) (by decide) ?_
          refine WL.x (X.loadB (k := 4) Try.isAgg23 rfl rfl rfl) (by decide) ?_
          refine WL.x (X.move rfl) (by decide) ?_
          refine WL.x (X.sub rfl rfl (by omega) (by omega)) (by decide) ?_
          refine WL.x (X.field Try.runUnderlying34 rfl Try.sizeOf3 rfl) (by decide) ?_
          refine WL.x (X.loadB (k := 0) Try.isAgg3 rfl rfl rfl) (by decide) ?_
          refine WL.x (X.sub rfl rfl (by omega) (by omega)) (by decide) ?_
          refine WL.x (X.field Try.runUnderlying34 rfl Try.sizeOf31 rfl) (by decide) ?_
          refine WL.x (X.loadBP (k := 0) (vs := [.int .i64 (((gt x.D.Stops k1).Ticks).Lo), .int .i64 (((gt x.D.Stops k1).Ticks).Hi)]) Try.isAgg31 Try.sizeOf31 rfl rfl rfl rfl) (by decide) ?_
          refine WL.x (V := Value.agg [.int .i64 ((↑x.D.Rates.length - 1) - ((gt x.D.Stops k1).Column)), .int .i64 (((gt x.D.Stops k1).Ticks).Lo), .int .i64 (((gt x.D.Stops k1).Ticks).Hi)].toArray) (X.build Try.zeroValue34 Try.runUnderlying34 (places34 _ Try.underlying34) rfl rfl) (by decide) ?_
          refine WL.tl (T.lit1 sl23 rfl rfl rfl (by decide)) (by decide) fun b30 => ?_
          refine WL.ta (T.appendF (k := 2) (a := (Stop.mk ((↑x.D.Rates.length - 1) - ((gt x.D.Stops k1).Column)) ((gt x.D.Stops k1).Ticks))) sl23 rfl rfl rfl rfl (by first | omega | (simp; done) | (simp; omega)) (by decide)) (by decide) (fun v31 => ?_)
          refine WL.x (X.field Try.runUnderlying28 rfl Try.sizeOf25 rfl) (by decide) ?_
          refine WL.x (X.field Try.runUnderlying25 rfl Try.sizeOf23 rfl) (by decide) ?_
          refine WL.own1 (k := 2) rfl (fun ho32 => ?_)
          refine WL.ts (T.storeB (k := 4) Try.sizeOf23 rfl rfl rfl ho32 (Nat.le_of_ble_eq_true rfl)) ?_
          refine WL.nil ?_
          refine WK.nBlock ?_
          refine WK.nThen ?_
          refine WC.region ?_
          refine WL.x (X.move rfl) (by decide) ?_
          refine WL.x (X.add rfl rfl (by omega) (by omega)) (by decide) ?_
          refine WL.x (X.assign rfl) (by decide) ?_
          refine WL.nil ?_
          refine WK.nThen ?_
          have he33 : (((List.range k1).map (fun j => (⟨(x.D.Rates.length : Int) - 1 - (gt x.D.Stops j).Column, (gt x.D.Stops j).Ticks⟩ : Stop))) ++ [(Stop.mk ((↑x.D.Rates.length - 1) - ((gt x.D.Stops k1).Column)) ((gt x.D.Stops k1).Ticks))]) = ((List.range (k1 + 1)).map (fun j => (⟨(x.D.Rates.length : Int) - 1 - (gt x.D.Stops j).Column, (gt x.D.Stops j).Ticks⟩ : Stop))) := (by exact map_succ2 _ _)
          rw [he33]
          refine WK.next ((k1 + 1, v31)) rfl (.cons _ (.cons_cons _ (.cons_cons _ (.cons_cons _ (.cons_cons _ (.cons_cons _ (.cons_cons _ .slnil))))))) (.cons rfl (.cons rfl (.cons rfl (.cons rfl (.cons rfl .nil))))) ?_ ?_
          · omega
          · (dsimp only; omega)
        · refine WL.nil ?_
          refine WK.nThen ?_
          refine WC.condF rfl ?_
          refine WC.exit ?_
          refine WK.eThen ?_
          refine WK.eThen ?_
          refine WK.eHit ?_
          refine WK.nThen ?_
          refine WC.seq ?_
          refine WC.seq ?_
          refine WC.region ?_
          refine WL.x (X.assign rfl) (by decide) ?_
          refine WL.nil ?_
          refine WK.nThen ?_
          refine WC.block ?_
          refine WC.loop (G := Nat × Value) (fun (k2, w2) => x.M.length - k2) (fun (k2, w2) => m) (fun (k2, w2) => [rowF (w2) 33 ((List.range k2).map (fun j => (⟨(x.D.Rates.length : Int) - (gt x.M j).Column, ⟨400 - (gt x.M j).Ticks.Hi, 400 - (gt x.M j).Ticks.Lo⟩⟩ : Mark))), rowF (w1) 34 ((List.range k1).map (fun j => (⟨(x.D.Rates.length : Int) - 1 - (gt x.D.Stops j).Column, (gt x.D.Stops j).Ticks⟩ : Stop))), rowF (w0) 31 ((List.range k).map (fun j => gt x.D.Rates (x.D.Rates.length - 1 - j))), blk b12 28 [w0, w1, w2], blk b11 28 [.slice none 0 0, .slice none 0 0, .slice none 0 0], blk b10 28 [v1, v3, v5]]) (fun (k2, w2) => [(1, .pointer (some ⟨b10, 0, none⟩)), (2, .pointer (some ⟨b11, 0, none⟩)), (3, .pointer (some ⟨b12, 0, none⟩)), (4, .int .i64 (↑x.D.Rates.length)), (8, .int .i64 (↑k2))]) (fun (k2, w2) => k2 ≤ x.M.length) ((0, ((Value.slice none 0 0)))) rfl (.refl _) (.cons rfl (.cons rfl (.cons rfl (.cons rfl (.cons rfl .nil))))) ?_ ?_
          · exact Nat.zero_le _
          · rintro ⟨k2, w2⟩ hF34
            show WK _ _ m [rowF (w2) 33 ((List.range k2).map (fun j => (⟨(x.D.Rates.length : Int) - (gt x.M j).Column, ⟨400 - (gt x.M j).Ticks.Hi, 400 - (gt x.M j).Ticks.Lo⟩⟩ : Mark))), rowF (w1) 34 ((List.range k1).map (fun j => (⟨(x.D.Rates.length : Int) - 1 - (gt x.D.Stops j).Column, (gt x.D.Stops j).Ticks⟩ : Stop))), rowF (w0) 31 ((List.range k).map (fun j => gt x.D.Rates (x.D.Rates.length - 1 - j))), blk b12 28 [w0, w1, w2], blk b11 28 [.slice none 0 0, .slice none 0 0, .slice none 0 0], blk b10 28 [v1, v3, v5]] [(1, .pointer (some ⟨b10, 0, none⟩)), (2, .pointer (some ⟨b11, 0, none⟩)), (3, .pointer (some ⟨b12, 0, none⟩)), (4, .int .i64 (↑x.D.Rates.length)), (8, .int .i64 (↑k2))] _
            replace hF34 : k2 ≤ x.M.length := hF34
            have hk2 := hF34
            refine WC.seq ?_
            refine WC.seq ?_
            refine WC.region ?_
            refine WL.x (X.move rfl) (by decide) ?_
            refine WL.x (X.field Try.runUnderlying28 rfl Try.sizeOf26 rfl) (by decide) ?_
            refine WL.x (X.loadB (k := 5) Try.isAgg26 rfl rfl rfl) (by decide) ?_
            refine WL.x (X.len Try.runUnderlying26 rfl hs6) (by decide) ?_
            refine WL.cond (X.lss rfl rfl) (by decide) (fun h35 => ?_) (fun h35 => ?_)
            · refine WL.nil ?_
              refine WK.nThen ?_
              refine WC.condT rfl ?_
              refine WC.skip ?_
              refine WK.nThen ?_
              refine WC.seq ?_
              refine WC.block ?_
              refine WC.seq ?_
              have hmk := hok.col (j := k2) (by omega)
              unfold spOk at hmk
              refine WC.region ?_
              refine WL.x (X.field Try.runUnderlying28 rfl Try.sizeOf26 rfl) (by decide) ?_
              refine WL.x (X.loadB (k := 5) Try.isAgg26 rfl rfl rfl) (by decide) ?_
              refine WL.x (X.move rfl) (by decide) ?_
              refine WL.xe (E.idxN k2 Try.runUnderlying26 Try.sizeOf33 rfl rfl hs6 (by omega)) (by decide) (fun p36 hp37 => ?_)
              refine WL.xe (E.loadAgg Try.isAgg33 Try.sizeOf33 rfl hp37) (by decide) (fun c38 hc39 => ?_)
              obtain rfl := hc39
              refine WL.tn (T.alloc Try.zeroValue33 rfl) (by decide) fun b40 => ?_
              refine WL.ts (T.storeBA (k := 0) Try.sizeOf33 rfl rfl rfl (one_cons rfl (one_cons rfl (one_cons rfl one_nil))) rfl rfl) ?_
              refine WL.nil ?_
              refine WK.nThen ?_
              refine WC.region ?_
              refine WL.x (X.field Try.runUnderlying28 rfl Try.sizeOf26 rfl) (by decide) ?_
              refine WL.x (X.loadB (k := 4) Try.isAgg26 rfl rfl rfl) (by decide) ?_
              refine WL.x (X.move rfl) (by decide) ?_
              refine WL.x (X.field Try.runUnderlying33 rfl Try.sizeOf3 rfl) (by decide) ?_
              refine WL.x (X.loadB (k := 0) Try.isAgg3 rfl rfl rfl) (by decide) ?_
              refine WL.x (X.sub rfl rfl (by omega) (by omega)) (by decide) ?_
              refine WL.x (X.field Try.runUnderlying33 rfl Try.sizeOf31 rfl) (by decide) ?_
              refine WL.x (X.field Try.runUnderlying31 rfl Try.sizeOf3 rfl) (by decide) ?_
              refine WL.x (X.loadB (k := 0) Try.isAgg3 rfl rfl rfl) (by decide) ?_
              refine WL.x (X.sub rfl rfl (by omega) (by omega)) (by decide) ?_
              refine WL.x (X.field Try.runUnderlying33 rfl Try.sizeOf31 rfl) (by decide) ?_
              refine WL.x (X.field Try.runUnderlying31 rfl Try.sizeOf3 rfl) (by decide) ?_
              refine WL.x (X.loadB (k := 0) Try.isAgg3 rfl rfl rfl) (by decide) ?_
              refine WL.x (X.sub rfl rfl (by omega) (by omega)) (by decide) ?_
              refine WL.x (V := Value.agg [.int .i64 (400 - (((gt x.M k2).Ticks).Hi)), .int .i64 (400 - (((gt x.M k2).Ticks).Lo))].toArray) (X.build Try.zeroValue31 Try.runUnderlying31 (places31 _ Try.underlying31) rfl rfl) (by decide) ?_
              refine WL.x (V := Value.agg [.int .i64 (↑x.D.Rates.length - ((gt x.M k2).Column)), .int .i64 (400 - (((gt x.M k2).Ticks).Hi)), .int .i64 (400 - (((gt x.M k2).Ticks).Lo))].toArray) (X.build Try.zeroValue33 Try.runUnderlying33 (places33 _ Try.underlying33) rfl rfl) (by decide) ?_
              refine WL.tl (T.lit1 sl26 rfl rfl rfl (by decide)) (by decide) fun b41 => ?_
              refine WL.ta (T.appendF (k := 1) (a := (Mark.mk (↑x.D.Rates.length - ((gt x.M k2).Column)) ((Span.mk (400 - (((gt x.M k2).Ticks).Hi)) (400 - (((gt x.M k2).Ticks).Lo)))))) sl26 rfl rfl rfl rfl (by first | omega | (simp; done) | (simp; omega)) (by decide)) (by decide) (fun v42 => ?_)
              refine WL.x (X.field Try.runUnderlying28 rfl Try.sizeOf26 rfl) (by decide) ?_
              refine WL.own1 (k := 1) rfl (fun ho43 => ?_)
              refine WL.ts (T.storeB (k := 4) Try.sizeOf26 rfl rfl rfl ho43 (Nat.le_of_ble_eq_true rfl)) ?_
              refine WL.nil ?_
              refine WK.nBlock ?_
              refine WK.nThen ?_
              refine WC.region ?_
              refine WL.x (X.move rfl) (by decide) ?_
              refine WL.x (X.add rfl rfl (by omega) (by omega)) (by decide) ?_
              refine WL.x (X.assign rfl) (by decide) ?_
              refine WL.nil ?_
              refine WK.nThen ?_
              have he44 : (((List.range k2).map (fun j => (⟨(x.D.Rates.length : Int) - (gt x.M j).Column, ⟨400 - (gt x.M j).Ticks.Hi, 400 - (gt x.M j).Ticks.Lo⟩⟩ : Mark))) ++ [(Mark.mk (↑x.D.Rates.length - ((gt x.M k2).Column)) ((Span.mk (400 - (((gt x.M k2).Ticks).Hi)) (400 - (((gt x.M k2).Ticks).Lo)))))]) = ((List.range (k2 + 1)).map (fun j => (⟨(x.D.Rates.length : Int) - (gt x.M j).Column, ⟨400 - (gt x.M j).Ticks.Hi, 400 - (gt x.M j).Ticks.Lo⟩⟩ : Mark))) := (by exact map_succ2 _ _)
              rw [he44]
              refine WK.next ((k2 + 1, v42)) rfl (.cons _ (.cons_cons _ (.cons_cons _ (.cons_cons _ (.cons_cons _ (.cons_cons _ (.cons_cons _ .slnil))))))) (.cons rfl (.cons rfl (.cons rfl (.cons rfl (.cons rfl .nil))))) ?_ ?_
              · omega
              · (dsimp only; omega)
            · refine WL.nil ?_
              refine WK.nThen ?_
              refine WC.condF rfl ?_
              refine WC.exit ?_
              refine WK.eThen ?_
              refine WK.eThen ?_
              refine WK.eHit ?_
              refine WK.nThen ?_
              refine WC.seq ?_
              obtain rfl : k = x.D.Rates.length := (by omega)
              obtain rfl : k1 = x.D.Stops.length := (by omega)
              obtain rfl : k2 = x.M.length := (by omega)
              refine WC.region ?_
              refine WL.x (X.loadBA (k := 3) Try.isAgg28 Try.sizeOf28 rfl rfl rfl) (by decide) ?_
              refine WL.own1 (k := 2) rfl (fun ho45 => ?_)
              refine WL.own1 (k := 1) rfl (fun ho46 => ?_)
              refine WL.own1 (k := 0) rfl (fun ho47 => ?_)
              refine WL.ts (T.storeBA (k := 4) Try.sizeOf28 rfl rfl rfl (one_cons ho45 (one_cons ho46 (one_cons ho47 one_nil))) rfl rfl) ?_
              refine WL.nil ?_
              refine WK.nThen ?_
              refine WC.ret ?_
              refine WK.freezeF 2 rfl rfl (by first | (simp [lenB]; omega) | (unfold lenB; omega)) (fun m48 hle49 hs50 => ?_)
              replace hs2 := hs2.mono hle49
              replace hs4 := hs4.mono hle49
              replace hs6 := hs6.mono hle49
              refine WK.freezeF 1 rfl rfl (by first | (simp [lenB]; omega) | (unfold lenB; omega)) (fun m51 hle52 hs53 => ?_)
              replace hs2 := hs2.mono hle52
              replace hs4 := hs4.mono hle52
              replace hs6 := hs6.mono hle52
              replace hs50 := hs50.mono hle52
              refine WK.freezeF 0 rfl rfl (by first | (simp [lenB]; omega) | (unfold lenB; omega)) (fun m54 hle55 hs56 => ?_)
              replace hs2 := hs2.mono hle55
              replace hs4 := hs4.mono hle55
              replace hs6 := hs6.mono hle55
              replace hs50 := hs50.mono hle55
              replace hs53 := hs53.mono hle55
              refine WK.retC1 1 rfl rfl rfl Try.isAgg28 Try.sizeOf28 (fun w' hw' => Ret.mem hw' ?_)
              exact ⟨_, rfl, ⟨_, _, _, rfl, hs50, hs53, hs56⟩⟩

end Go.Proofs.C2
