import Derived.Test.YtmnipmbgdbdjeaaC2W11
/- Clocks: walks of the reference, by program. -/
namespace Go.Proofs.C2
open Go Go.Kx
set_option linter.unusedVariables false

theorem feasible66 (m : Mem) (cd : List Value) (d : Drum) (hd : Enc.rd m cd d) (vm_ : Value) (m_ : List Mark) (hm_ : Sl m vm_ m_)   : Exact Try.prog 66 #[.agg cd.toArray, vm_] m (.tuple #[.bool ((feasR d m_).1), .int .i64 ((feasR d m_).2)]) := by
  obtain ⟨v1, v3, rfl, hs2, hs4⟩ := hd
  have hl5 := hs2.le
  have hl6 := hs4.le
  have lm_ := hm_.le
  refine Exact.start Try.func66 rfl Try.ntmps66 rfl fun wld => ?_
  refine WC.seq ?_
  refine WC.region ?_
  refine WL.tn (T.boxB rfl rfl) (by decide) fun b7 => ?_
  refine WL.x (X.assign rfl) (by decide) ?_
  refine WL.x (X.assign rfl) (by decide) ?_
  refine WL.nil ?_
  refine WK.nThen ?_
  refine WC.seq ?_
  refine WC.region ?_
  refine WL.x (X.loadBA (k := 0) Try.isAgg25 Try.sizeOf25 rfl rfl rfl) (by decide) ?_
  refine WL.x (X.move rfl) (by decide) ?_
  refine WL.x (X.call Try.call83 rfl (asked83 _ _ d ⟨_, _, rfl, hs2, hs4⟩ _ _ hm_ )) (by decide) ?_
  refine WL.x (X.assign rfl) (by decide) ?_
  refine WL.nil ?_
  refine WK.nThen ?_
  refine WC.seq ?_
  refine WC.seq ?_
  refine WC.region ?_
  refine WL.x (X.move rfl) (by decide) ?_
  refine WL.condn (X.neq rfl rfl) (by decide) (fun h8 => ?_) (fun h8 => ?_)
  · refine WL.nil ?_
    refine WK.nThen ?_
    refine WC.condT rfl ?_
    refine WC.seq ?_
    refine WC.region ?_
    refine WL.x (X.move rfl) (by decide) ?_
    refine WL.x (X.assign rfl) (by decide) ?_
    refine WL.x (X.assign rfl) (by decide) ?_
    refine WL.nil ?_
    refine WK.nThen ?_
    refine WC.ret ?_
    refine WK.rThen ?_
    refine WK.ret2 rfl rfl rfl (fun w' hw' => Ret.exact hw' ?_)
    first | exact tup2 (bool_eq (by rw [feasR_err (by omega)])) (int_eq (by rw [feasR_err (by omega)])) | exact tup2 (bool_eq (by rw [sp_feas (by omega)])) (int_eq (by rw [sp_feas (by omega)]))
  · refine WL.nil ?_
    refine WK.nThen ?_
    refine WC.condF rfl ?_
    refine WC.skip ?_
    refine WK.nThen ?_
    refine WC.seq ?_
    have hok := Ok.of (d := d) (m := m_) (by omega)
    have hv := hok.val
    have hn_ := hok.n
    refine WC.region ?_
    refine WL.x (X.loadBA (k := 0) Try.isAgg25 Try.sizeOf25 rfl rfl rfl) (by decide) ?_
    refine WL.x (X.move rfl) (by decide) ?_
    refine WL.tm (T.call Try.call89 rfl (spans89 _ _ d ⟨_, _, rfl, hs2, hs4⟩ _ _ hm_ (by first | assumption | omega) (by first | assumption | omega))) (by decide) fun m9 r10 hle11 hR12 => ?_
    obtain ⟨v13, rfl, hs14⟩ := hR12
    replace hs2 := hs2.mono hle11
    replace hs4 := hs4.mono hle11
    replace hm_ := hm_.mono hle11
    have hl15 := hs14.le
    refine WL.x (X.move rfl) (by decide) ?_
    refine WL.x (X.extract rfl rfl) (by decide) ?_
    refine WL.x (X.extract rfl rfl) (by decide) ?_
    refine WL.x (X.assign rfl) (by decide) ?_
    refine WL.x (X.assign rfl) (by decide) ?_
    refine WL.nil ?_
    refine WK.nThen ?_
    refine WC.seq ?_
    refine WC.region ?_
    refine WL.x (X.move rfl) (by decide) ?_
    refine WL.x (X.assign rfl) (by decide) ?_
    refine WL.x (X.assign rfl) (by decide) ?_
    refine WL.nil ?_
    refine WK.nThen ?_
    refine WC.ret ?_
    refine WK.ret2 rfl rfl rfl (fun w' hw' => Ret.exact hw' ?_)
    first | exact tup2 (bool_eq (by rw [feasR_err (by omega)])) (int_eq (by rw [feasR_err (by omega)])) | exact tup2 (bool_eq (by rw [sp_feas (by omega)])) (int_eq (by rw [sp_feas (by omega)]))

set_option maxHeartbeats 1000000 in
theorem is120 (m : Mem) (cd : List Value) (d : Drum) (hd : Enc.rd m cd d) (vm_ : Value) (m_ : List Mark) (hm_ : Sl m vm_ m_) (vl : Value) (l : List Int) (hl : Sl m vl l)  (hok : Ok d m_) : Exact Try.prog 120 #[.agg cd.toArray, vm_, vl] m (.bool (decide (keepP d m_ l))) := by
  obtain ⟨v1, v3, rfl, hs2, hs4⟩ := hd
  have hl5 := hs2.le
  have hl6 := hs4.le
  have lm_ := hm_.le
  have ll := hl.le
  have hii := is_iff hok (l := l)
  have hd1 := hok.dr.1
  refine Exact.start Try.func120 rfl Try.ntmps120 rfl fun wld => ?_
  refine WC.seq ?_
  refine WC.region ?_
  refine WL.tn (T.boxB rfl rfl) (by decide) fun b7 => ?_
  refine WL.x (X.assign rfl) (by decide) ?_
  refine WL.nil ?_
  refine WK.nThen ?_
  refine WC.seq ?_
  refine WC.seq ?_
  refine WC.region ?_
  refine WL.x (X.move rfl) (by decide) ?_
  refine WL.x (X.len Try.runUnderlying29 rfl hl) (by decide) ?_
  refine WL.x (X.field Try.runUnderlying25 rfl Try.sizeOf22 rfl) (by decide) ?_
  refine WL.x (X.loadB (k := 0) Try.isAgg22 rfl rfl rfl) (by decide) ?_
  refine WL.x (X.len Try.runUnderlying22 rfl hs2) (by decide) ?_
  refine WL.x (X.add rfl rfl (by omega) (by omega)) (by decide) ?_
  refine WL.condn (X.neq rfl rfl) (by decide) (fun h8 => ?_) (fun h8 => ?_)
  · refine WL.nil ?_
    refine WK.nThen ?_
    refine WC.condT rfl ?_
    refine WC.seq ?_
    refine WC.region ?_
    refine WL.x (X.assign rfl) (by decide) ?_
    refine WL.nil ?_
    refine WK.nThen ?_
    refine WC.ret ?_
    refine WK.rThen ?_
    refine WK.ret1 rfl rfl (fun w' hw' => Ret.exact hw' ?_)
    first | exact bool_false (fun h_ => by have := (hii.1 h_).1; omega) | exact bool_false (fun h_ => by have := (hii.1 h_).2.1 k (by omega); unfold goodJ at this; omega) | exact bool_false (fun h_ => by have := (hii.1 h_).2.2 i (by omega); unfold markJ at this; omega) | exact bool_true (hii.2 ⟨by omega, fun j hj => hall j (by omega), fun j hj => hall2 j (by omega)⟩)
  · refine WL.nil ?_
    refine WK.nThen ?_
    refine WC.condF rfl ?_
    refine WC.skip ?_
    refine WK.nThen ?_
    refine WC.seq ?_
    refine WC.seq ?_
    refine WC.region ?_
    refine WL.x (X.assign rfl) (by decide) ?_
    refine WL.nil ?_
    refine WK.nThen ?_
    refine WC.block ?_
    refine WC.loop (G := Nat) (fun k => l.length - k) (fun k => m) (fun k => [blk b7 25 [v1, v3]]) (fun k => [(1, vm_), (2, vl), (3, .pointer (some ⟨b7, 0, none⟩)), (7, .int .i64 (↑k))]) (fun k => k ≤ l.length ∧ (∀ j, j < k → goodJ d l j)) 0 rfl (.refl _) (.cons rfl (.cons rfl (.cons rfl (.cons rfl .nil)))) ?_ ?_
    · exact ⟨Nat.zero_le _, fun j hj => absurd hj (Nat.not_lt_zero _)⟩
    · rintro k hF9
      show WK _ _ m [blk b7 25 [v1, v3]] [(1, vm_), (2, vl), (3, .pointer (some ⟨b7, 0, none⟩)), (7, .int .i64 (↑k))] _
      replace hF9 : k ≤ l.length ∧ (∀ j, j < k → goodJ d l j) := hF9
      obtain ⟨hk, hall⟩ := hF9
      refine WC.seq ?_
      refine WC.seq ?_
      refine WC.region ?_
      refine WL.x (X.move rfl) (by decide) ?_
      refine WL.x (X.move rfl) (by decide) ?_
      refine WL.x (X.len Try.runUnderlying29 rfl hl) (by decide) ?_
      refine WL.cond (X.lss rfl rfl) (by decide) (fun h10 => ?_) (fun h10 => ?_)
      · refine WL.nil ?_
        refine WK.nThen ?_
        refine WC.condT rfl ?_
        refine WC.skip ?_
        refine WK.nThen ?_
        refine WC.seq ?_
        refine WC.block ?_
        refine WC.seq ?_
        refine WC.seq ?_
        refine WC.region ?_
        refine WL.x (X.move rfl) (by decide) ?_
        refine WL.x (X.move rfl) (by decide) ?_
        refine WL.xe (E.idxN k Try.runUnderlying29 Try.sizeOf3 rfl rfl hl (by omega)) (by decide) (fun p11 hp12 => ?_)
        refine WL.x (X.loadInt Try.isAgg3 rfl hp12) (by decide) ?_
        refine WL.cond (X.call Try.call84 rfl (within84 _ _ _ _ )) (by decide) (fun h13 => ?_) (fun h13 => ?_)
        · refine WL.x (X.not rfl) (by decide) ?_
          refine WL.nil ?_
          refine WK.nThen ?_
          refine WC.condF rfl ?_
          refine WC.skip ?_
          refine WK.nThen ?_
          refine WC.seq ?_
          refine WC.region ?_
          refine WL.x (X.move rfl) (by decide) ?_
          refine WL.cond (X.gtr rfl rfl) (by decide) (fun h14 => ?_) (fun h14 => ?_)
          · refine WL.nil ?_
            refine WK.nThen ?_
            refine WC.condT rfl ?_
            refine WC.seq ?_
            have hgb := gapS_bd hok.dr (c := (↑k - 1 : Int).toNat) (by omega)
            have hpk := (hall (k - 1) (by omega)).1
            have hix : (↑k - 1 : Int).toNat = k - 1 := (by omega)
            have hgg : gapS d (↑k - 1 : Int).toNat = gapS d (k - 1) := (by rw [hix])
            have hg1 := congrArg Span.Lo hgg
            have hg2 := congrArg Span.Hi hgg
            refine WC.region ?_
            refine WL.x (X.loadBA (k := 0) Try.isAgg25 Try.sizeOf25 rfl rfl rfl) (by decide) ?_
            refine WL.x (X.move rfl) (by decide) ?_
            refine WL.x (X.sub rfl rfl (by omega) (by omega)) (by decide) ?_
            refine WL.x (X.call Try.call115 rfl (gap115 _ _ d ⟨_, _, rfl, hs2, hs4⟩ _ (by first | exact hok.dr | omega) (by first | exact hok.dr | omega))) (by decide) ?_
            refine WL.tn (T.alloc Try.zeroValue31 rfl) (by decide) fun b15 => ?_
            refine WL.ts (T.storeBA (k := 0) Try.sizeOf31 rfl rfl rfl (one_cons rfl (one_cons rfl one_nil)) rfl rfl) ?_
            refine WL.nil ?_
            refine WK.nThen ?_
            refine WC.seq ?_
            refine WC.draw (π := (.cons 0 (.cons 1 (.cons 2 (.cons 3 (.cons 4 (.cons 5 (.cons 6 (.cons 7 (.cons 8 (.cons 9 (.cons 10 (.cons 11 (.cons 12 (.cons 13 (.cons 14 (.cons 15 .done))))))))))))))))) [] [] rfl (by kernel_rfl) ?_
            refine DW.x rfl rfl (X.move rfl) (by decide) ?_
            refine DW.x rfl rfl (X.move rfl) (by decide) ?_
            refine DW.xe rfl rfl (E.idxN k Try.runUnderlying29 Try.sizeOf3 rfl rfl hl (by omega)) (by decide) (fun p16 hp17 => ?_)
            refine DW.x rfl rfl (X.loadInt Try.isAgg3 rfl hp17) (by decide) ?_
            refine DW.x rfl rfl (X.move rfl) (by decide) ?_
            refine DW.x rfl rfl (X.move rfl) (by decide) ?_
            refine DW.x rfl rfl (X.sub rfl rfl (by omega) (by omega)) (by decide) ?_
            refine DW.xe rfl rfl (E.idxE (k - 1) Try.runUnderlying29 Try.sizeOf3 rfl rfl hl (by omega) (by omega)) (by decide) (fun p18 hp19 => ?_)
            refine DW.x rfl rfl (X.loadInt Try.isAgg3 rfl hp19) (by decide) ?_
            refine DW.x rfl rfl (X.sub rfl rfl (by omega) (by omega)) (by decide) ?_
            refine DW.x rfl rfl (X.field Try.runUnderlying31 rfl Try.sizeOf3 rfl) (by decide) ?_
            refine DW.x rfl rfl (X.loadB (k := 0) Try.isAgg3 rfl rfl rfl) (by decide) ?_
            refine DW.x rfl rfl (X.field Try.runUnderlying31 rfl Try.sizeOf3 rfl) (by decide) ?_
            refine DW.x rfl rfl (X.loadB (k := 0) Try.isAgg3 rfl rfl rfl) (by decide) ?_
            refine DW.cond rfl rfl (X.call Try.call84 rfl (within84 _ _ _ _ )) (by decide) (fun h20 => ?_) (fun h20 => ?_)
            · refine DW.x rfl rfl (X.not rfl) (by decide) ?_
              refine DW.nil ?_
              refine WK.nThen ?_
              refine WC.condF rfl ?_
              refine WC.skip ?_
              refine WK.nBlock ?_
              refine WK.nThen ?_
              refine WC.region ?_
              refine WL.x (X.move rfl) (by decide) ?_
              refine WL.x (X.add rfl rfl (by omega) (by omega)) (by decide) ?_
              refine WL.x (X.assign rfl) (by decide) ?_
              refine WL.nil ?_
              refine WK.nThen ?_
              refine WK.next (k + 1) rfl (.cons _ (.cons_cons _ .slnil)) (.cons rfl (.cons rfl (.cons rfl (.cons rfl .nil)))) ?_ ?_
              · exact ⟨by omega, fun j hj => by rcases Nat.lt_succ_iff_lt_or_eq.1 hj with h | h; exact hall j h; subst h; (unfold goodJ; first | exact ⟨by omega, fun h0_ => absurd h0_ (by omega)⟩ | exact ⟨by omega, fun _ => by omega⟩)⟩
              · omega
            · refine DW.x rfl rfl (X.not rfl) (by decide) ?_
              refine DW.nil ?_
              refine WK.nThen ?_
              refine WC.condT rfl ?_
              refine WC.seq ?_
              refine WC.region ?_
              refine WL.x (X.assign rfl) (by decide) ?_
              refine WL.nil ?_
              refine WK.nThen ?_
              refine WC.ret ?_
              refine WK.rBlock ?_
              refine WK.rThen ?_
              refine WK.rThen ?_
              refine WK.rBlock ?_
              refine WK.rThen ?_
              refine WK.ret1 rfl rfl (fun w' hw' => Ret.exact hw' ?_)
              first | exact bool_false (fun h_ => by have := (hii.1 h_).1; omega) | exact bool_false (fun h_ => by have := (hii.1 h_).2.1 k (by omega); unfold goodJ at this; omega) | exact bool_false (fun h_ => by have := (hii.1 h_).2.2 i (by omega); unfold markJ at this; omega) | exact bool_true (hii.2 ⟨by omega, fun j hj => hall j (by omega), fun j hj => hall2 j (by omega)⟩)
          · refine WL.nil ?_
            refine WK.nThen ?_
            refine WC.condF rfl ?_
            refine WC.skip ?_
            refine WK.nBlock ?_
            refine WK.nThen ?_
            refine WC.region ?_
            refine WL.x (X.move rfl) (by decide) ?_
            refine WL.x (X.add rfl rfl (by omega) (by omega)) (by decide) ?_
            refine WL.x (X.assign rfl) (by decide) ?_
            refine WL.nil ?_
            refine WK.nThen ?_
            refine WK.next (k + 1) rfl (.refl _) (.cons rfl (.cons rfl (.cons rfl (.cons rfl .nil)))) ?_ ?_
            · exact ⟨by omega, fun j hj => by rcases Nat.lt_succ_iff_lt_or_eq.1 hj with h | h; exact hall j h; subst h; (unfold goodJ; first | exact ⟨by omega, fun h0_ => absurd h0_ (by omega)⟩ | exact ⟨by omega, fun _ => by omega⟩)⟩
            · omega
        · refine WL.x (X.not rfl) (by decide) ?_
          refine WL.nil ?_
          refine WK.nThen ?_
          refine WC.condT rfl ?_
          refine WC.seq ?_
          refine WC.region ?_
          refine WL.x (X.assign rfl) (by decide) ?_
          refine WL.nil ?_
          refine WK.nThen ?_
          refine WC.ret ?_
          refine WK.rThen ?_
          refine WK.rBlock ?_
          refine WK.rThen ?_
          refine WK.rThen ?_
          refine WK.rBlock ?_
          refine WK.rThen ?_
          refine WK.ret1 rfl rfl (fun w' hw' => Ret.exact hw' ?_)
          first | exact bool_false (fun h_ => by have := (hii.1 h_).1; omega) | exact bool_false (fun h_ => by have := (hii.1 h_).2.1 k (by omega); unfold goodJ at this; omega) | exact bool_false (fun h_ => by have := (hii.1 h_).2.2 i (by omega); unfold markJ at this; omega) | exact bool_true (hii.2 ⟨by omega, fun j hj => hall j (by omega), fun j hj => hall2 j (by omega)⟩)
      · refine WL.nil ?_
        refine WK.nThen ?_
        refine WC.condF rfl ?_
        refine WC.exit ?_
        refine WK.eThen ?_
        refine WK.eThen ?_
        refine WK.eHit ?_
        refine WK.nThen ?_
        refine WC.seq ?_
        refine WC.seq ?_
        refine WC.region ?_
        refine WL.x (X.assign rfl) (by decide) ?_
        refine WL.nil ?_
        refine WK.nThen ?_
        refine WC.block ?_
        refine WC.loop (G := Nat) (fun i => m_.length - i) (fun i => m) (fun i => [blk b7 25 [v1, v3]]) (fun i => [(1, vm_), (2, vl), (9, .int .i64 (↑i))]) (fun i => i ≤ m_.length ∧ (∀ j, j < i → markJ m_ l j)) 0 rfl (.refl _) (.cons rfl (.cons rfl (.cons rfl .nil))) ?_ ?_
        · exact ⟨Nat.zero_le _, fun j hj => absurd hj (Nat.not_lt_zero _)⟩
        · rintro i hF21
          show WK _ _ m [blk b7 25 [v1, v3]] [(1, vm_), (2, vl), (9, .int .i64 (↑i))] _
          replace hF21 : i ≤ m_.length ∧ (∀ j, j < i → markJ m_ l j) := hF21
          obtain ⟨hi, hall2⟩ := hF21
          refine WC.seq ?_
          refine WC.seq ?_
          refine WC.region ?_
          refine WL.x (X.move rfl) (by decide) ?_
          refine WL.x (X.move rfl) (by decide) ?_
          refine WL.x (X.len Try.runUnderlying26 rfl hm_) (by decide) ?_
          refine WL.cond (X.lss rfl rfl) (by decide) (fun h22 => ?_) (fun h22 => ?_)
          · refine WL.nil ?_
            refine WK.nThen ?_
            refine WC.condT rfl ?_
            refine WC.skip ?_
            refine WK.nThen ?_
            refine WC.seq ?_
            refine WC.block ?_
            refine WC.seq ?_
            have hco := hok.col (j := i) (by omega)
            have hco1 := hco.1
            refine WC.draw (π := (.cons 0 (.cons 1 (.cons 2 (.cons 3 (.cons 4 (.cons 5 (.cons 6 (.cons 7 (.cons 8 (.cons 9 (.cons 10 (.cons 11 (.cons 12 (.cons 13 (.cons 14 (.cons 15 (.cons 16 (.cons 17 (.cons 18 (.cons 19 (.cons 20 (.cons 21 .done))))))))))))))))))))))) [] [] rfl (by kernel_rfl) ?_
            refine DW.x rfl rfl (X.move rfl) (by decide) ?_
            refine DW.x rfl rfl (X.move rfl) (by decide) ?_
            refine DW.x rfl rfl (X.move rfl) (by decide) ?_
            refine DW.xe rfl rfl (E.idxN i Try.runUnderlying26 Try.sizeOf33 rfl rfl hm_ (by omega)) (by decide) (fun p23 hp24 => ?_)
            have hp25 := At.Mark_0 hp24
            refine DW.x rfl rfl (X.field Try.runUnderlying33 rfl Try.sizeOf3 rfl) (by decide) ?_
            refine DW.x rfl rfl (X.loadInt Try.isAgg3 rfl hp25) (by decide) ?_
            refine DW.xe rfl rfl (E.idx Try.runUnderlying29 Try.sizeOf3 rfl rfl hl (by omega) (by omega)) (by decide) (fun p26 hp27 => ?_)
            refine DW.x rfl rfl (X.loadInt Try.isAgg3 rfl hp27) (by decide) ?_
            refine DW.x rfl rfl (X.move rfl) (by decide) ?_
            refine DW.x rfl rfl (X.move rfl) (by decide) ?_
            refine DW.xe rfl rfl (E.idxN i Try.runUnderlying26 Try.sizeOf33 rfl rfl hm_ (by omega)) (by decide) (fun p28 hp29 => ?_)
            have hp30 := At.Mark_1 hp29
            refine DW.x rfl rfl (X.field Try.runUnderlying33 rfl Try.sizeOf31 rfl) (by decide) ?_
            have hp31 := At.Span_0 hp30
            refine DW.x rfl rfl (X.field Try.runUnderlying31 rfl Try.sizeOf3 rfl) (by decide) ?_
            refine DW.x rfl rfl (X.loadInt Try.isAgg3 rfl hp31) (by decide) ?_
            refine DW.x rfl rfl (X.move rfl) (by decide) ?_
            refine DW.x rfl rfl (X.move rfl) (by decide) ?_
            refine DW.xe rfl rfl (E.idxN i Try.runUnderlying26 Try.sizeOf33 rfl rfl hm_ (by omega)) (by decide) (fun p32 hp33 => ?_)
            have hp34 := At.Mark_1 hp33
            refine DW.x rfl rfl (X.field Try.runUnderlying33 rfl Try.sizeOf31 rfl) (by decide) ?_
            have hp35 := At.Span_1 hp34
            refine DW.x rfl rfl (X.field Try.runUnderlying31 rfl Try.sizeOf3 rfl) (by decide) ?_
            refine DW.x rfl rfl (X.loadInt Try.isAgg3 rfl hp35) (by decide) ?_
            refine DW.cond rfl rfl (X.call Try.call84 rfl (within84 _ _ _ _ )) (by decide) (fun h36 => ?_) (fun h36 => ?_)
            · refine DW.x rfl rfl (X.not rfl) (by decide) ?_
              refine DW.nil ?_
              refine WK.nThen ?_
              refine WC.condF rfl ?_
              refine WC.skip ?_
              refine WK.nBlock ?_
              refine WK.nThen ?_
              refine WC.region ?_
              refine WL.x (X.move rfl) (by decide) ?_
              refine WL.x (X.add rfl rfl (by omega) (by omega)) (by decide) ?_
              refine WL.x (X.assign rfl) (by decide) ?_
              refine WL.nil ?_
              refine WK.nThen ?_
              refine WK.next (i + 1) rfl (.refl _) (.cons rfl (.cons rfl (.cons rfl .nil))) ?_ ?_
              · exact ⟨by omega, fun j hj => by rcases Nat.lt_succ_iff_lt_or_eq.1 hj with h | h; exact hall2 j h; subst h; (unfold markJ; omega)⟩
              · omega
            · refine DW.x rfl rfl (X.not rfl) (by decide) ?_
              refine DW.nil ?_
              refine WK.nThen ?_
              refine WC.condT rfl ?_
              refine WC.seq ?_
              refine WC.region ?_
              refine WL.x (X.assign rfl) (by decide) ?_
              refine WL.nil ?_
              refine WK.nThen ?_
              refine WC.ret ?_
              refine WK.rBlock ?_
              refine WK.rThen ?_
              refine WK.rThen ?_
              refine WK.rBlock ?_
              refine WK.rThen ?_
              refine WK.ret1 rfl rfl (fun w' hw' => Ret.exact hw' ?_)
              first | exact bool_false (fun h_ => by have := (hii.1 h_).1; omega) | exact bool_false (fun h_ => by have := (hii.1 h_).2.1 k (by omega); unfold goodJ at this; omega) | exact bool_false (fun h_ => by have := (hii.1 h_).2.2 i (by omega); unfold markJ at this; omega) | exact bool_true (hii.2 ⟨by omega, fun j hj => hall j (by omega), fun j hj => hall2 j (by omega)⟩)
          · refine WL.nil ?_
            refine WK.nThen ?_
            refine WC.condF rfl ?_
            refine WC.exit ?_
            refine WK.eThen ?_
            refine WK.eThen ?_
            refine WK.eHit ?_
            refine WK.nThen ?_
            refine WC.seq ?_
            refine WC.region ?_
            refine WL.x (X.assign rfl) (by decide) ?_
            refine WL.nil ?_
            refine WK.nThen ?_
            refine WC.ret ?_
            refine WK.ret1 rfl rfl (fun w' hw' => Ret.exact hw' ?_)
            first | exact bool_false (fun h_ => by have := (hii.1 h_).1; omega) | exact bool_false (fun h_ => by have := (hii.1 h_).2.1 k (by omega); unfold goodJ at this; omega) | exact bool_false (fun h_ => by have := (hii.1 h_).2.2 i (by omega); unfold markJ at this; omega) | exact bool_true (hii.2 ⟨by omega, fun j hj => hall j (by omega), fun j hj => hall2 j (by omega)⟩)

end Go.Proofs.C2
