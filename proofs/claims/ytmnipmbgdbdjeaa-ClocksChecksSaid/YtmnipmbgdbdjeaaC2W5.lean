import Derived.Test.YtmnipmbgdbdjeaaC2W4
import Derived.Test.YtmnipmbgdbdjeaaC2Walk2
/- Clocks: walks, fifth part, by program. -/
namespace Go.Proofs.C2
open Go Go.Kx
set_option linter.unusedVariables false

theorem with87 (m : Mem) (cc : List Value) (c : Ck) (hc : Enc.rd m cc c) (column : Int) (tick : Int)  (hl : c.at_.length ≤ 1000) (hk : 0 ≤ column ∧ column < c.at_.length) : Pure Try.prog 87 #[.agg cc.toArray, .int .i64 (column), .int .i64 (tick)] m (fun m' v => ∃ r0, v = .agg r0.toArray ∧ Enc.rd m' r0 (withC c (column : Int).toNat tick)) := by
  obtain ⟨v1, v3, rfl, hs2, hs4⟩ := hc
  have hl5 := hs2.le
  have hl6 := hs4.le
  refine Pure.start Try.func87 rfl Try.ntmps87 rfl fun wld => ?_
  refine WC.seq ?_
  refine WC.region ?_
  refine WL.tn (T.boxB rfl rfl) (by decide) fun b7 => ?_
  refine WL.tn (T.alloc Try.zeroValue83 rfl) (by decide) fun b8 => ?_
  refine WL.nil ?_
  refine WK.nThen ?_
  refine WC.seq ?_
  refine WC.region ?_
  refine WL.x (X.field Try.runUnderlying83 rfl Try.sizeOf22 rfl) (by decide) ?_
  refine WL.x (X.loadB (k := 1) Try.isAgg22 rfl rfl rfl) (by decide) ?_
  refine WL.tM (T.callO Try.call116 rfl (clone116 _ hs4 (by omega))) (by decide) (fun m9 Es10 v11 hle12 hR_ => ?_)
  obtain ⟨rfl, ho13⟩ := hR_
  replace hs2 := hs2.mono hle12
  replace hs4 := hs4.mono hle12
  refine WL.x (X.field Try.runUnderlying83 rfl Try.sizeOf22 rfl) (by decide) ?_
  refine WL.ts (T.storeB (k := 2) Try.sizeOf22 rfl rfl rfl ho13 (Nat.le_of_ble_eq_true rfl)) ?_
  refine WL.nil ?_
  refine WK.nThen ?_
  refine WC.seq ?_
  refine WC.region ?_
  refine WL.x (X.move rfl) (by decide) ?_
  refine WL.x (X.move rfl) (by decide) ?_
  refine WL.x (X.move rfl) (by decide) ?_
  refine WL.x (V := Value.agg [.int .i64 (tick), .int .i64 (tick)].toArray) (X.build Try.zeroValue31 Try.runUnderlying31 (places31 _ Try.underlying31) rfl rfl) (by decide) ?_
  refine WL.tM (T.callP (A := [blk b8 83 [.slice none 0 0, .slice none 0 0]]) Try.call128 rfl ((List.Perm.cons _ (.refl _)).trans (List.perm_middle (l₁ := [rowF (v11) 31 (c.at_), blk b8 83 [.slice none 0 0, .slice none 0 0]]) (l₂ := []) (a := blk b7 83 [v1, v11])).symm) (narrow128 _ (k := ((column : Int).toNat)) (by omega) (by omega) ((Span.mk (tick) (tick))))) (by decide) (fun m14 Es_ v_ hle15 hR_ => ?_)
  obtain ⟨rfl, rfl⟩ := hR_
  replace hs2 := hs2.mono hle15
  replace hs4 := hs4.mono hle15
  refine WL.nil ?_
  refine WK.nThen ?_
  refine WC.seq ?_
  have he16 : (c.at_.set ((column : Int).toNat) (meet (gt c.at_ ((column : Int).toNat)) ((Span.mk (tick) (tick))))) = (narL c (column : Int).toNat ⟨tick, tick⟩) := rfl
  rw [he16]
  refine WC.region ?_
  refine WL.x (X.loadBA (k := 0) Try.isAgg83 Try.sizeOf83 rfl rfl rfl) (by decide) ?_
  refine WL.ts (T.storeBA (k := 2) Try.sizeOf83 rfl rfl rfl (one_cons hs2.one (one_cons ho13 one_nil)) rfl rfl) ?_
  refine WL.nil ?_
  refine WK.nThen ?_
  refine WC.ret ?_
  refine WK.freezeF 1 rfl rfl (by rw [narL_len]; unfold lenB; omega) (fun m17 hle18 hs19 => ?_)
  replace hs2 := hs2.mono hle18
  replace hs4 := hs4.mono hle18
  refine WK.retC1 1 rfl rfl rfl Try.isAgg83 Try.sizeOf83 (fun w' hw' => Ret.mem hw' ?_)
  exact ⟨_, rfl, ⟨_, _, rfl, hs2, hs19⟩⟩

theorem holds97 (m : Mem) (cd : List Value) (d : Drum) (hd : Enc.rd m cd d) (vm_ : Value) (m_ : List Mark) (hm_ : Sl m vm_ m_)  (hok : Ok d m_) : Exact Try.prog 97 #[.agg cd.toArray, vm_] m (.bool (decide (okD d m_))) := by
  obtain ⟨v1, v3, rfl, hs2, hs4⟩ := hd
  have hl5 := hs2.le
  have hl6 := hs4.le
  have lm_ := hm_.le
  refine Exact.start Try.func97 rfl Try.ntmps97 rfl fun wld => ?_
  refine WC.seq ?_
  refine WC.region ?_
  refine WL.tn (T.boxB rfl rfl) (by decide) fun b7 => ?_
  refine WL.x (X.assign rfl) (by decide) ?_
  refine WL.nil ?_
  refine WK.nThen ?_
  refine WC.seq ?_
  refine WC.region ?_
  refine WL.x (X.loadBA (k := 0) Try.isAgg25 Try.sizeOf25 rfl rfl rfl) (by decide) ?_
  refine WL.x (X.move rfl) (by decide) ?_
  refine WL.tm (T.call Try.call96 rfl (clockOf96 _ _ d ⟨_, _, rfl, hs2, hs4⟩ _ _ hm_ hok)) (by decide) fun m8 r9 hle10 hR11 => ?_
  obtain ⟨c12, rfl, hc13⟩ := hR11
  replace hs2 := hs2.mono hle10
  replace hs4 := hs4.mono hle10
  replace hm_ := hm_.mono hle10
  obtain ⟨v14, v16, rfl, hs15, hs17⟩ := hc13
  have hl18 := hs15.le
  have hl19 := hs17.le
  refine WL.tm (T.call Try.call88 rfl (settled88 _ _ (Ck.mk (gapL d) (atL d m_)) ⟨_, _, rfl, hs15, hs17⟩ (CkW.of hok))) (by decide) fun m20 r21 hle22 hR23 => ?_
  obtain ⟨c24, rfl, hc25⟩ := hR23
  replace hs2 := hs2.mono hle22
  replace hs4 := hs4.mono hle22
  replace hm_ := hm_.mono hle22
  replace hs15 := hs15.mono hle22
  replace hs17 := hs17.mono hle22
  obtain ⟨v26, v28, rfl, hs27, hs29⟩ := hc25
  have hl30 := hs27.le
  have hl31 := hs29.le
  refine WL.x (X.move rfl) (by decide) ?_
  refine WL.x (X.extract rfl rfl) (by decide) ?_
  refine WL.x (X.extract rfl rfl) (by decide) ?_
  refine WL.tn (T.alloc Try.zeroValue83 rfl) (by decide) fun b32 => ?_
  refine WL.ts (T.storeBA (k := 0) Try.sizeOf83 rfl rfl rfl (one_cons hs27.one (one_cons hs29.one one_nil)) rfl rfl) ?_
  refine WL.x (X.assign rfl) (by decide) ?_
  refine WL.nil ?_
  refine WK.nThen ?_
  refine WC.seq ?_
  refine WC.region ?_
  refine WL.x (X.move rfl) (by decide) ?_
  refine WL.x (X.assign rfl) (by decide) ?_
  refine WL.nil ?_
  refine WK.nThen ?_
  refine WC.ret ?_
  refine WK.ret1 rfl rfl (fun w' hw' => Ret.exact hw' ?_)
  exact dec_eq (okC_clock d m_)

theorem earliest82 (m : Mem) (cc : List Value) (c : Ck) (hc : Enc.rd m cc c)  (hl : c.at_.length ≤ 1000) : Pure Try.prog 82 #[.agg cc.toArray] m (fun m' v => ∃ r0, v = r0 ∧ Sl m' r0 (losL c.at_)) := by
  obtain ⟨v1, v3, rfl, hs2, hs4⟩ := hc
  have hl5 := hs2.le
  have hl6 := hs4.le
  refine Pure.start Try.func82 rfl Try.ntmps82 rfl fun wld => ?_
  refine WC.seq ?_
  refine WC.region ?_
  refine WL.tn (T.boxB rfl rfl) (by decide) fun b7 => ?_
  refine WL.x (X.assign rfl) (by decide) ?_
  refine WL.nil ?_
  refine WK.nThen ?_
  refine WC.seq ?_
  refine WK.ownF Int 3 ?_
  refine WC.region ?_
  refine WL.x (X.assign rfl) (by decide) ?_
  refine WL.nil ?_
  refine WK.nThen ?_
  refine WC.seq ?_
  refine WC.seq ?_
  refine WC.region ?_
  refine WL.x (X.field Try.runUnderlying83 rfl Try.sizeOf22 rfl) (by decide) ?_
  refine WL.x (X.loadB (k := 1) Try.isAgg22 rfl rfl rfl) (by decide) ?_
  refine WL.x (X.len Try.runUnderlying22 rfl hs4) (by decide) ?_
  refine WL.x (X.move rfl) (by decide) ?_
  refine WL.nil ?_
  refine WK.nThen ?_
  refine WC.block ?_
  refine WC.loop (G := Nat × Value) (fun (k, vo) => c.at_.length - k) (fun (k, vo) => m) (fun (k, vo) => [rowF (vo) 3 ((List.range k).map (fun i => (gt c.at_ i).Lo)), blk b7 83 [v1, v3]]) (fun (k, vo) => [(3, vo), (7, v3), (8, .int .i64 (↑c.at_.length)), (9, .int .i64 (↑k))]) (fun (k, vo) => k ≤ c.at_.length) ((0, Value.slice none 0 0)) rfl (.refl _) (.cons rfl (.cons rfl (.cons rfl (.cons rfl .nil)))) ?_ ?_
  · exact Nat.zero_le _
  · rintro ⟨k, vo⟩ hF8
    show WK _ _ m [rowF (vo) 3 ((List.range k).map (fun i => (gt c.at_ i).Lo)), blk b7 83 [v1, v3]] [(3, vo), (7, v3), (8, .int .i64 (↑c.at_.length)), (9, .int .i64 (↑k))] _
    replace hF8 : k ≤ c.at_.length := hF8
    have hk := hF8
    refine WC.seq ?_
    refine WC.region ?_
    refine WL.cond (X.lss rfl rfl) (by decide) (fun h9 => ?_) (fun h9 => ?_)
    · refine WL.nil ?_
      refine WK.nThen ?_
      refine WC.seq ?_
      refine WC.condT rfl ?_
      refine WC.skip ?_
      refine WK.nThen ?_
      refine WC.seq ?_
      refine WC.block ?_
      refine WC.seq ?_
      refine WC.region ?_
      refine WL.xe (E.idxN k Try.runUnderlying22 Try.sizeOf31 rfl rfl hs4 (by omega)) (by decide) (fun p10 hp11 => ?_)
      refine WL.xe (E.loadAgg Try.isAgg31 Try.sizeOf31 rfl hp11) (by decide) (fun c12 hc13 => ?_)
      obtain rfl := hc13
      refine WL.tn (T.alloc Try.zeroValue31 rfl) (by decide) fun b14 => ?_
      refine WL.ts (T.storeBA (k := 0) Try.sizeOf31 rfl rfl rfl (one_cons rfl (one_cons rfl one_nil)) rfl rfl) ?_
      refine WL.nil ?_
      refine WK.nThen ?_
      refine WC.region ?_
      refine WL.x (X.move rfl) (by decide) ?_
      refine WL.x (X.field Try.runUnderlying31 rfl Try.sizeOf3 rfl) (by decide) ?_
      refine WL.x (X.loadB (k := 0) Try.isAgg3 rfl rfl rfl) (by decide) ?_
      refine WL.tl (T.lit1 sl29 rfl rfl rfl (by decide)) (by decide) fun b15 => ?_
      refine WL.ta (T.appendF (k := 1) (a := (gt c.at_ k).Lo) sl29 rfl rfl rfl rfl (by first | omega | (simp; omega)) (by decide)) (by decide) (fun v16 => ?_)
      refine WL.x (X.assign rfl) (by decide) ?_
      refine WL.nil ?_
      refine WK.nBlock ?_
      refine WK.nThen ?_
      refine WC.region ?_
      refine WL.x (X.add rfl rfl (by omega) (by omega)) (by decide) ?_
      refine WL.x (X.move rfl) (by decide) ?_
      refine WL.nil ?_
      refine WK.nThen ?_
      have he17 : (((List.range k).map (fun i => (gt c.at_ i).Lo)) ++ [(gt c.at_ k).Lo]) = ((List.range (k + 1)).map (fun i => (gt c.at_ i).Lo)) := map_succ _ _
      rw [he17]
      refine WK.next ((k + 1, v16)) rfl (.cons _ (.cons_cons _ (.cons_cons _ .slnil))) (.cons rfl (.cons rfl (.cons rfl (.cons rfl .nil)))) ?_ ?_
      · omega
      · (dsimp only; omega)
    · refine WL.nil ?_
      refine WK.nThen ?_
      refine WC.seq ?_
      refine WC.condF rfl ?_
      refine WC.exit ?_
      refine WK.eThen ?_
      refine WK.eThen ?_
      refine WK.eHit ?_
      refine WK.nThen ?_
      refine WC.seq ?_
      obtain rfl : k = c.at_.length := (by omega)
      refine WC.region ?_
      refine WL.x (X.move rfl) (by decide) ?_
      refine WL.x (X.assign rfl) (by decide) ?_
      refine WL.nil ?_
      refine WK.nThen ?_
      refine WC.ret ?_
      refine WK.freezeF 0 rfl rfl (by first | (simp [lenB]; omega) | (unfold lenB; omega)) (fun m18 hle19 hs20 => ?_)
      replace hs2 := hs2.mono hle19
      replace hs4 := hs4.mono hle19
      refine WK.ret1 rfl rfl (fun w' hw' => Ret.mem hw' ?_)
      exact ⟨_, rfl, hs20⟩

theorem latest81 (m : Mem) (cc : List Value) (c : Ck) (hc : Enc.rd m cc c)  (hl : c.at_.length ≤ 1000) : Pure Try.prog 81 #[.agg cc.toArray] m (fun m' v => ∃ r0, v = r0 ∧ Sl m' r0 (hisL c.at_)) := by
  obtain ⟨v1, v3, rfl, hs2, hs4⟩ := hc
  have hl5 := hs2.le
  have hl6 := hs4.le
  refine Pure.start Try.func81 rfl Try.ntmps81 rfl fun wld => ?_
  refine WC.seq ?_
  refine WC.region ?_
  refine WL.tn (T.boxB rfl rfl) (by decide) fun b7 => ?_
  refine WL.x (X.assign rfl) (by decide) ?_
  refine WL.nil ?_
  refine WK.nThen ?_
  refine WC.seq ?_
  refine WK.ownF Int 3 ?_
  refine WC.region ?_
  refine WL.x (X.assign rfl) (by decide) ?_
  refine WL.nil ?_
  refine WK.nThen ?_
  refine WC.seq ?_
  refine WC.seq ?_
  refine WC.region ?_
  refine WL.x (X.field Try.runUnderlying83 rfl Try.sizeOf22 rfl) (by decide) ?_
  refine WL.x (X.loadB (k := 1) Try.isAgg22 rfl rfl rfl) (by decide) ?_
  refine WL.x (X.len Try.runUnderlying22 rfl hs4) (by decide) ?_
  refine WL.x (X.move rfl) (by decide) ?_
  refine WL.nil ?_
  refine WK.nThen ?_
  refine WC.block ?_
  refine WC.loop (G := Nat × Value) (fun (k, vo) => c.at_.length - k) (fun (k, vo) => m) (fun (k, vo) => [rowF (vo) 3 ((List.range k).map (fun i => (gt c.at_ i).Hi)), blk b7 83 [v1, v3]]) (fun (k, vo) => [(3, vo), (7, v3), (8, .int .i64 (↑c.at_.length)), (9, .int .i64 (↑k))]) (fun (k, vo) => k ≤ c.at_.length) ((0, Value.slice none 0 0)) rfl (.refl _) (.cons rfl (.cons rfl (.cons rfl (.cons rfl .nil)))) ?_ ?_
  · exact Nat.zero_le _
  · rintro ⟨k, vo⟩ hF8
    show WK _ _ m [rowF (vo) 3 ((List.range k).map (fun i => (gt c.at_ i).Hi)), blk b7 83 [v1, v3]] [(3, vo), (7, v3), (8, .int .i64 (↑c.at_.length)), (9, .int .i64 (↑k))] _
    replace hF8 : k ≤ c.at_.length := hF8
    have hk := hF8
    refine WC.seq ?_
    refine WC.region ?_
    refine WL.cond (X.lss rfl rfl) (by decide) (fun h9 => ?_) (fun h9 => ?_)
    · refine WL.nil ?_
      refine WK.nThen ?_
      refine WC.seq ?_
      refine WC.condT rfl ?_
      refine WC.skip ?_
      refine WK.nThen ?_
      refine WC.seq ?_
      refine WC.block ?_
      refine WC.seq ?_
      refine WC.region ?_
      refine WL.xe (E.idxN k Try.runUnderlying22 Try.sizeOf31 rfl rfl hs4 (by omega)) (by decide) (fun p10 hp11 => ?_)
      refine WL.xe (E.loadAgg Try.isAgg31 Try.sizeOf31 rfl hp11) (by decide) (fun c12 hc13 => ?_)
      obtain rfl := hc13
      refine WL.tn (T.alloc Try.zeroValue31 rfl) (by decide) fun b14 => ?_
      refine WL.ts (T.storeBA (k := 0) Try.sizeOf31 rfl rfl rfl (one_cons rfl (one_cons rfl one_nil)) rfl rfl) ?_
      refine WL.nil ?_
      refine WK.nThen ?_
      refine WC.region ?_
      refine WL.x (X.move rfl) (by decide) ?_
      refine WL.x (X.field Try.runUnderlying31 rfl Try.sizeOf3 rfl) (by decide) ?_
      refine WL.x (X.loadB (k := 0) Try.isAgg3 rfl rfl rfl) (by decide) ?_
      refine WL.tl (T.lit1 sl29 rfl rfl rfl (by decide)) (by decide) fun b15 => ?_
      refine WL.ta (T.appendF (k := 1) (a := (gt c.at_ k).Hi) sl29 rfl rfl rfl rfl (by first | omega | (simp; omega)) (by decide)) (by decide) (fun v16 => ?_)
      refine WL.x (X.assign rfl) (by decide) ?_
      refine WL.nil ?_
      refine WK.nBlock ?_
      refine WK.nThen ?_
      refine WC.region ?_
      refine WL.x (X.add rfl rfl (by omega) (by omega)) (by decide) ?_
      refine WL.x (X.move rfl) (by decide) ?_
      refine WL.nil ?_
      refine WK.nThen ?_
      have he17 : (((List.range k).map (fun i => (gt c.at_ i).Hi)) ++ [(gt c.at_ k).Hi]) = ((List.range (k + 1)).map (fun i => (gt c.at_ i).Hi)) := map_succ _ _
      rw [he17]
      refine WK.next ((k + 1, v16)) rfl (.cons _ (.cons_cons _ (.cons_cons _ .slnil))) (.cons rfl (.cons rfl (.cons rfl (.cons rfl .nil)))) ?_ ?_
      · omega
      · (dsimp only; omega)
    · refine WL.nil ?_
      refine WK.nThen ?_
      refine WC.seq ?_
      refine WC.condF rfl ?_
      refine WC.exit ?_
      refine WK.eThen ?_
      refine WK.eThen ?_
      refine WK.eHit ?_
      refine WK.nThen ?_
      refine WC.seq ?_
      obtain rfl : k = c.at_.length := (by omega)
      refine WC.region ?_
      refine WL.x (X.move rfl) (by decide) ?_
      refine WL.x (X.assign rfl) (by decide) ?_
      refine WL.nil ?_
      refine WK.nThen ?_
      refine WC.ret ?_
      refine WK.freezeF 0 rfl rfl (by first | (simp [lenB]; omega) | (unfold lenB; omega)) (fun m18 hle19 hs20 => ?_)
      replace hs2 := hs2.mono hle19
      replace hs4 := hs4.mono hle19
      refine WK.ret1 rfl rfl (fun w' hw' => Ret.mem hw' ?_)
      exact ⟨_, rfl, hs20⟩

theorem opened75 (m : Mem) (cd : List Value) (d : Drum) (hd : Enc.rd m cd d) (vm_ : Value) (m_ : List Mark) (hm_ : Sl m vm_ m_) (vcolumns : Value) (columns : List Int) (hcolumns : Sl m vcolumns columns) (vticks : Value) (ticks : List Int) (hticks : Sl m vticks ticks)   : Pure Try.prog 75 #[.agg cd.toArray, vm_, vcolumns, vticks] m (fun m' v => ∃ r0, v = .tuple #[.agg r0.toArray, .int .i64 (openE d m_ columns ticks)] ∧ Enc.rd m' r0 (openC d m_ columns ticks)) := by
  obtain ⟨v1, v3, rfl, hs2, hs4⟩ := hd
  have hl5 := hs2.le
  have hl6 := hs4.le
  have lm_ := hm_.le
  have lcolumns := hcolumns.le
  have lticks := hticks.le
  refine Pure.start Try.func75 rfl Try.ntmps75 rfl fun wld => ?_
  refine WC.seq ?_
  refine WC.region ?_
  refine WL.tn (T.boxB rfl rfl) (by decide) fun b7 => ?_
  refine WL.tn (T.alloc Try.zeroValue83 rfl) (by decide) fun b8 => ?_
  refine WL.x (X.assign rfl) (by decide) ?_
  refine WL.nil ?_
  refine WK.nThen ?_
  refine WC.seq ?_
  refine WC.seq ?_
  refine WC.region ?_
  refine WL.x (X.loadBA (k := 1) Try.isAgg25 Try.sizeOf25 rfl rfl rfl) (by decide) ?_
  refine WL.x (X.move rfl) (by decide) ?_
  refine WL.x (X.call Try.call91 rfl (checked91 _ _ d ⟨_, _, rfl, hs2, hs4⟩ _ _ hm_ )) (by decide) ?_
  refine WL.x (X.assign rfl) (by decide) ?_
  refine WL.nil ?_
  refine WK.nThen ?_
  refine WC.seq ?_
  refine WC.region ?_
  refine WL.x (X.move rfl) (by decide) ?_
  refine WL.condn (X.neq rfl rfl) (by decide) (fun h9 => ?_) (fun h9 => ?_)
  · refine WL.nil ?_
    refine WK.nThen ?_
    refine WC.condT rfl ?_
    refine WC.seq ?_
    refine WC.region ?_
    refine WL.x (V := Value.agg [.slice none 0 0, .slice none 0 0].toArray) (X.build Try.zeroValue83 Try.runUnderlying83 (places83 _ Try.underlying83) rfl rfl) (by decide) ?_
    refine WL.x (X.move rfl) (by decide) ?_
    refine WL.ts (T.storeBA (k := 0) Try.sizeOf83 rfl rfl rfl (one_cons rfl (one_cons rfl one_nil)) rfl rfl) ?_
    refine WL.x (X.assign rfl) (by decide) ?_
    refine WL.nil ?_
    refine WK.nThen ?_
    refine WC.ret ?_
    refine WK.rThen ?_
    refine WK.retC2 0 rfl rfl rfl rfl Try.isAgg83 Try.sizeOf83 (fun w' hw' => Ret.mem hw' ?_)
    first | (have he_ := (openE_bad (by omega) : openE d m_ columns ticks = _); exact ⟨_, tup2 rfl (int_eq he_.symm), by rw [openC_bad (by rw [he_]; omega)]; exact ⟨_, _, rfl, .nil, .nil⟩⟩) | (have he_ := (openE_arg (by omega) (fun h_ => by have h1_ := h_.1; contradiction) : openE d m_ columns ticks = _); exact ⟨_, tup2 rfl (int_eq he_.symm), by rw [openC_bad (by rw [he_]; omega)]; exact ⟨_, _, rfl, .nil, .nil⟩⟩) | (have he_ := (openE_arg (by omega) (fun h_ => by have h1_ := h_.2; contradiction) : openE d m_ columns ticks = _); exact ⟨_, tup2 rfl (int_eq he_.symm), by rw [openC_bad (by rw [he_]; omega)]; exact ⟨_, _, rfl, .nil, .nil⟩⟩) | (have he_ := (openE_time (by omega) ⟨Decidable.of_not_not ‹_›, Decidable.of_not_not ‹_›⟩ (fun h_ => by have := (okC_clock d m_).2 h_; contradiction) : openE d m_ columns ticks = _); exact ⟨_, tup2 rfl (int_eq he_.symm), by rw [openC_bad (by rw [he_]; omega)]; exact ⟨_, _, rfl, .nil, .nil⟩⟩)
  · refine WL.nil ?_
    refine WK.nThen ?_
    refine WC.condF rfl ?_
    refine WC.skip ?_
    refine WK.nThen ?_
    refine WC.seq ?_
    refine WK.freezeS (α := Drum) (x := d) 1 rfl rfl (show Enc.rd (α := Drum) m [v1, v3] d from ⟨_, _, rfl, hs2, hs4⟩) (fun m10 hle11 hp12 => ?_)
    replace hs2 := hs2.mono hle11
    replace hs4 := hs4.mono hle11
    replace hm_ := hm_.mono hle11
    replace hcolumns := hcolumns.mono hle11
    replace hticks := hticks.mono hle11
    refine WC.region ?_
    refine WL.x (X.makeFunc (by intro x hx; simp at hx; subst hx; all_goals exact ⟨_, rfl⟩) rfl) (by decide) ?_
    refine WL.x (X.assign rfl) (by decide) ?_
    refine WL.nil ?_
    refine WK.nThen ?_
    refine WC.seq ?_
    refine WC.region ?_
    refine WL.x (X.assign rfl) (by decide) ?_
    refine WL.nil ?_
    refine WK.nThen ?_
    refine WC.seq ?_
    refine WC.seq ?_
    refine WC.region ?_
    refine WL.x (X.move rfl) (by decide) ?_
    refine WL.x (X.move rfl) (by decide) ?_
    refine WL.cond (X.call Try.call101 rfl (cont101 (p := fun i => ¬ (0 ≤ gt columns i ∧ gt columns i ≤ (d.Rates.length : Int))) _ hcolumns (caps := [.pointer (some (⟨b7, 0, none⟩))]) Try.call124 (fun i _ => col124 _ (gt columns i) hp12))) (by decide) (fun h13 => ?_) (fun h13 => ?_)
    · refine WL.x (X.move rfl) (by decide) ?_
      refine WL.no rfl rfl rfl (by decide) ?_
      refine WL.no rfl rfl rfl (by decide) ?_
      refine WL.no rfl rfl rfl (by decide) ?_
      refine WL.x (X.pickT rfl rfl rfl) (by decide) ?_
      refine WL.nil ?_
      refine WK.nThen ?_
      refine WC.condT rfl ?_
      refine WC.seq ?_
      refine WC.region ?_
      refine WL.x (V := Value.agg [.slice none 0 0, .slice none 0 0].toArray) (X.build Try.zeroValue83 Try.runUnderlying83 (places83 _ Try.underlying83) rfl rfl) (by decide) ?_
      refine WL.ts (T.storeBA (k := 0) Try.sizeOf83 rfl rfl rfl (one_cons rfl (one_cons rfl one_nil)) rfl rfl) ?_
      refine WL.x (X.assign rfl) (by decide) ?_
      refine WL.nil ?_
      refine WK.nThen ?_
      refine WC.ret ?_
      refine WK.rThen ?_
      refine WK.retC2 0 rfl rfl rfl rfl Try.isAgg83 Try.sizeOf83 (fun w' hw' => Ret.mem hw' ?_)
      first | (have he_ := (openE_bad (by omega) : openE d m_ columns ticks = _); exact ⟨_, tup2 rfl (int_eq he_.symm), by rw [openC_bad (by rw [he_]; omega)]; exact ⟨_, _, rfl, .nil, .nil⟩⟩) | (have he_ := (openE_arg (by omega) (fun h_ => by have h1_ := h_.1; contradiction) : openE d m_ columns ticks = _); exact ⟨_, tup2 rfl (int_eq he_.symm), by rw [openC_bad (by rw [he_]; omega)]; exact ⟨_, _, rfl, .nil, .nil⟩⟩) | (have he_ := (openE_arg (by omega) (fun h_ => by have h1_ := h_.2; contradiction) : openE d m_ columns ticks = _); exact ⟨_, tup2 rfl (int_eq he_.symm), by rw [openC_bad (by rw [he_]; omega)]; exact ⟨_, _, rfl, .nil, .nil⟩⟩) | (have he_ := (openE_time (by omega) ⟨Decidable.of_not_not ‹_›, Decidable.of_not_not ‹_›⟩ (fun h_ => by have := (okC_clock d m_).2 h_; contradiction) : openE d m_ columns ticks = _); exact ⟨_, tup2 rfl (int_eq he_.symm), by rw [openC_bad (by rw [he_]; omega)]; exact ⟨_, _, rfl, .nil, .nil⟩⟩)
    · refine WL.x (X.move rfl) (by decide) ?_
      refine WL.yes rfl rfl ?_
      refine WL.x (X.move rfl) (by decide) ?_
      refine WL.yes rfl rfl ?_
      refine WL.x (X.move rfl) (by decide) ?_
      refine WL.yes rfl rfl ?_
      refine WL.cond (X.call Try.call101 rfl (cont101 (p := fun i => ¬ (0 ≤ gt ticks i ∧ gt ticks i ≤ 400)) _ hticks (caps := []) Try.call125 (fun i _ => tick125 _ (gt ticks i)))) (by decide) (fun h14 => ?_) (fun h14 => ?_)
      · refine WL.x (X.pickF rfl rfl rfl) (by decide) ?_
        refine WL.nil ?_
        refine WK.nThen ?_
        refine WC.condT rfl ?_
        refine WC.seq ?_
        refine WC.region ?_
        refine WL.x (V := Value.agg [.slice none 0 0, .slice none 0 0].toArray) (X.build Try.zeroValue83 Try.runUnderlying83 (places83 _ Try.underlying83) rfl rfl) (by decide) ?_
        refine WL.ts (T.storeBA (k := 0) Try.sizeOf83 rfl rfl rfl (one_cons rfl (one_cons rfl one_nil)) rfl rfl) ?_
        refine WL.x (X.assign rfl) (by decide) ?_
        refine WL.nil ?_
        refine WK.nThen ?_
        refine WC.ret ?_
        refine WK.rThen ?_
        refine WK.retC2 0 rfl rfl rfl rfl Try.isAgg83 Try.sizeOf83 (fun w' hw' => Ret.mem hw' ?_)
        first | (have he_ := (openE_bad (by omega) : openE d m_ columns ticks = _); exact ⟨_, tup2 rfl (int_eq he_.symm), by rw [openC_bad (by rw [he_]; omega)]; exact ⟨_, _, rfl, .nil, .nil⟩⟩) | (have he_ := (openE_arg (by omega) (fun h_ => by have h1_ := h_.1; contradiction) : openE d m_ columns ticks = _); exact ⟨_, tup2 rfl (int_eq he_.symm), by rw [openC_bad (by rw [he_]; omega)]; exact ⟨_, _, rfl, .nil, .nil⟩⟩) | (have he_ := (openE_arg (by omega) (fun h_ => by have h1_ := h_.2; contradiction) : openE d m_ columns ticks = _); exact ⟨_, tup2 rfl (int_eq he_.symm), by rw [openC_bad (by rw [he_]; omega)]; exact ⟨_, _, rfl, .nil, .nil⟩⟩) | (have he_ := (openE_time (by omega) ⟨Decidable.of_not_not ‹_›, Decidable.of_not_not ‹_›⟩ (fun h_ => by have := (okC_clock d m_).2 h_; contradiction) : openE d m_ columns ticks = _); exact ⟨_, tup2 rfl (int_eq he_.symm), by rw [openC_bad (by rw [he_]; omega)]; exact ⟨_, _, rfl, .nil, .nil⟩⟩)
      · refine WL.x (X.pickF rfl rfl rfl) (by decide) ?_
        refine WL.nil ?_
        refine WK.nThen ?_
        refine WC.condF rfl ?_
        refine WC.skip ?_
        refine WK.nThen ?_
        refine WC.seq ?_
        have hok := Ok.of (d := d) (m := m_) (by omega)
        refine WC.region ?_
        refine WL.xe (E.loadAgg Try.isAgg25 Try.sizeOf25 rfl hp12) (by decide) (fun c15 hc16 => ?_)
        obtain ⟨v17, v19, rfl, hs18, hs20⟩ := hc16
        have hl21 := hs18.le
        have hl22 := hs20.le
        refine WL.x (X.move rfl) (by decide) ?_
        refine WL.tm (T.call Try.call96 rfl (clockOf96 _ _ d ⟨_, _, rfl, hs18, hs20⟩ _ _ hm_ hok)) (by decide) fun m23 r24 hle25 hR26 => ?_
        obtain ⟨c27, rfl, hc28⟩ := hR26
        replace hs2 := hs2.mono hle25
        replace hs4 := hs4.mono hle25
        replace hm_ := hm_.mono hle25
        replace hcolumns := hcolumns.mono hle25
        replace hticks := hticks.mono hle25
        replace hp12 := hp12.mono hle25
        replace hs18 := hs18.mono hle25
        replace hs20 := hs20.mono hle25
        obtain ⟨v29, v31, rfl, hs30, hs32⟩ := hc28
        have hl33 := hs30.le
        have hl34 := hs32.le
        refine WL.tm (T.call Try.call88 rfl (settled88 _ _ (Ck.mk (gapL d) (atL d m_)) ⟨_, _, rfl, hs30, hs32⟩ (CkW.of hok))) (by decide) fun m35 r36 hle37 hR38 => ?_
        obtain ⟨c39, rfl, hc40⟩ := hR38
        replace hs2 := hs2.mono hle37
        replace hs4 := hs4.mono hle37
        replace hm_ := hm_.mono hle37
        replace hcolumns := hcolumns.mono hle37
        replace hticks := hticks.mono hle37
        replace hp12 := hp12.mono hle37
        replace hs18 := hs18.mono hle37
        replace hs20 := hs20.mono hle37
        replace hs30 := hs30.mono hle37
        replace hs32 := hs32.mono hle37
        obtain ⟨v41, v43, rfl, hs42, hs44⟩ := hc40
        have hl45 := hs42.le
        have hl46 := hs44.le
        refine WL.x (X.move rfl) (by decide) ?_
        refine WL.x (X.extract rfl rfl) (by decide) ?_
        refine WL.x (X.extract rfl rfl) (by decide) ?_
        refine WL.tn (T.alloc Try.zeroValue83 rfl) (by decide) fun b47 => ?_
        refine WL.ts (T.storeBA (k := 0) Try.sizeOf83 rfl rfl rfl (one_cons hs42.one (one_cons hs44.one one_nil)) rfl rfl) ?_
        refine WL.x (X.assign rfl) (by decide) ?_
        refine WL.nil ?_
        refine WK.nThen ?_
        refine WC.seq ?_
        refine WC.seq ?_
        refine WC.region ?_
        refine WL.x (X.move rfl) (by decide) ?_
        refine WL.condn (X.notp rfl) (by decide) (fun h48 => ?_) (fun h48 => ?_)
        · refine WL.nil ?_
          refine WK.nThen ?_
          refine WC.condT rfl ?_
          refine WC.seq ?_
          refine WC.region ?_
          refine WL.x (V := Value.agg [.slice none 0 0, .slice none 0 0].toArray) (X.build Try.zeroValue83 Try.runUnderlying83 (places83 _ Try.underlying83) rfl rfl) (by decide) ?_
          refine WL.ts (T.storeBA (k := 1) Try.sizeOf83 rfl rfl rfl (one_cons rfl (one_cons rfl one_nil)) rfl rfl) ?_
          refine WL.x (X.assign rfl) (by decide) ?_
          refine WL.nil ?_
          refine WK.nThen ?_
          refine WC.ret ?_
          refine WK.rThen ?_
          refine WK.retC2 1 rfl rfl rfl rfl Try.isAgg83 Try.sizeOf83 (fun w' hw' => Ret.mem hw' ?_)
          first | (have he_ := (openE_bad (by omega) : openE d m_ columns ticks = _); exact ⟨_, tup2 rfl (int_eq he_.symm), by rw [openC_bad (by rw [he_]; omega)]; exact ⟨_, _, rfl, .nil, .nil⟩⟩) | (have he_ := (openE_arg (by omega) (fun h_ => by have h1_ := h_.1; contradiction) : openE d m_ columns ticks = _); exact ⟨_, tup2 rfl (int_eq he_.symm), by rw [openC_bad (by rw [he_]; omega)]; exact ⟨_, _, rfl, .nil, .nil⟩⟩) | (have he_ := (openE_arg (by omega) (fun h_ => by have h1_ := h_.2; contradiction) : openE d m_ columns ticks = _); exact ⟨_, tup2 rfl (int_eq he_.symm), by rw [openC_bad (by rw [he_]; omega)]; exact ⟨_, _, rfl, .nil, .nil⟩⟩) | (have he_ := (openE_time (by omega) ⟨Decidable.of_not_not ‹_›, Decidable.of_not_not ‹_›⟩ (fun h_ => by have := (okC_clock d m_).2 h_; contradiction) : openE d m_ columns ticks = _); exact ⟨_, tup2 rfl (int_eq he_.symm), by rw [openC_bad (by rw [he_]; omega)]; exact ⟨_, _, rfl, .nil, .nil⟩⟩)
        · refine WL.nil ?_
          refine WK.nThen ?_
          refine WC.condF rfl ?_
          refine WC.skip ?_
          refine WK.nThen ?_
          refine WC.seq ?_
          refine WC.region ?_
          refine WL.x (X.loadBA (k := 0) Try.isAgg83 Try.sizeOf83 rfl rfl rfl) (by decide) ?_
          refine WL.ts (T.storeBA (k := 1) Try.sizeOf83 rfl rfl rfl (one_cons hs42.one (one_cons hs44.one one_nil)) rfl rfl) ?_
          refine WL.x (X.assign rfl) (by decide) ?_
          refine WL.nil ?_
          refine WK.nThen ?_
          refine WC.ret ?_
          refine WK.retC2 1 rfl rfl rfl rfl Try.isAgg83 Try.sizeOf83 (fun w' hw' => Ret.mem hw' ?_)
          first | (have he_ := (openE_ok (by omega) ⟨Decidable.of_not_not ‹_›, Decidable.of_not_not ‹_›⟩ ((okC_clock d m_).1 (by assumption)) : openE d m_ columns ticks = _); exact ⟨_, tup2 rfl (int_eq he_.symm), by rw [openC_ok he_]; unfold setC; rw [← setL_clock]; exact ⟨_, _, rfl, hs42, hs44⟩⟩)

set_option maxHeartbeats 1000000 in
theorem most143 (m : Mem) (cc : List Value) (c : Ck) (hc : Enc.rd m cc c) (fr : Int)  (hw : CkW c) (hf : 0 ≤ fr ∧ fr ≤ c.gaps.length) : Pure Try.prog 143 #[.agg cc.toArray, .int .i64 (fr)] m (fun m' v => ∃ r0, v = r0 ∧ Sl m' r0 (mostL c (fr : Int).toNat)) := by
  obtain ⟨v1, v3, rfl, hs2, hs4⟩ := hc
  have hl5 := hs2.le
  have hl6 := hs4.le
  have hnn := hw.n
  have hlc := hw.l
  have hfn : (fr : Int).toNat ≤ c.gaps.length := (by omega)
  have haf := hw.a (fr : Int).toNat (by omega)
  refine Pure.start Try.func143 rfl Try.ntmps143 rfl fun wld => ?_
  refine WC.seq ?_
  refine WC.region ?_
  refine WL.tn (T.boxB rfl rfl) (by decide) fun b7 => ?_
  refine WL.x (X.assign rfl) (by decide) ?_
  refine WL.nil ?_
  refine WK.nThen ?_
  refine WC.seq ?_
  refine WC.region ?_
  refine WL.x (X.field Try.runUnderlying83 rfl Try.sizeOf22 rfl) (by decide) ?_
  refine WL.x (X.loadB (k := 0) Try.isAgg22 rfl rfl rfl) (by decide) ?_
  refine WL.x (X.move rfl) (by decide) ?_
  refine WL.xe (E.idx Try.runUnderlying22 Try.sizeOf31 rfl rfl hs4 (by omega) (by omega)) (by decide) (fun p8 hp9 => ?_)
  have hp10 := At.Span_0 hp9
  refine WL.x (X.field Try.runUnderlying31 rfl Try.sizeOf3 rfl) (by decide) ?_
  refine WL.x (X.loadInt Try.isAgg3 rfl hp10) (by decide) ?_
  refine WL.x (X.assign rfl) (by decide) ?_
  refine WL.nil ?_
  refine WK.nThen ?_
  refine WC.seq ?_
  refine WC.region ?_
  refine WL.x (X.field Try.runUnderlying83 rfl Try.sizeOf22 rfl) (by decide) ?_
  refine WL.x (X.loadB (k := 0) Try.isAgg22 rfl rfl rfl) (by decide) ?_
  refine WL.x (X.len Try.runUnderlying22 rfl hs4) (by decide) ?_
  refine WL.ta (T.makeN c.at_.length (a := (0 : Int)) sl29 rfl rfl rfl (by omega) (by decide)) (by decide) (fun v11 => ?_)
  refine WL.tn (T.alloc Try.zeroValue29 rfl) (by decide) fun b12 => ?_
  refine WL.own1 (k := 1) rfl (fun ho13 => ?_)
  refine WL.ts (T.storeB (k := 0) Try.sizeOf29 rfl rfl rfl ho13 (Nat.le_of_ble_eq_true rfl)) ?_
  refine WL.nil ?_
  refine WK.nThen ?_
  refine WC.seq ?_
  refine WC.seq ?_
  refine WC.region ?_
  refine WL.x (X.field Try.runUnderlying83 rfl Try.sizeOf22 rfl) (by decide) ?_
  refine WL.x (X.loadB (k := 2) Try.isAgg22 rfl rfl rfl) (by decide) ?_
  refine WL.x (X.len Try.runUnderlying22 rfl hs4) (by decide) ?_
  refine WL.x (X.move rfl) (by decide) ?_
  refine WL.nil ?_
  refine WK.nThen ?_
  refine WC.block ?_
  have he14 : (List.replicate c.at_.length (0 : Int)) = (dfN c (fr : Int).toNat 0) := (by rw [hlc]; exact dfN_zero c (fr : Int).toNat)
  rw [he14]
  refine WC.loop (G := Nat) (fun k => c.at_.length - k) (fun k => m) (fun k => [blk b12 29 [v11], rowF (v11) 3 (dfN c (fr : Int).toNat k), blk b7 83 [v1, v3]]) (fun k => [(1, .int .i64 (fr)), (2, .pointer (some ⟨b7, 0, none⟩)), (5, .int .i64 ((gt c.at_ ((fr : Int).toNat)).Lo)), (6, .pointer (some ⟨b12, 0, none⟩)), (25, v3), (26, .int .i64 (↑c.at_.length)), (27, .int .i64 (↑k))]) (fun k => k ≤ c.at_.length) 0 rfl (.refl _) (.cons rfl (.cons rfl (.cons rfl (.cons rfl (.cons rfl (.cons rfl (.cons rfl .nil))))))) ?_ ?_
  · exact Nat.zero_le _
  · rintro k hF15
    show WK _ _ m [blk b12 29 [v11], rowF (v11) 3 (dfN c (fr : Int).toNat k), blk b7 83 [v1, v3]] [(1, .int .i64 (fr)), (2, .pointer (some ⟨b7, 0, none⟩)), (5, .int .i64 ((gt c.at_ ((fr : Int).toNat)).Lo)), (6, .pointer (some ⟨b12, 0, none⟩)), (25, v3), (26, .int .i64 (↑c.at_.length)), (27, .int .i64 (↑k))] _
    replace hF15 : k ≤ c.at_.length := hF15
    have hk := hF15
    have hdl := dfN_len c (fr : Int).toNat k
    have hak := fun h => hw.a k h
    refine WC.seq ?_
    refine WC.region ?_
    refine WL.cond (X.lss rfl rfl) (by decide) (fun h16 => ?_) (fun h16 => ?_)
    · refine WL.nil ?_
      refine WK.nThen ?_
      refine WC.seq ?_
      refine WC.condT rfl ?_
      refine WC.skip ?_
      refine WK.nThen ?_
      refine WC.seq ?_
      refine WC.block ?_
      refine WC.seq ?_
      refine WC.region ?_
      refine WL.x (X.move rfl) (by decide) ?_
      refine WL.xe (E.idxN k Try.runUnderlying22 Try.sizeOf31 rfl rfl hs4 (by omega)) (by decide) (fun p17 hp18 => ?_)
      refine WL.xe (E.loadAgg Try.isAgg31 Try.sizeOf31 rfl hp18) (by decide) (fun c19 hc20 => ?_)
      obtain rfl := hc20
      refine WL.tn (T.alloc Try.zeroValue31 rfl) (by decide) fun b21 => ?_
      refine WL.x (X.assign rfl) (by decide) ?_
      refine WL.ts (T.storeBA (k := 0) Try.sizeOf31 rfl rfl rfl (one_cons rfl (one_cons rfl one_nil)) rfl rfl) ?_
      refine WL.nil ?_
      refine WK.nThen ?_
      refine WC.region ?_
      refine WL.x (X.loadB (k := 1) Try.isAgg29 rfl rfl rfl) (by decide) ?_
      refine WL.x (X.move rfl) (by decide) ?_
      refine WL.x (X.field Try.runUnderlying31 rfl Try.sizeOf3 rfl) (by decide) ?_
      refine WL.x (X.loadB (k := 0) Try.isAgg3 rfl rfl rfl) (by decide) ?_
      refine WL.x (X.move rfl) (by decide) ?_
      refine WL.x (X.sub rfl rfl (by omega) (by omega)) (by decide) ?_
      refine WL.x (X.idxIE (k := 2) k Try.runUnderlying29 Try.sizeOf3 rfl rfl rfl (by omega) (by first | omega | (simp; omega) | simp)) (by decide) ?_
      refine WL.ts (T.storeI (k := 2) (i := k) Try.sizeOf3 rfl rfl rfl (by first | omega | (simp; omega) | simp)) ?_
      refine WL.nil ?_
      refine WK.nBlock ?_
      refine WK.nThen ?_
      refine WC.region ?_
      refine WL.x (X.add rfl rfl (by omega) (by omega)) (by decide) ?_
      refine WL.x (X.move rfl) (by decide) ?_
      refine WL.nil ?_
      refine WK.nThen ?_
      have he22 : ((dfN c (fr : Int).toNat k).set k (((gt c.at_ k).Hi) - ((gt c.at_ ((fr : Int).toNat)).Lo))) = (dfN c (fr : Int).toNat (k + 1)) := (dfN_step (by omega))
      rw [he22]
      refine WK.next (k + 1) rfl (.cons _ (.cons_cons _ (.cons_cons _ (.cons_cons _ .slnil)))) (.cons rfl (.cons rfl (.cons rfl (.cons rfl (.cons rfl (.cons rfl (.cons rfl .nil))))))) ?_ ?_
      · omega
      · omega
    · refine WL.nil ?_
      refine WK.nThen ?_
      refine WC.seq ?_
      refine WC.condF rfl ?_
      refine WC.exit ?_
      refine WK.eThen ?_
      refine WK.eThen ?_
      refine WK.eHit ?_
      refine WK.nThen ?_
      refine WC.seq ?_
      have he23 : (dfN c (fr : Int).toNat k) = (dfN c (fr : Int).toNat (c.gaps.length + 1)) := (by rw [show k = c.gaps.length + 1 by omega])
      rw [he23]
      have hdl2 := dfN_len c (fr : Int).toNat (c.gaps.length + 1)
      refine WC.region ?_
      refine WL.x (X.loadB (k := 0) Try.isAgg29 rfl rfl rfl) (by decide) ?_
      refine WL.x (X.move rfl) (by decide) ?_
      refine WL.x (X.idxI (k := 1) Try.runUnderlying29 Try.sizeOf3 rfl rfl rfl (by first | omega | (simp; omega) | simp) (by first | omega | (simp; omega) | simp)) (by decide) ?_
      refine WL.x (X.loadI (k := 1) (i := (fr : Int).toNat) Try.isAgg3 rfl rfl (by first | omega | (simp; omega) | simp)) (by decide) ?_
      refine WL.x (X.assign rfl) (by decide) ?_
      refine WL.nil ?_
      refine WK.nThen ?_
      refine WC.seq ?_
      refine WC.region ?_
      refine WL.x (X.loadB (k := 0) Try.isAgg29 rfl rfl rfl) (by decide) ?_
      refine WL.x (X.move rfl) (by decide) ?_
      refine WL.x (X.move rfl) (by decide) ?_
      refine WL.x (X.mn rfl rfl) (by decide) ?_
      refine WL.x (X.idxI (k := 1) Try.runUnderlying29 Try.sizeOf3 rfl rfl rfl (by first | omega | (simp; omega) | simp) (by first | omega | (simp; omega) | simp)) (by decide) ?_
      refine WL.ts (T.storeI (k := 1) (i := (fr : Int).toNat) Try.sizeOf3 rfl rfl rfl (by first | omega | (simp; omega) | simp)) ?_
      refine WL.nil ?_
      refine WK.nThen ?_
      refine WC.seq ?_
      refine WC.seq ?_
      refine WC.region ?_
      refine WL.x (X.move rfl) (by decide) ?_
      refine WL.nil ?_
      refine WK.nThen ?_
      refine WC.block ?_
      have he24 : ((dfN c (fr : Int).toNat (c.gaps.length + 1)).set ((fr : Int).toNat) (min (gt (dfN c (fr : Int).toNat (c.gaps.length + 1)) ((fr : Int).toNat)) 0)) = (hiL c (mosX c (fr : Int).toNat 0)) := (dfN_last hfn)
      rw [he24]
      refine WC.loop (G := Nat) (fun r => 2 - r) (fun r => m) (fun r => [blk b12 29 [v11], rowF (v11) 3 (hiL c (mosX c (fr : Int).toNat r)), blk b7 83 [v1, v3]]) (fun r => [(2, .pointer (some ⟨b7, 0, none⟩)), (6, .pointer (some ⟨b12, 0, none⟩)), (49, .int .i64 (↑r))]) (fun r => r ≤ 2) 0 rfl (.refl _) (.cons rfl (.cons rfl (.cons rfl .nil))) ?_ ?_
      · omega
      · rintro r hF25
        show WK _ _ m [blk b12 29 [v11], rowF (v11) 3 (hiL c (mosX c (fr : Int).toNat r)), blk b7 83 [v1, v3]] [(2, .pointer (some ⟨b7, 0, none⟩)), (6, .pointer (some ⟨b12, 0, none⟩)), (49, .int .i64 (↑r))] _
        replace hF25 : r ≤ 2 := hF25
        have hr := hF25
        refine WK.good (fun hgood1 => ?_)
        refine WC.seq ?_
        refine WC.region ?_
        refine WL.cond (X.lss rfl rfl) (by decide) (fun h26 => ?_) (fun h26 => ?_)
        · refine WL.nil ?_
          refine WK.nThen ?_
          refine WC.seq ?_
          refine WC.condT rfl ?_
          refine WC.skip ?_
          refine WK.nThen ?_
          refine WC.seq ?_
          refine WC.block ?_
          refine WC.seq ?_
          refine WC.seq ?_
          refine WC.region ?_
          refine WL.x (X.loadBA (k := 2) Try.isAgg83 Try.sizeOf83 rfl rfl rfl) (by decide) ?_
          refine WL.tm (T.call Try.call129 rfl (fwd129 _ v1 v3)) (by decide) (fun m27 r31 hle28 hR_ => ?_)
          obtain ⟨p29, rfl, hc30⟩ := hR_
          replace hs2 := hs2.mono hle28
          replace hs4 := hs4.mono hle28
          replace hp9 := hp9.mono hle28
          replace hp10 := hp10.mono hle28
          refine WL.nil ?_
          refine WK.nThen ?_
          refine WC.block ?_
          refine WC.rangeFuncA (S := List Int) (G := Nat) (ps := [53, 54]) (n := c.gaps.length) (A := fun i _ args => args = [.int .i64 ((i : Nat) : Int), .agg [.int .i64 (gt c.gaps i).Lo, .int .i64 (gt c.gaps i).Hi].toArray].toArray) rfl Try.call146 (iter146 _ hc30 hs2) (fun x_ : List Int => [blk b12 29 [v11], rowF (v11) 3 (x_), blk b7 83 [v1, v3]]) (fun i _ x_ => x_ = fwH c (mosX c (fr : Int).toNat r) i) (fun _ _ _ _ => False) (hiL c (mosX c (fr : Int).toNat r)) rfl (fwH_zero c _) (fun h => by cases h) (fun _ _ _ _ _ h => h) (by simp) (fun i m1 args h => by subst h; rfl) (fun b_ args gh => blk b_ 31 ((args.getD 1 undef).cells.toList) :: (fun x_ : List Int => [blk b12 29 [v11], rowF (v11) 3 (x_), blk b7 83 [v1, v3]]) gh) (fun b_ args => (10, args.headD undef) :: (11, .pointer (some ⟨b_, 0, none⟩)) :: [(2, .pointer (some ⟨b7, 0, none⟩)), (6, .pointer (some ⟨b12, 0, none⟩)), (49, .int .i64 (↑r)), (50, .bool true), (51, .agg [v1, v3].toArray), (52, .func (.func 146) #[] [.pointer (some p29)].toArray)]) ?_ ?_ ?_ ?_ ?_
          · intro lo B1 i m1_2 gh args KK hlen hA1 hm1_2 hKK
            have hA2 : args = [.int .i64 ((i : Nat) : Int), .agg [.int .i64 (gt c.gaps i).Lo, .int .i64 (gt c.gaps i).Hi].toArray] := (by have := congrArg Array.toList hA1; simpa using this)
            subst hA2
            refine WC.seq ?_
            refine WC.region ?_
            refine WL.x (X.assign rfl) (by decide) ?_
            refine WL.nil ?_
            refine WK.nThen ?_
            refine WC.region ?_
            refine WL.tn (T.alloc Try.zeroValue31 rfl) (by decide) fun b32 => ?_
            refine WL.ts (T.storeBA (k := 0) Try.sizeOf31 rfl rfl rfl (one_cons rfl (one_cons rfl one_nil)) rfl rfl) ?_
            refine WL.nil ?_
            refine WK.nThen ?_
            exact WK.keep (.cons rfl (.cons rfl (.cons rfl (.cons rfl (.cons rfl (.cons rfl (.cons rfl (.cons rfl .nil)))))))) (hKK b32)
          · intro lo B1 i m1_2 gh args b_ hlen hi hm1_2 hA1 hI1
            have hA2 : args = [.int .i64 ((i : Nat) : Int), .agg [.int .i64 (gt c.gaps i).Lo, .int .i64 (gt c.gaps i).Hi].toArray] := (by have := congrArg Array.toList hA1; simpa using this)
            subst hA2
            obtain rfl := hI1
            replace hs2 := hs2.mono hm1_2
            replace hs4 := hs4.mono hm1_2
            replace hp9 := hp9.mono hm1_2
            replace hp10 := hp10.mono hm1_2
            replace hc30 := hc30.mono hm1_2
            show WK _ _ m1_2 [blk b_ 31 [.int .i64 ((gt c.gaps i).Lo), .int .i64 ((gt c.gaps i).Hi)], blk b12 29 [v11], rowF (v11) 3 (fwH c (mosX c (fr : Int).toNat r) i), blk b7 83 [v1, v3]] [(10, .int .i64 (↑i)), (11, .pointer (some ⟨b_, 0, none⟩)), (2, .pointer (some ⟨b7, 0, none⟩)), (6, .pointer (some ⟨b12, 0, none⟩)), (49, .int .i64 (↑r)), (50, .bool true), (51, .agg [v1, v3].toArray), (52, .func (.func 146) #[] [.pointer (some p29)].toArray)] _
            have hb1 := fwH_bd hw hfn r (i := i) (j := i) (by omega)
            have hg1 := hw.g i hi
            have hpl := fwH_len c (mosX c (fr : Int).toNat r) i
            refine WC.block ?_
            refine WC.draw (π := (.cons 0 (.cons 1 (.cons 2 (.cons 3 (.cons 4 (.cons 5 (.cons 6 (.cons 7 (.cons 8 (.cons 9 (.cons 10 (.cons 11 (.cons 12 (.cons 13 (.cons 14 (.cons 15 (.cons 16 (.cons 17 .done))))))))))))))))))) [17] [17] rfl (by kernel_rfl) ?_
            refine DW.x rfl rfl (X.loadB (k := 1) Try.isAgg29 rfl rfl rfl) (by decide) ?_
            refine DW.x rfl rfl (X.move rfl) (by decide) ?_
            refine DW.x rfl rfl (X.add rfl rfl (by omega) (by omega)) (by decide) ?_
            refine DW.x rfl rfl (X.loadB (k := 1) Try.isAgg29 rfl rfl rfl) (by decide) ?_
            refine DW.x rfl rfl (X.move rfl) (by decide) ?_
            refine DW.x rfl rfl (X.add rfl rfl (by omega) (by omega)) (by decide) ?_
            refine DW.x rfl rfl (X.idxIE (k := 2) (i + 1) Try.runUnderlying29 Try.sizeOf3 rfl rfl rfl (by omega) (by first | omega | (simp; omega) | simp)) (by decide) ?_
            refine DW.x rfl rfl (X.loadI (k := 2) (i := (i + 1)) Try.isAgg3 rfl rfl (by first | omega | (simp; omega) | simp)) (by decide) ?_
            refine DW.x rfl rfl (X.loadB (k := 1) Try.isAgg29 rfl rfl rfl) (by decide) ?_
            refine DW.x rfl rfl (X.move rfl) (by decide) ?_
            refine DW.x rfl rfl (X.idxIE (k := 2) i Try.runUnderlying29 Try.sizeOf3 rfl rfl rfl (by omega) (by first | omega | (simp; omega) | simp)) (by decide) ?_
            refine DW.x rfl rfl (X.loadI (k := 2) (i := i) Try.isAgg3 rfl rfl (by first | omega | (simp; omega) | simp)) (by decide) ?_
            refine DW.x rfl rfl (X.field Try.runUnderlying31 rfl Try.sizeOf3 rfl) (by decide) ?_
            refine DW.x rfl rfl (X.loadB (k := 0) Try.isAgg3 rfl rfl rfl) (by decide) ?_
            refine DW.x rfl rfl (X.add rfl rfl (by omega) (by omega)) (by decide) ?_
            refine DW.x rfl rfl (X.mn rfl rfl) (by decide) ?_
            refine DW.x rfl rfl (X.idxIE (k := 2) (i + 1) Try.runUnderlying29 Try.sizeOf3 rfl rfl rfl (by omega) (by first | omega | (simp; omega) | simp)) (by decide) ?_
            refine DW.ts rfl rfl rfl rfl (T.storeI (k := 2) (i := (i + 1)) Try.sizeOf3 rfl rfl rfl (by first | omega | (simp; omega) | simp)) ?_
            refine DW.nil ?_
            refine WK.nBlock ?_
            have he33 : ((fwH c (mosX c (fr : Int).toNat r) i).set ((i + 1)) (min (gt (fwH c (mosX c (fr : Int).toNat r) i) ((i + 1))) ((gt (fwH c (mosX c (fr : Int).toNat r) i) i) + ((gt c.gaps i).Hi)))) = (fwH c (mosX c (fr : Int).toNat r) (i + 1)) := (fwH_step hi)
            rw [he33]
            exact WK.goOn (fwH c (mosX c (fr : Int).toNat r) (i + 1)) (Mem.le_refl _) (.cons _ (.refl _)) rfl
          · intro m1_2 gh hm1_2 hI1
            obtain rfl := hI1
            replace hs2 := hs2.mono hm1_2
            replace hs4 := hs4.mono hm1_2
            replace hp9 := hp9.mono hm1_2
            replace hp10 := hp10.mono hm1_2
            replace hc30 := hc30.mono hm1_2
            refine WK.keep (σ' := [(2, .pointer (some ⟨b7, 0, none⟩)), (6, .pointer (some ⟨b12, 0, none⟩)), (49, .int .i64 (↑r)), (50, .bool true), (51, .agg [v1, v3].toArray), (52, .func (.func 146) #[] [.pointer (some p29)].toArray)]) (.cons rfl (.cons rfl (.cons rfl (.cons rfl (.cons rfl (.cons rfl .nil)))))) ?_
            show WK _ _ m1_2 [blk b12 29 [v11], rowF (v11) 3 (fwH c (mosX c (fr : Int).toNat r) c.gaps.length), blk b7 83 [v1, v3]] [(2, .pointer (some ⟨b7, 0, none⟩)), (6, .pointer (some ⟨b12, 0, none⟩)), (49, .int .i64 (↑r)), (50, .bool true), (51, .agg [v1, v3].toArray), (52, .func (.func 146) #[] [.pointer (some p29)].toArray)] _
            refine WK.nBlock ?_
            refine WK.nThen ?_
            refine WC.seq ?_
            refine WC.region ?_
            refine WL.x (X.loadBA (k := 2) Try.isAgg83 Try.sizeOf83 rfl rfl rfl) (by decide) ?_
            refine WL.tm (T.call Try.call130 rfl (bwd130 _ v1 v3)) (by decide) (fun m34 r38 hle35 hR_ => ?_)
            obtain ⟨p36, rfl, hc37⟩ := hR_
            replace hs2 := hs2.mono hle35
            replace hs4 := hs4.mono hle35
            replace hp9 := hp9.mono hle35
            replace hp10 := hp10.mono hle35
            replace hc30 := hc30.mono hle35
            refine WL.nil ?_
            refine WK.nThen ?_
            refine WC.block ?_
            refine WC.rangeFuncA (S := List Int) (G := Nat) (ps := [74, 75]) (n := c.gaps.length) (A := fun i _ args => args = [.int .i64 (((c.gaps.length - 1 - i) : Nat) : Int), .agg [.int .i64 (gt c.gaps (c.gaps.length - 1 - i)).Lo, .int .i64 (gt c.gaps (c.gaps.length - 1 - i)).Hi].toArray].toArray) rfl Try.call147 (iter147 _ hc37 hs2) (fun x_ : List Int => [blk b12 29 [v11], rowF (v11) 3 (x_), blk b7 83 [v1, v3]]) (fun i _ x_ => x_ = bwH c (mosX c (fr : Int).toNat r) i) (fun _ _ _ _ => False) (fwH c (mosX c (fr : Int).toNat r) c.gaps.length) rfl (fwH_last c _) (fun h => by cases h) (fun _ _ _ _ _ h => h) (by simp) (fun i m1 args h => by subst h; rfl) (fun b_ args gh => blk b_ 31 ((args.getD 1 undef).cells.toList) :: (fun x_ : List Int => [blk b12 29 [v11], rowF (v11) 3 (x_), blk b7 83 [v1, v3]]) gh) (fun b_ args => (12, args.headD undef) :: (13, .pointer (some ⟨b_, 0, none⟩)) :: [(2, .pointer (some ⟨b7, 0, none⟩)), (6, .pointer (some ⟨b12, 0, none⟩)), (49, .int .i64 (↑r)), (50, .bool true), (51, .agg [v1, v3].toArray), (52, .func (.func 146) #[] [.pointer (some p29)].toArray), (72, .agg [v1, v3].toArray), (73, .func (.func 147) #[] [.pointer (some p36)].toArray)]) ?_ ?_ ?_ ?_ ?_
            · intro lo B1 i m1_3 gh args KK hlen hA1 hm1_3 hKK
              have hA2 : args = [.int .i64 (((c.gaps.length - 1 - i) : Nat) : Int), .agg [.int .i64 (gt c.gaps (c.gaps.length - 1 - i)).Lo, .int .i64 (gt c.gaps (c.gaps.length - 1 - i)).Hi].toArray] := (by have := congrArg Array.toList hA1; simpa using this)
              subst hA2
              refine WC.seq ?_
              refine WC.region ?_
              refine WL.x (X.assign rfl) (by decide) ?_
              refine WL.nil ?_
              refine WK.nThen ?_
              refine WC.region ?_
              refine WL.tn (T.alloc Try.zeroValue31 rfl) (by decide) fun b39 => ?_
              refine WL.ts (T.storeBA (k := 0) Try.sizeOf31 rfl rfl rfl (one_cons rfl (one_cons rfl one_nil)) rfl rfl) ?_
              refine WL.nil ?_
              refine WK.nThen ?_
              exact WK.keep (.cons rfl (.cons rfl (.cons rfl (.cons rfl (.cons rfl (.cons rfl (.cons rfl (.cons rfl (.cons rfl (.cons rfl .nil)))))))))) (hKK b39)
            · intro lo B1 i m1_3 gh args b_ hlen hi hm1_3 hA1 hI1
              have hA2 : args = [.int .i64 (((c.gaps.length - 1 - i) : Nat) : Int), .agg [.int .i64 (gt c.gaps (c.gaps.length - 1 - i)).Lo, .int .i64 (gt c.gaps (c.gaps.length - 1 - i)).Hi].toArray] := (by have := congrArg Array.toList hA1; simpa using this)
              subst hA2
              obtain ⟨q, hq⟩ : ∃ q, q = (c.gaps.length - 1 - i) := ⟨_, rfl⟩
              rw [← hq]
              obtain rfl := hI1
              replace hs2 := hs2.mono hm1_3
              replace hs4 := hs4.mono hm1_3
              replace hp9 := hp9.mono hm1_3
              replace hp10 := hp10.mono hm1_3
              replace hc30 := hc30.mono hm1_3
              replace hc37 := hc37.mono hm1_3
              show WK _ _ m1_3 [blk b_ 31 [.int .i64 ((gt c.gaps q).Lo), .int .i64 ((gt c.gaps q).Hi)], blk b12 29 [v11], rowF (v11) 3 (bwH c (mosX c (fr : Int).toNat r) i), blk b7 83 [v1, v3]] [(12, .int .i64 (↑q)), (13, .pointer (some ⟨b_, 0, none⟩)), (2, .pointer (some ⟨b7, 0, none⟩)), (6, .pointer (some ⟨b12, 0, none⟩)), (49, .int .i64 (↑r)), (50, .bool true), (51, .agg [v1, v3].toArray), (52, .func (.func 146) #[] [.pointer (some p29)].toArray), (72, .agg [v1, v3].toArray), (73, .func (.func 147) #[] [.pointer (some p36)].toArray)] _
              have hb1 := bwH_bd hw hfn r (i := i) (j := q + 1) (by omega)
              have hg1 := hw.g q (by omega)
              have hpl := bwH_len c (mosX c (fr : Int).toNat r) i
              refine WC.block ?_
              refine WC.draw (π := (.cons 0 (.cons 1 (.cons 2 (.cons 3 (.cons 4 (.cons 5 (.cons 6 (.cons 7 (.cons 8 (.cons 9 (.cons 10 (.cons 11 (.cons 12 (.cons 13 (.cons 14 (.cons 15 (.cons 16 .done)))))))))))))))))) [16] [16] rfl (by kernel_rfl) ?_
              refine DW.x rfl rfl (X.loadB (k := 1) Try.isAgg29 rfl rfl rfl) (by decide) ?_
              refine DW.x rfl rfl (X.move rfl) (by decide) ?_
              refine DW.x rfl rfl (X.loadB (k := 1) Try.isAgg29 rfl rfl rfl) (by decide) ?_
              refine DW.x rfl rfl (X.move rfl) (by decide) ?_
              refine DW.x rfl rfl (X.idxIE (k := 2) q Try.runUnderlying29 Try.sizeOf3 rfl rfl rfl (by omega) (by first | omega | (simp; omega) | simp)) (by decide) ?_
              refine DW.x rfl rfl (X.loadI (k := 2) (i := q) Try.isAgg3 rfl rfl (by first | omega | (simp; omega) | simp)) (by decide) ?_
              refine DW.x rfl rfl (X.loadB (k := 1) Try.isAgg29 rfl rfl rfl) (by decide) ?_
              refine DW.x rfl rfl (X.move rfl) (by decide) ?_
              refine DW.x rfl rfl (X.add rfl rfl (by omega) (by omega)) (by decide) ?_
              refine DW.x rfl rfl (X.idxIE (k := 2) (q + 1) Try.runUnderlying29 Try.sizeOf3 rfl rfl rfl (by omega) (by first | omega | (simp; omega) | simp)) (by decide) ?_
              refine DW.x rfl rfl (X.loadI (k := 2) (i := (q + 1)) Try.isAgg3 rfl rfl (by first | omega | (simp; omega) | simp)) (by decide) ?_
              refine DW.x rfl rfl (X.field Try.runUnderlying31 rfl Try.sizeOf3 rfl) (by decide) ?_
              refine DW.x rfl rfl (X.loadB (k := 0) Try.isAgg3 rfl rfl rfl) (by decide) ?_
              refine DW.x rfl rfl (X.sub rfl rfl (by omega) (by omega)) (by decide) ?_
              refine DW.x rfl rfl (X.mn rfl rfl) (by decide) ?_
              refine DW.x rfl rfl (X.idxIE (k := 2) q Try.runUnderlying29 Try.sizeOf3 rfl rfl rfl (by omega) (by first | omega | (simp; omega) | simp)) (by decide) ?_
              refine DW.ts rfl rfl rfl rfl (T.storeI (k := 2) (i := q) Try.sizeOf3 rfl rfl rfl (by first | omega | (simp; omega) | simp)) ?_
              refine DW.nil ?_
              refine WK.nBlock ?_
              have he40 : ((bwH c (mosX c (fr : Int).toNat r) i).set q (min (gt (bwH c (mosX c (fr : Int).toNat r) i) q) ((gt (bwH c (mosX c (fr : Int).toNat r) i) ((q + 1))) - ((gt c.gaps q).Lo)))) = (bwH c (mosX c (fr : Int).toNat r) (i + 1)) := (bwH_step hi hq)
              rw [he40]
              exact WK.goOn (bwH c (mosX c (fr : Int).toNat r) (i + 1)) (Mem.le_refl _) (.cons _ (.refl _)) rfl
            · intro m1_3 gh hm1_3 hI1
              obtain rfl := hI1
              replace hs2 := hs2.mono hm1_3
              replace hs4 := hs4.mono hm1_3
              replace hp9 := hp9.mono hm1_3
              replace hp10 := hp10.mono hm1_3
              replace hc30 := hc30.mono hm1_3
              replace hc37 := hc37.mono hm1_3
              refine WK.keep (σ' := [(2, .pointer (some ⟨b7, 0, none⟩)), (6, .pointer (some ⟨b12, 0, none⟩)), (49, .int .i64 (↑r)), (50, .bool true), (51, .agg [v1, v3].toArray), (52, .func (.func 146) #[] [.pointer (some p29)].toArray), (72, .agg [v1, v3].toArray), (73, .func (.func 147) #[] [.pointer (some p36)].toArray)]) (.cons rfl (.cons rfl (.cons rfl (.cons rfl (.cons rfl (.cons rfl (.cons rfl (.cons rfl .nil)))))))) ?_
              show WK _ _ m1_3 [blk b12 29 [v11], rowF (v11) 3 (bwH c (mosX c (fr : Int).toNat r) c.gaps.length), blk b7 83 [v1, v3]] [(2, .pointer (some ⟨b7, 0, none⟩)), (6, .pointer (some ⟨b12, 0, none⟩)), (49, .int .i64 (↑r)), (50, .bool true), (51, .agg [v1, v3].toArray), (52, .func (.func 146) #[] [.pointer (some p29)].toArray), (72, .agg [v1, v3].toArray), (73, .func (.func 147) #[] [.pointer (some p36)].toArray)] _
              refine WK.nBlock ?_
              refine WK.nBlock ?_
              refine WK.nThen ?_
              have he41 : (bwH c (mosX c (fr : Int).toNat r) c.gaps.length) = (hiL c (mosX c (fr : Int).toNat (r + 1))) := (bwH_last hw (fr : Int).toNat r)
              rw [he41]
              refine WC.region ?_
              refine WL.x (X.add rfl rfl (by omega) (by omega)) (by decide) ?_
              refine WL.x (X.move rfl) (by decide) ?_
              refine WL.nil ?_
              refine WK.nThen ?_
              refine WK.back hgood1 (Mem.le_trans hle28 (Mem.le_trans hm1_2 (Mem.le_trans hle35 hm1_3))) ?_
              refine WK.next (r + 1) rfl (.refl _) (.cons rfl (.cons rfl (.cons rfl .nil))) ?_ ?_
              · omega
              · omega
            · intro i m1 gh hm1 hi hI1
              exact hI1.elim
            · intro id i m1 gh hm1 hi hI1
              exact hI1.elim
          · intro i m1 gh hm1 hi hI1
            exact hI1.elim
          · intro id i m1 gh hm1 hi hI1
            exact hI1.elim
        · refine WL.nil ?_
          refine WK.nThen ?_
          refine WC.seq ?_
          refine WC.condF rfl ?_
          refine WC.exit ?_
          refine WK.eThen ?_
          refine WK.eThen ?_
          refine WK.eHit ?_
          refine WK.nThen ?_
          refine WC.seq ?_
          have he42 : (hiL c (mosX c (fr : Int).toNat r)) = (hiL c (mosX c (fr : Int).toNat 2)) := (by rw [show r = 2 by omega])
          rw [he42]
          refine WC.region ?_
          refine WL.x (X.loadB (k := 0) Try.isAgg29 rfl rfl rfl) (by decide) ?_
          refine WL.x (X.assign rfl) (by decide) ?_
          refine WL.nil ?_
          refine WK.nThen ?_
          refine WC.ret ?_
          refine WK.freezeF 1 rfl rfl (by rw [hiL_len]; unfold lenB; omega) (fun m43 hle44 hs45 => ?_)
          replace hs2 := hs2.mono hle44
          replace hs4 := hs4.mono hle44
          replace hp9 := hp9.mono hle44
          replace hp10 := hp10.mono hle44
          refine WK.ret1 rfl rfl (fun w' hw' => Ret.mem hw' ?_)
          exact ⟨_, rfl, hs45⟩

end Go.Proofs.C2
