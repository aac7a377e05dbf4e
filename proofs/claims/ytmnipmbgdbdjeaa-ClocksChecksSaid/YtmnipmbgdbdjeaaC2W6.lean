import Derived.Test.YtmnipmbgdbdjeaaC2W5
import Derived.Test.YtmnipmbgdbdjeaaC2Walk3
import Derived.Test.YtmnipmbgdbdjeaaC2Ans
/- Clocks: walks, sixth part, by program. -/
namespace Go.Proofs.C2
open Go Go.Kx
set_option linter.unusedVariables false

theorem differences126 (m : Mem) {cc : List Value} {c : Ck} (hc : Enc.rd m cc c) (hw : CkW c) : Pure Try.prog 126 #[.agg cc.toArray] m (fun m' v => ∃ p : Addr, v = .pointer (some (p.add 0)) ∧ Cells m' p (ints (tabL c))) := by
  obtain ⟨v1, v3, rfl, hs2, hs4⟩ := hc
  have hl5 := hs2.le
  have hl6 := hs4.le
  have hlc := hw.l
  have hnn := hw.n
  refine Pure.start Try.func126 rfl Try.ntmps126 rfl fun wld => ?_
  refine WC.seq ?_
  refine WC.region ?_
  refine WL.tn (T.boxB rfl rfl) (by decide) fun b7 => ?_
  refine WL.x (X.assign rfl) (by decide) ?_
  refine WL.nil ?_
  refine WK.nThen ?_
  refine WC.seq ?_
  refine WC.region ?_
  refine WL.tn (T.alloc zv0 cells0) (by decide) fun b8 => ?_
  refine WL.nil ?_
  refine WK.nThen ?_
  refine WC.seq ?_
  refine WC.seq ?_
  refine WC.region ?_
  refine WL.x (X.field Try.runUnderlying83 rfl Try.sizeOf22 rfl) (by decide) ?_
  refine WL.x (X.loadB (k := 1) Try.isAgg22 rfl rfl rfl) (by decide) ?_
  refine WL.x (X.len Try.runUnderlying22 rfl hs4) (by decide) ?_
  refine WL.x (X.move rfl) (by decide) ?_
  refine WL.nil ?_
  refine WK.nThen ?_
  refine WC.block ?_
  refine WC.loop (G := Nat × List Int) (fun (i, L1) => c.at_.length - i) (fun (i, L1) => m) (fun (i, L1) => [blk b8 144 (ints (L1) ++ []), blk b7 83 [v1, v3]]) (fun (i, L1) => [(1, .pointer (some ⟨b7, 0, none⟩)), (3, .pointer (some ⟨b8, 0, none⟩)), (9, .int .i64 (↑c.at_.length)), (10, .int .i64 (↑i))]) (fun (i, L1) => Tab L1 (tabF c i 0) ∧ i ≤ c.at_.length) ((0, tab0)) rfl (.refl _) (.cons rfl (.cons rfl (.cons rfl (.cons rfl .nil)))) ?_ ?_
  · exact ⟨tab_start c, Nat.zero_le _⟩
  · rintro ⟨i, L1⟩ hF9
    show WK _ _ m [blk b8 144 (ints (L1) ++ []), blk b7 83 [v1, v3]] [(1, .pointer (some ⟨b7, 0, none⟩)), (3, .pointer (some ⟨b8, 0, none⟩)), (9, .int .i64 (↑c.at_.length)), (10, .int .i64 (↑i))] _
    replace hF9 : Tab L1 (tabF c i 0) ∧ i ≤ c.at_.length := hF9
    obtain ⟨hT1, hi⟩ := hF9
    refine WK.good (fun hgood0 => ?_)
    refine WC.seq ?_
    refine WC.region ?_
    refine WL.cond (X.lss rfl rfl) (by decide) (fun h10 => ?_) (fun h10 => ?_)
    · refine WL.nil ?_
      refine WK.nThen ?_
      refine WC.seq ?_
      refine WC.condT rfl ?_
      refine WC.skip ?_
      refine WK.nThen ?_
      refine WC.seq ?_
      refine WC.block ?_
      refine WC.seq ?_
      refine WC.region ?_
      refine WL.x (X.move rfl) (by decide) ?_
      refine WL.x (X.assign rfl) (by decide) ?_
      refine WL.nil ?_
      refine WK.nThen ?_
      refine WC.seq ?_
      refine WC.region ?_
      refine WL.x (X.loadBA (k := 1) Try.isAgg83 Try.sizeOf83 rfl rfl rfl) (by decide) ?_
      refine WL.x (X.move rfl) (by decide) ?_
      refine WL.tm (T.call Try.call143 rfl (most143 _ _ c ⟨_, _, rfl, hs2, hs4⟩ _ hw (by omega))) (by decide) fun m11 r12 hle13 hR14 => ?_
      obtain ⟨v15, hv_, hs16⟩ := hR14
      rw [← hv_] at hs16
      clear hv_ v15
      replace hs2 := hs2.mono hle13
      replace hs4 := hs4.mono hle13
      have hl17 := hs16.le
      rw [Int.toNat_natCast] at hs16
      refine WL.x (X.len Try.runUnderlying29 rfl hs16) (by decide) ?_
      refine WL.x (X.move rfl) (by decide) ?_
      refine WL.nil ?_
      refine WK.nThen ?_
      refine WC.block ?_
      refine WC.loop (G := Nat × List Int) (fun (k, L2) => (mostL c i).length - k) (fun (k, L2) => m11) (fun (k, L2) => [blk b8 144 (ints (L2) ++ []), blk b7 83 [v1, v3]]) (fun (k, L2) => [(1, .pointer (some ⟨b7, 0, none⟩)), (3, .pointer (some ⟨b8, 0, none⟩)), (4, .int .i64 (↑i)), (9, .int .i64 (↑c.at_.length)), (10, .int .i64 (↑i)), (15, r12), (16, .int .i64 (↑(mostL c i).length)), (17, .int .i64 (↑k))]) (fun (k, L2) => Tab L2 (tabF c i k) ∧ k ≤ (mostL c i).length) ((0, L1)) rfl (.refl _) (.cons rfl (.cons rfl (.cons rfl (.cons rfl (.cons rfl (.cons rfl (.cons rfl (.cons rfl .nil)))))))) ?_ ?_
      · exact ⟨hT1, Nat.zero_le _⟩
      · rintro ⟨k, L2⟩ hF18
        show WK _ _ m11 [blk b8 144 (ints (L2) ++ []), blk b7 83 [v1, v3]] [(1, .pointer (some ⟨b7, 0, none⟩)), (3, .pointer (some ⟨b8, 0, none⟩)), (4, .int .i64 (↑i)), (9, .int .i64 (↑c.at_.length)), (10, .int .i64 (↑i)), (15, r12), (16, .int .i64 (↑(mostL c i).length)), (17, .int .i64 (↑k))] _
        replace hF18 : Tab L2 (tabF c i k) ∧ k ≤ (mostL c i).length := hF18
        obtain ⟨hT2, hk⟩ := hF18
        have hml := mostL_len c i
        have hll2 := hT2.1
        refine WC.seq ?_
        refine WC.region ?_
        refine WL.cond (X.lss rfl rfl) (by decide) (fun h19 => ?_) (fun h19 => ?_)
        · refine WL.nil ?_
          refine WK.nThen ?_
          refine WC.seq ?_
          refine WC.condT rfl ?_
          refine WC.skip ?_
          refine WK.nThen ?_
          refine WC.seq ?_
          refine WC.block ?_
          refine WC.seq ?_
          refine WC.region ?_
          refine WL.x (X.move rfl) (by decide) ?_
          refine WL.xe (E.idxN k Try.runUnderlying29 Try.sizeOf3 rfl rfl hs16 (by omega)) (by decide) (fun p20 hp21 => ?_)
          refine WL.x (X.loadInt Try.isAgg3 rfl hp21) (by decide) ?_
          refine WL.x (X.assign rfl) (by decide) ?_
          refine WL.x (X.assign rfl) (by decide) ?_
          refine WL.nil ?_
          refine WK.nThen ?_
          refine WC.region ?_
          refine WL.x (X.move rfl) (by decide) ?_
          refine WL.x (X.move rfl) (by decide) ?_
          refine WL.x (X.move rfl) (by decide) ?_
          refine WL.x (X.idxArB i Try.underlying144 Try.sizeOf129 rfl rfl (by omega) (by omega)) (by decide) ?_
          refine WL.x (X.idxArB k Try.underlying129 Try.sizeOf3 rfl rfl (by omega) (by omega)) (by decide) ?_
          refine WL.ts (T.storeAr (k := 0) Try.sizeOf3 rfl rfl rfl (by omega)) ?_
          refine WL.nil ?_
          refine WK.nBlock ?_
          refine WK.nThen ?_
          refine WC.region ?_
          refine WL.x (X.add rfl rfl (by omega) (by omega)) (by decide) ?_
          refine WL.x (X.move rfl) (by decide) ?_
          refine WL.nil ?_
          refine WK.nThen ?_
          refine WK.next ((k + 1, L2.set (0 + i * 201 + k * 1) (gt (mostL c i) k))) rfl (.refl _) (.cons rfl (.cons rfl (.cons rfl (.cons rfl (.cons rfl (.cons rfl (.cons rfl (.cons rfl .nil)))))))) ?_ ?_
          · exact ⟨tab_next hT2 (by omega) (by omega) hnn, by omega⟩
          · (dsimp only; omega)
        · refine WL.nil ?_
          refine WK.nThen ?_
          refine WC.seq ?_
          refine WC.condF rfl ?_
          refine WC.exit ?_
          refine WK.eThen ?_
          refine WK.eThen ?_
          refine WK.eHit ?_
          refine WK.nBlock ?_
          refine WK.nThen ?_
          refine WC.region ?_
          refine WL.x (X.add rfl rfl (by omega) (by omega)) (by decide) ?_
          refine WL.x (X.move rfl) (by decide) ?_
          refine WL.nil ?_
          refine WK.nThen ?_
          refine WK.back hgood0 hle13 ?_
          refine WK.next ((i + 1, L2)) rfl (.refl _) (.cons rfl (.cons rfl (.cons rfl (.cons rfl .nil)))) ?_ ?_
          · exact ⟨tab_row ((show k = c.gaps.length + 1 by omega) ▸ hT2), by omega⟩
          · (dsimp only; omega)
    · refine WL.nil ?_
      refine WK.nThen ?_
      refine WC.seq ?_
      refine WC.condF rfl ?_
      refine WC.exit ?_
      refine WK.eThen ?_
      refine WK.eThen ?_
      refine WK.eHit ?_
      refine WK.nThen ?_
      refine WC.seq ?_
      have he22 : L1 = (tabL c) := ((show i = c.gaps.length + 1 by omega) ▸ hT1).eq
      rw [he22]
      refine WK.freezeB 0 rfl rfl (fun m23 hle24 hc25 => ?_)
      rw [List.append_nil] at hc25
      replace hs2 := hs2.mono hle24
      replace hs4 := hs4.mono hle24
      refine WC.region ?_
      refine WL.x (X.assign rfl) (by decide) ?_
      refine WL.nil ?_
      refine WK.nThen ?_
      refine WC.ret ?_
      refine WK.ret1 rfl rfl (fun w' hw' => Ret.mem hw' ?_)
      exact ⟨_, rfl, hc25⟩

theorem between76 (m : Mem) (cc : List Value) (c : Ck) (hc : Enc.rd m cc c) (a : Int) (b : Int)  (hw : CkW c) (ha : 0 ≤ a ∧ a ≤ c.gaps.length) (hb : 0 ≤ b ∧ b ≤ c.gaps.length) : Exact Try.prog 76 #[.agg cc.toArray, .int .i64 (a), .int .i64 (b)] m (.agg [.int .i64 ((betS c (a : Int).toNat (b : Int).toNat).Lo), .int .i64 ((betS c (a : Int).toNat (b : Int).toNat).Hi)].toArray) := by
  obtain ⟨v1, v3, rfl, hs2, hs4⟩ := hc
  have hl5 := hs2.le
  have hl6 := hs4.le
  have hnn := hw.n
  have hba := bet_at ha hb hnn
  have hb1 := tab_bd hw ha hb
  have hb2 := tab_bd hw hb ha
  have htl := tabL_len c
  refine Exact.start Try.func76 rfl Try.ntmps76 rfl fun wld => ?_
  refine WC.seq ?_
  refine WC.region ?_
  refine WL.tn (T.boxB rfl rfl) (by decide) fun b7 => ?_
  refine WL.tn (T.alloc Try.zeroValue31 rfl) (by decide) fun b8 => ?_
  refine WL.nil ?_
  refine WK.nThen ?_
  refine WC.seq ?_
  refine WC.region ?_
  refine WL.x (X.loadBA (k := 1) Try.isAgg83 Try.sizeOf83 rfl rfl rfl) (by decide) ?_
  refine WL.tm (T.call Try.call126 rfl (differences126 _ (c := c) ⟨_, _, rfl, hs2, hs4⟩ hw)) (by decide) (fun m9 r10 hle11 hR_ => ?_)
  obtain ⟨p12, rfl, hc13⟩ := hR_
  replace hs2 := hs2.mono hle11
  replace hs4 := hs4.mono hle11
  refine WL.x (X.assign rfl) (by decide) ?_
  refine WL.nil ?_
  refine WK.nThen ?_
  refine WC.seq ?_
  refine WC.draw (π := (.cons 0 (.cons 1 (.cons 2 (.cons 3 (.cons 4 (.cons 5 (.cons 6 (.cons 7 (.cons 8 (.cons 9 (.cons 10 (.cons 11 (.cons 12 (.cons 13 (.cons 14 (.cons 15 (.cons 16 .done)))))))))))))))))) [16] [16] rfl (by kernel_rfl) ?_
  refine DW.x rfl rfl (X.move rfl) (by decide) ?_
  refine DW.x rfl rfl (X.move rfl) (by decide) ?_
  refine DW.x rfl rfl (X.move rfl) (by decide) ?_
  refine DW.x rfl rfl (X.nilCheck rfl) (by decide) ?_
  refine DW.x rfl rfl (X.idxArM (off := 0) hc13 ((b : Int).toNat) Try.underlying144 Try.sizeOf129 rfl rfl (by omega) (by omega)) (by decide) ?_
  refine DW.x rfl rfl (X.idxArM (off := 0 + ((b : Int).toNat) * 201) hc13 ((a : Int).toNat) Try.underlying129 Try.sizeOf3 rfl rfl (by omega) (by omega)) (by decide) ?_
  refine DW.x rfl rfl (X.loadArM (off := 0 + ((b : Int).toNat) * 201 + ((a : Int).toNat) * 1) Try.isAgg3 rfl hc13 (by omega)) (by decide) ?_
  refine DW.x rfl rfl (X.neg rfl (by omega) (by omega)) (by decide) ?_
  refine DW.x rfl rfl (X.move rfl) (by decide) ?_
  refine DW.x rfl rfl (X.move rfl) (by decide) ?_
  refine DW.x rfl rfl (X.move rfl) (by decide) ?_
  refine DW.x rfl rfl (X.nilCheck rfl) (by decide) ?_
  refine DW.x rfl rfl (X.idxArM (off := 0) hc13 ((a : Int).toNat) Try.underlying144 Try.sizeOf129 rfl rfl (by omega) (by omega)) (by decide) ?_
  refine DW.x rfl rfl (X.idxArM (off := 0 + ((a : Int).toNat) * 201) hc13 ((b : Int).toNat) Try.underlying129 Try.sizeOf3 rfl rfl (by omega) (by omega)) (by decide) ?_
  refine DW.x rfl rfl (X.loadArM (off := 0 + ((a : Int).toNat) * 201 + ((b : Int).toNat) * 1) Try.isAgg3 rfl hc13 (by omega)) (by decide) ?_
  refine DW.x (V := Value.agg [.int .i64 (-(gt (tabL c) (0 + ((b : Int).toNat) * 201 + ((a : Int).toNat) * 1))), .int .i64 (gt (tabL c) (0 + ((a : Int).toNat) * 201 + ((b : Int).toNat) * 1))].toArray) rfl rfl (X.build Try.zeroValue31 Try.runUnderlying31 (places31 _ Try.underlying31) rfl rfl) (by decide) ?_
  refine DW.ts rfl rfl rfl rfl (T.storeBA (k := 0) Try.sizeOf31 rfl rfl rfl (one_cons rfl (one_cons rfl one_nil)) rfl rfl) ?_
  refine DW.nil ?_
  refine WK.nThen ?_
  refine WC.ret ?_
  refine WK.retC1 0 rfl rfl rfl Try.isAgg31 Try.sizeOf31 (fun w' hw' => Ret.exact hw' ?_)
  exact agg2i hba.2 hba.1

theorem between21 (m : Mem) (cd : List Value) (d : Drum) (hd : Enc.rd m cd d) (vm_ : Value) (m_ : List Mark) (hm_ : Sl m vm_ m_) (a : Int) (b : Int)   : Exact Try.prog 21 #[.agg cd.toArray, vm_, .int .i64 (a), .int .i64 (b)] m (.tuple #[.agg [.int .i64 ((betR d m_ a b).1.Lo), .int .i64 ((betR d m_ a b).1.Hi)].toArray, .int .i64 ((betR d m_ a b).2)]) := by
  obtain ⟨v1, v3, rfl, hs2, hs4⟩ := hd
  have hl5 := hs2.le
  have hl6 := hs4.le
  have lm_ := hm_.le
  refine Exact.start Try.func21 rfl Try.ntmps21 rfl fun wld => ?_
  refine WC.seq ?_
  refine WC.region ?_
  refine WL.tn (T.boxB rfl rfl) (by decide) fun b7 => ?_
  refine WL.tn (T.alloc Try.zeroValue31 rfl) (by decide) fun b8 => ?_
  refine WL.x (X.assign rfl) (by decide) ?_
  refine WL.nil ?_
  refine WK.nThen ?_
  refine WC.seq ?_
  refine WC.region ?_
  refine WL.x (X.loadBA (k := 1) Try.isAgg25 Try.sizeOf25 rfl rfl rfl) (by decide) ?_
  refine WL.x (X.move rfl) (by decide) ?_
  refine WL.x (X.move rfl) (by decide) ?_
  refine WL.x (X.move rfl) (by decide) ?_
  refine WL.tm (T.litM (α := Int) (vals := [.int .i64 (a), .int .i64 (b)]) (L := [a, b]) sl29 rfl (.cons rfl rfl (.cons rfl rfl .nil)) rfl rfl) (by decide) (fun m9 v10 hle11 hs12 => ?_)
  replace hs2 := hs2.mono hle11
  replace hs4 := hs4.mono hle11
  replace hm_ := hm_.mono hle11
  refine WL.tm (T.call Try.call75 rfl (opened75 _ _ d ⟨_, _, rfl, hs2, hs4⟩ _ _ hm_ _ _ hs12 _ _ .nil )) (by decide) fun m13 r14 hle15 hR16 => ?_
  obtain ⟨c17, rfl, hc18⟩ := hR16
  replace hs2 := hs2.mono hle15
  replace hs4 := hs4.mono hle15
  replace hm_ := hm_.mono hle15
  replace hs12 := hs12.mono hle15
  obtain ⟨v19, v21, rfl, hs20, hs22⟩ := hc18
  have hl23 := hs20.le
  have hl24 := hs22.le
  refine WL.x (X.move rfl) (by decide) ?_
  refine WL.x (X.extract rfl rfl) (by decide) ?_
  refine WL.x (X.extract rfl rfl) (by decide) ?_
  refine WL.tn (T.alloc Try.zeroValue83 rfl) (by decide) fun b25 => ?_
  refine WL.ts (T.storeBA (k := 0) Try.sizeOf83 rfl rfl rfl (one_cons hs20.one (one_cons hs22.one one_nil)) rfl rfl) ?_
  refine WL.x (X.assign rfl) (by decide) ?_
  refine WL.nil ?_
  refine WK.nThen ?_
  refine WC.seq ?_
  refine WC.seq ?_
  refine WC.region ?_
  refine WL.x (X.move rfl) (by decide) ?_
  refine WL.condn (X.neq rfl rfl) (by decide) (fun h26 => ?_) (fun h26 => ?_)
  · refine WL.nil ?_
    refine WK.nThen ?_
    refine WC.condT rfl ?_
    refine WC.seq ?_
    refine WC.region ?_
    refine WL.x (V := Value.agg [.int .i64 (0), .int .i64 (0)].toArray) (X.build Try.zeroValue31 Try.runUnderlying31 (places31 _ Try.underlying31) rfl rfl) (by decide) ?_
    refine WL.x (X.move rfl) (by decide) ?_
    refine WL.ts (T.storeBA (k := 1) Try.sizeOf31 rfl rfl rfl (one_cons rfl (one_cons rfl one_nil)) rfl rfl) ?_
    refine WL.x (X.assign rfl) (by decide) ?_
    refine WL.nil ?_
    refine WK.nThen ?_
    refine WC.ret ?_
    refine WK.rThen ?_
    refine WK.retC2 1 rfl rfl rfl rfl Try.isAgg31 Try.sizeOf31 (fun w' hw' => Ret.exact hw' ?_)
    first | exact tup2 (agg2i (by rw [betR_bad (by omega)]) (by rw [betR_bad (by omega)])) (int_eq (by rw [betR_bad (by omega)])) | exact tup2 (agg2i (by rw [betR_ok he_]) (by rw [betR_ok he_])) (int_eq (by rw [betR_ok he_]))
  · refine WL.nil ?_
    refine WK.nThen ?_
    refine WC.condF rfl ?_
    refine WC.skip ?_
    refine WK.nThen ?_
    refine WC.seq ?_
    have he_ : openE d m_ ([a, b]) ([]) = 0 := (by omega)
    have hz := openE_zero he_
    have hoc := openC_ok he_
    have hok := hz.1
    have hod := hz.2.2
    have hw := setC_w hok hod
    have hsn := setC_n d m_
    have hsl := setC_l d m_
    have hd1 := hok.dr.1
    have harg0 := (Decidable.of_not_not (hz.2.1.1 0 (by simp)) : 0 ≤ a ∧ a ≤ (d.Rates.length : Int))
    have harg1 := (Decidable.of_not_not (hz.2.1.1 1 (by simp)) : 0 ≤ b ∧ b ≤ (d.Rates.length : Int))
    rw [hoc] at hs20
    rw [hoc] at hs22
    try rw [hoc]
    refine WC.region ?_
    refine WL.x (X.loadBA (k := 0) Try.isAgg83 Try.sizeOf83 rfl rfl rfl) (by decide) ?_
    refine WL.x (X.move rfl) (by decide) ?_
    refine WL.x (X.move rfl) (by decide) ?_
    refine WL.x (X.call Try.call76 rfl (between76 _ _ (setC d m_) ⟨_, _, rfl, hs20, hs22⟩ _ _ (by assumption) (by omega) (by omega))) (by decide) ?_
    refine WL.ts (T.storeBA (k := 1) Try.sizeOf31 rfl rfl rfl (one_cons rfl (one_cons rfl one_nil)) rfl rfl) ?_
    refine WL.x (X.assign rfl) (by decide) ?_
    refine WL.nil ?_
    refine WK.nThen ?_
    refine WC.ret ?_
    refine WK.retC2 1 rfl rfl rfl rfl Try.isAgg31 Try.sizeOf31 (fun w' hw' => Ret.exact hw' ?_)
    first | exact tup2 (agg2i (by rw [betR_bad (by omega)]) (by rw [betR_bad (by omega)])) (int_eq (by rw [betR_bad (by omega)])) | exact tup2 (agg2i (by rw [betR_ok he_]) (by rw [betR_ok he_])) (int_eq (by rw [betR_ok he_]))

theorem earliest47 (m : Mem) (cd : List Value) (d : Drum) (hd : Enc.rd m cd d) (vm_ : Value) (m_ : List Mark) (hm_ : Sl m vm_ m_)   : Pure Try.prog 47 #[.agg cd.toArray, vm_] m (fun m' v => ∃ r0, v = .tuple #[r0, .int .i64 ((earR d m_).2)] ∧ Sl m' r0 ((earR d m_).1)) := by
  obtain ⟨v1, v3, rfl, hs2, hs4⟩ := hd
  have hl5 := hs2.le
  have hl6 := hs4.le
  have lm_ := hm_.le
  refine Pure.start Try.func47 rfl Try.ntmps47 rfl fun wld => ?_
  refine WC.seq ?_
  refine WC.region ?_
  refine WL.tn (T.boxB rfl rfl) (by decide) fun b7 => ?_
  refine WL.x (X.assign rfl) (by decide) ?_
  refine WL.x (X.assign rfl) (by decide) ?_
  refine WL.nil ?_
  refine WK.nThen ?_
  refine WC.seq ?_
  refine WC.region ?_
  refine WL.x (X.loadBA (k := 0) Try.isAgg25 Try.sizeOf25 rfl rfl rfl) (by decide) ?_
  refine WL.x (X.move rfl) (by decide) ?_
  refine WL.tm (T.call Try.call75 rfl (opened75 _ _ d ⟨_, _, rfl, hs2, hs4⟩ _ _ hm_ _ _ .nil _ _ .nil )) (by decide) fun m8 r9 hle10 hR11 => ?_
  obtain ⟨c12, rfl, hc13⟩ := hR11
  replace hs2 := hs2.mono hle10
  replace hs4 := hs4.mono hle10
  replace hm_ := hm_.mono hle10
  obtain ⟨v14, v16, rfl, hs15, hs17⟩ := hc13
  have hl18 := hs15.le
  have hl19 := hs17.le
  refine WL.x (X.move rfl) (by decide) ?_
  refine WL.x (X.extract rfl rfl) (by decide) ?_
  refine WL.x (X.extract rfl rfl) (by decide) ?_
  refine WL.tn (T.alloc Try.zeroValue83 rfl) (by decide) fun b20 => ?_
  refine WL.ts (T.storeBA (k := 0) Try.sizeOf83 rfl rfl rfl (one_cons hs15.one (one_cons hs17.one one_nil)) rfl rfl) ?_
  refine WL.x (X.assign rfl) (by decide) ?_
  refine WL.nil ?_
  refine WK.nThen ?_
  refine WC.seq ?_
  refine WC.seq ?_
  refine WC.region ?_
  refine WL.x (X.move rfl) (by decide) ?_
  refine WL.condn (X.neq rfl rfl) (by decide) (fun h21 => ?_) (fun h21 => ?_)
  · refine WL.nil ?_
    refine WK.nThen ?_
    refine WC.condT rfl ?_
    refine WC.seq ?_
    refine WC.region ?_
    refine WL.x (X.move rfl) (by decide) ?_
    refine WL.x (X.assign rfl) (by decide) ?_
    refine WL.x (X.assign rfl) (by decide) ?_
    refine WL.nil ?_
    refine WK.nThen ?_
    refine WC.ret ?_
    refine WK.rThen ?_
    refine WK.ret2 rfl rfl rfl (fun w' hw' => Ret.mem hw' ?_)
    first | exact ⟨_, tup2 rfl (int_eq (by rw [earR_bad (by omega)])), by rw [earR_bad (by omega)]; exact .nil⟩ | exact ⟨_, tup2 rfl (int_eq (by rw [earR_ok he_])), by rw [earR_ok he_]; exact .nil⟩
  · refine WL.nil ?_
    refine WK.nThen ?_
    refine WC.condF rfl ?_
    refine WC.skip ?_
    refine WK.nThen ?_
    refine WC.seq ?_
    have he_ : openE d m_ ([]) ([]) = 0 := (by omega)
    have hz := openE_zero he_
    have hoc := openC_ok he_
    have hok := hz.1
    have hod := hz.2.2
    have hw := setC_w hok hod
    have hsn := setC_n d m_
    have hsl := setC_l d m_
    have hd1 := hok.dr.1
    rw [hoc] at hs15
    rw [hoc] at hs17
    try rw [hoc]
    refine WC.region ?_
    refine WL.x (X.loadBA (k := 0) Try.isAgg83 Try.sizeOf83 rfl rfl rfl) (by decide) ?_
    refine WL.tm (T.call Try.call82 rfl (earliest82 _ _ (setC d m_) ⟨_, _, rfl, hs15, hs17⟩ (by omega))) (by decide) fun m22 r23 hle24 hR25 => ?_
    obtain ⟨v26, hv_, hs27⟩ := hR25
    rw [← hv_] at hs27
    clear hv_ v26
    replace hs2 := hs2.mono hle24
    replace hs4 := hs4.mono hle24
    replace hm_ := hm_.mono hle24
    replace hs15 := hs15.mono hle24
    replace hs17 := hs17.mono hle24
    have hl28 := hs27.le
    refine WL.x (X.assign rfl) (by decide) ?_
    refine WL.x (X.assign rfl) (by decide) ?_
    refine WL.nil ?_
    refine WK.nThen ?_
    refine WC.ret ?_
    refine WK.ret2 rfl rfl rfl (fun w' hw' => Ret.mem hw' ?_)
    first | exact ⟨_, tup2 rfl (int_eq (by rw [earR_bad (by omega)])), by rw [earR_bad (by omega)]; exact hs27⟩ | exact ⟨_, tup2 rfl (int_eq (by rw [earR_ok he_])), by rw [earR_ok he_]; exact hs27⟩

theorem latest46 (m : Mem) (cd : List Value) (d : Drum) (hd : Enc.rd m cd d) (vm_ : Value) (m_ : List Mark) (hm_ : Sl m vm_ m_)   : Pure Try.prog 46 #[.agg cd.toArray, vm_] m (fun m' v => ∃ r0, v = .tuple #[r0, .int .i64 ((latR d m_).2)] ∧ Sl m' r0 ((latR d m_).1)) := by
  obtain ⟨v1, v3, rfl, hs2, hs4⟩ := hd
  have hl5 := hs2.le
  have hl6 := hs4.le
  have lm_ := hm_.le
  refine Pure.start Try.func46 rfl Try.ntmps46 rfl fun wld => ?_
  refine WC.seq ?_
  refine WC.region ?_
  refine WL.tn (T.boxB rfl rfl) (by decide) fun b7 => ?_
  refine WL.x (X.assign rfl) (by decide) ?_
  refine WL.x (X.assign rfl) (by decide) ?_
  refine WL.nil ?_
  refine WK.nThen ?_
  refine WC.seq ?_
  refine WC.region ?_
  refine WL.x (X.loadBA (k := 0) Try.isAgg25 Try.sizeOf25 rfl rfl rfl) (by decide) ?_
  refine WL.x (X.move rfl) (by decide) ?_
  refine WL.tm (T.call Try.call75 rfl (opened75 _ _ d ⟨_, _, rfl, hs2, hs4⟩ _ _ hm_ _ _ .nil _ _ .nil )) (by decide) fun m8 r9 hle10 hR11 => ?_
  obtain ⟨c12, rfl, hc13⟩ := hR11
  replace hs2 := hs2.mono hle10
  replace hs4 := hs4.mono hle10
  replace hm_ := hm_.mono hle10
  obtain ⟨v14, v16, rfl, hs15, hs17⟩ := hc13
  have hl18 := hs15.le
  have hl19 := hs17.le
  refine WL.x (X.move rfl) (by decide) ?_
  refine WL.x (X.extract rfl rfl) (by decide) ?_
  refine WL.x (X.extract rfl rfl) (by decide) ?_
  refine WL.tn (T.alloc Try.zeroValue83 rfl) (by decide) fun b20 => ?_
  refine WL.ts (T.storeBA (k := 0) Try.sizeOf83 rfl rfl rfl (one_cons hs15.one (one_cons hs17.one one_nil)) rfl rfl) ?_
  refine WL.x (X.assign rfl) (by decide) ?_
  refine WL.nil ?_
  refine WK.nThen ?_
  refine WC.seq ?_
  refine WC.seq ?_
  refine WC.region ?_
  refine WL.x (X.move rfl) (by decide) ?_
  refine WL.condn (X.neq rfl rfl) (by decide) (fun h21 => ?_) (fun h21 => ?_)
  · refine WL.nil ?_
    refine WK.nThen ?_
    refine WC.condT rfl ?_
    refine WC.seq ?_
    refine WC.region ?_
    refine WL.x (X.move rfl) (by decide) ?_
    refine WL.x (X.assign rfl) (by decide) ?_
    refine WL.x (X.assign rfl) (by decide) ?_
    refine WL.nil ?_
    refine WK.nThen ?_
    refine WC.ret ?_
    refine WK.rThen ?_
    refine WK.ret2 rfl rfl rfl (fun w' hw' => Ret.mem hw' ?_)
    first | exact ⟨_, tup2 rfl (int_eq (by rw [latR_bad (by omega)])), by rw [latR_bad (by omega)]; exact .nil⟩ | exact ⟨_, tup2 rfl (int_eq (by rw [latR_ok he_])), by rw [latR_ok he_]; exact .nil⟩
  · refine WL.nil ?_
    refine WK.nThen ?_
    refine WC.condF rfl ?_
    refine WC.skip ?_
    refine WK.nThen ?_
    refine WC.seq ?_
    have he_ : openE d m_ ([]) ([]) = 0 := (by omega)
    have hz := openE_zero he_
    have hoc := openC_ok he_
    have hok := hz.1
    have hod := hz.2.2
    have hw := setC_w hok hod
    have hsn := setC_n d m_
    have hsl := setC_l d m_
    have hd1 := hok.dr.1
    rw [hoc] at hs15
    rw [hoc] at hs17
    try rw [hoc]
    refine WC.region ?_
    refine WL.x (X.loadBA (k := 0) Try.isAgg83 Try.sizeOf83 rfl rfl rfl) (by decide) ?_
    refine WL.tm (T.call Try.call81 rfl (latest81 _ _ (setC d m_) ⟨_, _, rfl, hs15, hs17⟩ (by omega))) (by decide) fun m22 r23 hle24 hR25 => ?_
    obtain ⟨v26, hv_, hs27⟩ := hR25
    rw [← hv_] at hs27
    clear hv_ v26
    replace hs2 := hs2.mono hle24
    replace hs4 := hs4.mono hle24
    replace hm_ := hm_.mono hle24
    replace hs15 := hs15.mono hle24
    replace hs17 := hs17.mono hle24
    have hl28 := hs27.le
    refine WL.x (X.assign rfl) (by decide) ?_
    refine WL.x (X.assign rfl) (by decide) ?_
    refine WL.nil ?_
    refine WK.nThen ?_
    refine WC.ret ?_
    refine WK.ret2 rfl rfl rfl (fun w' hw' => Ret.mem hw' ?_)
    first | exact ⟨_, tup2 rfl (int_eq (by rw [latR_bad (by omega)])), by rw [latR_bad (by omega)]; exact hs27⟩ | exact ⟨_, tup2 rfl (int_eq (by rw [latR_ok he_])), by rw [latR_ok he_]; exact hs27⟩

theorem run25 (m : Mem) (cd : List Value) (d : Drum) (hd : Enc.rd m cd d) (vm_ : Value) (m_ : List Mark) (hm_ : Sl m vm_ m_) (tick : Int)   : Pure Try.prog 25 #[.agg cd.toArray, vm_, .int .i64 (tick)] m (fun m' v => ∃ r0, v = .tuple #[r0, .int .i64 ((runR d m_ tick).2)] ∧ Sl m' r0 ((runR d m_ tick).1)) := by
  obtain ⟨v1, v3, rfl, hs2, hs4⟩ := hd
  have hl5 := hs2.le
  have hl6 := hs4.le
  have lm_ := hm_.le
  refine Pure.start Try.func25 rfl Try.ntmps25 rfl fun wld => ?_
  refine WC.seq ?_
  refine WC.region ?_
  refine WL.tn (T.boxB rfl rfl) (by decide) fun b7 => ?_
  refine WL.x (X.assign rfl) (by decide) ?_
  refine WL.x (X.assign rfl) (by decide) ?_
  refine WL.nil ?_
  refine WK.nThen ?_
  refine WC.seq ?_
  refine WC.region ?_
  refine WL.x (X.loadBA (k := 0) Try.isAgg25 Try.sizeOf25 rfl rfl rfl) (by decide) ?_
  refine WL.x (X.move rfl) (by decide) ?_
  refine WL.x (X.move rfl) (by decide) ?_
  refine WL.tm (T.litM (α := Int) (vals := [.int .i64 (tick)]) (L := [tick]) sl29 rfl (.cons rfl rfl .nil) rfl rfl) (by decide) (fun m8 v9 hle10 hs11 => ?_)
  replace hs2 := hs2.mono hle10
  replace hs4 := hs4.mono hle10
  replace hm_ := hm_.mono hle10
  refine WL.tm (T.call Try.call75 rfl (opened75 _ _ d ⟨_, _, rfl, hs2, hs4⟩ _ _ hm_ _ _ .nil _ _ hs11 )) (by decide) fun m12 r13 hle14 hR15 => ?_
  obtain ⟨c16, rfl, hc17⟩ := hR15
  replace hs2 := hs2.mono hle14
  replace hs4 := hs4.mono hle14
  replace hm_ := hm_.mono hle14
  replace hs11 := hs11.mono hle14
  obtain ⟨v18, v20, rfl, hs19, hs21⟩ := hc17
  have hl22 := hs19.le
  have hl23 := hs21.le
  refine WL.x (X.move rfl) (by decide) ?_
  refine WL.x (X.extract rfl rfl) (by decide) ?_
  refine WL.x (X.extract rfl rfl) (by decide) ?_
  refine WL.tn (T.alloc Try.zeroValue83 rfl) (by decide) fun b24 => ?_
  refine WL.ts (T.storeBA (k := 0) Try.sizeOf83 rfl rfl rfl (one_cons hs19.one (one_cons hs21.one one_nil)) rfl rfl) ?_
  refine WL.x (X.assign rfl) (by decide) ?_
  refine WL.nil ?_
  refine WK.nThen ?_
  refine WC.seq ?_
  refine WC.seq ?_
  refine WC.region ?_
  refine WL.x (X.move rfl) (by decide) ?_
  refine WL.condn (X.neq rfl rfl) (by decide) (fun h25 => ?_) (fun h25 => ?_)
  · refine WL.nil ?_
    refine WK.nThen ?_
    refine WC.condT rfl ?_
    refine WC.seq ?_
    refine WC.region ?_
    refine WL.x (X.move rfl) (by decide) ?_
    refine WL.x (X.assign rfl) (by decide) ?_
    refine WL.x (X.assign rfl) (by decide) ?_
    refine WL.nil ?_
    refine WK.nThen ?_
    refine WC.ret ?_
    refine WK.rThen ?_
    refine WK.ret2 rfl rfl rfl (fun w' hw' => Ret.mem hw' ?_)
    first | exact ⟨_, tup2 rfl (int_eq (by rw [runR_bad (by omega)])), by rw [runR_bad (by omega)]; exact .nil⟩ | exact ⟨_, tup2 rfl (int_eq (by rw [runR_ok he_ (by assumption)])), by rw [runR_ok he_ (by assumption)]; exact .nil⟩ | exact ⟨_, tup2 rfl (int_eq (by rw [runR_no he_ (by assumption)])), by rw [runR_no he_ (by assumption)]; exact .nil⟩
  · refine WL.nil ?_
    refine WK.nThen ?_
    refine WC.condF rfl ?_
    refine WC.skip ?_
    refine WK.nThen ?_
    refine WC.seq ?_
    have he_ : openE d m_ ([]) ([tick]) = 0 := (by omega)
    have hz := openE_zero he_
    have hoc := openC_ok he_
    have hok := hz.1
    have hod := hz.2.2
    have hw := setC_w hok hod
    have hsn := setC_n d m_
    have hsl := setC_l d m_
    have hd1 := hok.dr.1
    have htck0 := (Decidable.of_not_not (hz.2.1.2 0 (by simp)) : 0 ≤ tick ∧ tick ≤ 400)
    rw [hoc] at hs19
    rw [hoc] at hs21
    try rw [hoc]
    refine WC.region ?_
    refine WL.x (X.loadBA (k := 0) Try.isAgg83 Try.sizeOf83 rfl rfl rfl) (by decide) ?_
    refine WL.x (X.move rfl) (by decide) ?_
    refine WL.tm (T.call Try.call87 rfl (with87 _ _ (setC d m_) ⟨_, _, rfl, hs19, hs21⟩ _ _ (by omega) (by omega))) (by decide) fun m26 r27 hle28 hR29 => ?_
    obtain ⟨c30, rfl, hc31⟩ := hR29
    replace hs2 := hs2.mono hle28
    replace hs4 := hs4.mono hle28
    replace hm_ := hm_.mono hle28
    replace hs11 := hs11.mono hle28
    replace hs19 := hs19.mono hle28
    replace hs21 := hs21.mono hle28
    obtain ⟨v32, v34, rfl, hs33, hs35⟩ := hc31
    have hl36 := hs33.le
    have hl37 := hs35.le
    refine WL.tm (T.call Try.call88 rfl (settled88 _ _ (withC ((setC d m_)) (0 : Int).toNat tick) ⟨_, _, rfl, hs33, hs35⟩ (wi_w hok hod ((0 : Int)).toNat htck0))) (by decide) fun m38 r39 hle40 hR41 => ?_
    obtain ⟨c42, rfl, hc43⟩ := hR41
    replace hs2 := hs2.mono hle40
    replace hs4 := hs4.mono hle40
    replace hm_ := hm_.mono hle40
    replace hs11 := hs11.mono hle40
    replace hs19 := hs19.mono hle40
    replace hs21 := hs21.mono hle40
    replace hs33 := hs33.mono hle40
    replace hs35 := hs35.mono hle40
    obtain ⟨v44, v46, rfl, hs45, hs47⟩ := hc43
    have hl48 := hs45.le
    have hl49 := hs47.le
    refine WL.x (X.move rfl) (by decide) ?_
    refine WL.x (X.extract rfl rfl) (by decide) ?_
    refine WL.x (X.extract rfl rfl) (by decide) ?_
    refine WL.tn (T.alloc Try.zeroValue83 rfl) (by decide) fun b50 => ?_
    refine WL.ts (T.storeBA (k := 0) Try.sizeOf83 rfl rfl rfl (one_cons hs45.one (one_cons hs47.one one_nil)) rfl rfl) ?_
    refine WL.x (X.assign rfl) (by decide) ?_
    refine WL.nil ?_
    refine WK.nThen ?_
    refine WC.seq ?_
    refine WC.seq ?_
    refine WC.region ?_
    refine WL.x (X.move rfl) (by decide) ?_
    refine WL.condn (X.notp rfl) (by decide) (fun h51 => ?_) (fun h51 => ?_)
    · refine WL.nil ?_
      refine WK.nThen ?_
      refine WC.condT rfl ?_
      refine WC.seq ?_
      refine WC.region ?_
      refine WL.x (X.assign rfl) (by decide) ?_
      refine WL.x (X.assign rfl) (by decide) ?_
      refine WL.nil ?_
      refine WK.nThen ?_
      refine WC.ret ?_
      refine WK.rThen ?_
      refine WK.ret2 rfl rfl rfl (fun w' hw' => Ret.mem hw' ?_)
      first | exact ⟨_, tup2 rfl (int_eq (by rw [runR_bad (by omega)])), by rw [runR_bad (by omega)]; exact .nil⟩ | exact ⟨_, tup2 rfl (int_eq (by rw [runR_ok he_ (by assumption)])), by rw [runR_ok he_ (by assumption)]; exact .nil⟩ | exact ⟨_, tup2 rfl (int_eq (by rw [runR_no he_ (by assumption)])), by rw [runR_no he_ (by assumption)]; exact .nil⟩
    · refine WL.nil ?_
      refine WK.nThen ?_
      refine WC.condF rfl ?_
      refine WC.skip ?_
      refine WK.nThen ?_
      refine WC.seq ?_
      refine WC.region ?_
      refine WL.x (X.field Try.runUnderlying83 rfl Try.sizeOf22 rfl) (by decide) ?_
      refine WL.x (X.loadB (k := 0) Try.isAgg22 rfl rfl rfl) (by decide) ?_
      refine WL.x (X.assign rfl) (by decide) ?_
      refine WL.x (X.assign rfl) (by decide) ?_
      refine WL.nil ?_
      refine WK.nThen ?_
      refine WC.ret ?_
      refine WK.ret2 rfl rfl rfl (fun w' hw' => Ret.mem hw' ?_)
      first | exact ⟨_, tup2 rfl (int_eq (by rw [runR_bad (by omega)])), by rw [runR_bad (by omega)]; exact hs47⟩ | exact ⟨_, tup2 rfl (int_eq (by rw [runR_ok he_ (by assumption)])), by rw [runR_ok he_ (by assumption)]; exact hs47⟩ | exact ⟨_, tup2 rfl (int_eq (by rw [runR_no he_ (by assumption)])), by rw [runR_no he_ (by assumption)]; exact hs47⟩

theorem nan149 (m : Mem) (n : Int)   : Exact Try.prog 149 #[.int .i64 (n)] m (.bool false) := by
  refine Exact.start Try.func149 rfl Try.ntmps149 rfl fun wld => ?_
  refine WC.seq ?_
  refine WC.region ?_
  refine WL.x (X.assign rfl) (by decide) ?_
  refine WL.nil ?_
  refine WK.nThen ?_
  refine WC.seq ?_
  refine WC.region ?_
  refine WL.x (X.move rfl) (by decide) ?_
  refine WL.x (X.move rfl) (by decide) ?_
  refine WL.x (OpX.f (X.neq rfl rfl) (fun h => h rfl)) (by decide) ?_
  refine WL.x (X.assign rfl) (by decide) ?_
  refine WL.nil ?_
  refine WK.nThen ?_
  refine WC.ret ?_
  refine WK.ret1 rfl rfl (fun w' hw' => Ret.exact hw' ?_)
  first | rfl | exact bool_false (by simp) | exact bool_false (fun h => h rfl)

theorem nan145 (m : Mem) (n : Int)   : Exact Try.prog 145 #[.int .i64 (n)] m (.bool false) := by
  refine Exact.start Try.func145 rfl Try.ntmps145 rfl fun wld => ?_
  refine WC.seq ?_
  refine WC.region ?_
  refine WL.x (X.assign rfl) (by decide) ?_
  refine WL.nil ?_
  refine WK.nThen ?_
  refine WC.seq ?_
  refine WC.region ?_
  refine WL.x (X.move rfl) (by decide) ?_
  refine WL.x (X.move rfl) (by decide) ?_
  refine WL.x (OpX.f (X.neq rfl rfl) (fun h => h rfl)) (by decide) ?_
  refine WL.x (X.assign rfl) (by decide) ?_
  refine WL.nil ?_
  refine WK.nThen ?_
  refine WC.ret ?_
  refine WK.ret1 rfl rfl (fun w' hw' => Ret.exact hw' ?_)
  first | rfl | exact bool_false (by simp) | exact bool_false (fun h => h rfl)

theorem less144 (m : Mem) (a : Int) (b : Int)   : Exact Try.prog 144 #[.int .i64 (a), .int .i64 (b)] m (.bool (decide (a < b))) := by
  refine Exact.start Try.func144 rfl Try.ntmps144 rfl fun wld => ?_
  refine WC.seq ?_
  refine WC.region ?_
  refine WL.x (X.assign rfl) (by decide) ?_
  refine WL.nil ?_
  refine WK.nThen ?_
  refine WC.seq ?_
  refine WC.region ?_
  refine WL.x (X.move rfl) (by decide) ?_
  refine WL.x (X.call Try.call149 rfl (nan149 _ _ )) (by decide) ?_
  refine WL.x (X.move rfl) (by decide) ?_
  refine WL.no rfl rfl rfl (by decide) ?_
  refine WL.no rfl rfl rfl (by decide) ?_
  refine WL.no rfl rfl rfl (by decide) ?_
  refine WL.x (X.pickF rfl rfl rfl) (by decide) ?_
  refine WL.x (X.move rfl) (by decide) ?_
  refine WL.yes rfl rfl ?_
  refine WL.x (X.move rfl) (by decide) ?_
  refine WL.yes rfl rfl ?_
  refine WL.x (X.move rfl) (by decide) ?_
  refine WL.yes rfl rfl ?_
  refine WL.x (X.lss rfl rfl) (by decide) ?_
  refine WL.x (X.pickF rfl rfl rfl) (by decide) ?_
  refine WL.x (X.assign rfl) (by decide) ?_
  refine WL.nil ?_
  refine WK.nThen ?_
  refine WC.ret ?_
  refine WK.ret1 rfl rfl (fun w' hw' => Ret.exact hw' ?_)
  first | exact bool_true (by omega) | exact bool_false (by omega) | exact dec_eq (by omega)

theorem search127 (m : Mem) (vl : Value) (l : List Int) (hl : Sl m vl l) (t : Int)  (hup : upP l) : Exact Try.prog 127 #[vl, .int .i64 (t)] m (.tuple #[.int .i64 (↑(lowI l t)), .bool (decide (lowI l t < l.length ∧ gt l (lowI l t) = t))]) := by
  have ll := hl.le
  refine Exact.start Try.func127 rfl Try.ntmps127 rfl fun wld => ?_
  refine WC.seq ?_
  refine WC.region ?_
  refine WL.x (X.assign rfl) (by decide) ?_
  refine WL.x (X.assign rfl) (by decide) ?_
  refine WL.nil ?_
  refine WK.nThen ?_
  refine WC.seq ?_
  refine WC.region ?_
  refine WL.x (X.move rfl) (by decide) ?_
  refine WL.x (X.len Try.runUnderlying29 rfl hl) (by decide) ?_
  refine WL.x (X.assign rfl) (by decide) ?_
  refine WL.nil ?_
  refine WK.nThen ?_
  refine WC.seq ?_
  refine WC.region ?_
  refine WL.x (X.move rfl) (by decide) ?_
  refine WL.x (X.assign rfl) (by decide) ?_
  refine WL.x (X.assign rfl) (by decide) ?_
  refine WL.nil ?_
  refine WK.nThen ?_
  refine WC.seq ?_
  refine WC.block ?_
  refine WC.loop (G := Nat × Nat) (fun (i, j) => j - i) (fun (i, j) => m) (fun (i, j) => []) (fun (i, j) => [(0, vl), (1, .int .i64 (t)), (6, .int .i64 (↑l.length)), (7, .int .i64 (↑i)), (8, .int .i64 (↑j))]) (fun (i, j) => (i ≤ j ∧ j ≤ l.length) ∧ (∀ k, k < i → gt l k < t) ∧ (∀ k, j ≤ k → k < l.length → t ≤ gt l k)) ((0, l.length)) rfl (.refl _) (.cons rfl (.cons rfl (.cons rfl (.cons rfl (.cons rfl .nil))))) ?_ ?_
  · exact ⟨by omega, fun k hk => by omega, fun k h1 h2 => by omega⟩
  · rintro ⟨i, j⟩ hF1
    show WK _ _ m [] [(0, vl), (1, .int .i64 (t)), (6, .int .i64 (↑l.length)), (7, .int .i64 (↑i)), (8, .int .i64 (↑j))] _
    replace hF1 : (i ≤ j ∧ j ≤ l.length) ∧ (∀ k, k < i → gt l k < t) ∧ (∀ k, j ≤ k → k < l.length → t ≤ gt l k) := hF1
    obtain ⟨hij, hlo, hhi⟩ := hF1
    refine WC.seq ?_
    refine WC.seq ?_
    refine WC.region ?_
    refine WL.x (X.move rfl) (by decide) ?_
    refine WL.x (X.move rfl) (by decide) ?_
    refine WL.cond (X.lss rfl rfl) (by decide) (fun h2 => ?_) (fun h2 => ?_)
    · refine WL.nil ?_
      refine WK.nThen ?_
      refine WC.condT rfl ?_
      refine WC.skip ?_
      refine WK.nThen ?_
      refine WC.block ?_
      refine WC.seq ?_
      refine WC.region ?_
      refine WL.x (X.move rfl) (by decide) ?_
      refine WL.x (X.move rfl) (by decide) ?_
      refine WL.x (X.add rfl rfl (by omega) (by omega)) (by decide) ?_
      refine WL.x (X.conv Try.runUnderlying3 Try.runUnderlying146 rfl (wrap_u64 (by omega) (by omega))) (by decide) ?_
      refine WL.x (X.shr1 rfl rfl (by omega)) (by decide) ?_
      refine WL.x (X.conv Try.runUnderlying146 Try.runUnderlying3 rfl (wrap_in (by omega) (by omega))) (by decide) ?_
      refine WL.x (X.assign rfl) (by decide) ?_
      refine WL.nil ?_
      refine WK.nThen ?_
      refine WC.seq ?_
      refine WC.region ?_
      refine WL.x (X.move rfl) (by decide) ?_
      refine WL.x (X.move rfl) (by decide) ?_
      refine WL.xe (E.idxE ((i + j) / 2) Try.runUnderlying29 Try.sizeOf3 rfl rfl hl (by omega) (by omega)) (by decide) (fun p3 hp4 => ?_)
      refine WL.x (X.loadInt Try.isAgg3 rfl hp4) (by decide) ?_
      refine WL.x (X.move rfl) (by decide) ?_
      refine WL.cond (X.call Try.call144 rfl (less144 _ _ _ )) (by decide) (fun h5 => ?_) (fun h5 => ?_)
      · refine WL.nil ?_
        refine WK.nThen ?_
        refine WC.condT rfl ?_
        refine WC.region ?_
        refine WL.x (X.move rfl) (by decide) ?_
        refine WL.x (X.add rfl rfl (by omega) (by omega)) (by decide) ?_
        refine WL.x (X.assign rfl) (by decide) ?_
        refine WL.nil ?_
        refine WK.nBlock ?_
        refine WK.nThen ?_
        refine WK.next (((i + j) / 2 + 1, j)) rfl (.refl _) (.cons rfl (.cons rfl (.cons rfl (.cons rfl (.cons rfl .nil))))) ?_ ?_
        · first | exact ⟨by omega, fun k hk => by (rcases Nat.lt_or_ge k ((i + j) / 2) with h2 | h2; (have h3 := up_lt hup h2 (by omega)); omega; (have h4 : k = (i + j) / 2 := by omega); rw [h4]; omega), hhi⟩ | exact ⟨by omega, hlo, fun k h1 h2 => by (rcases Nat.lt_or_ge ((i + j) / 2) k with h4 | h4; (have h5 := up_lt hup h4 h2); omega; (have h6 : k = (i + j) / 2 := by omega); rw [h6]; omega)⟩
        · (dsimp only; omega)
      · refine WL.nil ?_
        refine WK.nThen ?_
        refine WC.condF rfl ?_
        refine WC.region ?_
        refine WL.x (X.move rfl) (by decide) ?_
        refine WL.x (X.assign rfl) (by decide) ?_
        refine WL.nil ?_
        refine WK.nBlock ?_
        refine WK.nThen ?_
        refine WK.next ((i, (i + j) / 2)) rfl (.refl _) (.cons rfl (.cons rfl (.cons rfl (.cons rfl (.cons rfl .nil))))) ?_ ?_
        · first | exact ⟨by omega, fun k hk => by (rcases Nat.lt_or_ge k ((i + j) / 2) with h2 | h2; (have h3 := up_lt hup h2 (by omega)); omega; (have h4 : k = (i + j) / 2 := by omega); rw [h4]; omega), hhi⟩ | exact ⟨by omega, hlo, fun k h1 h2 => by (rcases Nat.lt_or_ge ((i + j) / 2) k with h4 | h4; (have h5 := up_lt hup h4 h2); omega; (have h6 : k = (i + j) / 2 := by omega); rw [h6]; omega)⟩
        · (dsimp only; omega)
    · refine WL.nil ?_
      refine WK.nThen ?_
      refine WC.condF rfl ?_
      refine WC.exit ?_
      refine WK.eThen ?_
      refine WK.eThen ?_
      refine WK.eHit ?_
      refine WK.nThen ?_
      refine WC.seq ?_
      have hil : i = lowI l t := low_eq (by omega) hlo (fun k h1 h2 => hhi k (by omega) h2)
      refine WC.region ?_
      refine WL.x (X.move rfl) (by decide) ?_
      refine WL.x (X.move rfl) (by decide) ?_
      refine WL.x (X.move rfl) (by decide) ?_
      refine WL.cond (X.lss rfl rfl) (by decide) (fun h6 => ?_) (fun h6 => ?_)
      · refine WL.x (X.move rfl) (by decide) ?_
        refine WL.yes rfl rfl ?_
        refine WL.x (X.move rfl) (by decide) ?_
        refine WL.yes rfl rfl ?_
        refine WL.x (X.move rfl) (by decide) ?_
        refine WL.yes rfl rfl ?_
        refine WL.xe (E.idxN i Try.runUnderlying29 Try.sizeOf3 rfl rfl hl (by omega)) (by decide) (fun p7 hp8 => ?_)
        refine WL.yes rfl rfl ?_
        refine WL.x (X.loadInt Try.isAgg3 rfl hp8) (by decide) ?_
        refine WL.yes rfl rfl ?_
        refine WL.x (X.move rfl) (by decide) ?_
        refine WL.yes rfl rfl ?_
        refine WL.cond (X.eql rfl rfl) (by decide) (fun h9 => ?_) (fun h9 => ?_)
        · refine WL.yes rfl rfl ?_
          refine WL.x (X.move rfl) (by decide) ?_
          refine WL.no rfl rfl rfl (by decide) ?_
          refine WL.no rfl rfl rfl (by decide) ?_
          refine WL.no rfl rfl rfl (by decide) ?_
          refine WL.no rfl rfl rfl (by decide) ?_
          refine WL.no rfl rfl rfl (by decide) ?_
          refine WL.no rfl rfl rfl (by decide) ?_
          refine WL.noU rfl rfl (by decide) ?_
          refine WL.noU rfl rfl (by decide) ?_
          refine WL.no rfl rfl rfl (by decide) ?_
          refine WL.yes rfl rfl ?_
          refine WL.x (X.pickT rfl rfl rfl) (by decide) ?_
          refine WL.x (X.pickT rfl rfl rfl) (by decide) ?_
          refine WL.x (X.assign rfl) (by decide) ?_
          refine WL.x (X.assign rfl) (by decide) ?_
          refine WL.nil ?_
          refine WK.nThen ?_
          refine WC.ret ?_
          refine WK.ret2 rfl rfl rfl (fun w' hw' => Ret.exact hw' ?_)
          first | exact tup2 (int_eq (by rw [hil])) (bool_true (hil ▸ ⟨by omega, by assumption⟩)) | exact tup2 (int_eq (by rw [hil])) (bool_false (hil ▸ (fun h_ => by have := h_.1; omega))) | exact tup2 (int_eq (by rw [hil])) (bool_false (hil ▸ (fun h_ => by have := h_.2; contradiction)))
        · refine WL.yes rfl rfl ?_
          refine WL.x (X.move rfl) (by decide) ?_
          refine WL.yes rfl rfl ?_
          refine WL.x (X.move rfl) (by decide) ?_
          refine WL.yes rfl rfl ?_
          refine WL.x (X.move rfl) (by decide) ?_
          refine WL.yes rfl rfl ?_
          refine WL.xe (E.idxN i Try.runUnderlying29 Try.sizeOf3 rfl rfl hl (by omega)) (by decide) (fun p10 hp11 => ?_)
          refine WL.yes rfl rfl ?_
          refine WL.x (X.loadInt Try.isAgg3 rfl hp11) (by decide) ?_
          refine WL.yes rfl rfl ?_
          refine WL.x (X.call Try.call145 rfl (nan145 _ _ )) (by decide) ?_
          refine WL.yes rfl rfl ?_
          refine WL.x (X.move rfl) (by decide) ?_
          refine WL.no rfl rfl rfl (by decide) ?_
          refine WL.no rfl rfl rfl (by decide) ?_
          refine WL.yes rfl rfl ?_
          refine WL.x (X.pickF rfl rfl rfl) (by decide) ?_
          refine WL.yes rfl rfl ?_
          refine WL.x (X.pickF rfl rfl rfl) (by decide) ?_
          refine WL.x (X.pickT rfl rfl rfl) (by decide) ?_
          refine WL.x (X.assign rfl) (by decide) ?_
          refine WL.x (X.assign rfl) (by decide) ?_
          refine WL.nil ?_
          refine WK.nThen ?_
          refine WC.ret ?_
          refine WK.ret2 rfl rfl rfl (fun w' hw' => Ret.exact hw' ?_)
          first | exact tup2 (int_eq (by rw [hil])) (bool_true (hil ▸ ⟨by omega, by assumption⟩)) | exact tup2 (int_eq (by rw [hil])) (bool_false (hil ▸ (fun h_ => by have := h_.1; omega))) | exact tup2 (int_eq (by rw [hil])) (bool_false (hil ▸ (fun h_ => by have := h_.2; contradiction)))
      · refine WL.x (X.move rfl) (by decide) ?_
        refine WL.no rfl rfl rfl (by decide) ?_
        refine WL.no rfl rfl rfl (by decide) ?_
        refine WL.no rfl rfl rfl (by decide) ?_
        refine WL.no rfl rfl rfl (by decide) ?_
        refine WL.no rfl rfl rfl (by decide) ?_
        refine WL.no rfl rfl rfl (by decide) ?_
        refine WL.no rfl rfl rfl (by decide) ?_
        refine WL.noU rfl rfl (by decide) ?_
        refine WL.noU rfl rfl (by decide) ?_
        refine WL.noU rfl rfl (by decide) ?_
        refine WL.noU rfl rfl (by decide) ?_
        refine WL.noU rfl rfl (by decide) ?_
        refine WL.noU rfl rfl (by decide) ?_
        refine WL.noU rfl rfl (by decide) ?_
        refine WL.noU rfl rfl (by decide) ?_
        refine WL.noU rfl rfl (by decide) ?_
        refine WL.no rfl rfl rfl (by decide) ?_
        refine WL.x (X.pickF rfl rfl rfl) (by decide) ?_
        refine WL.x (X.assign rfl) (by decide) ?_
        refine WL.x (X.assign rfl) (by decide) ?_
        refine WL.nil ?_
        refine WK.nThen ?_
        refine WC.ret ?_
        refine WK.ret2 rfl rfl rfl (fun w' hw' => Ret.exact hw' ?_)
        first | exact tup2 (int_eq (by rw [hil])) (bool_true (hil ▸ ⟨by omega, by assumption⟩)) | exact tup2 (int_eq (by rw [hil])) (bool_false (hil ▸ (fun h_ => by have := h_.1; omega))) | exact tup2 (int_eq (by rw [hil])) (bool_false (hil ▸ (fun h_ => by have := h_.2; contradiction)))

theorem passed80 (m : Mem) (vl : Value) (l : List Int) (hl : Sl m vl l) (t : Int)  (hup : upP l) : Exact Try.prog 80 #[vl, .int .i64 (t)] m (.int .i64 (pasS l t)) := by
  have ll := hl.le
  have hlw := low_le l t
  refine Exact.start Try.func80 rfl Try.ntmps80 rfl fun wld => ?_
  refine WC.seq ?_
  refine WC.region ?_
  refine WL.x (X.assign rfl) (by decide) ?_
  refine WL.nil ?_
  refine WK.nThen ?_
  refine WC.seq ?_
  refine WC.region ?_
  refine WL.x (X.move rfl) (by decide) ?_
  refine WL.x (X.move rfl) (by decide) ?_
  refine WL.x (X.call Try.call127 rfl (search127 _ _ _ hl _ (by assumption))) (by decide) ?_
  refine WL.x (X.move rfl) (by decide) ?_
  refine WL.x (X.extract rfl rfl) (by decide) ?_
  refine WL.x (X.extract rfl rfl) (by decide) ?_
  refine WL.x (X.assign rfl) (by decide) ?_
  refine WL.x (X.assign rfl) (by decide) ?_
  refine WL.nil ?_
  refine WK.nThen ?_
  refine WC.seq ?_
  refine WC.seq ?_
  refine WC.region ?_
  refine WL.x (X.move rfl) (by decide) ?_
  refine WL.nil ?_
  refine WK.nThen ?_
  refine WC.cond rfl (fun h1 => ?_) (fun h1 => ?_)
  · refine WC.seq ?_
    refine WC.region ?_
    refine WL.x (X.move rfl) (by decide) ?_
    refine WL.x (X.assign rfl) (by decide) ?_
    refine WL.nil ?_
    refine WK.nThen ?_
    refine WC.ret ?_
    refine WK.rThen ?_
    refine WK.ret1 rfl rfl (fun w' hw' => Ret.exact hw' ?_)
    first | exact int_eq (pas_low hup (by assumption)).symm | exact int_eq (pas_low2 hup (by assumption)).symm
  · refine WC.skip ?_
    refine WK.nThen ?_
    refine WC.seq ?_
    refine WC.region ?_
    refine WL.x (X.move rfl) (by decide) ?_
    refine WL.x (X.sub rfl rfl (by omega) (by omega)) (by decide) ?_
    refine WL.x (X.assign rfl) (by decide) ?_
    refine WL.nil ?_
    refine WK.nThen ?_
    refine WC.ret ?_
    refine WK.ret1 rfl rfl (fun w' hw' => Ret.exact hw' ?_)
    first | exact int_eq (pas_low hup (by assumption)).symm | exact int_eq (pas_low2 hup (by assumption)).symm

theorem at23 (m : Mem) (cd : List Value) (d : Drum) (hd : Enc.rd m cd d) (vm_ : Value) (m_ : List Mark) (hm_ : Sl m vm_ m_) (tick : Int)   : Exact Try.prog 23 #[.agg cd.toArray, vm_, .int .i64 (tick)] m (.tuple #[.agg [.int .i64 ((atR d m_ tick).1.Lo), .int .i64 ((atR d m_ tick).1.Hi)].toArray, .int .i64 ((atR d m_ tick).2)]) := by
  obtain ⟨v1, v3, rfl, hs2, hs4⟩ := hd
  have hl5 := hs2.le
  have hl6 := hs4.le
  have lm_ := hm_.le
  refine Exact.start Try.func23 rfl Try.ntmps23 rfl fun wld => ?_
  refine WC.seq ?_
  refine WC.region ?_
  refine WL.tn (T.boxB rfl rfl) (by decide) fun b7 => ?_
  refine WL.tn (T.alloc Try.zeroValue31 rfl) (by decide) fun b8 => ?_
  refine WL.x (X.assign rfl) (by decide) ?_
  refine WL.nil ?_
  refine WK.nThen ?_
  refine WC.seq ?_
  refine WC.region ?_
  refine WL.x (X.loadBA (k := 1) Try.isAgg25 Try.sizeOf25 rfl rfl rfl) (by decide) ?_
  refine WL.x (X.move rfl) (by decide) ?_
  refine WL.x (X.move rfl) (by decide) ?_
  refine WL.tm (T.litM (α := Int) (vals := [.int .i64 (tick)]) (L := [tick]) sl29 rfl (.cons rfl rfl .nil) rfl rfl) (by decide) (fun m9 v10 hle11 hs12 => ?_)
  replace hs2 := hs2.mono hle11
  replace hs4 := hs4.mono hle11
  replace hm_ := hm_.mono hle11
  refine WL.tm (T.call Try.call75 rfl (opened75 _ _ d ⟨_, _, rfl, hs2, hs4⟩ _ _ hm_ _ _ .nil _ _ hs12 )) (by decide) fun m13 r14 hle15 hR16 => ?_
  obtain ⟨c17, rfl, hc18⟩ := hR16
  replace hs2 := hs2.mono hle15
  replace hs4 := hs4.mono hle15
  replace hm_ := hm_.mono hle15
  replace hs12 := hs12.mono hle15
  obtain ⟨v19, v21, rfl, hs20, hs22⟩ := hc18
  have hl23 := hs20.le
  have hl24 := hs22.le
  refine WL.x (X.move rfl) (by decide) ?_
  refine WL.x (X.extract rfl rfl) (by decide) ?_
  refine WL.x (X.extract rfl rfl) (by decide) ?_
  refine WL.tn (T.alloc Try.zeroValue83 rfl) (by decide) fun b25 => ?_
  refine WL.ts (T.storeBA (k := 0) Try.sizeOf83 rfl rfl rfl (one_cons hs20.one (one_cons hs22.one one_nil)) rfl rfl) ?_
  refine WL.x (X.assign rfl) (by decide) ?_
  refine WL.nil ?_
  refine WK.nThen ?_
  refine WC.seq ?_
  refine WC.seq ?_
  refine WC.region ?_
  refine WL.x (X.move rfl) (by decide) ?_
  refine WL.condn (X.neq rfl rfl) (by decide) (fun h26 => ?_) (fun h26 => ?_)
  · refine WL.nil ?_
    refine WK.nThen ?_
    refine WC.condT rfl ?_
    refine WC.seq ?_
    refine WC.region ?_
    refine WL.x (V := Value.agg [.int .i64 (0), .int .i64 (0)].toArray) (X.build Try.zeroValue31 Try.runUnderlying31 (places31 _ Try.underlying31) rfl rfl) (by decide) ?_
    refine WL.x (X.move rfl) (by decide) ?_
    refine WL.ts (T.storeBA (k := 1) Try.sizeOf31 rfl rfl rfl (one_cons rfl (one_cons rfl one_nil)) rfl rfl) ?_
    refine WL.x (X.assign rfl) (by decide) ?_
    refine WL.nil ?_
    refine WK.nThen ?_
    refine WC.ret ?_
    refine WK.rThen ?_
    refine WK.retC2 1 rfl rfl rfl rfl Try.isAgg31 Try.sizeOf31 (fun w' hw' => Ret.exact hw' ?_)
    first | exact tup2 (agg2i (by rw [atR_bad (by omega)]) (by rw [atR_bad (by omega)])) (int_eq (by rw [atR_bad (by omega)])) | exact tup2 (agg2i (by rw [atR_ok he_]) (by rw [atR_ok he_])) (int_eq (by rw [atR_ok he_]))
  · refine WL.nil ?_
    refine WK.nThen ?_
    refine WC.condF rfl ?_
    refine WC.skip ?_
    refine WK.nThen ?_
    refine WC.seq ?_
    have he_ : openE d m_ ([]) ([tick]) = 0 := (by omega)
    have hz := openE_zero he_
    have hoc := openC_ok he_
    have hok := hz.1
    have hod := hz.2.2
    have hw := setC_w hok hod
    have hsn := setC_n d m_
    have hsl := setC_l d m_
    have hd1 := hok.dr.1
    have htck0 := (Decidable.of_not_not (hz.2.1.2 0 (by simp)) : 0 ≤ tick ∧ tick ≤ 400)
    rw [hoc] at hs20
    rw [hoc] at hs22
    try rw [hoc]
    refine WC.draw (π := (.cons 0 (.cons 2 (.cons 4 (.cons 6 (.cons 1 (.cons 3 (.cons 5 (.cons 7 (.cons 8 (.cons 9 (.cons 10 .done)))))))))))) [1, 5, 9] [9] rfl (by kernel_rfl) ?_
    refine DW.x rfl rfl (X.loadBA (k := 0) Try.isAgg83 Try.sizeOf83 rfl rfl rfl) (by decide) ?_
    refine DW.x rfl rfl (X.move rfl) (by decide) ?_
    refine DW.x rfl rfl (X.loadBA (k := 0) Try.isAgg83 Try.sizeOf83 rfl rfl rfl) (by decide) ?_
    refine DW.x rfl rfl (X.move rfl) (by decide) ?_
    refine DW.tm rfl rfl rfl (T.call Try.call81 rfl (latest81 _ _ (setC d m_) ⟨_, _, rfl, hs20, hs22⟩ (by omega))) (by decide) fun m27 r28 hle29 hR30 => ?_
    obtain ⟨v31, hv_, hs32⟩ := hR30
    rw [← hv_] at hs32
    clear hv_ v31
    replace hs2 := hs2.mono hle29
    replace hs4 := hs4.mono hle29
    replace hm_ := hm_.mono hle29
    replace hs12 := hs12.mono hle29
    replace hs20 := hs20.mono hle29
    replace hs22 := hs22.mono hle29
    have hl33 := hs32.le
    refine DW.x rfl rfl (X.call Try.call80 rfl (passed80 _ _ _ hs32 _ (by first | exact los_up hok.dr hod | exact his_up hok.dr hod))) (by decide) ?_
    refine DW.tm rfl rfl rfl (T.call Try.call82 rfl (earliest82 _ _ (setC d m_) ⟨_, _, rfl, hs20, hs22⟩ (by omega))) (by decide) fun m34 r35 hle36 hR37 => ?_
    obtain ⟨v38, hv_, hs39⟩ := hR37
    rw [← hv_] at hs39
    clear hv_ v38
    replace hs2 := hs2.mono hle36
    replace hs4 := hs4.mono hle36
    replace hm_ := hm_.mono hle36
    replace hs12 := hs12.mono hle36
    replace hs20 := hs20.mono hle36
    replace hs22 := hs22.mono hle36
    replace hs32 := hs32.mono hle36
    have hl40 := hs39.le
    refine DW.x rfl rfl (X.call Try.call80 rfl (passed80 _ _ _ hs39 _ (by first | exact los_up hok.dr hod | exact his_up hok.dr hod))) (by decide) ?_
    refine DW.x (V := Value.agg [.int .i64 (pasS ((hisL ((setC d m_)).at_)) tick), .int .i64 (pasS ((losL ((setC d m_)).at_)) tick)].toArray) rfl rfl (X.build Try.zeroValue31 Try.runUnderlying31 (places31 _ Try.underlying31) rfl rfl) (by decide) ?_
    refine DW.ts rfl rfl rfl rfl (T.storeBA (k := 1) Try.sizeOf31 rfl rfl rfl (one_cons rfl (one_cons rfl one_nil)) rfl rfl) ?_
    refine DW.x rfl rfl (X.assign rfl) (by decide) ?_
    refine DW.nil ?_
    refine WK.nThen ?_
    refine WC.ret ?_
    refine WK.retC2 1 rfl rfl rfl rfl Try.isAgg31 Try.sizeOf31 (fun w' hw' => Ret.exact hw' ?_)
    first | exact tup2 (agg2i (by rw [atR_bad (by omega)]) (by rw [atR_bad (by omega)])) (int_eq (by rw [atR_bad (by omega)])) | exact tup2 (agg2i (by rw [atR_ok he_]) (by rw [atR_ok he_])) (int_eq (by rw [atR_ok he_]))

end Go.Proofs.C2
