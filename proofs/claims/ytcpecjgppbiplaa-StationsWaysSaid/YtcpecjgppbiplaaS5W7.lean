/- Stations: walks, by program: the wind kept, sea levels of levels, mixed lists. -/
import Derived.Test.YtcpecjgppbiplaaS5Mix
import Derived.Test.YtcpecjgppbiplaaS5W6
namespace Go.Proofs.S5
open Go Go.Kx

theorem middle74 (m : Mem) (a : Int) (b : Int) (c : Int)   : Exact Try.prog 74 #[.int .i64 (a), .int .i64 (b), .int .i64 (c)] m (.int .i64 (midI a b c)) := by
  refine Exact.start Try.func74 rfl Try.ntmps74 rfl fun wld => ?_
  refine WC.seq ?_
  refine WC.region ?_
  refine WL.x (X.assign rfl) (by decide) ?_
  refine WL.nil ?_
  refine WK.nThen ?_
  refine WC.seq ?_
  refine WC.region ?_
  refine WL.x (X.move rfl) (by decide) ?_
  refine WL.x (X.move rfl) (by decide) ?_
  refine WL.x (X.mn rfl rfl) (by decide) ?_
  refine WL.x (X.move rfl) (by decide) ?_
  refine WL.x (X.move rfl) (by decide) ?_
  refine WL.x (X.mn rfl rfl) (by decide) ?_
  refine WL.x (X.move rfl) (by decide) ?_
  refine WL.x (X.move rfl) (by decide) ?_
  refine WL.x (X.mn rfl rfl) (by decide) ?_
  refine WL.x (X.mx3 rfl rfl rfl) (by decide) ?_
  refine WL.x (X.assign rfl) (by decide) ?_
  refine WL.nil ?_
  refine WK.nThen ?_
  refine WC.ret ?_
  refine WK.ret1 rfl rfl (fun w' hw' => Ret.exact hw' ?_)
  rfl

theorem mixed31 (m : Mem) (va : Value) (a : List Int) (ha : Sl m va a) (vb : Value) (b : List Int) (hb : Sl m vb b) (vc : Value) (c : List Int) (hc : Sl m vc c)  (ha60 : a.length ≤ 60) (hab : a.length ≤ b.length) (hac : a.length ≤ c.length) : Pure Try.prog 31 #[va, vb, vc] m (fun m' v => ∃ r0 r1 r2, v = .tuple #[r0, r1, r2] ∧ Sl m' r0 (lowL a b) ∧ Sl m' r1 (highL a b) ∧ Sl m' r2 (midL a b c)) := by
  have la := ha.le
  have lb := hb.le
  have lc := hc.le
  refine Pure.start Try.func31 rfl Try.ntmps31 rfl fun wld => ?_
  refine WC.seq ?_
  refine WK.ownF Int 3 ?_
  refine WK.ownF Int 3 ?_
  refine WK.ownF Int 3 ?_
  refine WC.region ?_
  refine WL.x (X.assign rfl) (by decide) ?_
  refine WL.x (X.assign rfl) (by decide) ?_
  refine WL.x (X.assign rfl) (by decide) ?_
  refine WL.nil ?_
  refine WK.nThen ?_
  refine WC.seq ?_
  refine WC.seq ?_
  refine WC.region ?_
  refine WL.x (X.assign rfl) (by decide) ?_
  refine WL.nil ?_
  refine WK.nThen ?_
  refine WC.block ?_
  refine WC.loop (G := Nat × Value × Value × Value) (fun (i, v1, v2, v3) => a.length - i) (fun (i, v1, v2, v3) => m) (fun (i, v1, v2, v3) => [rowF (v3) 3 (mapL (fun j => midI (gt a j) (gt b j) (gt c j)) i), rowF (v2) 3 (mapL (fun j => max (gt a j) (gt b j)) i), rowF (v1) 3 (mapL (fun j => min (gt a j) (gt b j)) i)]) (fun (i, v1, v2, v3) => [(0, va), (1, vb), (2, vc), (6, v1), (7, v2), (8, v3), (9, .int .i64 (↑i))]) (fun (i, v1, v2, v3) => i ≤ a.length) ((0, Value.slice none 0 0, Value.slice none 0 0, Value.slice none 0 0)) rfl (.refl _) (.cons rfl (.cons rfl (.cons rfl (.cons rfl (.cons rfl (.cons rfl (.cons rfl .nil))))))) ?_ ?_
  · exact Nat.zero_le _
  · rintro ⟨i, v1, v2, v3⟩ hF1
    show WK _ _ m [rowF (v3) 3 (mapL (fun j => midI (gt a j) (gt b j) (gt c j)) i), rowF (v2) 3 (mapL (fun j => max (gt a j) (gt b j)) i), rowF (v1) 3 (mapL (fun j => min (gt a j) (gt b j)) i)] [(0, va), (1, vb), (2, vc), (6, v1), (7, v2), (8, v3), (9, .int .i64 (↑i))] _
    replace hF1 : i ≤ a.length := hF1
    have hi := hF1
    refine WC.seq ?_
    refine WC.seq ?_
    refine WC.region ?_
    refine WL.x (X.move rfl) (by decide) ?_
    refine WL.x (X.move rfl) (by decide) ?_
    refine WL.x (X.len Try.runUnderlying31 rfl ha) (by decide) ?_
    refine WL.cond (X.lss rfl rfl) (by decide) (fun h2 => ?_) (fun h2 => ?_)
    · refine WL.nil ?_
      refine WK.nThen ?_
      refine WC.condT rfl ?_
      refine WC.skip ?_
      refine WK.nThen ?_
      refine WC.seq ?_
      refine WC.block ?_
      refine WC.seq ?_
      have ml1 := mapL_len (fun j => min (gt a j) (gt b j)) i
      have ml2 := mapL_len (fun j => max (gt a j) (gt b j)) i
      have ml3 := mapL_len (fun j => midI (gt a j) (gt b j) (gt c j)) i
      refine WC.draw (π := (.cons 0 (.cons 1 (.cons 2 (.cons 3 (.cons 4 (.cons 5 (.cons 6 (.cons 7 (.cons 8 (.cons 9 (.cons 10 (.cons 11 (.cons 12 .done)))))))))))))) [10, 11] [11] rfl (by kernel_rfl) ?_
      refine DW.x rfl rfl (X.move rfl) (by decide) ?_
      refine DW.x rfl rfl (X.move rfl) (by decide) ?_
      refine DW.x rfl rfl (X.move rfl) (by decide) ?_
      refine DW.xe rfl rfl (E.idxN i Try.runUnderlying31 Try.sizeOf3 rfl rfl ha (by omega)) (by decide) (fun p3 hp4 => ?_)
      refine DW.x rfl rfl (X.loadInt Try.isAgg3 rfl hp4) (by decide) ?_
      refine DW.x rfl rfl (X.move rfl) (by decide) ?_
      refine DW.x rfl rfl (X.move rfl) (by decide) ?_
      refine DW.xe rfl rfl (E.idxN i Try.runUnderlying31 Try.sizeOf3 rfl rfl hb (by omega)) (by decide) (fun p5 hp6 => ?_)
      refine DW.x rfl rfl (X.loadInt Try.isAgg3 rfl hp6) (by decide) ?_
      refine DW.x rfl rfl (X.mn rfl rfl) (by decide) ?_
      refine DW.tl rfl rfl rfl (T.lit1 sl31 rfl rfl rfl (by decide)) (by decide) fun b7 => ?_
      refine DW.ta rfl rfl rfl rfl (T.appendF (k := 2) (a := min (gt a i) (gt b i)) sl31 rfl rfl rfl rfl (by first | omega | (simp; omega)) (by decide)) (by decide) (fun v8 => ?_)
      refine DW.x rfl rfl (X.assign rfl) (by decide) ?_
      refine DW.nil ?_
      refine WK.nThen ?_
      refine WC.seq ?_
      refine WC.draw (π := (.cons 0 (.cons 1 (.cons 2 (.cons 3 (.cons 4 (.cons 5 (.cons 6 (.cons 7 (.cons 8 (.cons 9 (.cons 10 (.cons 11 (.cons 12 .done)))))))))))))) [10, 11] [11] rfl (by kernel_rfl) ?_
      refine DW.x rfl rfl (X.move rfl) (by decide) ?_
      refine DW.x rfl rfl (X.move rfl) (by decide) ?_
      refine DW.x rfl rfl (X.move rfl) (by decide) ?_
      refine DW.xe rfl rfl (E.idxN i Try.runUnderlying31 Try.sizeOf3 rfl rfl ha (by omega)) (by decide) (fun p9 hp10 => ?_)
      refine DW.x rfl rfl (X.loadInt Try.isAgg3 rfl hp10) (by decide) ?_
      refine DW.x rfl rfl (X.move rfl) (by decide) ?_
      refine DW.x rfl rfl (X.move rfl) (by decide) ?_
      refine DW.xe rfl rfl (E.idxN i Try.runUnderlying31 Try.sizeOf3 rfl rfl hb (by omega)) (by decide) (fun p11 hp12 => ?_)
      refine DW.x rfl rfl (X.loadInt Try.isAgg3 rfl hp12) (by decide) ?_
      refine DW.x rfl rfl (X.mx rfl rfl) (by decide) ?_
      refine DW.tl rfl rfl rfl (T.lit1 sl31 rfl rfl rfl (by decide)) (by decide) fun b13 => ?_
      refine DW.ta rfl rfl rfl rfl (T.appendF (k := 1) (a := max (gt a i) (gt b i)) sl31 rfl rfl rfl rfl (by first | omega | (simp; omega)) (by decide)) (by decide) (fun v14 => ?_)
      refine DW.x rfl rfl (X.assign rfl) (by decide) ?_
      refine DW.nil ?_
      refine WK.nThen ?_
      refine WC.draw (π := (.cons 0 (.cons 1 (.cons 2 (.cons 3 (.cons 4 (.cons 5 (.cons 6 (.cons 7 (.cons 8 (.cons 9 (.cons 10 (.cons 11 (.cons 12 (.cons 13 (.cons 14 (.cons 15 (.cons 16 .done)))))))))))))))))) [14, 15] [15] rfl (by kernel_rfl) ?_
      refine DW.x rfl rfl (X.move rfl) (by decide) ?_
      refine DW.x rfl rfl (X.move rfl) (by decide) ?_
      refine DW.x rfl rfl (X.move rfl) (by decide) ?_
      refine DW.xe rfl rfl (E.idxN i Try.runUnderlying31 Try.sizeOf3 rfl rfl ha (by omega)) (by decide) (fun p15 hp16 => ?_)
      refine DW.x rfl rfl (X.loadInt Try.isAgg3 rfl hp16) (by decide) ?_
      refine DW.x rfl rfl (X.move rfl) (by decide) ?_
      refine DW.x rfl rfl (X.move rfl) (by decide) ?_
      refine DW.xe rfl rfl (E.idxN i Try.runUnderlying31 Try.sizeOf3 rfl rfl hb (by omega)) (by decide) (fun p17 hp18 => ?_)
      refine DW.x rfl rfl (X.loadInt Try.isAgg3 rfl hp18) (by decide) ?_
      refine DW.x rfl rfl (X.move rfl) (by decide) ?_
      refine DW.x rfl rfl (X.move rfl) (by decide) ?_
      refine DW.xe rfl rfl (E.idxN i Try.runUnderlying31 Try.sizeOf3 rfl rfl hc (by omega)) (by decide) (fun p19 hp20 => ?_)
      refine DW.x rfl rfl (X.loadInt Try.isAgg3 rfl hp20) (by decide) ?_
      refine DW.x rfl rfl (X.call Try.call74 rfl (middle74 _ _ _ _ )) (by decide) ?_
      refine DW.tl rfl rfl rfl (T.lit1 sl31 rfl rfl rfl (by decide)) (by decide) fun b21 => ?_
      refine DW.ta rfl rfl rfl rfl (T.appendF (k := 0) (a := midI (gt a i) (gt b i) (gt c i)) sl31 rfl rfl rfl rfl (by first | omega | (simp; omega)) (by decide)) (by decide) (fun v22 => ?_)
      refine DW.x rfl rfl (X.assign rfl) (by decide) ?_
      refine DW.nil ?_
      refine WK.nBlock ?_
      refine WK.nThen ?_
      refine WC.region ?_
      refine WL.x (X.move rfl) (by decide) ?_
      refine WL.x (X.add rfl rfl (by omega) (by omega)) (by decide) ?_
      refine WL.x (X.assign rfl) (by decide) ?_
      refine WL.nil ?_
      refine WK.nThen ?_
      have he23 : ((mapL (fun j => min (gt a j) (gt b j)) i) ++ [min (gt a i) (gt b i)]) = (mapL (fun j => min (gt a j) (gt b j)) (i + 1)) := (by unfold mapL; exact map_succ i _)
      rw [he23]
      have he24 : ((mapL (fun j => max (gt a j) (gt b j)) i) ++ [max (gt a i) (gt b i)]) = (mapL (fun j => max (gt a j) (gt b j)) (i + 1)) := (by unfold mapL; exact map_succ i _)
      rw [he24]
      have he25 : ((mapL (fun j => midI (gt a j) (gt b j) (gt c j)) i) ++ [midI (gt a i) (gt b i) (gt c i)]) = (mapL (fun j => midI (gt a j) (gt b j) (gt c j)) (i + 1)) := (by unfold mapL; exact map_succ i _)
      rw [he25]
      refine WK.next ((i + 1, v8, v14, v22)) rfl (.refl _) (.cons rfl (.cons rfl (.cons rfl (.cons rfl (.cons rfl (.cons rfl (.cons rfl .nil))))))) ?_ ?_
      · omega
      · (dsimp only; omega)
    · refine WL.nil ?_
      refine WK.nThen ?_
      refine WC.condF rfl ?_
      refine WC.exit ?_
      refine WK.eThen ?_
      refine WK.eThen ?_
      refine WK.eHit ?_
      refine WK.nThen ?_
      refine WC.seq ?_
      refine WC.region ?_
      refine WL.x (X.move rfl) (by decide) ?_
      refine WL.x (X.move rfl) (by decide) ?_
      refine WL.x (X.move rfl) (by decide) ?_
      refine WL.x (X.assign rfl) (by decide) ?_
      refine WL.x (X.assign rfl) (by decide) ?_
      refine WL.x (X.assign rfl) (by decide) ?_
      refine WL.nil ?_
      refine WK.nThen ?_
      refine WC.ret ?_
      refine WK.freezeF 2 rfl rfl (by rw [mapL_len]; unfold lenB; omega) (fun m26 hle27 hs28 => ?_)
      replace ha := ha.mono hle27
      replace hb := hb.mono hle27
      replace hc := hc.mono hle27
      refine WK.freezeF 1 rfl rfl (by rw [mapL_len]; unfold lenB; omega) (fun m29 hle30 hs31 => ?_)
      replace ha := ha.mono hle30
      replace hb := hb.mono hle30
      replace hc := hc.mono hle30
      replace hs28 := hs28.mono hle30
      refine WK.freezeF 0 rfl rfl (by rw [mapL_len]; unfold lenB; omega) (fun m32 hle33 hs34 => ?_)
      replace ha := ha.mono hle33
      replace hb := hb.mono hle33
      replace hc := hc.mono hle33
      replace hs28 := hs28.mono hle33
      replace hs31 := hs31.mono hle33
      refine WK.ret3 rfl rfl rfl rfl (fun w' hw' => Ret.mem hw' ?_)
      obtain rfl : i = a.length := (by omega)
      exact ⟨_, _, _, rfl, hs28, hs31, hs34⟩

theorem height49 (m : Mem) (cs : List Value) (s : Station) (hs : Enc.rd m cs s) (week : Int)   : Exact Try.prog 49 #[.agg cs.toArray, .int .i64 (week)] m (.tuple #[.agg [.int .i64 ((heightR s week).1.Lo), .int .i64 ((heightR s week).1.Hi)].toArray, .int .i64 ((heightR s week).2)]) := by
  obtain ⟨v1, rfl, hs2⟩ := hs
  have hl3 := hs2.le
  have h1 := aloneE_one s
  refine Exact.start Try.func49 rfl Try.ntmps49 rfl fun wld => ?_
  refine WC.seq ?_
  refine WC.region ?_
  refine WL.tn (T.boxB rfl rfl) (by decide) fun b4 => ?_
  refine WL.tn (T.alloc Try.zeroValue49 rfl) (by decide) fun b5 => ?_
  refine WL.x (X.assign rfl) (by decide) ?_
  refine WL.nil ?_
  refine WK.nThen ?_
  refine WC.seq ?_
  refine WC.region ?_
  refine WL.x (X.loadBA (k := 1) Try.isAgg58 Try.sizeOf58 rfl rfl rfl) (by decide) ?_
  refine WL.tm (T.litM (α := Station) (vals := [.agg [.int .i64 (s.ID), .int .i64 (s.X), .int .i64 (s.Y), v1].toArray]) (L := [s]) sl24 rfl (.cons rfl ⟨_, rfl, hs2⟩ .nil) rfl rfl) (by decide) (fun m6 v7 hle8 hs9 => ?_)
  replace hs2 := hs2.mono hle8
  refine WL.x (X.call Try.call80 rfl (alone80 _ _ _ hs9 )) (by decide) ?_
  refine WL.x (X.assign rfl) (by decide) ?_
  refine WL.nil ?_
  refine WK.nThen ?_
  refine WC.seq ?_
  refine WC.block ?_
  refine WC.seq ?_
  refine WC.region ?_
  refine WL.x (X.move rfl) (by decide) ?_
  refine WL.condn (X.neq rfl rfl) (by decide) (fun h10 => ?_) (fun h10 => ?_)
  · refine WL.x (X.assign rfl) (by decide) ?_
    refine WL.nil ?_
    refine WK.nThen ?_
    refine WC.condT rfl ?_
    refine WC.seq ?_
    refine WC.region ?_
    refine WL.x (V := Value.agg [.int .i64 (0), .int .i64 (0)].toArray) (X.build Try.zeroValue49 Try.runUnderlying49 (places49 _ Try.underlying49) rfl rfl) (by decide) ?_
    refine WL.x (X.move rfl) (by decide) ?_
    refine WL.ts (T.storeBA (k := 0) Try.sizeOf49 rfl rfl rfl (one_cons rfl (one_cons rfl one_nil)) rfl rfl) ?_
    refine WL.x (X.assign rfl) (by decide) ?_
    refine WL.nil ?_
    refine WK.nThen ?_
    refine WC.ret ?_
    refine WK.rBlock ?_
    refine WK.rThen ?_
    refine WK.retC2 0 rfl rfl rfl rfl Try.isAgg49 Try.sizeOf49 (fun w' hw' => Ret.exact hw' ?_)
    first | exact tup2 (agg2 (by unfold heightR; rw [if_pos (by omega)]) (by unfold heightR; rw [if_pos (by omega)])) (int_eq (by unfold heightR; rw [if_pos (by omega)]; omega)) | exact tup2 (agg2 (by unfold heightR; rw [if_neg (by omega), if_neg (by omega)]) (by unfold heightR; rw [if_neg (by omega), if_neg (by omega)])) (int_eq (by unfold heightR; rw [if_neg (by omega), if_neg (by omega)])) | exact tup2 (agg2 (by unfold heightR; rw [if_neg (by omega), if_pos (by omega)]) (by unfold heightR; rw [if_neg (by omega), if_pos (by omega)])) (int_eq (by unfold heightR; rw [if_neg (by omega), if_pos (by omega)]))
  · refine WL.x (X.assign rfl) (by decide) ?_
    refine WL.nil ?_
    refine WK.nThen ?_
    refine WC.condF rfl ?_
    refine WC.seq ?_
    refine WC.region ?_
    refine WL.x (X.move rfl) (by decide) ?_
    refine WL.cond (X.call Try.call65 rfl (within65 _ _ _ _ )) (by decide) (fun h11 => ?_) (fun h11 => ?_)
    · refine WL.x (X.not rfl) (by decide) ?_
      refine WL.x (X.assign rfl) (by decide) ?_
      refine WL.nil ?_
      refine WK.nThen ?_
      refine WC.condF rfl ?_
      refine WC.skip ?_
      refine WK.nBlock ?_
      refine WK.nThen ?_
      refine WC.seq ?_
      refine WC.region ?_
      refine WL.x (X.loadBA (k := 1) Try.isAgg58 Try.sizeOf58 rfl rfl rfl) (by decide) ?_
      refine WL.x (X.move rfl) (by decide) ?_
      refine WL.x (X.call Try.call87 rfl (height87 _ _ s ⟨_, rfl, hs2⟩ _ (by have := oneE_zero (s := s) (by omega); exact this.2) (by omega))) (by decide) ?_
      refine WL.ts (T.storeBA (k := 0) Try.sizeOf49 rfl rfl rfl (one_cons rfl (one_cons rfl one_nil)) rfl rfl) ?_
      refine WL.x (X.assign rfl) (by decide) ?_
      refine WL.nil ?_
      refine WK.nThen ?_
      refine WC.ret ?_
      refine WK.retC2 0 rfl rfl rfl rfl Try.isAgg49 Try.sizeOf49 (fun w' hw' => Ret.exact hw' ?_)
      first | exact tup2 (agg2 (by unfold heightR; rw [if_pos (by omega)]) (by unfold heightR; rw [if_pos (by omega)])) (int_eq (by unfold heightR; rw [if_pos (by omega)]; omega)) | exact tup2 (agg2 (by unfold heightR; rw [if_neg (by omega), if_neg (by omega)]) (by unfold heightR; rw [if_neg (by omega), if_neg (by omega)])) (int_eq (by unfold heightR; rw [if_neg (by omega), if_neg (by omega)])) | exact tup2 (agg2 (by unfold heightR; rw [if_neg (by omega), if_pos (by omega)]) (by unfold heightR; rw [if_neg (by omega), if_pos (by omega)])) (int_eq (by unfold heightR; rw [if_neg (by omega), if_pos (by omega)]))
    · refine WL.x (X.not rfl) (by decide) ?_
      refine WL.x (X.assign rfl) (by decide) ?_
      refine WL.nil ?_
      refine WK.nThen ?_
      refine WC.condT rfl ?_
      refine WC.seq ?_
      refine WC.region ?_
      refine WL.x (V := Value.agg [.int .i64 (0), .int .i64 (0)].toArray) (X.build Try.zeroValue49 Try.runUnderlying49 (places49 _ Try.underlying49) rfl rfl) (by decide) ?_
      refine WL.ts (T.storeBA (k := 0) Try.sizeOf49 rfl rfl rfl (one_cons rfl (one_cons rfl one_nil)) rfl rfl) ?_
      refine WL.x (X.assign rfl) (by decide) ?_
      refine WL.nil ?_
      refine WK.nThen ?_
      refine WC.ret ?_
      refine WK.rBlock ?_
      refine WK.rThen ?_
      refine WK.retC2 0 rfl rfl rfl rfl Try.isAgg49 Try.sizeOf49 (fun w' hw' => Ret.exact hw' ?_)
      first | exact tup2 (agg2 (by unfold heightR; rw [if_pos (by omega)]) (by unfold heightR; rw [if_pos (by omega)])) (int_eq (by unfold heightR; rw [if_pos (by omega)]; omega)) | exact tup2 (agg2 (by unfold heightR; rw [if_neg (by omega), if_neg (by omega)]) (by unfold heightR; rw [if_neg (by omega), if_neg (by omega)])) (int_eq (by unfold heightR; rw [if_neg (by omega), if_neg (by omega)])) | exact tup2 (agg2 (by unfold heightR; rw [if_neg (by omega), if_pos (by omega)]) (by unfold heightR; rw [if_neg (by omega), if_pos (by omega)])) (int_eq (by unfold heightR; rw [if_neg (by omega), if_pos (by omega)]))

theorem windy32 (m : Mem) (cw : List Value) (w : Wind) (hw : Enc.rd m cw w) (vl : Value) (l : List Station) (hl : Sl m vl l) (vs : Value) (s : List Int) (hs : Sl m vs s)   : Exact Try.prog 32 #[.agg cw.toArray, vl, vs] m (.bool (decide (windyP w l s))) := by
  obtain rfl := hw
  have ll := hl.le
  have ls := hs.le
  refine Exact.start Try.func32 rfl Try.ntmps32 rfl fun wld => ?_
  refine WC.seq ?_
  refine WC.region ?_
  refine WL.tn (T.boxB rfl rfl) (by decide) fun b1 => ?_
  refine WL.x (X.assign rfl) (by decide) ?_
  refine WL.nil ?_
  refine WK.nThen ?_
  refine WC.seq ?_
  refine WC.seq ?_
  refine WC.region ?_
  refine WL.x (X.assign rfl) (by decide) ?_
  refine WL.nil ?_
  refine WK.nThen ?_
  refine WC.block ?_
  refine WC.loop (G := Nat) (fun k => s.length - k) (fun k => m) (fun k => [blk b1 23 [.int .i64 (w.Fixed), .int .i64 (w.Each)]]) (fun k => [(1, vl), (2, vs), (3, .pointer (some ⟨b1, 0, none⟩)), (7, .int .i64 (↑k))]) (fun k => k ≤ s.length ∧ (∀ j, j < k → -1000000 ≤ gt s j ∧ gt s j ≤ 1000000)) 0 rfl (.refl _) (.cons rfl (.cons rfl (.cons rfl (.cons rfl .nil)))) ?_ ?_
  · exact ⟨Nat.zero_le _, fun j hj => absurd hj (Nat.not_lt_zero _)⟩
  · rintro k hF2
    show WK _ _ m [blk b1 23 [.int .i64 (w.Fixed), .int .i64 (w.Each)]] [(1, vl), (2, vs), (3, .pointer (some ⟨b1, 0, none⟩)), (7, .int .i64 (↑k))] _
    replace hF2 : k ≤ s.length ∧ (∀ j, j < k → -1000000 ≤ gt s j ∧ gt s j ≤ 1000000) := hF2
    obtain ⟨hk, hall⟩ := hF2
    refine WC.seq ?_
    refine WC.seq ?_
    refine WC.region ?_
    refine WL.x (X.move rfl) (by decide) ?_
    refine WL.x (X.move rfl) (by decide) ?_
    refine WL.x (X.len Try.runUnderlying31 rfl hs) (by decide) ?_
    refine WL.cond (X.lss rfl rfl) (by decide) (fun h3 => ?_) (fun h3 => ?_)
    · refine WL.nil ?_
      refine WK.nThen ?_
      refine WC.condT rfl ?_
      refine WC.skip ?_
      refine WK.nThen ?_
      refine WC.seq ?_
      refine WC.block ?_
      refine WC.seq ?_
      refine WC.region ?_
      refine WL.x (X.move rfl) (by decide) ?_
      refine WL.x (X.move rfl) (by decide) ?_
      refine WL.xe (E.idxN k Try.runUnderlying31 Try.sizeOf3 rfl rfl hs (by omega)) (by decide) (fun p4 hp5 => ?_)
      refine WL.x (X.loadInt Try.isAgg3 rfl hp5) (by decide) ?_
      refine WL.cond (X.lss rfl rfl) (by decide) (fun h6 => ?_) (fun h6 => ?_)
      · refine WL.x (X.move rfl) (by decide) ?_
        refine WL.no rfl rfl rfl (by decide) ?_
        refine WL.no rfl rfl rfl (by decide) ?_
        refine WL.no rfl rfl rfl (by decide) ?_
        refine WL.no rfl rfl rfl (by decide) ?_
        refine WL.no rfl rfl rfl (by decide) ?_
        refine WL.x (X.pickT rfl rfl rfl) (by decide) ?_
        refine WL.nil ?_
        refine WK.nThen ?_
        refine WC.condT rfl ?_
        refine WC.seq ?_
        refine WC.region ?_
        refine WL.x (X.assign rfl) (by decide) ?_
        refine WL.nil ?_
        refine WK.nThen ?_
        refine WC.ret ?_
        refine WK.rBlock ?_
        refine WK.rThen ?_
        refine WK.rThen ?_
        refine WK.rBlock ?_
        refine WK.rThen ?_
        refine WK.ret1 rfl rfl (fun w' hw' => Ret.exact hw' ?_)
        exact bool_false (fun h => by have := h.1 k (by omega); omega)
      · refine WL.x (X.move rfl) (by decide) ?_
        refine WL.yes rfl rfl ?_
        refine WL.x (X.move rfl) (by decide) ?_
        refine WL.yes rfl rfl ?_
        refine WL.x (X.move rfl) (by decide) ?_
        refine WL.yes rfl rfl ?_
        refine WL.xe (E.idxN k Try.runUnderlying31 Try.sizeOf3 rfl rfl hs (by omega)) (by decide) (fun p7 hp8 => ?_)
        refine WL.yes rfl rfl ?_
        refine WL.x (X.loadInt Try.isAgg3 rfl hp8) (by decide) ?_
        refine WL.yes rfl rfl ?_
        refine WL.cond (X.gtr rfl rfl) (by decide) (fun h9 => ?_) (fun h9 => ?_)
        · refine WL.x (X.pickF rfl rfl rfl) (by decide) ?_
          refine WL.nil ?_
          refine WK.nThen ?_
          refine WC.condT rfl ?_
          refine WC.seq ?_
          refine WC.region ?_
          refine WL.x (X.assign rfl) (by decide) ?_
          refine WL.nil ?_
          refine WK.nThen ?_
          refine WC.ret ?_
          refine WK.rBlock ?_
          refine WK.rThen ?_
          refine WK.rThen ?_
          refine WK.rBlock ?_
          refine WK.rThen ?_
          refine WK.ret1 rfl rfl (fun w' hw' => Ret.exact hw' ?_)
          exact bool_false (fun h => by have := h.1 k (by omega); omega)
        · refine WL.x (X.pickF rfl rfl rfl) (by decide) ?_
          refine WL.nil ?_
          refine WK.nThen ?_
          refine WC.condF rfl ?_
          refine WC.skip ?_
          refine WK.nBlock ?_
          refine WK.nThen ?_
          refine WC.region ?_
          refine WL.x (X.move rfl) (by decide) ?_
          refine WL.x (X.add rfl rfl (by omega) (by omega)) (by decide) ?_
          refine WL.x (X.assign rfl) (by decide) ?_
          refine WL.nil ?_
          refine WK.nThen ?_
          refine WK.next (k + 1) rfl (.refl _) (.cons rfl (.cons rfl (.cons rfl (.cons rfl .nil)))) ?_ ?_
          · exact ⟨by omega, fun j hj => by rcases Nat.lt_succ_iff_lt_or_eq.1 hj with h | h; exact hall j h; subst h; omega⟩
          · omega
    · refine WL.nil ?_
      refine WK.nThen ?_
      refine WC.condF rfl ?_
      refine WC.exit ?_
      refine WK.eThen ?_
      refine WK.eThen ?_
      refine WK.eHit ?_
      refine WK.nThen ?_
      refine WC.seq ?_
      refine WC.seq ?_
      refine WC.region ?_
      refine WL.x (X.assign rfl) (by decide) ?_
      refine WL.nil ?_
      refine WK.nThen ?_
      refine WC.block ?_
      refine WC.loop (G := Nat) (fun i => l.length - i) (fun i => m) (fun i => [blk b1 23 [.int .i64 (w.Fixed), .int .i64 (w.Each)]]) (fun i => [(1, vl), (2, vs), (3, .pointer (some ⟨b1, 0, none⟩)), (8, .int .i64 (↑i))]) (fun i => smallL s ∧ (∀ x, x < i → ∀ k, k < l.length → windyAt w l s x k) ∧ i ≤ l.length) 0 rfl (.refl _) (.cons rfl (.cons rfl (.cons rfl (.cons rfl .nil)))) ?_ ?_
      · exact ⟨fun j hj => hall j (by omega), fun x hx => absurd hx (Nat.not_lt_zero _), Nat.zero_le _⟩
      · rintro i hF10
        show WK _ _ m [blk b1 23 [.int .i64 (w.Fixed), .int .i64 (w.Each)]] [(1, vl), (2, vs), (3, .pointer (some ⟨b1, 0, none⟩)), (8, .int .i64 (↑i))] _
        replace hF10 : smallL s ∧ (∀ x, x < i → ∀ k, k < l.length → windyAt w l s x k) ∧ i ≤ l.length := hF10
        obtain ⟨hsm, hwi, hi⟩ := hF10
        refine WC.seq ?_
        refine WC.seq ?_
        refine WC.region ?_
        refine WL.x (X.move rfl) (by decide) ?_
        refine WL.x (X.move rfl) (by decide) ?_
        refine WL.x (X.len Try.runUnderlying24 rfl hl) (by decide) ?_
        refine WL.cond (X.lss rfl rfl) (by decide) (fun h11 => ?_) (fun h11 => ?_)
        · refine WL.nil ?_
          refine WK.nThen ?_
          refine WC.condT rfl ?_
          refine WC.skip ?_
          refine WK.nThen ?_
          refine WC.seq ?_
          refine WC.block ?_
          refine WC.seq ?_
          refine WC.region ?_
          refine WL.x (X.assign rfl) (by decide) ?_
          refine WL.nil ?_
          refine WK.nThen ?_
          refine WC.block ?_
          refine WC.loop (G := Nat) (fun k => l.length - k) (fun k => m) (fun k => [blk b1 23 [.int .i64 (w.Fixed), .int .i64 (w.Each)]]) (fun k => [(1, vl), (2, vs), (3, .pointer (some ⟨b1, 0, none⟩)), (8, .int .i64 (↑i)), (9, .int .i64 (↑k))]) (fun k => (∀ y, y < k → windyAt w l s i y) ∧ k ≤ l.length) 0 rfl (.refl _) (.cons rfl (.cons rfl (.cons rfl (.cons rfl (.cons rfl .nil))))) ?_ ?_
          · exact ⟨fun x hx => absurd hx (Nat.not_lt_zero _), Nat.zero_le _⟩
          · rintro k hF12
            show WK _ _ m [blk b1 23 [.int .i64 (w.Fixed), .int .i64 (w.Each)]] [(1, vl), (2, vs), (3, .pointer (some ⟨b1, 0, none⟩)), (8, .int .i64 (↑i)), (9, .int .i64 (↑k))] _
            replace hF12 : (∀ y, y < k → windyAt w l s i y) ∧ k ≤ l.length := hF12
            obtain ⟨hwk, hk⟩ := hF12
            refine WC.seq ?_
            refine WC.seq ?_
            refine WC.region ?_
            refine WL.x (X.move rfl) (by decide) ?_
            refine WL.x (X.move rfl) (by decide) ?_
            refine WL.x (X.len Try.runUnderlying24 rfl hl) (by decide) ?_
            refine WL.cond (X.lss rfl rfl) (by decide) (fun h13 => ?_) (fun h13 => ?_)
            · refine WL.nil ?_
              refine WK.nThen ?_
              refine WC.condT rfl ?_
              refine WC.skip ?_
              refine WK.nThen ?_
              refine WC.seq ?_
              refine WC.block ?_
              refine WC.seq ?_
              refine WC.draw (π := (.cons 0 (.cons 1 (.cons 2 (.cons 3 (.cons 4 (.cons 5 (.cons 6 (.cons 7 (.cons 8 (.cons 9 (.cons 10 (.cons 11 (.cons 12 (.cons 13 (.cons 14 .done)))))))))))))))) [] [] rfl (by kernel_rfl) ?_
              refine DW.x rfl rfl (X.loadBA (k := 0) Try.isAgg23 Try.sizeOf23 rfl rfl rfl) (by decide) ?_
              refine DW.x rfl rfl (X.move rfl) (by decide) ?_
              refine DW.x rfl rfl (X.move rfl) (by decide) ?_
              refine DW.xe rfl rfl (E.idxN i Try.runUnderlying24 Try.sizeOf58 rfl rfl hl (by omega)) (by decide) (fun p14 hp15 => ?_)
              refine DW.xe rfl rfl (E.loadAgg Try.isAgg58 Try.sizeOf58 rfl hp15) (by decide) (fun c16 hc17 => ?_)
              obtain ⟨v18, rfl, hs19⟩ := hc17
              have hl20 := hs19.le
              refine DW.x rfl rfl (X.move rfl) (by decide) ?_
              refine DW.x rfl rfl (X.move rfl) (by decide) ?_
              refine DW.xe rfl rfl (E.idxN k Try.runUnderlying24 Try.sizeOf58 rfl rfl hl (by omega)) (by decide) (fun p21 hp22 => ?_)
              refine DW.xe rfl rfl (E.loadAgg Try.isAgg58 Try.sizeOf58 rfl hp22) (by decide) (fun c23 hc24 => ?_)
              obtain ⟨v25, rfl, hs26⟩ := hc24
              have hl27 := hs26.le
              refine DW.x rfl rfl (X.call Try.call43 rfl (within43 _ _ w rfl _ (gt l i) ⟨_, rfl, hs19⟩ _ (gt l k) ⟨_, rfl, hs26⟩ )) (by decide) ?_
              refine DW.x rfl rfl (X.move rfl) (by decide) ?_
              refine DW.x rfl rfl (X.extract rfl rfl) (by decide) ?_
              refine DW.x rfl rfl (X.extract rfl rfl) (by decide) ?_
              refine DW.x rfl rfl (X.assign rfl) (by decide) ?_
              refine DW.x rfl rfl (X.assign rfl) (by decide) ?_
              refine DW.nil ?_
              refine WK.nThen ?_
              refine WC.seq ?_
              have hwb := withinR_bd w (gt l i) (gt l k)
              have hsi : i < s.length → _ := fun h => hsm i h
              have hsk : k < s.length → _ := fun h => hsm k h
              refine WC.draw (π := (.cons 0 (.cons 1 (.cons 2 (.cons 3 (.cons 4 (.cons 5 (.cons 6 (.cons 7 (.cons 8 (.cons 9 (.cons 10 (.cons 11 (.cons 12 (.cons 13 (.cons 14 (.cons 15 (.cons 16 (.cons 17 (.cons 18 (.cons 19 (.cons 20 (.cons 21 (.cons 22 (.cons 23 (.cons 24 (.cons 25 (.cons 26 .done)))))))))))))))))))))))))))) [] [] rfl (by kernel_rfl) ?_
              refine DW.x rfl rfl (X.move rfl) (by decide) ?_
              refine DW.condn rfl rfl (X.neq rfl rfl) (by decide) (fun h28 => ?_) (fun h28 => ?_)
              · refine DW.x rfl rfl (X.move rfl) (by decide) ?_
                refine DW.no rfl rfl (by decide) ?_
                refine DW.no rfl rfl (by decide) ?_
                refine DW.no rfl rfl (by decide) ?_
                refine DW.no rfl rfl (by decide) ?_
                refine DW.x rfl rfl (X.pickT rfl rfl rfl) (by decide) ?_
                refine DW.x rfl rfl (X.move rfl) (by decide) ?_
                refine DW.no rfl rfl (by decide) ?_
                refine DW.no rfl rfl (by decide) ?_
                refine DW.no rfl rfl (by decide) ?_
                refine DW.no rfl rfl (by decide) ?_
                refine DW.x rfl rfl (X.pickT rfl rfl rfl) (by decide) ?_
                refine DW.x rfl rfl (X.move rfl) (by decide) ?_
                refine DW.no rfl rfl (by decide) ?_
                refine DW.no rfl rfl (by decide) ?_
                refine DW.no rfl rfl (by decide) ?_
                refine DW.no rfl rfl (by decide) ?_
                refine DW.no rfl rfl (by decide) ?_
                refine DW.no rfl rfl (by decide) ?_
                refine DW.no rfl rfl (by decide) ?_
                refine DW.no rfl rfl (by decide) ?_
                refine DW.no rfl rfl (by decide) ?_
                refine DW.no rfl rfl (by decide) ?_
                refine DW.no rfl rfl (by decide) ?_
                refine DW.x rfl rfl (X.pickT rfl rfl rfl) (by decide) ?_
                refine DW.nil ?_
                refine WK.nThen ?_
                refine WC.condT rfl ?_
                refine WC.seq ?_
                refine WC.region ?_
                refine WL.x (X.assign rfl) (by decide) ?_
                refine WL.nil ?_
                refine WK.nThen ?_
                refine WC.ret ?_
                refine WK.rBlock ?_
                refine WK.rThen ?_
                refine WK.rThen ?_
                refine WK.rBlock ?_
                refine WK.rBlock ?_
                refine WK.rThen ?_
                refine WK.rThen ?_
                refine WK.rBlock ?_
                refine WK.rThen ?_
                refine WK.ret1 rfl rfl (fun w' hw' => Ret.exact hw' ?_)
                first | exact bool_false (fun h => by have := h.2.1 i (by omega) k (by omega); unfold windyAt at this; omega) | exact dec_eq ⟨fun h => ⟨hsm, fun x hx => hwi x (by omega), by omega⟩, fun h => by have := h.2.2; omega⟩
              · refine DW.x rfl rfl (X.move rfl) (by decide) ?_
                refine DW.x rfl rfl (X.move rfl) (by decide) ?_
                refine DW.x rfl rfl (X.move rfl) (by decide) ?_
                refine DW.x rfl rfl (X.len Try.runUnderlying31 rfl hs) (by decide) ?_
                refine DW.cond rfl rfl (X.geq rfl rfl) (by decide) (fun h29 => ?_) (fun h29 => ?_)
                · refine DW.x rfl rfl (X.pickF rfl rfl rfl) (by decide) ?_
                  refine DW.x rfl rfl (X.move rfl) (by decide) ?_
                  refine DW.no rfl rfl (by decide) ?_
                  refine DW.no rfl rfl (by decide) ?_
                  refine DW.no rfl rfl (by decide) ?_
                  refine DW.no rfl rfl (by decide) ?_
                  refine DW.x rfl rfl (X.pickT rfl rfl rfl) (by decide) ?_
                  refine DW.x rfl rfl (X.move rfl) (by decide) ?_
                  refine DW.no rfl rfl (by decide) ?_
                  refine DW.no rfl rfl (by decide) ?_
                  refine DW.no rfl rfl (by decide) ?_
                  refine DW.no rfl rfl (by decide) ?_
                  refine DW.no rfl rfl (by decide) ?_
                  refine DW.no rfl rfl (by decide) ?_
                  refine DW.no rfl rfl (by decide) ?_
                  refine DW.no rfl rfl (by decide) ?_
                  refine DW.no rfl rfl (by decide) ?_
                  refine DW.no rfl rfl (by decide) ?_
                  refine DW.no rfl rfl (by decide) ?_
                  refine DW.x rfl rfl (X.pickT rfl rfl rfl) (by decide) ?_
                  refine DW.nil ?_
                  refine WK.nThen ?_
                  refine WC.condT rfl ?_
                  refine WC.seq ?_
                  refine WC.region ?_
                  refine WL.x (X.assign rfl) (by decide) ?_
                  refine WL.nil ?_
                  refine WK.nThen ?_
                  refine WC.ret ?_
                  refine WK.rBlock ?_
                  refine WK.rThen ?_
                  refine WK.rThen ?_
                  refine WK.rBlock ?_
                  refine WK.rBlock ?_
                  refine WK.rThen ?_
                  refine WK.rThen ?_
                  refine WK.rBlock ?_
                  refine WK.rThen ?_
                  refine WK.ret1 rfl rfl (fun w' hw' => Ret.exact hw' ?_)
                  first | exact bool_false (fun h => by have := h.2.1 i (by omega) k (by omega); unfold windyAt at this; omega) | exact dec_eq ⟨fun h => ⟨hsm, fun x hx => hwi x (by omega), by omega⟩, fun h => by have := h.2.2; omega⟩
                · refine DW.x rfl rfl (X.pickF rfl rfl rfl) (by decide) ?_
                  refine DW.x rfl rfl (X.move rfl) (by decide) ?_
                  refine DW.x rfl rfl (X.move rfl) (by decide) ?_
                  refine DW.x rfl rfl (X.move rfl) (by decide) ?_
                  refine DW.x rfl rfl (X.len Try.runUnderlying31 rfl hs) (by decide) ?_
                  refine DW.cond rfl rfl (X.geq rfl rfl) (by decide) (fun h30 => ?_) (fun h30 => ?_)
                  · refine DW.x rfl rfl (X.pickF rfl rfl rfl) (by decide) ?_
                    refine DW.x rfl rfl (X.move rfl) (by decide) ?_
                    refine DW.no rfl rfl (by decide) ?_
                    refine DW.no rfl rfl (by decide) ?_
                    refine DW.no rfl rfl (by decide) ?_
                    refine DW.no rfl rfl (by decide) ?_
                    refine DW.no rfl rfl (by decide) ?_
                    refine DW.no rfl rfl (by decide) ?_
                    refine DW.no rfl rfl (by decide) ?_
                    refine DW.no rfl rfl (by decide) ?_
                    refine DW.no rfl rfl (by decide) ?_
                    refine DW.no rfl rfl (by decide) ?_
                    refine DW.no rfl rfl (by decide) ?_
                    refine DW.x rfl rfl (X.pickT rfl rfl rfl) (by decide) ?_
                    refine DW.nil ?_
                    refine WK.nThen ?_
                    refine WC.condT rfl ?_
                    refine WC.seq ?_
                    refine WC.region ?_
                    refine WL.x (X.assign rfl) (by decide) ?_
                    refine WL.nil ?_
                    refine WK.nThen ?_
                    refine WC.ret ?_
                    refine WK.rBlock ?_
                    refine WK.rThen ?_
                    refine WK.rThen ?_
                    refine WK.rBlock ?_
                    refine WK.rBlock ?_
                    refine WK.rThen ?_
                    refine WK.rThen ?_
                    refine WK.rBlock ?_
                    refine WK.rThen ?_
                    refine WK.ret1 rfl rfl (fun w' hw' => Ret.exact hw' ?_)
                    first | exact bool_false (fun h => by have := h.2.1 i (by omega) k (by omega); unfold windyAt at this; omega) | exact dec_eq ⟨fun h => ⟨hsm, fun x hx => hwi x (by omega), by omega⟩, fun h => by have := h.2.2; omega⟩
                  · refine DW.x rfl rfl (X.pickF rfl rfl rfl) (by decide) ?_
                    refine DW.x rfl rfl (X.move rfl) (by decide) ?_
                    refine DW.x rfl rfl (X.move rfl) (by decide) ?_
                    refine DW.x rfl rfl (X.move rfl) (by decide) ?_
                    refine DW.xe rfl rfl (E.idxN i Try.runUnderlying31 Try.sizeOf3 rfl rfl hs (by omega)) (by decide) (fun p31 hp32 => ?_)
                    refine DW.x rfl rfl (X.loadInt Try.isAgg3 rfl hp32) (by decide) ?_
                    refine DW.x rfl rfl (X.move rfl) (by decide) ?_
                    refine DW.x rfl rfl (X.move rfl) (by decide) ?_
                    refine DW.xe rfl rfl (E.idxN k Try.runUnderlying31 Try.sizeOf3 rfl rfl hs (by omega)) (by decide) (fun p33 hp34 => ?_)
                    refine DW.x rfl rfl (X.loadInt Try.isAgg3 rfl hp34) (by decide) ?_
                    refine DW.x rfl rfl (X.sub rfl rfl (by omega) (by omega)) (by decide) ?_
                    refine DW.x rfl rfl (X.move rfl) (by decide) ?_
                    refine DW.cond rfl rfl (X.gtr rfl rfl) (by decide) (fun h35 => ?_) (fun h35 => ?_)
                    · refine DW.x rfl rfl (X.pickF rfl rfl rfl) (by decide) ?_
                      refine DW.nil ?_
                      refine WK.nThen ?_
                      refine WC.condT rfl ?_
                      refine WC.seq ?_
                      refine WC.region ?_
                      refine WL.x (X.assign rfl) (by decide) ?_
                      refine WL.nil ?_
                      refine WK.nThen ?_
                      refine WC.ret ?_
                      refine WK.rBlock ?_
                      refine WK.rThen ?_
                      refine WK.rThen ?_
                      refine WK.rBlock ?_
                      refine WK.rBlock ?_
                      refine WK.rThen ?_
                      refine WK.rThen ?_
                      refine WK.rBlock ?_
                      refine WK.rThen ?_
                      refine WK.ret1 rfl rfl (fun w' hw' => Ret.exact hw' ?_)
                      first | exact bool_false (fun h => by have := h.2.1 i (by omega) k (by omega); unfold windyAt at this; omega) | exact dec_eq ⟨fun h => ⟨hsm, fun x hx => hwi x (by omega), by omega⟩, fun h => by have := h.2.2; omega⟩
                    · refine DW.x rfl rfl (X.pickF rfl rfl rfl) (by decide) ?_
                      refine DW.nil ?_
                      refine WK.nThen ?_
                      refine WC.condF rfl ?_
                      refine WC.skip ?_
                      refine WK.nBlock ?_
                      refine WK.nThen ?_
                      refine WC.region ?_
                      refine WL.x (X.move rfl) (by decide) ?_
                      refine WL.x (X.add rfl rfl (by omega) (by omega)) (by decide) ?_
                      refine WL.x (X.assign rfl) (by decide) ?_
                      refine WL.nil ?_
                      refine WK.nThen ?_
                      refine WK.next (k + 1) rfl (.refl _) (.cons rfl (.cons rfl (.cons rfl (.cons rfl (.cons rfl .nil))))) ?_ ?_
                      · exact ⟨fun y hy => by rcases Nat.lt_succ_iff_lt_or_eq.1 hy with h | h; exact hwk y h; subst h; unfold windyAt; omega, by omega⟩
                      · omega
            · refine WL.nil ?_
              refine WK.nThen ?_
              refine WC.condF rfl ?_
              refine WC.exit ?_
              refine WK.eThen ?_
              refine WK.eThen ?_
              refine WK.eHit ?_
              refine WK.nBlock ?_
              refine WK.nThen ?_
              refine WC.region ?_
              refine WL.x (X.move rfl) (by decide) ?_
              refine WL.x (X.add rfl rfl (by omega) (by omega)) (by decide) ?_
              refine WL.x (X.assign rfl) (by decide) ?_
              refine WL.nil ?_
              refine WK.nThen ?_
              refine WK.next (i + 1) rfl (.refl _) (.cons rfl (.cons rfl (.cons rfl (.cons rfl .nil)))) ?_ ?_
              · exact ⟨hsm, fun x hx y hy => by rcases Nat.lt_succ_iff_lt_or_eq.1 hx with h | h; exact hwi x h y hy; subst h; exact hwk y (by omega), by omega⟩
              · omega
        · refine WL.nil ?_
          refine WK.nThen ?_
          refine WC.condF rfl ?_
          refine WC.exit ?_
          refine WK.eThen ?_
          refine WK.eThen ?_
          refine WK.eHit ?_
          refine WK.nThen ?_
          refine WC.seq ?_
          refine WC.region ?_
          refine WL.x (X.move rfl) (by decide) ?_
          refine WL.x (X.len Try.runUnderlying31 rfl hs) (by decide) ?_
          refine WL.x (X.move rfl) (by decide) ?_
          refine WL.x (X.len Try.runUnderlying24 rfl hl) (by decide) ?_
          refine WL.x (X.eql rfl rfl) (by decide) ?_
          refine WL.x (X.assign rfl) (by decide) ?_
          refine WL.nil ?_
          refine WK.nThen ?_
          refine WC.ret ?_
          refine WK.ret1 rfl rfl (fun w' hw' => Ret.exact hw' ?_)
          first | exact bool_false (fun h => by have := h.2.1 i (by omega) k (by omega); unfold windyAt at this; omega) | exact dec_eq ⟨fun h => ⟨hsm, fun x hx => hwi x (by omega), by omega⟩, fun h => by have := h.2.2; omega⟩

theorem isSea50 (m : Mem) (cw : List Value) (w : Wind) (hw : Enc.rd m cw w) (vl : Value) (l : List Station) (hl : Sl m vl l) (week : Int) (vlevels : Value) (levels : List Int) (hlevels : Sl m vlevels levels) (vs : Value) (s : List Int) (hs : Sl m vs s)   : Exact Try.prog 50 #[.agg cw.toArray, vl, .int .i64 (week), vlevels, vs] m (.bool (decide (isSeaP w l week levels s))) := by
  obtain rfl := hw
  have ll := hl.le
  have llevels := hlevels.le
  have ls := hs.le
  refine Exact.start Try.func50 rfl Try.ntmps50 rfl fun wld => ?_
  refine WC.seq ?_
  refine WC.region ?_
  refine WL.tn (T.boxB rfl rfl) (by decide) fun b1 => ?_
  refine WL.x (X.assign rfl) (by decide) ?_
  refine WL.nil ?_
  refine WK.nThen ?_
  refine WC.seq ?_
  refine WC.seq ?_
  refine WC.region ?_
  refine WL.x (X.move rfl) (by decide) ?_
  refine WL.x (X.len Try.runUnderlying31 rfl hs) (by decide) ?_
  refine WL.x (X.move rfl) (by decide) ?_
  refine WL.x (X.len Try.runUnderlying24 rfl hl) (by decide) ?_
  refine WL.condn (X.neq rfl rfl) (by decide) (fun h2 => ?_) (fun h2 => ?_)
  · refine WL.x (X.move rfl) (by decide) ?_
    refine WL.no rfl rfl rfl (by decide) ?_
    refine WL.no rfl rfl rfl (by decide) ?_
    refine WL.no rfl rfl rfl (by decide) ?_
    refine WL.no rfl rfl rfl (by decide) ?_
    refine WL.no rfl rfl rfl (by decide) ?_
    refine WL.x (X.pickT rfl rfl rfl) (by decide) ?_
    refine WL.x (X.move rfl) (by decide) ?_
    refine WL.no rfl rfl rfl (by decide) ?_
    refine WL.no rfl rfl rfl (by decide) ?_
    refine WL.no rfl rfl rfl (by decide) ?_
    refine WL.no rfl rfl rfl (by decide) ?_
    refine WL.no rfl rfl rfl (by decide) ?_
    refine WL.x (X.pickT rfl rfl rfl) (by decide) ?_
    refine WL.nil ?_
    refine WK.nThen ?_
    refine WC.condT rfl ?_
    refine WC.seq ?_
    refine WC.region ?_
    refine WL.x (X.assign rfl) (by decide) ?_
    refine WL.nil ?_
    refine WK.nThen ?_
    refine WC.ret ?_
    refine WK.rThen ?_
    refine WK.ret1 rfl rfl (fun w' hw' => Ret.exact hw' ?_)
    first | exact bool_false (fun h => by have := h.1; omega) | exact bool_false (fun h => absurd h.2.1 (by assumption)) | exact bool_false (fun h => by have := h.2.2 k (by omega); unfold seaIn at this; omega) | exact bool_true ⟨by omega, by assumption, fun j hj => hall j (by omega)⟩
  · refine WL.x (X.move rfl) (by decide) ?_
    refine WL.yes rfl rfl ?_
    refine WL.x (X.move rfl) (by decide) ?_
    refine WL.yes rfl rfl ?_
    refine WL.x (X.len Try.runUnderlying31 rfl hlevels) (by decide) ?_
    refine WL.yes rfl rfl ?_
    refine WL.x (X.move rfl) (by decide) ?_
    refine WL.yes rfl rfl ?_
    refine WL.x (X.len Try.runUnderlying24 rfl hl) (by decide) ?_
    refine WL.yes rfl rfl ?_
    refine WL.condn (X.neq rfl rfl) (by decide) (fun h3 => ?_) (fun h3 => ?_)
    · refine WL.x (X.pickF rfl rfl rfl) (by decide) ?_
      refine WL.x (X.move rfl) (by decide) ?_
      refine WL.no rfl rfl rfl (by decide) ?_
      refine WL.no rfl rfl rfl (by decide) ?_
      refine WL.no rfl rfl rfl (by decide) ?_
      refine WL.no rfl rfl rfl (by decide) ?_
      refine WL.no rfl rfl rfl (by decide) ?_
      refine WL.x (X.pickT rfl rfl rfl) (by decide) ?_
      refine WL.nil ?_
      refine WK.nThen ?_
      refine WC.condT rfl ?_
      refine WC.seq ?_
      refine WC.region ?_
      refine WL.x (X.assign rfl) (by decide) ?_
      refine WL.nil ?_
      refine WK.nThen ?_
      refine WC.ret ?_
      refine WK.rThen ?_
      refine WK.ret1 rfl rfl (fun w' hw' => Ret.exact hw' ?_)
      first | exact bool_false (fun h => by have := h.1; omega) | exact bool_false (fun h => absurd h.2.1 (by assumption)) | exact bool_false (fun h => by have := h.2.2 k (by omega); unfold seaIn at this; omega) | exact bool_true ⟨by omega, by assumption, fun j hj => hall j (by omega)⟩
    · refine WL.x (X.pickF rfl rfl rfl) (by decide) ?_
      refine WL.x (X.move rfl) (by decide) ?_
      refine WL.yes rfl rfl ?_
      refine WL.x (X.loadBA (k := 0) Try.isAgg23 Try.sizeOf23 rfl rfl rfl) (by decide) ?_
      refine WL.yes rfl rfl ?_
      refine WL.x (X.move rfl) (by decide) ?_
      refine WL.yes rfl rfl ?_
      refine WL.x (X.move rfl) (by decide) ?_
      refine WL.yes rfl rfl ?_
      refine WL.cond (X.call Try.call32 rfl (windy32 _ _ w rfl _ _ hl _ _ hs )) (by decide) (fun h4 => ?_) (fun h4 => ?_)
      · refine WL.yes rfl rfl ?_
        refine WL.x (X.not rfl) (by decide) ?_
        refine WL.x (X.pickF rfl rfl rfl) (by decide) ?_
        refine WL.nil ?_
        refine WK.nThen ?_
        refine WC.condF rfl ?_
        refine WC.skip ?_
        refine WK.nThen ?_
        refine WC.seq ?_
        refine WC.seq ?_
        refine WC.region ?_
        refine WL.x (X.assign rfl) (by decide) ?_
        refine WL.nil ?_
        refine WK.nThen ?_
        refine WC.block ?_
        refine WC.loop (G := Nat) (fun k => l.length - k) (fun k => m) (fun k => [blk b1 23 [.int .i64 (w.Fixed), .int .i64 (w.Each)]]) (fun k => [(1, vl), (2, .int .i64 (week)), (3, vlevels), (4, vs), (11, .int .i64 (↑k))]) (fun k => k ≤ l.length ∧ (∀ j, j < k → seaIn l week levels s j)) 0 rfl (.refl _) (.cons rfl (.cons rfl (.cons rfl (.cons rfl (.cons rfl .nil))))) ?_ ?_
        · exact ⟨Nat.zero_le _, fun j hj => absurd hj (Nat.not_lt_zero _)⟩
        · rintro k hF5
          show WK _ _ m [blk b1 23 [.int .i64 (w.Fixed), .int .i64 (w.Each)]] [(1, vl), (2, .int .i64 (week)), (3, vlevels), (4, vs), (11, .int .i64 (↑k))] _
          replace hF5 : k ≤ l.length ∧ (∀ j, j < k → seaIn l week levels s j) := hF5
          obtain ⟨hk, hall⟩ := hF5
          refine WC.seq ?_
          refine WC.seq ?_
          refine WC.region ?_
          refine WL.x (X.move rfl) (by decide) ?_
          refine WL.x (X.move rfl) (by decide) ?_
          refine WL.x (X.len Try.runUnderlying24 rfl hl) (by decide) ?_
          refine WL.cond (X.lss rfl rfl) (by decide) (fun h6 => ?_) (fun h6 => ?_)
          · refine WL.nil ?_
            refine WK.nThen ?_
            refine WC.condT rfl ?_
            refine WC.skip ?_
            refine WK.nThen ?_
            refine WC.seq ?_
            refine WC.block ?_
            refine WC.seq ?_
            refine WC.region ?_
            refine WL.x (X.move rfl) (by decide) ?_
            refine WL.x (X.move rfl) (by decide) ?_
            refine WL.xe (E.idxN k Try.runUnderlying24 Try.sizeOf58 rfl rfl hl (by omega)) (by decide) (fun p7 hp8 => ?_)
            refine WL.xe (E.loadAgg Try.isAgg58 Try.sizeOf58 rfl hp8) (by decide) (fun c9 hc10 => ?_)
            obtain ⟨v11, rfl, hs12⟩ := hc10
            have hl13 := hs12.le
            refine WL.x (X.move rfl) (by decide) ?_
            refine WL.x (X.call Try.call49 rfl (height49 _ _ (gt l k) ⟨_, rfl, hs12⟩ _ )) (by decide) ?_
            refine WL.x (X.move rfl) (by decide) ?_
            refine WL.x (X.extract rfl rfl) (by decide) ?_
            refine WL.x (X.extract rfl rfl) (by decide) ?_
            refine WL.tn (T.alloc Try.zeroValue49 rfl) (by decide) fun b14 => ?_
            refine WL.ts (T.storeBA (k := 0) Try.sizeOf49 rfl rfl rfl (one_cons rfl (one_cons rfl one_nil)) rfl rfl) ?_
            refine WL.x (X.assign rfl) (by decide) ?_
            refine WL.nil ?_
            refine WK.nThen ?_
            refine WC.seq ?_
            refine WC.draw (π := (.cons 0 (.cons 1 (.cons 2 (.cons 3 (.cons 4 (.cons 5 (.cons 6 (.cons 7 (.cons 8 (.cons 9 (.cons 10 (.cons 11 .done))))))))))))) [9, 10] [10] rfl (by kernel_rfl) ?_
            refine DW.x rfl rfl (X.move rfl) (by decide) ?_
            refine DW.x rfl rfl (X.move rfl) (by decide) ?_
            refine DW.xe rfl rfl (E.idxN k Try.runUnderlying31 Try.sizeOf3 rfl rfl hlevels (by omega)) (by decide) (fun p15 hp16 => ?_)
            refine DW.x rfl rfl (X.loadInt Try.isAgg3 rfl hp16) (by decide) ?_
            refine DW.x rfl rfl (X.loadBA (k := 0) Try.isAgg49 Try.sizeOf49 rfl rfl rfl) (by decide) ?_
            refine DW.x rfl rfl (X.call Try.call36 rfl (seas36 _ _ _ ((heightR (gt l k) week).1) rfl )) (by decide) ?_
            refine DW.x rfl rfl (X.move rfl) (by decide) ?_
            refine DW.x rfl rfl (X.extract rfl rfl) (by decide) ?_
            refine DW.x rfl rfl (X.extract rfl rfl) (by decide) ?_
            refine DW.tn rfl rfl rfl (T.alloc Try.zeroValue49 rfl) (by decide) fun b17 => ?_
            refine DW.ts rfl rfl rfl rfl (T.storeBA (k := 0) Try.sizeOf49 rfl rfl rfl (one_cons rfl (one_cons rfl one_nil)) rfl rfl) ?_
            refine DW.x rfl rfl (X.assign rfl) (by decide) ?_
            refine DW.nil ?_
            refine WK.nThen ?_
            refine WC.seq ?_
            refine WC.draw (π := (.cons 0 (.cons 1 (.cons 2 (.cons 3 (.cons 4 (.cons 5 (.cons 6 (.cons 7 (.cons 8 (.cons 9 (.cons 10 (.cons 11 (.cons 12 (.cons 13 (.cons 14 (.cons 15 (.cons 16 (.cons 17 (.cons 18 (.cons 19 (.cons 20 (.cons 21 (.cons 22 (.cons 23 .done))))))))))))))))))))))))) [] [] rfl (by kernel_rfl) ?_
            refine DW.x rfl rfl (X.move rfl) (by decide) ?_
            refine DW.condn rfl rfl (X.neq rfl rfl) (by decide) (fun h18 => ?_) (fun h18 => ?_)
            · refine DW.x rfl rfl (X.move rfl) (by decide) ?_
              refine DW.no rfl rfl (by decide) ?_
              refine DW.no rfl rfl (by decide) ?_
              refine DW.x rfl rfl (X.pickT rfl rfl rfl) (by decide) ?_
              refine DW.x rfl rfl (X.move rfl) (by decide) ?_
              refine DW.no rfl rfl (by decide) ?_
              refine DW.no rfl rfl (by decide) ?_
              refine DW.no rfl rfl (by decide) ?_
              refine DW.no rfl rfl (by decide) ?_
              refine DW.no rfl rfl (by decide) ?_
              refine DW.no rfl rfl (by decide) ?_
              refine DW.no rfl rfl (by decide) ?_
              refine DW.x rfl rfl (X.pickT rfl rfl rfl) (by decide) ?_
              refine DW.x rfl rfl (X.move rfl) (by decide) ?_
              refine DW.no rfl rfl (by decide) ?_
              refine DW.no rfl rfl (by decide) ?_
              refine DW.no rfl rfl (by decide) ?_
              refine DW.no rfl rfl (by decide) ?_
              refine DW.no rfl rfl (by decide) ?_
              refine DW.no rfl rfl (by decide) ?_
              refine DW.no rfl rfl (by decide) ?_
              refine DW.x rfl rfl (X.pickT rfl rfl rfl) (by decide) ?_
              refine DW.nil ?_
              refine WK.nThen ?_
              refine WC.condT rfl ?_
              refine WC.seq ?_
              refine WC.region ?_
              refine WL.x (X.assign rfl) (by decide) ?_
              refine WL.nil ?_
              refine WK.nThen ?_
              refine WC.ret ?_
              refine WK.rBlock ?_
              refine WK.rThen ?_
              refine WK.rThen ?_
              refine WK.rBlock ?_
              refine WK.rThen ?_
              refine WK.ret1 rfl rfl (fun w' hw' => Ret.exact hw' ?_)
              first | exact bool_false (fun h => by have := h.1; omega) | exact bool_false (fun h => absurd h.2.1 (by assumption)) | exact bool_false (fun h => by have := h.2.2 k (by omega); unfold seaIn at this; omega) | exact bool_true ⟨by omega, by assumption, fun j hj => hall j (by omega)⟩
            · refine DW.x rfl rfl (X.move rfl) (by decide) ?_
              refine DW.x rfl rfl (X.move rfl) (by decide) ?_
              refine DW.condn rfl rfl (X.neq rfl rfl) (by decide) (fun h19 => ?_) (fun h19 => ?_)
              · refine DW.x rfl rfl (X.pickF rfl rfl rfl) (by decide) ?_
                refine DW.x rfl rfl (X.move rfl) (by decide) ?_
                refine DW.no rfl rfl (by decide) ?_
                refine DW.no rfl rfl (by decide) ?_
                refine DW.no rfl rfl (by decide) ?_
                refine DW.no rfl rfl (by decide) ?_
                refine DW.no rfl rfl (by decide) ?_
                refine DW.no rfl rfl (by decide) ?_
                refine DW.no rfl rfl (by decide) ?_
                refine DW.x rfl rfl (X.pickT rfl rfl rfl) (by decide) ?_
                refine DW.x rfl rfl (X.move rfl) (by decide) ?_
                refine DW.no rfl rfl (by decide) ?_
                refine DW.no rfl rfl (by decide) ?_
                refine DW.no rfl rfl (by decide) ?_
                refine DW.no rfl rfl (by decide) ?_
                refine DW.no rfl rfl (by decide) ?_
                refine DW.no rfl rfl (by decide) ?_
                refine DW.no rfl rfl (by decide) ?_
                refine DW.x rfl rfl (X.pickT rfl rfl rfl) (by decide) ?_
                refine DW.nil ?_
                refine WK.nThen ?_
                refine WC.condT rfl ?_
                refine WC.seq ?_
                refine WC.region ?_
                refine WL.x (X.assign rfl) (by decide) ?_
                refine WL.nil ?_
                refine WK.nThen ?_
                refine WC.ret ?_
                refine WK.rBlock ?_
                refine WK.rThen ?_
                refine WK.rThen ?_
                refine WK.rBlock ?_
                refine WK.rThen ?_
                refine WK.ret1 rfl rfl (fun w' hw' => Ret.exact hw' ?_)
                first | exact bool_false (fun h => by have := h.1; omega) | exact bool_false (fun h => absurd h.2.1 (by assumption)) | exact bool_false (fun h => by have := h.2.2 k (by omega); unfold seaIn at this; omega) | exact bool_true ⟨by omega, by assumption, fun j hj => hall j (by omega)⟩
              · refine DW.x rfl rfl (X.pickF rfl rfl rfl) (by decide) ?_
                refine DW.x rfl rfl (X.move rfl) (by decide) ?_
                refine DW.x rfl rfl (X.move rfl) (by decide) ?_
                refine DW.x rfl rfl (X.move rfl) (by decide) ?_
                refine DW.xe rfl rfl (E.idxN k Try.runUnderlying31 Try.sizeOf3 rfl rfl hs (by omega)) (by decide) (fun p20 hp21 => ?_)
                refine DW.x rfl rfl (X.loadInt Try.isAgg3 rfl hp21) (by decide) ?_
                refine DW.x rfl rfl (X.field Try.runUnderlying49 rfl Try.sizeOf3 rfl) (by decide) ?_
                refine DW.x rfl rfl (X.loadB (k := 0) Try.isAgg3 rfl rfl rfl) (by decide) ?_
                refine DW.cond rfl rfl (X.lss rfl rfl) (by decide) (fun h22 => ?_) (fun h22 => ?_)
                · refine DW.x rfl rfl (X.pickF rfl rfl rfl) (by decide) ?_
                  refine DW.x rfl rfl (X.move rfl) (by decide) ?_
                  refine DW.no rfl rfl (by decide) ?_
                  refine DW.no rfl rfl (by decide) ?_
                  refine DW.no rfl rfl (by decide) ?_
                  refine DW.no rfl rfl (by decide) ?_
                  refine DW.no rfl rfl (by decide) ?_
                  refine DW.no rfl rfl (by decide) ?_
                  refine DW.no rfl rfl (by decide) ?_
                  refine DW.x rfl rfl (X.pickT rfl rfl rfl) (by decide) ?_
                  refine DW.nil ?_
                  refine WK.nThen ?_
                  refine WC.condT rfl ?_
                  refine WC.seq ?_
                  refine WC.region ?_
                  refine WL.x (X.assign rfl) (by decide) ?_
                  refine WL.nil ?_
                  refine WK.nThen ?_
                  refine WC.ret ?_
                  refine WK.rBlock ?_
                  refine WK.rThen ?_
                  refine WK.rThen ?_
                  refine WK.rBlock ?_
                  refine WK.rThen ?_
                  refine WK.ret1 rfl rfl (fun w' hw' => Ret.exact hw' ?_)
                  first | exact bool_false (fun h => by have := h.1; omega) | exact bool_false (fun h => absurd h.2.1 (by assumption)) | exact bool_false (fun h => by have := h.2.2 k (by omega); unfold seaIn at this; omega) | exact bool_true ⟨by omega, by assumption, fun j hj => hall j (by omega)⟩
                · refine DW.x rfl rfl (X.pickF rfl rfl rfl) (by decide) ?_
                  refine DW.x rfl rfl (X.move rfl) (by decide) ?_
                  refine DW.x rfl rfl (X.move rfl) (by decide) ?_
                  refine DW.x rfl rfl (X.move rfl) (by decide) ?_
                  refine DW.xe rfl rfl (E.idxN k Try.runUnderlying31 Try.sizeOf3 rfl rfl hs (by omega)) (by decide) (fun p23 hp24 => ?_)
                  refine DW.x rfl rfl (X.loadInt Try.isAgg3 rfl hp24) (by decide) ?_
                  refine DW.x rfl rfl (X.field Try.runUnderlying49 rfl Try.sizeOf3 rfl) (by decide) ?_
                  refine DW.x rfl rfl (X.loadB (k := 0) Try.isAgg3 rfl rfl rfl) (by decide) ?_
                  refine DW.cond rfl rfl (X.gtr rfl rfl) (by decide) (fun h25 => ?_) (fun h25 => ?_)
                  · refine DW.x rfl rfl (X.pickF rfl rfl rfl) (by decide) ?_
                    refine DW.nil ?_
                    refine WK.nThen ?_
                    refine WC.condT rfl ?_
                    refine WC.seq ?_
                    refine WC.region ?_
                    refine WL.x (X.assign rfl) (by decide) ?_
                    refine WL.nil ?_
                    refine WK.nThen ?_
                    refine WC.ret ?_
                    refine WK.rBlock ?_
                    refine WK.rThen ?_
                    refine WK.rThen ?_
                    refine WK.rBlock ?_
                    refine WK.rThen ?_
                    refine WK.ret1 rfl rfl (fun w' hw' => Ret.exact hw' ?_)
                    first | exact bool_false (fun h => by have := h.1; omega) | exact bool_false (fun h => absurd h.2.1 (by assumption)) | exact bool_false (fun h => by have := h.2.2 k (by omega); unfold seaIn at this; omega) | exact bool_true ⟨by omega, by assumption, fun j hj => hall j (by omega)⟩
                  · refine DW.x rfl rfl (X.pickF rfl rfl rfl) (by decide) ?_
                    refine DW.nil ?_
                    refine WK.nThen ?_
                    refine WC.condF rfl ?_
                    refine WC.skip ?_
                    refine WK.nBlock ?_
                    refine WK.nThen ?_
                    refine WC.region ?_
                    refine WL.x (X.move rfl) (by decide) ?_
                    refine WL.x (X.add rfl rfl (by omega) (by omega)) (by decide) ?_
                    refine WL.x (X.assign rfl) (by decide) ?_
                    refine WL.nil ?_
                    refine WK.nThen ?_
                    refine WK.next (k + 1) rfl (.cons _ (.cons _ (.cons_cons _ .slnil))) (.cons rfl (.cons rfl (.cons rfl (.cons rfl (.cons rfl .nil))))) ?_ ?_
                    · exact ⟨by omega, fun j hj => by rcases Nat.lt_succ_iff_lt_or_eq.1 hj with h | h; exact hall j h; subst h; unfold seaIn; omega⟩
                    · omega
          · refine WL.nil ?_
            refine WK.nThen ?_
            refine WC.condF rfl ?_
            refine WC.exit ?_
            refine WK.eThen ?_
            refine WK.eThen ?_
            refine WK.eHit ?_
            refine WK.nThen ?_
            refine WC.seq ?_
            refine WC.region ?_
            refine WL.x (X.assign rfl) (by decide) ?_
            refine WL.nil ?_
            refine WK.nThen ?_
            refine WC.ret ?_
            refine WK.ret1 rfl rfl (fun w' hw' => Ret.exact hw' ?_)
            first | exact bool_false (fun h => by have := h.1; omega) | exact bool_false (fun h => absurd h.2.1 (by assumption)) | exact bool_false (fun h => by have := h.2.2 k (by omega); unfold seaIn at this; omega) | exact bool_true ⟨by omega, by assumption, fun j hj => hall j (by omega)⟩
      · refine WL.yes rfl rfl ?_
        refine WL.x (X.not rfl) (by decide) ?_
        refine WL.x (X.pickF rfl rfl rfl) (by decide) ?_
        refine WL.nil ?_
        refine WK.nThen ?_
        refine WC.condT rfl ?_
        refine WC.seq ?_
        refine WC.region ?_
        refine WL.x (X.assign rfl) (by decide) ?_
        refine WL.nil ?_
        refine WK.nThen ?_
        refine WC.ret ?_
        refine WK.rThen ?_
        refine WK.ret1 rfl rfl (fun w' hw' => Ret.exact hw' ?_)
        first | exact bool_false (fun h => by have := h.1; omega) | exact bool_false (fun h => absurd h.2.1 (by assumption)) | exact bool_false (fun h => by have := h.2.2 k (by omega); unfold seaIn at this; omega) | exact bool_true ⟨by omega, by assumption, fun j hj => hall j (by omega)⟩

end Go.Proofs.S5
