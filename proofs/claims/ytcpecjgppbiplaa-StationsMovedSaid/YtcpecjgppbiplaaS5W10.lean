/- Stations: walks, tenth part, by program. -/
import Derived.Test.YtcpecjgppbiplaaS5W9
import Derived.Test.YtcpecjgppbiplaaS5Ins
namespace Go.Proofs.S5
open Go Go.Kx
set_option linter.unusedVariables false
set_option linter.unusedSimpArgs false

theorem clone89 (m : Mem) {v : Value} {L : List Height} (hL : Sl m v L) (hn : L.length ≤ 1000) : Mut Try.prog 89 #[v] m [] (fun _ Es u => Es = [rowF u 71 L] ∧ u.oneCell' = true) := by
  refine Mut.start Try.func89 rfl Try.ntmps89 rfl fun wld => ?_
  refine WC.seq ?_
  refine WC.region ?_
  refine WL.x (X.assign rfl) (by decide) ?_
  refine WL.nil ?_
  refine WK.nThen ?_
  refine WC.seq ?_
  refine WC.seq ?_
  refine WC.region ?_
  refine WL.x (X.move rfl) (by decide) ?_
  refine WL.condb (X.eqlNil Try.underlying56 rfl rfl hL) (by decide) (fun h1 => ?_) (fun h1 => ?_)
  · refine WL.nil ?_
    refine WK.nThen ?_
    refine WC.condT rfl ?_
    refine WC.seq ?_
    obtain rfl := hL.nil_of (by assumption)
    refine WK.ownF Height 71 ?_
    refine WC.region ?_
    refine WL.x (X.assign rfl) (by decide) ?_
    refine WL.nil ?_
    refine WK.nThen ?_
    refine WC.ret ?_
    refine WK.rThen ?_
    refine WK.ret1 rfl rfl (fun w' hw' => Ret.mut hw' ?_)
    first | exact ⟨rfl, rfl⟩ | exact ⟨rfl, ho_⟩
  · refine WL.nil ?_
    refine WK.nThen ?_
    refine WC.condF rfl ?_
    refine WC.skip ?_
    refine WK.nThen ?_
    refine WC.seq ?_
    refine WC.region ?_
    refine WL.ta (T.lit0 (α := Height) sl56 rfl) (by decide) (fun v2 => ?_)
    refine WL.x (X.move rfl) (by decide) ?_
    refine WL.ta (T.appendFl (α := Height) (fun _ _ _ h => h) (k := 0) sl56 rfl rfl hL rfl (by first | omega | (simp; omega)) (by first | omega | (simp; omega))) (by decide) (fun v3 => ?_)
    refine WL.own1 (k := 0) rfl (fun ho_ => ?_)
    refine WL.x (X.assign rfl) (by decide) ?_
    refine WL.nil ?_
    refine WK.nThen ?_
    refine WC.ret ?_
    refine WK.ret1 rfl rfl (fun w' hw' => Ret.mut hw' ?_)
    first | exact ⟨rfl, rfl⟩ | exact ⟨rfl, ho_⟩

set_option maxHeartbeats 1000000 in
theorem insert88 (m : Mem) {v : Value} {b tb : Nat} {L : List Height} {k : Nat} {ik : Int} (hik : ik = k) (hk : k ≤ L.length) (h0 : 0 < L.length) (hL : L.length ≤ 1000) (h : Height) : Mut Try.prog 88 #[v, .int .i64 ik, .slice (some ⟨b, 0, none⟩) 1 1] m [rowF v 71 L, blk b tb [.int .i64 h.Week, .int .i64 h.Metres.Lo, .int .i64 h.Metres.Hi]] (fun _ Es u => Es = [rowF u 71 (L.take k ++ h :: L.drop k)] ∧ u.oneCell' = true) := by
  subst hik
  refine Mut.start Try.func88 rfl Try.ntmps88 rfl fun wld => ?_
  refine WC.seq ?_
  have hfl_ : (flat L).length = L.length * 3 := flat_length L
  have hdl_ : (flat (L.drop k)).length = (L.length - k) * 3 := (by rw [flat_length, List.length_drop]; rfl)
  have one3_ : ∀ u ∈ ([.int .i64 h.Week, .int .i64 h.Metres.Lo, .int .i64 h.Metres.Hi] : List Value), u.oneCell' = true := Flat.one h
  refine WK.form (k := 0) rfl h0 (fun g_ c_ hv_ hc_ => ?_)
  subst hv_
  refine WC.region ?_
  refine WL.x (X.assign rfl) (by decide) ?_
  refine WL.nil ?_
  refine WK.nThen ?_
  refine WC.seq ?_
  refine WC.region ?_
  refine WL.x (X.move rfl) (by decide) ?_
  refine WL.x (X.move rfl) (by decide) ?_
  refine WL.x (X.slLoA k Try.underlying56 Try.sizeOf71 rfl rfl rfl hk) (by decide) ?_
  refine WL.nil ?_
  refine WK.nThen ?_
  refine WC.seq ?_
  refine WC.region ?_
  refine WL.x (X.move rfl) (by decide) ?_
  refine WL.x (X.lenV Try.runUnderlying56 rfl (q := 1) rfl) (by decide) ?_
  refine WL.x (X.assign rfl) (by decide) ?_
  refine WL.nil ?_
  refine WK.nThen ?_
  refine WC.seq ?_
  refine WC.seq ?_
  refine WC.region ?_
  refine WL.x (X.move rfl) (by decide) ?_
  refine WL.x (X.eql rfl rfl) (by decide) ?_
  refine WL.nil ?_
  refine WK.nThen ?_
  refine WC.condF rfl ?_
  refine WC.skip ?_
  refine WK.nThen ?_
  refine WC.seq ?_
  refine WC.region ?_
  refine WL.x (X.move rfl) (by decide) ?_
  refine WL.x (X.lenF (k := 0) Try.runUnderlying56 rfl rfl) (by decide) ?_
  refine WL.x (X.assign rfl) (by decide) ?_
  refine WL.nil ?_
  refine WK.nThen ?_
  refine WC.seq ?_
  refine WC.seq ?_
  refine WC.region ?_
  refine WL.x (X.move rfl) (by decide) ?_
  refine WL.x (X.move rfl) (by decide) ?_
  refine WL.cond (X.eql rfl rfl) (by decide) (fun h1 => ?_) (fun h1 => ?_)
  · refine WL.nil ?_
    refine WK.nThen ?_
    refine WC.condT rfl ?_
    refine WC.seq ?_
    refine WC.region ?_
    refine WL.x (X.move rfl) (by decide) ?_
    refine WL.x (X.move rfl) (by decide) ?_
    refine WL.ta (OpTo.perm (H' := [blk b tb [.int .i64 (h.Week), .int .i64 (h.Metres.Lo), .int .i64 (h.Metres.Hi)], rowF (.slice (some ⟨g_, 0, none⟩) L.length c_) 71 (L)]) (List.perm_middle (l₁ := [rowF (.slice (some ⟨g_, 0, none⟩) L.length c_) 71 (L)]) (l₂ := []) (a := blk b tb [.int .i64 (h.Week), .int .i64 (h.Metres.Lo), .int .i64 (h.Metres.Hi)])).symm (T.appendF (k := 0) (a := h) sl56 rfl rfl rfl rfl (by first | omega | (simp; done) | (simp; omega)) (by decide))) (by decide) (fun v2 => ?_)
    refine WL.own1 (k := 0) rfl (fun ho_ => ?_)
    refine WL.x (X.assign rfl) (by decide) ?_
    refine WL.nil ?_
    refine WK.nThen ?_
    refine WC.ret ?_
    refine WK.rThen ?_
    refine WK.ret1 rfl rfl (fun w' hw' => Ret.mut (hw'.weaken (.cons_cons _ .slnil)) ?_)
    refine ⟨?_, ho_⟩
    rw [show k = L.length by omega, List.take_length, List.drop_length]
  · refine WL.nil ?_
    refine WK.nThen ?_
    refine WC.condF rfl ?_
    refine WC.skip ?_
    refine WK.nThen ?_
    refine WC.seq ?_
    refine WC.seq ?_
    refine WC.region ?_
    refine WL.x (X.move rfl) (by decide) ?_
    refine WL.x (X.move rfl) (by decide) ?_
    refine WL.x (X.add rfl rfl (by omega) (by omega)) (by decide) ?_
    refine WL.x (X.move rfl) (by decide) ?_
    refine WL.x (X.cap Try.runUnderlying56 rfl) (by decide) ?_
    refine WL.cond (X.gtr rfl rfl) (by decide) (fun h3 => ?_) (fun h3 => ?_)
    · refine WL.nil ?_
      refine WK.nThen ?_
      refine WC.condT rfl ?_
      refine WC.seq ?_
      refine WC.region ?_
      refine WL.x (X.move rfl) (by decide) ?_
      refine WL.x (X.move rfl) (by decide) ?_
      refine WL.x (X.slHi k Try.underlying56 Try.sizeOf71 rfl rfl rfl (by omega) (by omega)) (by decide) ?_
      refine WL.x (X.move rfl) (by decide) ?_
      refine WL.x (X.move rfl) (by decide) ?_
      refine WL.x (X.add rfl rfl (by omega) (by omega)) (by decide) ?_
      refine WL.x (X.move rfl) (by decide) ?_
      refine WL.x (X.sub rfl rfl (by omega) (by omega)) (by decide) ?_
      refine WL.to (T.appendZ (k := 0) sl56 Try.underlying3 (L.length + 1 - k) rfl rfl (by omega) rfl (by omega) (by omega) (by decide) (by omega) (by omega) (by omega) (N := L.length + 1) (by omega)) (by decide) (fun v_ m_ H_ hz_ => ?_)
      obtain ⟨rfl, g2_, c2_, zs, rfl, hc2_, hzl, rfl⟩ := hz_
      have hzl3_ : zs.length = (L.length + 1 - k) * 3 := hzl
      refine WL.x (X.assign rfl) (by decide) ?_
      refine WL.nil ?_
      refine WK.nThen ?_
      refine WC.seq ?_
      refine WC.region ?_
      refine WL.x (X.move rfl) (by decide) ?_
      refine WL.x (X.move rfl) (by decide) ?_
      refine WL.x (X.slLo k Try.underlying56 Try.sizeOf71 rfl rfl rfl (by omega) (by omega)) (by decide) ?_
      refine WL.x (X.move rfl) (by decide) ?_
      have hln_ : ([Value.int .i64 h.Week, .int .i64 h.Metres.Lo, .int .i64 h.Metres.Hi]).length = min 1 ((L.length + 1) - k) * 3 := (by rw [show min 1 ((L.length + 1) - k) = 1 by omega]; rfl)
      have hft_ : k * 3 + ([Value.int .i64 h.Week, .int .i64 h.Metres.Lo, .int .i64 h.Metres.Hi]).length ≤ ((flat L).take (k * 3) ++ zs).length := (by rw [hln_]; simp only [List.length_append, List.length_take, List.length_drop, hfl_, hdl_, hzl3_, List.length_cons, List.length_nil]; omega)
      refine WL.tv (T.copyR (k := 0) ([.int .i64 h.Week, .int .i64 h.Metres.Lo, .int .i64 h.Metres.Hi]) Try.underlying56 Try.sizeOf71 rfl rfl rfl hln_ (fun B w hw => blk_src hw (k := 2) rfl) hft_ (by rw [hln_]; omega) one3_) (by decide) ?_
      refine WL.nil ?_
      refine WK.nThen ?_
      refine WC.seq ?_
      refine WC.draw (π := (.cons 0 (.cons 1 (.cons 2 (.cons 3 (.cons 4 (.cons 5 (.cons 6 (.cons 7 (.cons 8 .done)))))))))) [8] [8] rfl (by kernel_rfl) ?_
      refine DW.x rfl rfl (X.move rfl) (by decide) ?_
      refine DW.x rfl rfl (X.move rfl) (by decide) ?_
      refine DW.x rfl rfl (X.move rfl) (by decide) ?_
      refine DW.x rfl rfl (X.add rfl rfl (by omega) (by omega)) (by decide) ?_
      refine DW.x rfl rfl (X.slLo (k + 1) Try.underlying56 Try.sizeOf71 rfl rfl rfl (by omega) (by omega)) (by decide) ?_
      refine DW.x rfl rfl (X.move rfl) (by decide) ?_
      refine DW.x rfl rfl (X.move rfl) (by decide) ?_
      refine DW.x rfl rfl (X.slLo k Try.underlying56 Try.sizeOf71 rfl rfl rfl (by omega) (by omega)) (by decide) ?_
      have hln_ : (flat (L.drop k)).length = min (L.length - k) ((L.length + 1) - (k + 1)) * 3 := (by rw [hdl_]; congr 1; omega)
      have hft_ : (k + 1) * 3 + (flat (L.drop k)).length ≤ (((flat L).take (k * 3) ++ zs).take (k * 3) ++ [Value.int .i64 h.Week, .int .i64 h.Metres.Lo, .int .i64 h.Metres.Hi] ++ ((flat L).take (k * 3) ++ zs).drop (k * 3 + ([Value.int .i64 h.Week, .int .i64 h.Metres.Lo, .int .i64 h.Metres.Hi]).length)).length := (by rw [hln_]; simp only [List.length_append, List.length_take, List.length_drop, hfl_, hdl_, hzl3_, List.length_cons, List.length_nil]; omega)
      refine DW.tv rfl rfl rfl rfl (T.copyR (k := 0) (flat (L.drop k)) Try.underlying56 Try.sizeOf71 rfl rfl rfl hln_ (row_src (k := 1) rfl (flat_from hk)) hft_ (by rw [hln_]; omega) (flat_oneC _)) (by decide) ?_
      refine DW.nil ?_
      refine WK.nThen ?_
      refine WC.seq ?_
      refine WC.region ?_
      refine WL.x (X.move rfl) (by decide) ?_
      refine WL.x (X.assign rfl) (by decide) ?_
      refine WL.nil ?_
      refine WK.nThen ?_
      refine WC.ret ?_
      refine WK.rThen ?_
      refine WK.ret1 rfl rfl (fun w' hw' => Ret.mut (hw'.weaken (.cons_cons _ (.cons _ (.cons _ .slnil)))) ?_)
      exact ⟨congrArg (fun e_ => [e_]) (rowF_of (ins_len hk) (ins_grow hk hzl)), rfl⟩
    · refine WL.nil ?_
      refine WK.nThen ?_
      refine WC.condF rfl ?_
      refine WC.skip ?_
      refine WK.nThen ?_
      refine WC.seq ?_
      refine WC.region ?_
      refine WL.x (X.move rfl) (by decide) ?_
      refine WL.x (X.move rfl) (by decide) ?_
      refine WL.x (X.move rfl) (by decide) ?_
      refine WL.x (X.add rfl rfl (by omega) (by omega)) (by decide) ?_
      refine WL.x (X.slHc (L.length + 1) Try.underlying56 Try.sizeOf71 rfl rfl rfl (by omega) (by omega)) (by decide) ?_
      refine WL.x (X.assign rfl) (by decide) ?_
      refine WL.nil ?_
      refine WK.nThen ?_
      refine WC.seq ?_
      refine WC.seq ?_
      refine WK.stretch (k := 0) (h := L.length + 1) rfl (by omega) (by omega) (fun zs hzl => ?_)
      have hzl3_ : zs.length = (L.length + 1 - L.length) * 3 := hzl
      refine WC.region ?_
      refine WL.x (X.move rfl) (by decide) ?_
      refine WL.x (X.move rfl) (by decide) ?_
      refine WL.x (X.move rfl) (by decide) ?_
      refine WL.x (X.move rfl) (by decide) ?_
      refine WL.x (X.add rfl rfl (by omega) (by omega)) (by decide) ?_
      refine WL.x (X.slLo (k + 1) Try.underlying56 Try.sizeOf71 rfl rfl rfl (by omega) (by omega)) (by decide) ?_
      refine WL.x (X.ext rfl (fun w_ hw_ => ov105 hw_ (j := 1) (k := 0) rfl rfl (by omega) (by decide) (by decide))) (by decide) ?_
      refine WL.x (X.not rfl) (by decide) ?_
      refine WL.nil ?_
      refine WK.nThen ?_
      refine WC.condT rfl ?_
      refine WC.seq ?_
      refine WC.draw (π := (.cons 0 (.cons 1 (.cons 2 (.cons 3 (.cons 4 (.cons 5 (.cons 6 (.cons 7 (.cons 8 .done)))))))))) [8] [8] rfl (by kernel_rfl) ?_
      refine DW.x rfl rfl (X.move rfl) (by decide) ?_
      refine DW.x rfl rfl (X.move rfl) (by decide) ?_
      refine DW.x rfl rfl (X.move rfl) (by decide) ?_
      refine DW.x rfl rfl (X.add rfl rfl (by omega) (by omega)) (by decide) ?_
      refine DW.x rfl rfl (X.slLo (k + 1) Try.underlying56 Try.sizeOf71 rfl rfl rfl (by omega) (by omega)) (by decide) ?_
      refine DW.x rfl rfl (X.move rfl) (by decide) ?_
      refine DW.x rfl rfl (X.move rfl) (by decide) ?_
      refine DW.x rfl rfl (X.slLo k Try.underlying56 Try.sizeOf71 rfl rfl rfl (by omega) (by omega)) (by decide) ?_
      have hln_ : (flat (L.drop k)).length = min ((L.length + 1) - k) ((L.length + 1) - (k + 1)) * 3 := (by rw [hdl_]; congr 1; omega)
      have hft_ : (k + 1) * 3 + (flat (L.drop k)).length ≤ (flat L ++ zs).length := (by rw [hln_]; simp only [List.length_append, List.length_take, List.length_drop, hfl_, hdl_, hzl3_, List.length_cons, List.length_nil]; omega)
      refine DW.tv rfl rfl rfl rfl (T.copyR (k := 0) (flat (L.drop k)) Try.underlying56 Try.sizeOf71 rfl rfl rfl hln_ (row_src (k := 0) rfl (flat_fromZ hk)) hft_ (by rw [hln_]; omega) (flat_oneC _)) (by decide) ?_
      refine DW.nil ?_
      refine WK.nThen ?_
      refine WC.seq ?_
      refine WC.region ?_
      refine WL.x (X.move rfl) (by decide) ?_
      refine WL.x (X.move rfl) (by decide) ?_
      refine WL.x (X.slLo k Try.underlying56 Try.sizeOf71 rfl rfl rfl (by omega) (by omega)) (by decide) ?_
      refine WL.x (X.move rfl) (by decide) ?_
      have hln_ : ([Value.int .i64 h.Week, .int .i64 h.Metres.Lo, .int .i64 h.Metres.Hi]).length = min 1 ((L.length + 1) - k) * 3 := (by rw [show min 1 ((L.length + 1) - k) = 1 by omega]; rfl)
      have hft_ : k * 3 + ([Value.int .i64 h.Week, .int .i64 h.Metres.Lo, .int .i64 h.Metres.Hi]).length ≤ ((flat L ++ zs).take ((k + 1) * 3) ++ flat (L.drop k) ++ (flat L ++ zs).drop ((k + 1) * 3 + (flat (L.drop k)).length)).length := (by rw [hln_]; simp only [List.length_append, List.length_take, List.length_drop, hfl_, hdl_, hzl3_, List.length_cons, List.length_nil]; omega)
      refine WL.tv (T.copyR (k := 0) ([.int .i64 h.Week, .int .i64 h.Metres.Lo, .int .i64 h.Metres.Hi]) Try.underlying56 Try.sizeOf71 rfl rfl rfl hln_ (fun B w hw => blk_src hw (k := 1) rfl) hft_ (by rw [hln_]; omega) one3_) (by decide) ?_
      refine WL.nil ?_
      refine WK.nThen ?_
      refine WC.seq ?_
      refine WC.region ?_
      refine WL.x (X.move rfl) (by decide) ?_
      refine WL.x (X.assign rfl) (by decide) ?_
      refine WL.nil ?_
      refine WK.nThen ?_
      refine WC.ret ?_
      refine WK.rThen ?_
      refine WK.ret1 rfl rfl (fun w' hw' => Ret.mut (hw'.weaken (.cons_cons _ (.cons _ .slnil))) ?_)
      exact ⟨congrArg (fun e_ => [e_]) (rowF_of (ins_len hk) (ins_place hk hzl)), rfl⟩

set_option maxHeartbeats 2000000 in
theorem move51 (m : Mem) (cs : List Value) (s : Station) (hs : Enc.rd m cs s) (ch : List Value) (h : Height) (hh : Enc.rd m ch h)   : Pure Try.prog 51 #[.agg cs.toArray, .agg ch.toArray] m (fun m' v => ∃ r0, v = .tuple #[.agg r0.toArray, .int .i64 ((moveR s h).2)] ∧ Enc.rd m' r0 ((moveR s h).1)) := by
  obtain ⟨v1, rfl, hs2⟩ := hs
  have hl3 := hs2.le
  obtain rfl := hh
  have hal := aloneE_one s
  refine Pure.start Try.func51 rfl Try.ntmps51 rfl fun wld => ?_
  refine WC.seq ?_
  refine WC.region ?_
  refine WL.tn (T.boxB rfl rfl) (by decide) fun b4 => ?_
  refine WL.tn (T.boxB rfl rfl) (by decide) fun b5 => ?_
  refine WL.tn (T.alloc Try.zeroValue58 rfl) (by decide) fun b6 => ?_
  refine WL.x (X.assign rfl) (by decide) ?_
  refine WL.nil ?_
  refine WK.nThen ?_
  refine WC.seq ?_
  refine WC.seq ?_
  refine WC.region ?_
  refine WL.x (X.loadBA (k := 2) Try.isAgg58 Try.sizeOf58 rfl rfl rfl) (by decide) ?_
  refine WL.tm (T.litM (α := Station) (vals := [.agg [.int .i64 (s.ID), .int .i64 (s.X), .int .i64 (s.Y), v1].toArray]) (L := [s]) sl24 rfl (.cons rfl ⟨_, rfl, hs2⟩ .nil) rfl rfl) (by decide) (fun m7 v8 hle9 hs10 => ?_)
  replace hs2 := hs2.mono hle9
  refine WL.x (X.call Try.call80 rfl (alone80 _ _ _ hs10 )) (by decide) ?_
  refine WL.x (X.assign rfl) (by decide) ?_
  refine WL.nil ?_
  refine WK.nThen ?_
  refine WC.seq ?_
  refine WC.region ?_
  refine WL.x (X.move rfl) (by decide) ?_
  refine WL.condn (X.neq rfl rfl) (by decide) (fun h11 => ?_) (fun h11 => ?_)
  · refine WL.nil ?_
    refine WK.nThen ?_
    refine WC.condT rfl ?_
    refine WC.seq ?_
    refine WC.region ?_
    refine WL.x (V := Value.agg [.int .i64 (0), .int .i64 (0), .int .i64 (0), .slice none 0 0].toArray) (X.build Try.zeroValue58 Try.runUnderlying58 (places58 _ Try.underlying58) rfl rfl) (by decide) ?_
    refine WL.x (X.move rfl) (by decide) ?_
    refine WL.ts (T.storeBA (k := 0) Try.sizeOf58 rfl rfl rfl (one_cons rfl (one_cons rfl (one_cons rfl (one_cons rfl one_nil)))) rfl rfl) ?_
    refine WL.x (X.assign rfl) (by decide) ?_
    refine WL.nil ?_
    refine WK.nThen ?_
    refine WC.ret ?_
    refine WK.rThen ?_
    refine WK.retC2 0 rfl rfl rfl rfl Try.isAgg58 Try.sizeOf58 (fun w' hw' => Ret.mem hw' ?_)
    exact ⟨_, tup2 rfl (int_eq (by rw [moveR_bad (by omega)]; exact hal)), by rw [moveR_bad (by omega)]; exact ⟨_, rfl, .nil⟩⟩
  · refine WL.nil ?_
    refine WK.nThen ?_
    refine WC.condF rfl ?_
    refine WC.skip ?_
    refine WK.nThen ?_
    refine WC.seq ?_
    have hone := oneE_zero (s := s) (by omega)
    have hhl := hone.2.1
    refine WC.region ?_
    refine WL.x (X.assign rfl) (by decide) ?_
    refine WL.nil ?_
    refine WK.nThen ?_
    refine WC.seq ?_
    refine WC.block ?_
    refine WC.loop (G := Nat) (fun k => s.Heights.length - k) (fun k => m7) (fun k => [blk b6 58 [.int .i64 (0), .int .i64 (0), .int .i64 (0), .slice none 0 0], blk b5 71 [.int .i64 (h.Week), .int .i64 (h.Metres.Lo), .int .i64 (h.Metres.Hi)], blk b4 58 [.int .i64 (s.ID), .int .i64 (s.X), .int .i64 (s.Y), v1]]) (fun k => [(2, .pointer (some ⟨b4, 0, none⟩)), (3, .pointer (some ⟨b5, 0, none⟩)), (4, .pointer (some ⟨b6, 0, none⟩)), (7, .int .i64 (↑k))]) (fun k => k ≤ s.Heights.length ∧ (∀ j, j < k → (gt s.Heights j).Week < h.Week)) 0 rfl (.refl _) (.cons rfl (.cons rfl (.cons rfl (.cons rfl .nil)))) ?_ ?_
    · exact ⟨Nat.zero_le _, fun j hj => absurd hj (Nat.not_lt_zero _)⟩
    · rintro k hF12
      show WK _ _ m7 [blk b6 58 [.int .i64 (0), .int .i64 (0), .int .i64 (0), .slice none 0 0], blk b5 71 [.int .i64 (h.Week), .int .i64 (h.Metres.Lo), .int .i64 (h.Metres.Hi)], blk b4 58 [.int .i64 (s.ID), .int .i64 (s.X), .int .i64 (s.Y), v1]] [(2, .pointer (some ⟨b4, 0, none⟩)), (3, .pointer (some ⟨b5, 0, none⟩)), (4, .pointer (some ⟨b6, 0, none⟩)), (7, .int .i64 (↑k))] _
      replace hF12 : k ≤ s.Heights.length ∧ (∀ j, j < k → (gt s.Heights j).Week < h.Week) := hF12
      obtain ⟨hk, hall⟩ := hF12
      refine WC.seq ?_
      refine WC.seq ?_
      refine WC.draw (π := (.cons 0 (.cons 1 (.cons 2 (.cons 3 (.cons 4 (.cons 5 (.cons 6 (.cons 7 (.cons 8 (.cons 9 (.cons 10 (.cons 11 (.cons 12 (.cons 13 (.cons 14 (.cons 15 .done))))))))))))))))) [] [] rfl (by kernel_rfl) ?_
      refine DW.x rfl rfl (X.move rfl) (by decide) ?_
      refine DW.x rfl rfl (X.field Try.runUnderlying58 rfl Try.sizeOf56 rfl) (by decide) ?_
      refine DW.x rfl rfl (X.loadB (k := 2) Try.isAgg56 rfl rfl rfl) (by decide) ?_
      refine DW.x rfl rfl (X.len Try.runUnderlying56 rfl hs2) (by decide) ?_
      refine DW.cond rfl rfl (X.lss rfl rfl) (by decide) (fun h13 => ?_) (fun h13 => ?_)
      · refine DW.x rfl rfl (X.move rfl) (by decide) ?_
        refine DW.x rfl rfl (X.field Try.runUnderlying58 rfl Try.sizeOf56 rfl) (by decide) ?_
        refine DW.x rfl rfl (X.loadB (k := 2) Try.isAgg56 rfl rfl rfl) (by decide) ?_
        refine DW.x rfl rfl (X.move rfl) (by decide) ?_
        refine DW.xe rfl rfl (E.idxN k Try.runUnderlying56 Try.sizeOf71 rfl rfl hs2 (by omega)) (by decide) (fun p14 hp15 => ?_)
        have hp16 := At.Height_0 hp15
        refine DW.x rfl rfl (X.field Try.runUnderlying71 rfl Try.sizeOf3 rfl) (by decide) ?_
        refine DW.x rfl rfl (X.loadInt Try.isAgg3 rfl hp16) (by decide) ?_
        refine DW.x rfl rfl (X.field Try.runUnderlying71 rfl Try.sizeOf3 rfl) (by decide) ?_
        refine DW.x rfl rfl (X.loadB (k := 1) Try.isAgg3 rfl rfl rfl) (by decide) ?_
        refine DW.cond rfl rfl (X.lss rfl rfl) (by decide) (fun h17 => ?_) (fun h17 => ?_)
        · refine DW.x rfl rfl (X.pickT rfl rfl rfl) (by decide) ?_
          refine DW.nil ?_
          refine WK.nThen ?_
          refine WC.condT rfl ?_
          refine WC.skip ?_
          refine WK.nThen ?_
          refine WC.block ?_
          refine WC.region ?_
          refine WL.x (X.move rfl) (by decide) ?_
          refine WL.x (X.add rfl rfl (by omega) (by omega)) (by decide) ?_
          refine WL.x (X.assign rfl) (by decide) ?_
          refine WL.nil ?_
          refine WK.nBlock ?_
          refine WK.nThen ?_
          refine WK.next (k + 1) rfl (.refl _) (.cons rfl (.cons rfl (.cons rfl (.cons rfl .nil)))) ?_ ?_
          · exact ⟨by omega, fun j hj => by rcases Nat.lt_succ_iff_lt_or_eq.1 hj with h_ | h_; exact hall j h_; subst h_; assumption⟩
          · omega
        · refine DW.x rfl rfl (X.pickT rfl rfl rfl) (by decide) ?_
          refine DW.nil ?_
          refine WK.nThen ?_
          refine WC.condF rfl ?_
          refine WC.exit ?_
          refine WK.eThen ?_
          refine WK.eThen ?_
          refine WK.eHit ?_
          refine WK.nThen ?_
          refine WC.cut (G := Mem × Value) (fun (m18, v26) => m18) (fun (m18, v26) => [rowF (v26) 71 (s.Heights.take k ++ h :: s.Heights.drop k), blk b6 58 [.int .i64 (0), .int .i64 (0), .int .i64 (0), .slice none 0 0], blk b5 71 [.int .i64 (h.Week), .int .i64 (h.Metres.Lo), .int .i64 (h.Metres.Hi)], blk b4 58 [.int .i64 (s.ID), .int .i64 (s.X), .int .i64 (s.Y), v26]]) (fun (m18, v26) => [(2, .pointer (some ⟨b4, 0, none⟩)), (4, .pointer (some ⟨b6, 0, none⟩))]) (fun (m18, v26) => m7.le m18) ?_ ?_
          · refine WC.draw (π := (.cons 0 (.cons 1 (.cons 3 (.cons 4 (.fork (.cons 2 (.cons 5 (.cons 6 (.cons 7 (.cons 8 .done))))) (.cons 5 (.cons 2 (.cons 6 (.cons 7 (.cons 8 .done))))))))))) [2, 5, 6, 8] [6, 8] rfl (by kernel_rfl) ?_
            refine DW.x rfl rfl (X.field Try.runUnderlying58 rfl Try.sizeOf56 rfl) (by decide) ?_
            refine DW.x rfl rfl (X.loadB (k := 2) Try.isAgg56 rfl rfl rfl) (by decide) ?_
            refine DW.x rfl rfl (X.move rfl) (by decide) ?_
            refine DW.x rfl rfl (X.loadBA (k := 1) Try.isAgg71 Try.sizeOf71 rfl rfl rfl) (by decide) ?_
            refine DW.fork (List.cons_ne_nil _ _) ?_ ?_
            · refine DW.tO rfl rfl rfl (T.callO Try.call89 rfl (clone89 _ hs2 (by omega))) (by decide) (fun m19 Es20 v21 hle22 hR_ => ?_)
              obtain ⟨rfl, ho23⟩ := hR_
              replace hs2 := hs2.mono hle22
              replace hs10 := hs10.mono hle22
              replace hp15 := hp15.mono hle22
              replace hp16 := hp16.mono hle22
              refine DW.tl rfl rfl rfl (T.lit1 sl56 rfl rfl rfl (by decide)) (by decide) fun b24 => ?_
              refine DW.tM rfl rfl rfl rfl (T.callP (A := [blk b6 58 [.int .i64 (0), .int .i64 (0), .int .i64 (0), .slice none 0 0], blk b5 71 [.int .i64 (h.Week), .int .i64 (h.Metres.Lo), .int .i64 (h.Metres.Hi)], blk b4 58 [.int .i64 (s.ID), .int .i64 (s.X), .int .i64 (s.Y), v1]]) Try.call88 rfl ((List.Perm.cons _ (.refl _)).trans (List.perm_middle (l₁ := [blk b24 71 [.int .i64 (h.Week), .int .i64 (h.Metres.Lo), .int .i64 (h.Metres.Hi)]]) (l₂ := [blk b6 58 [.int .i64 (0), .int .i64 (0), .int .i64 (0), .slice none 0 0], blk b5 71 [.int .i64 (h.Week), .int .i64 (h.Metres.Lo), .int .i64 (h.Metres.Hi)], blk b4 58 [.int .i64 (s.ID), .int .i64 (s.X), .int .i64 (s.Y), v1]]) (a := rowF (v21) 71 (s.Heights))).symm) (insert88 _ (L := s.Heights) (k := k) (by omega) (by omega) (by omega) (by omega) h)) (by decide) (fun m25 Es_ v27 hle26 hR_ => ?_)
              obtain ⟨rfl, ho28⟩ := hR_
              replace hs2 := hs2.mono hle26
              replace hs10 := hs10.mono hle26
              replace hp15 := hp15.mono hle26
              replace hp16 := hp16.mono hle26
              refine DW.x rfl rfl (X.field Try.runUnderlying58 rfl Try.sizeOf56 rfl) (by decide) ?_
              refine DW.ts rfl rfl rfl rfl (T.storeB (k := 3) Try.sizeOf56 rfl rfl rfl ho28 (Nat.le_of_ble_eq_true rfl)) ?_
              refine DW.nil ?_
              refine WK.nThen ?_
              exact WK.meet (m25, v27) rfl (.refl _) (.cons rfl (.cons rfl .nil)) (Mem.le_trans hle22 hle26)
            · refine DW.tl rfl rfl rfl (T.lit1 sl56 rfl rfl rfl (by decide)) (by decide) fun b29 => ?_
              refine DW.tO rfl rfl rfl (T.callO Try.call89 rfl (clone89 _ hs2 (by omega))) (by decide) (fun m30 Es31 v32 hle33 hR_ => ?_)
              obtain ⟨rfl, ho34⟩ := hR_
              replace hs2 := hs2.mono hle33
              replace hs10 := hs10.mono hle33
              replace hp15 := hp15.mono hle33
              replace hp16 := hp16.mono hle33
              refine DW.tM rfl rfl rfl rfl (T.callP (A := [blk b6 58 [.int .i64 (0), .int .i64 (0), .int .i64 (0), .slice none 0 0], blk b5 71 [.int .i64 (h.Week), .int .i64 (h.Metres.Lo), .int .i64 (h.Metres.Hi)], blk b4 58 [.int .i64 (s.ID), .int .i64 (s.X), .int .i64 (s.Y), v1]]) Try.call88 rfl (.refl _) (insert88 _ (L := s.Heights) (k := k) (by omega) (by omega) (by omega) (by omega) h)) (by decide) (fun m35 Es_ v37 hle36 hR_ => ?_)
              obtain ⟨rfl, ho38⟩ := hR_
              replace hs2 := hs2.mono hle36
              replace hs10 := hs10.mono hle36
              replace hp15 := hp15.mono hle36
              replace hp16 := hp16.mono hle36
              refine DW.x rfl rfl (X.field Try.runUnderlying58 rfl Try.sizeOf56 rfl) (by decide) ?_
              refine DW.ts rfl rfl rfl rfl (T.storeB (k := 3) Try.sizeOf56 rfl rfl rfl ho38 (Nat.le_of_ble_eq_true rfl)) ?_
              refine DW.nil ?_
              refine WK.nThen ?_
              exact WK.meet (m35, v37) rfl (.refl _) (.cons rfl (.cons rfl .nil)) (Mem.le_trans hle33 hle36)
          · rintro ⟨m18, v26⟩ hle39
            show WK _ _ m18 [rowF (v26) 71 (s.Heights.take k ++ h :: s.Heights.drop k), blk b6 58 [.int .i64 (0), .int .i64 (0), .int .i64 (0), .slice none 0 0], blk b5 71 [.int .i64 (h.Week), .int .i64 (h.Metres.Lo), .int .i64 (h.Metres.Hi)], blk b4 58 [.int .i64 (s.ID), .int .i64 (s.X), .int .i64 (s.Y), v26]] [(2, .pointer (some ⟨b4, 0, none⟩)), (4, .pointer (some ⟨b6, 0, none⟩))] _
            replace hs2 := hs2.mono hle39
            replace hs10 := hs10.mono hle39
            replace hp15 := hp15.mono hle39
            replace hp16 := hp16.mono hle39
            refine WC.seq ?_
            refine WC.seq ?_
            have he40 : (s.Heights.take k ++ h :: s.Heights.drop k) = (insH s.Heights h) := (insH_at (by omega) hall (by first | exact fun h_ => absurd h_ (by omega) | exact fun _ => (by assumption))).symm
            rw [he40]
            refine WC.region ?_
            refine WL.x (X.field Try.runUnderlying58 rfl Try.sizeOf56 rfl) (by decide) ?_
            refine WL.x (X.loadB (k := 3) Try.isAgg56 rfl rfl rfl) (by decide) ?_
            refine WL.freezeF 0 rfl rfl (by have := insH_len h s.Heights; unfold lenB; omega) (fun m41 hle42 hs43 => ?_)
            replace hs2 := hs2.mono hle42
            replace hs10 := hs10.mono hle42
            replace hp15 := hp15.mono hle42
            replace hp16 := hp16.mono hle42
            refine WL.cond (X.call Try.call90 rfl (high90 _ _ _ hs43 )) (by decide) (fun h44 => ?_) (fun h44 => ?_)
            · refine WL.x (X.not rfl) (by decide) ?_
              refine WL.nil ?_
              refine WK.nThen ?_
              refine WC.condF rfl ?_
              refine WC.skip ?_
              refine WK.nThen ?_
              refine WC.seq ?_
              refine WC.region ?_
              refine WL.x (X.loadBA (k := 2) Try.isAgg58 Try.sizeOf58 rfl rfl rfl) (by decide) ?_
              refine WL.ts (T.storeBA (k := 0) Try.sizeOf58 rfl rfl rfl (one_cons rfl (one_cons rfl (one_cons rfl (one_cons hs43.one one_nil)))) rfl rfl) ?_
              refine WL.x (X.assign rfl) (by decide) ?_
              refine WL.nil ?_
              refine WK.nThen ?_
              refine WC.ret ?_
              refine WK.retC2 0 rfl rfl rfl rfl Try.isAgg58 Try.sizeOf58 (fun w' hw' => Ret.mem hw' ?_)
              exact ⟨_, tup2 rfl (int_eq (by rw [moveR_ok (by omega) (by assumption)])), by rw [moveR_ok (by omega) (by assumption)]; exact ⟨_, rfl, hs43⟩⟩
            · refine WL.x (X.not rfl) (by decide) ?_
              refine WL.nil ?_
              refine WK.nThen ?_
              refine WC.condT rfl ?_
              refine WC.seq ?_
              refine WC.region ?_
              refine WL.x (V := Value.agg [.int .i64 (0), .int .i64 (0), .int .i64 (0), .slice none 0 0].toArray) (X.build Try.zeroValue58 Try.runUnderlying58 (places58 _ Try.underlying58) rfl rfl) (by decide) ?_
              refine WL.ts (T.storeBA (k := 0) Try.sizeOf58 rfl rfl rfl (one_cons rfl (one_cons rfl (one_cons rfl (one_cons rfl one_nil)))) rfl rfl) ?_
              refine WL.x (X.assign rfl) (by decide) ?_
              refine WL.nil ?_
              refine WK.nThen ?_
              refine WC.ret ?_
              refine WK.rThen ?_
              refine WK.retC2 0 rfl rfl rfl rfl Try.isAgg58 Try.sizeOf58 (fun w' hw' => Ret.mem hw' ?_)
              exact ⟨_, tup2 rfl (int_eq (by rw [moveR_no (by omega) (by assumption)])), by rw [moveR_no (by omega) (by assumption)]; exact ⟨_, rfl, .nil⟩⟩
      · refine DW.x rfl rfl (X.move rfl) (by decide) ?_
        refine DW.no rfl rfl (by decide) ?_
        refine DW.no rfl rfl (by decide) ?_
        refine DW.no rfl rfl (by decide) ?_
        refine DW.no rfl rfl (by decide) ?_
        refine DW.no rfl rfl (by decide) ?_
        refine DW.no rfl rfl (by decide) ?_
        refine DW.no rfl rfl (by decide) ?_
        refine DW.no rfl rfl (by decide) ?_
        refine DW.no rfl rfl (by decide) ?_
        refine DW.x rfl rfl (X.pickF rfl rfl rfl) (by decide) ?_
        refine DW.nil ?_
        refine WK.nThen ?_
        refine WC.condF rfl ?_
        refine WC.exit ?_
        refine WK.eThen ?_
        refine WK.eThen ?_
        refine WK.eHit ?_
        refine WK.nThen ?_
        refine WC.cut (G := Mem × Value) (fun (m45, v53) => m45) (fun (m45, v53) => [rowF (v53) 71 (s.Heights.take k ++ h :: s.Heights.drop k), blk b6 58 [.int .i64 (0), .int .i64 (0), .int .i64 (0), .slice none 0 0], blk b5 71 [.int .i64 (h.Week), .int .i64 (h.Metres.Lo), .int .i64 (h.Metres.Hi)], blk b4 58 [.int .i64 (s.ID), .int .i64 (s.X), .int .i64 (s.Y), v53]]) (fun (m45, v53) => [(2, .pointer (some ⟨b4, 0, none⟩)), (4, .pointer (some ⟨b6, 0, none⟩))]) (fun (m45, v53) => m7.le m45) ?_ ?_
        · refine WC.draw (π := (.cons 0 (.cons 1 (.cons 3 (.cons 4 (.fork (.cons 2 (.cons 5 (.cons 6 (.cons 7 (.cons 8 .done))))) (.cons 5 (.cons 2 (.cons 6 (.cons 7 (.cons 8 .done))))))))))) [2, 5, 6, 8] [6, 8] rfl (by kernel_rfl) ?_
          refine DW.x rfl rfl (X.field Try.runUnderlying58 rfl Try.sizeOf56 rfl) (by decide) ?_
          refine DW.x rfl rfl (X.loadB (k := 2) Try.isAgg56 rfl rfl rfl) (by decide) ?_
          refine DW.x rfl rfl (X.move rfl) (by decide) ?_
          refine DW.x rfl rfl (X.loadBA (k := 1) Try.isAgg71 Try.sizeOf71 rfl rfl rfl) (by decide) ?_
          refine DW.fork (List.cons_ne_nil _ _) ?_ ?_
          · refine DW.tO rfl rfl rfl (T.callO Try.call89 rfl (clone89 _ hs2 (by omega))) (by decide) (fun m46 Es47 v48 hle49 hR_ => ?_)
            obtain ⟨rfl, ho50⟩ := hR_
            replace hs2 := hs2.mono hle49
            replace hs10 := hs10.mono hle49
            refine DW.tl rfl rfl rfl (T.lit1 sl56 rfl rfl rfl (by decide)) (by decide) fun b51 => ?_
            refine DW.tM rfl rfl rfl rfl (T.callP (A := [blk b6 58 [.int .i64 (0), .int .i64 (0), .int .i64 (0), .slice none 0 0], blk b5 71 [.int .i64 (h.Week), .int .i64 (h.Metres.Lo), .int .i64 (h.Metres.Hi)], blk b4 58 [.int .i64 (s.ID), .int .i64 (s.X), .int .i64 (s.Y), v1]]) Try.call88 rfl ((List.Perm.cons _ (.refl _)).trans (List.perm_middle (l₁ := [blk b51 71 [.int .i64 (h.Week), .int .i64 (h.Metres.Lo), .int .i64 (h.Metres.Hi)]]) (l₂ := [blk b6 58 [.int .i64 (0), .int .i64 (0), .int .i64 (0), .slice none 0 0], blk b5 71 [.int .i64 (h.Week), .int .i64 (h.Metres.Lo), .int .i64 (h.Metres.Hi)], blk b4 58 [.int .i64 (s.ID), .int .i64 (s.X), .int .i64 (s.Y), v1]]) (a := rowF (v48) 71 (s.Heights))).symm) (insert88 _ (L := s.Heights) (k := k) (by omega) (by omega) (by omega) (by omega) h)) (by decide) (fun m52 Es_ v54 hle53 hR_ => ?_)
            obtain ⟨rfl, ho55⟩ := hR_
            replace hs2 := hs2.mono hle53
            replace hs10 := hs10.mono hle53
            refine DW.x rfl rfl (X.field Try.runUnderlying58 rfl Try.sizeOf56 rfl) (by decide) ?_
            refine DW.ts rfl rfl rfl rfl (T.storeB (k := 3) Try.sizeOf56 rfl rfl rfl ho55 (Nat.le_of_ble_eq_true rfl)) ?_
            refine DW.nil ?_
            refine WK.nThen ?_
            exact WK.meet (m52, v54) rfl (.refl _) (.cons rfl (.cons rfl .nil)) (Mem.le_trans hle49 hle53)
          · refine DW.tl rfl rfl rfl (T.lit1 sl56 rfl rfl rfl (by decide)) (by decide) fun b56 => ?_
            refine DW.tO rfl rfl rfl (T.callO Try.call89 rfl (clone89 _ hs2 (by omega))) (by decide) (fun m57 Es58 v59 hle60 hR_ => ?_)
            obtain ⟨rfl, ho61⟩ := hR_
            replace hs2 := hs2.mono hle60
            replace hs10 := hs10.mono hle60
            refine DW.tM rfl rfl rfl rfl (T.callP (A := [blk b6 58 [.int .i64 (0), .int .i64 (0), .int .i64 (0), .slice none 0 0], blk b5 71 [.int .i64 (h.Week), .int .i64 (h.Metres.Lo), .int .i64 (h.Metres.Hi)], blk b4 58 [.int .i64 (s.ID), .int .i64 (s.X), .int .i64 (s.Y), v1]]) Try.call88 rfl (.refl _) (insert88 _ (L := s.Heights) (k := k) (by omega) (by omega) (by omega) (by omega) h)) (by decide) (fun m62 Es_ v64 hle63 hR_ => ?_)
            obtain ⟨rfl, ho65⟩ := hR_
            replace hs2 := hs2.mono hle63
            replace hs10 := hs10.mono hle63
            refine DW.x rfl rfl (X.field Try.runUnderlying58 rfl Try.sizeOf56 rfl) (by decide) ?_
            refine DW.ts rfl rfl rfl rfl (T.storeB (k := 3) Try.sizeOf56 rfl rfl rfl ho65 (Nat.le_of_ble_eq_true rfl)) ?_
            refine DW.nil ?_
            refine WK.nThen ?_
            exact WK.meet (m62, v64) rfl (.refl _) (.cons rfl (.cons rfl .nil)) (Mem.le_trans hle60 hle63)
        · rintro ⟨m45, v53⟩ hle66
          show WK _ _ m45 [rowF (v53) 71 (s.Heights.take k ++ h :: s.Heights.drop k), blk b6 58 [.int .i64 (0), .int .i64 (0), .int .i64 (0), .slice none 0 0], blk b5 71 [.int .i64 (h.Week), .int .i64 (h.Metres.Lo), .int .i64 (h.Metres.Hi)], blk b4 58 [.int .i64 (s.ID), .int .i64 (s.X), .int .i64 (s.Y), v53]] [(2, .pointer (some ⟨b4, 0, none⟩)), (4, .pointer (some ⟨b6, 0, none⟩))] _
          replace hs2 := hs2.mono hle66
          replace hs10 := hs10.mono hle66
          refine WC.seq ?_
          refine WC.seq ?_
          have he67 : (s.Heights.take k ++ h :: s.Heights.drop k) = (insH s.Heights h) := (insH_at (by omega) hall (by first | exact fun h_ => absurd h_ (by omega) | exact fun _ => (by assumption))).symm
          rw [he67]
          refine WC.region ?_
          refine WL.x (X.field Try.runUnderlying58 rfl Try.sizeOf56 rfl) (by decide) ?_
          refine WL.x (X.loadB (k := 3) Try.isAgg56 rfl rfl rfl) (by decide) ?_
          refine WL.freezeF 0 rfl rfl (by have := insH_len h s.Heights; unfold lenB; omega) (fun m68 hle69 hs70 => ?_)
          replace hs2 := hs2.mono hle69
          replace hs10 := hs10.mono hle69
          refine WL.cond (X.call Try.call90 rfl (high90 _ _ _ hs70 )) (by decide) (fun h71 => ?_) (fun h71 => ?_)
          · refine WL.x (X.not rfl) (by decide) ?_
            refine WL.nil ?_
            refine WK.nThen ?_
            refine WC.condF rfl ?_
            refine WC.skip ?_
            refine WK.nThen ?_
            refine WC.seq ?_
            refine WC.region ?_
            refine WL.x (X.loadBA (k := 2) Try.isAgg58 Try.sizeOf58 rfl rfl rfl) (by decide) ?_
            refine WL.ts (T.storeBA (k := 0) Try.sizeOf58 rfl rfl rfl (one_cons rfl (one_cons rfl (one_cons rfl (one_cons hs70.one one_nil)))) rfl rfl) ?_
            refine WL.x (X.assign rfl) (by decide) ?_
            refine WL.nil ?_
            refine WK.nThen ?_
            refine WC.ret ?_
            refine WK.retC2 0 rfl rfl rfl rfl Try.isAgg58 Try.sizeOf58 (fun w' hw' => Ret.mem hw' ?_)
            exact ⟨_, tup2 rfl (int_eq (by rw [moveR_ok (by omega) (by assumption)])), by rw [moveR_ok (by omega) (by assumption)]; exact ⟨_, rfl, hs70⟩⟩
          · refine WL.x (X.not rfl) (by decide) ?_
            refine WL.nil ?_
            refine WK.nThen ?_
            refine WC.condT rfl ?_
            refine WC.seq ?_
            refine WC.region ?_
            refine WL.x (V := Value.agg [.int .i64 (0), .int .i64 (0), .int .i64 (0), .slice none 0 0].toArray) (X.build Try.zeroValue58 Try.runUnderlying58 (places58 _ Try.underlying58) rfl rfl) (by decide) ?_
            refine WL.ts (T.storeBA (k := 0) Try.sizeOf58 rfl rfl rfl (one_cons rfl (one_cons rfl (one_cons rfl (one_cons rfl one_nil)))) rfl rfl) ?_
            refine WL.x (X.assign rfl) (by decide) ?_
            refine WL.nil ?_
            refine WK.nThen ?_
            refine WC.ret ?_
            refine WK.rThen ?_
            refine WK.retC2 0 rfl rfl rfl rfl Try.isAgg58 Try.sizeOf58 (fun w' hw' => Ret.mem hw' ?_)
            exact ⟨_, tup2 rfl (int_eq (by rw [moveR_no (by omega) (by assumption)])), by rw [moveR_no (by omega) (by assumption)]; exact ⟨_, rfl, .nil⟩⟩

end Go.Proofs.S5
