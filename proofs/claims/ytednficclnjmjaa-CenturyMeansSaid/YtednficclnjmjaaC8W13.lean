/- Century: walks, thirteenth part, by program. -/
import Derived.Test.YtednficclnjmjaaC8Ref2
import Derived.Test.YtednficclnjmjaaC8W12
namespace Go.Proofs.C8
open Go Go.Kx
set_option linter.unusedSimpArgs false

theorem in133 (m : Mem) (cs : List Value) (s : Ser) (hs : Enc.rd m cs s) (cx : List Value) (x : Span) (hx : Enc.rd m cx x)  (hok : Ok s) : Pure Try.prog 133 #[.agg cs.toArray, .agg cx.toArray] m (fun m' v => ∃ r0, v = .tuple #[r0, .int .i64 (↑(wtC s x))] ∧ Sl m' r0 (wtL s x 1)) := by
 obtain ⟨v1, v3, rfl, hs2, hs4⟩ := hs
 have hl5 := hs2.le
 have hl6 := hs4.le
 obtain rfl := hx
 have hnV := hok.nV
 have hnX := hok.nX
 refine Pure.start Try.func133 rfl Try.ntmps133 rfl fun wld => ?_
 refine WC.seq ?_
 refine WC.region ?_
 refine WL.tn (T.boxB rfl rfl) (by decide) fun b7 => ?_
 refine WL.tn (T.boxB rfl rfl) (by decide) fun b8 => ?_
 refine WL.x (X.assign rfl) (by decide) ?_
 refine WL.x (X.assign rfl) (by decide) ?_
 refine WL.nil ?_
 refine WK.nThen ?_
 refine WC.seq ?_
 refine WK.ownF Int 3 ?_
 refine WC.region ?_
 refine WL.x (X.assign rfl) (by decide) ?_
 refine WL.nil ?_
 refine WK.nThen ?_
 refine WC.seq ?_
 refine WC.region ?_
 refine WL.x (X.assign rfl) (by decide) ?_
 refine WL.nil ?_
 refine WK.nThen ?_
 refine WC.seq ?_
 refine WC.seq ?_
 refine WC.region ?_
 refine WL.x (X.assign rfl) (by decide) ?_
 refine WL.nil ?_
 refine WK.nThen ?_
 refine WC.block ?_
 refine WC.loop (G := Nat × Value × Int) (fun (k, vo, n) => s.Values.length - k) (fun (k, vo, n) => m) (fun (k, vo, n) => [rowF (vo) 3 ((List.range k).map (wt1 s x)), blk b8 33 [.int .i64 (x.Lo), .int .i64 (x.Hi)], blk b7 25 [v1, v3]]) (fun (k, vo, n) => [(2, .pointer (some ⟨b7, 0, none⟩)), (3, .pointer (some ⟨b8, 0, none⟩)), (6, vo), (7, .int .i64 (n)), (8, .int .i64 (↑k))]) (fun (k, vo, n) => k ≤ s.Values.length ∧ n = ↑(wtN s x k)) ((0, Value.slice none 0 0, 0)) rfl (.refl _) (.cons rfl (.cons rfl (.cons rfl (.cons rfl (.cons rfl .nil))))) ?_ ?_
 ·exact ⟨Nat.zero_le _, rfl⟩
 ·rintro ⟨k, vo, n⟩ hF9
  show WK _ _ m [rowF (vo) 3 ((List.range k).map (wt1 s x)), blk b8 33 [.int .i64 (x.Lo), .int .i64 (x.Hi)], blk b7 25 [v1, v3]] [(2, .pointer (some ⟨b7, 0, none⟩)), (3, .pointer (some ⟨b8, 0, none⟩)), (6, vo), (7, .int .i64 (n)), (8, .int .i64 (↑k))] _
  replace hF9 : k ≤ s.Values.length ∧ n = ↑(wtN s x k) := hF9
  obtain ⟨hk, hn⟩ := hF9
  have hwl := wtN_len s x k
  refine WC.seq ?_
  refine WC.seq ?_
  refine WC.region ?_
  refine WL.x (X.move rfl) (by decide) ?_
  refine WL.x (X.field Try.runUnderlying25 rfl Try.sizeOf22 rfl) (by decide) ?_
  refine WL.x (X.loadB (k := 2) Try.isAgg22 rfl rfl rfl) (by decide) ?_
  refine WL.x (X.len Try.runUnderlying22 rfl hs2) (by decide) ?_
  refine WL.cond (X.lss rfl rfl) (by decide) (fun h10 => ?_) (fun h10 => ?_)
  ·refine WL.nil ?_
   refine WK.nThen ?_
   refine WC.condT rfl ?_
   refine WC.skip ?_
   refine WK.nThen ?_
   refine WC.seq ?_
   refine WC.block ?_
   refine WC.seq ?_
   refine WC.region ?_
   refine WL.x (X.assign rfl) (by decide) ?_
   refine WL.nil ?_
   refine WK.nThen ?_
   refine WC.seq ?_
   refine WC.seq ?_
   refine WC.draw (π := (.cons 0 (.cons 1 (.cons 2 (.cons 3 (.cons 4 (.cons 5 (.cons 6 (.cons 7 (.cons 8 (.cons 9 (.cons 10 .done)))))))))))) [] [] rfl (by kernel_rfl) ?_
   refine DW.x rfl rfl (X.field Try.runUnderlying25 rfl Try.sizeOf22 rfl) (by decide) ?_
   refine DW.x rfl rfl (X.loadB (k := 2) Try.isAgg22 rfl rfl rfl) (by decide) ?_
   refine DW.x rfl rfl (X.move rfl) (by decide) ?_
   refine DW.xe rfl rfl (E.idxN k Try.runUnderlying22 Try.sizeOf62 rfl rfl hs2 (by omega)) (by decide) (fun p11 hp12 => ?_)
   have hp13 := At.Val_0 hp12
   refine DW.x rfl rfl (X.field Try.runUnderlying62 rfl Try.sizeOf3 rfl) (by decide) ?_
   refine DW.x rfl rfl (X.loadInt Try.isAgg3 rfl hp13) (by decide) ?_
   refine DW.x rfl rfl (X.field Try.runUnderlying33 rfl Try.sizeOf3 rfl) (by decide) ?_
   refine DW.x rfl rfl (X.loadB (k := 1) Try.isAgg3 rfl rfl rfl) (by decide) ?_
   refine DW.x rfl rfl (X.field Try.runUnderlying33 rfl Try.sizeOf3 rfl) (by decide) ?_
   refine DW.x rfl rfl (X.loadB (k := 1) Try.isAgg3 rfl rfl rfl) (by decide) ?_
   refine DW.cond rfl rfl (X.call Try.call86 rfl (within86 _ _ _ _ )) (by decide) (fun h14 => ?_) (fun h14 => ?_)
   ·refine DW.nil ?_
    refine WK.nThen ?_
    refine WC.condT rfl ?_
    refine WC.region ?_
    refine WL.x (X.assign rfl) (by decide) ?_
    refine WL.nil ?_
    refine WK.nThen ?_
    refine WC.seq ?_
    refine WC.region ?_
    refine WL.x (X.move rfl) (by decide) ?_
    refine WL.x (X.move rfl) (by decide) ?_
    refine WL.tl (T.lit1 sl28 rfl rfl rfl (by decide)) (by decide) fun b15 => ?_
    refine WL.ta (T.appendF (k := 0) (a := (1 : Int)) sl28 rfl rfl rfl rfl (by first | omega | (simp; omega)) (by decide)) (by decide) (fun v16 => ?_)
    refine WL.x (X.assign rfl) (by decide) ?_
    refine WL.nil ?_
    refine WK.nThen ?_
    refine WC.region ?_
    refine WL.x (X.move rfl) (by decide) ?_
    refine WL.x (X.move rfl) (by decide) ?_
    refine WL.x (X.add rfl rfl (by omega) (by omega)) (by decide) ?_
    refine WL.x (X.assign rfl) (by decide) ?_
    refine WL.nil ?_
    refine WK.nBlock ?_
    refine WK.nThen ?_
    refine WC.region ?_
    refine WL.x (X.move rfl) (by decide) ?_
    refine WL.x (X.add rfl rfl (by omega) (by omega)) (by decide) ?_
    refine WL.x (X.assign rfl) (by decide) ?_
    refine WL.nil ?_
    refine WK.nThen ?_
    have he17 : (((List.range k).map (wt1 s x)) ++ [1]) = ((List.range (k + 1)).map (wt1 s x)) := (by first | exact wt1_yes (by unfold inT; omega) | exact wt1_no (by unfold inT; omega))
    rw [he17]
    refine WK.next ((k + 1, v16, n + 1)) rfl (.refl _) (.cons rfl (.cons rfl (.cons rfl (.cons rfl (.cons rfl .nil))))) ?_ ?_
    ·first | exact ⟨by omega, by rw [wtN_yes (by unfold inT; omega)]; omega⟩ | exact ⟨by omega, by rw [wtN_no (by unfold inT; omega)]; omega⟩
    ·(dsimp only; omega)
   ·refine DW.nil ?_
    refine WK.nThen ?_
    refine WC.condF rfl ?_
    refine WC.skip ?_
    refine WK.nThen ?_
    refine WC.seq ?_
    refine WC.region ?_
    refine WL.x (X.move rfl) (by decide) ?_
    refine WL.x (X.move rfl) (by decide) ?_
    refine WL.tl (T.lit1 sl28 rfl rfl rfl (by decide)) (by decide) fun b18 => ?_
    refine WL.ta (T.appendF (k := 0) (a := (0 : Int)) sl28 rfl rfl rfl rfl (by first | omega | (simp; omega)) (by decide)) (by decide) (fun v19 => ?_)
    refine WL.x (X.assign rfl) (by decide) ?_
    refine WL.nil ?_
    refine WK.nThen ?_
    refine WC.region ?_
    refine WL.x (X.move rfl) (by decide) ?_
    refine WL.x (X.move rfl) (by decide) ?_
    refine WL.x (X.add rfl rfl (by omega) (by omega)) (by decide) ?_
    refine WL.x (X.assign rfl) (by decide) ?_
    refine WL.nil ?_
    refine WK.nBlock ?_
    refine WK.nThen ?_
    refine WC.region ?_
    refine WL.x (X.move rfl) (by decide) ?_
    refine WL.x (X.add rfl rfl (by omega) (by omega)) (by decide) ?_
    refine WL.x (X.assign rfl) (by decide) ?_
    refine WL.nil ?_
    refine WK.nThen ?_
    have he20 : (((List.range k).map (wt1 s x)) ++ [0]) = ((List.range (k + 1)).map (wt1 s x)) := (by first | exact wt1_yes (by unfold inT; omega) | exact wt1_no (by unfold inT; omega))
    rw [he20]
    refine WK.next ((k + 1, v19, n + 0)) rfl (.refl _) (.cons rfl (.cons rfl (.cons rfl (.cons rfl (.cons rfl .nil))))) ?_ ?_
    ·first | exact ⟨by omega, by rw [wtN_yes (by unfold inT; omega)]; omega⟩ | exact ⟨by omega, by rw [wtN_no (by unfold inT; omega)]; omega⟩
    ·(dsimp only; omega)
  ·refine WL.nil ?_
   refine WK.nThen ?_
   refine WC.condF rfl ?_
   refine WC.exit ?_
   refine WK.eThen ?_
   refine WK.eThen ?_
   refine WK.eHit ?_
   refine WK.nThen ?_
   refine WC.seq ?_
   obtain rfl : k = s.Values.length := (by omega)
   refine WC.region ?_
   refine WL.x (X.move rfl) (by decide) ?_
   refine WL.x (X.move rfl) (by decide) ?_
   refine WL.x (X.assign rfl) (by decide) ?_
   refine WL.x (X.assign rfl) (by decide) ?_
   refine WL.nil ?_
   refine WK.nThen ?_
   refine WC.ret ?_
   refine WK.freezeF 0 rfl rfl (by simp [lenB]; omega) (fun m21 hle22 hs23 => ?_)
   replace hs2 := hs2.mono hle22
   replace hs4 := hs4.mono hle22
   refine WK.ret2 rfl rfl rfl (fun w' hw' => Ret.mem hw' ?_)
   exact ⟨_, tup2 rfl (int_eq hn), hs23⟩

theorem asked131 (m : Mem) (cs : List Value) (s : Ser) (hs : Enc.rd m cs s) (cx : List Value) (x : Span) (hx : Enc.rd m cx x)   : Pure Try.prog 131 #[.agg cs.toArray, .agg cx.toArray] m (fun m' v => ∃ r0, v = .tuple #[r0, .int .i64 ((askR s x).2.1), .int .i64 ((askR s x).2.2)] ∧ Sl m' r0 ((askR s x).1)) := by
 obtain ⟨v1, v3, rfl, hs2, hs4⟩ := hs
 have hl5 := hs2.le
 have hl6 := hs4.le
 obtain rfl := hx
 refine Pure.start Try.func131 rfl Try.ntmps131 rfl fun wld => ?_
 refine WC.seq ?_
 refine WC.region ?_
 refine WL.tn (T.boxB rfl rfl) (by decide) fun b7 => ?_
 refine WL.tn (T.boxB rfl rfl) (by decide) fun b8 => ?_
 refine WL.x (X.assign rfl) (by decide) ?_
 refine WL.x (X.assign rfl) (by decide) ?_
 refine WL.x (X.assign rfl) (by decide) ?_
 refine WL.nil ?_
 refine WK.nThen ?_
 refine WC.seq ?_
 refine WC.region ?_
 refine WL.x (X.loadBA (k := 1) Try.isAgg25 Try.sizeOf25 rfl rfl rfl) (by decide) ?_
 refine WL.x (X.call Try.call97 rfl (check97 _ _ s ⟨_, _, rfl, hs2, hs4⟩ )) (by decide) ?_
 refine WL.x (X.assign rfl) (by decide) ?_
 refine WL.nil ?_
 refine WK.nThen ?_
 refine WC.seq ?_
 refine WC.seq ?_
 refine WC.region ?_
 refine WL.x (X.move rfl) (by decide) ?_
 refine WL.condn (X.neq rfl rfl) (by decide) (fun h9 => ?_) (fun h9 => ?_)
 ·refine WL.nil ?_
  refine WK.nThen ?_
  refine WC.condT rfl ?_
  refine WC.seq ?_
  refine WC.region ?_
  refine WL.x (X.move rfl) (by decide) ?_
  refine WL.x (X.assign rfl) (by decide) ?_
  refine WL.x (X.assign rfl) (by decide) ?_
  refine WL.x (X.assign rfl) (by decide) ?_
  refine WL.nil ?_
  refine WK.nThen ?_
  refine WC.ret ?_
  refine WK.rThen ?_
  refine WK.ret3 rfl rfl rfl rfl (fun w' hw' => Ret.mem hw' ?_)
  first | exact ⟨_, tup3 rfl (int_eq (by rw [askR_err (by omega)])) (int_eq (by rw [askR_err (by omega)])), by rw [askR_err (by omega)]; exact .nil⟩ | exact ⟨_, tup3 rfl (int_eq (by rw [askR_arg (by omega) (by assumption)])) (int_eq (by rw [askR_arg (by omega) (by assumption)])), by rw [askR_arg (by omega) (by assumption)]; exact .nil⟩ | exact ⟨_, tup3 rfl (int_eq (by rw [askR_none (by omega) (by assumption) (by omega)])) (int_eq (by rw [askR_none (by omega) (by assumption) (by omega)])), by rw [askR_none (by omega) (by assumption) (by omega)]; exact .nil⟩
 ·refine WL.nil ?_
  refine WK.nThen ?_
  refine WC.condF rfl ?_
  refine WC.skip ?_
  refine WK.nThen ?_
  refine WC.seq ?_
  refine WC.seq ?_
  refine WC.region ?_
  refine WL.x (X.loadBA (k := 0) Try.isAgg33 Try.sizeOf33 rfl rfl rfl) (by decide) ?_
  refine WL.cond (X.call Try.call132 rfl (valid132 _ _ x rfl )) (by decide) (fun h10 => ?_) (fun h10 => ?_)
  ·refine WL.x (X.not rfl) (by decide) ?_
   refine WL.nil ?_
   refine WK.nThen ?_
   refine WC.condF rfl ?_
   refine WC.skip ?_
   refine WK.nThen ?_
   refine WC.seq ?_
   have hok := Ok.of (s := s) (by omega)
   refine WC.region ?_
   refine WL.x (X.loadBA (k := 1) Try.isAgg25 Try.sizeOf25 rfl rfl rfl) (by decide) ?_
   refine WL.x (X.loadBA (k := 0) Try.isAgg33 Try.sizeOf33 rfl rfl rfl) (by decide) ?_
   refine WL.tm (T.call Try.call133 rfl (in133 _ _ s ⟨_, _, rfl, hs2, hs4⟩ _ x rfl (by assumption))) (by decide) fun m11 r12 hle13 hR14 => ?_
   obtain ⟨v15, rfl, hs16⟩ := hR14
   replace hs2 := hs2.mono hle13
   replace hs4 := hs4.mono hle13
   have hl17 := hs16.le
   refine WL.x (X.move rfl) (by decide) ?_
   refine WL.x (X.extract rfl rfl) (by decide) ?_
   refine WL.x (X.extract rfl rfl) (by decide) ?_
   refine WL.x (X.assign rfl) (by decide) ?_
   refine WL.x (X.assign rfl) (by decide) ?_
   refine WL.nil ?_
   refine WK.nThen ?_
   refine WC.seq ?_
   refine WC.seq ?_
   refine WC.region ?_
   refine WL.x (X.move rfl) (by decide) ?_
   refine WL.cond (X.eql rfl rfl) (by decide) (fun h18 => ?_) (fun h18 => ?_)
   ·refine WL.nil ?_
    refine WK.nThen ?_
    refine WC.condT rfl ?_
    refine WC.seq ?_
    refine WC.region ?_
    refine WL.x (X.assign rfl) (by decide) ?_
    refine WL.x (X.assign rfl) (by decide) ?_
    refine WL.x (X.assign rfl) (by decide) ?_
    refine WL.nil ?_
    refine WK.nThen ?_
    refine WC.ret ?_
    refine WK.rThen ?_
    refine WK.ret3 rfl rfl rfl rfl (fun w' hw' => Ret.mem hw' ?_)
    first | exact ⟨_, tup3 rfl (int_eq (by rw [askR_err (by omega)])) (int_eq (by rw [askR_err (by omega)])), by rw [askR_err (by omega)]; exact .nil⟩ | exact ⟨_, tup3 rfl (int_eq (by rw [askR_arg (by omega) (by assumption)])) (int_eq (by rw [askR_arg (by omega) (by assumption)])), by rw [askR_arg (by omega) (by assumption)]; exact .nil⟩ | exact ⟨_, tup3 rfl (int_eq (by rw [askR_none (by omega) (by assumption) (by omega)])) (int_eq (by rw [askR_none (by omega) (by assumption) (by omega)])), by rw [askR_none (by omega) (by assumption) (by omega)]; exact .nil⟩
   ·refine WL.nil ?_
    refine WK.nThen ?_
    refine WC.condF rfl ?_
    refine WC.skip ?_
    refine WK.nThen ?_
    refine WC.seq ?_
    refine WC.region ?_
    refine WL.x (X.move rfl) (by decide) ?_
    refine WL.x (X.move rfl) (by decide) ?_
    refine WL.x (X.assign rfl) (by decide) ?_
    refine WL.x (X.assign rfl) (by decide) ?_
    refine WL.x (X.assign rfl) (by decide) ?_
    refine WL.nil ?_
    refine WK.nThen ?_
    refine WC.ret ?_
    refine WK.ret3 rfl rfl rfl rfl (fun w' hw' => Ret.mem hw' ?_)
    first | exact ⟨_, tup3 rfl (int_eq (by rw [askR_ok (by omega) (by assumption) (by omega)])) (int_eq (by rw [askR_ok (by omega) (by assumption) (by omega)])), by rw [askR_ok (by omega) (by assumption) (by omega)]; exact hs16⟩
  ·refine WL.x (X.not rfl) (by decide) ?_
   refine WL.nil ?_
   refine WK.nThen ?_
   refine WC.condT rfl ?_
   refine WC.seq ?_
   refine WC.region ?_
   refine WL.x (X.assign rfl) (by decide) ?_
   refine WL.x (X.assign rfl) (by decide) ?_
   refine WL.x (X.assign rfl) (by decide) ?_
   refine WL.nil ?_
   refine WK.nThen ?_
   refine WC.ret ?_
   refine WK.rThen ?_
   refine WK.ret3 rfl rfl rfl rfl (fun w' hw' => Ret.mem hw' ?_)
   first | exact ⟨_, tup3 rfl (int_eq (by rw [askR_err (by omega)])) (int_eq (by rw [askR_err (by omega)])), by rw [askR_err (by omega)]; exact .nil⟩ | exact ⟨_, tup3 rfl (int_eq (by rw [askR_arg (by omega) (by assumption)])) (int_eq (by rw [askR_arg (by omega) (by assumption)])), by rw [askR_arg (by omega) (by assumption)]; exact .nil⟩ | exact ⟨_, tup3 rfl (int_eq (by rw [askR_none (by omega) (by assumption) (by omega)])) (int_eq (by rw [askR_none (by omega) (by assumption) (by omega)])), by rw [askR_none (by omega) (by assumption) (by omega)]; exact .nil⟩

theorem mean68 (m : Mem) (cs : List Value) (s : Ser) (hs : Enc.rd m cs s) (ctimes : List Value) (times : Span) (htimes : Enc.rd m ctimes times)   : Exact Try.prog 68 #[.agg cs.toArray, .agg ctimes.toArray] m (.tuple #[.agg [.int .i64 ((mbR s times).1.Num), .int .i64 ((mbR s times).1.Den)].toArray, .agg [.int .i64 ((mbR s times).2.1.Num), .int .i64 ((mbR s times).2.1.Den)].toArray, .int .i64 ((mbR s times).2.2)]) := by
 obtain ⟨v1, v3, rfl, hs2, hs4⟩ := hs
 have hl5 := hs2.le
 have hl6 := hs4.le
 obtain rfl := htimes
 refine Exact.start Try.func68 rfl Try.ntmps68 rfl fun wld => ?_
 refine WC.seq ?_
 refine WC.region ?_
 refine WL.tn (T.boxB rfl rfl) (by decide) fun b7 => ?_
 refine WL.tn (T.boxB rfl rfl) (by decide) fun b8 => ?_
 refine WL.tn (T.alloc Try.zeroValue45 rfl) (by decide) fun b9 => ?_
 refine WL.tn (T.alloc Try.zeroValue45 rfl) (by decide) fun b10 => ?_
 refine WL.x (X.assign rfl) (by decide) ?_
 refine WL.nil ?_
 refine WK.nThen ?_
 refine WC.seq ?_
 refine WC.region ?_
 refine WL.x (X.loadBA (k := 3) Try.isAgg25 Try.sizeOf25 rfl rfl rfl) (by decide) ?_
 refine WL.x (X.loadBA (k := 2) Try.isAgg33 Try.sizeOf33 rfl rfl rfl) (by decide) ?_
 refine WL.tm (T.call Try.call131 rfl (asked131 _ _ s ⟨_, _, rfl, hs2, hs4⟩ _ times rfl )) (by decide) fun m11 r12 hle13 hR14 => ?_
 obtain ⟨v15, rfl, hs16⟩ := hR14
 replace hs2 := hs2.mono hle13
 replace hs4 := hs4.mono hle13
 have hl17 := hs16.le
 refine WL.x (X.move rfl) (by decide) ?_
 refine WL.x (X.extract rfl rfl) (by decide) ?_
 refine WL.x (X.extract rfl rfl) (by decide) ?_
 refine WL.x (X.extract rfl rfl) (by decide) ?_
 refine WL.x (X.assign rfl) (by decide) ?_
 refine WL.x (X.assign rfl) (by decide) ?_
 refine WL.x (X.assign rfl) (by decide) ?_
 refine WL.nil ?_
 refine WK.nThen ?_
 refine WC.seq ?_
 refine WC.seq ?_
 refine WC.region ?_
 refine WL.x (X.move rfl) (by decide) ?_
 refine WL.condn (X.neq rfl rfl) (by decide) (fun h18 => ?_) (fun h18 => ?_)
 ·refine WL.nil ?_
  refine WK.nThen ?_
  refine WC.condT rfl ?_
  refine WC.seq ?_
  refine WC.region ?_
  refine WL.x (V := Value.agg [.int .i64 (0), .int .i64 (0)].toArray) (X.build Try.zeroValue45 Try.runUnderlying45 (places45 _ Try.underlying45) rfl rfl) (by decide) ?_
  refine WL.x (V := Value.agg [.int .i64 (0), .int .i64 (0)].toArray) (X.build Try.zeroValue45 Try.runUnderlying45 (places45 _ Try.underlying45) rfl rfl) (by decide) ?_
  refine WL.x (X.move rfl) (by decide) ?_
  refine WL.ts (T.storeBA (k := 1) Try.sizeOf45 rfl rfl rfl (one_cons rfl (one_cons rfl one_nil)) rfl rfl) ?_
  refine WL.ts (T.storeBA (k := 0) Try.sizeOf45 rfl rfl rfl (one_cons rfl (one_cons rfl one_nil)) rfl rfl) ?_
  refine WL.x (X.assign rfl) (by decide) ?_
  refine WL.nil ?_
  refine WK.nThen ?_
  refine WC.ret ?_
  refine WK.rThen ?_
  refine WK.retC3 1 0 rfl rfl rfl rfl rfl rfl Try.isAgg45 Try.sizeOf45 Try.isAgg45 Try.sizeOf45 (fun w' hw' => Ret.exact hw' ?_)
  first | exact tup3 (agg2i (by rw [mbR_bad (by omega)]) (by rw [mbR_bad (by omega)])) (agg2i (by rw [mbR_bad (by omega)]) (by rw [mbR_bad (by omega)])) (int_eq (by rw [mbR_bad (by omega)])) | exact tup3 (agg2i (by rw [mbR_yes (by omega)]) (by rw [mbR_yes (by omega)])) (agg2i (by rw [mbR_yes (by omega)]) (by rw [mbR_yes (by omega)])) (int_eq (by rw [mbR_yes (by omega)]))
 ·refine WL.nil ?_
  refine WK.nThen ?_
  refine WC.condF rfl ?_
  refine WC.skip ?_
  refine WK.nThen ?_
  refine WC.seq ?_
  have hz := askR_zero (by omega)
  have hok := hz.1
  have hnV := hok.nV
  have hwc := hz.2.2.1
  have hwd := wtC_le s times
  have ha1 : (askR s times).1 = wtL s times 1 := (by rw [hz.2.2.2])
  have ha2 : (askR s times).2.1 = ↑(wtC s times) := (by rw [hz.2.2.2])
  have hfw := wt_fac (s := s) (x := times) (c := 1) (by omega)
  have hwl := wtL_len s times 1
  have hbb := bd_bd hok hfw
  rw [ha1] at hs16
  rw [ha2]
  refine WC.region ?_
  refine WL.x (X.loadBA (k := 3) Try.isAgg25 Try.sizeOf25 rfl rfl rfl) (by decide) ?_
  refine WL.x (X.move rfl) (by decide) ?_
  refine WL.x (X.call Try.call123 rfl (bounds123 _ _ s ⟨_, _, rfl, hs2, hs4⟩ _ _ hs16 (by assumption) (by first | assumption | exact momL_fac (by assumption)))) (by decide) ?_
  refine WL.tn (T.alloc Try.zeroValue33 rfl) (by decide) fun b19 => ?_
  refine WL.ts (T.storeBA (k := 0) Try.sizeOf33 rfl rfl rfl (one_cons rfl (one_cons rfl one_nil)) rfl rfl) ?_
  refine WL.nil ?_
  refine WK.nThen ?_
  refine WC.seq ?_
  refine WC.draw (π := (.cons 0 (.cons 1 (.cons 2 (.cons 3 (.cons 4 (.cons 5 (.cons 6 (.cons 7 (.cons 8 (.cons 9 (.cons 10 .done)))))))))))) [8, 9] [8, 9] rfl (by kernel_rfl) ?_
  refine DW.x rfl rfl (X.field Try.runUnderlying33 rfl Try.sizeOf3 rfl) (by decide) ?_
  refine DW.x rfl rfl (X.loadB (k := 0) Try.isAgg3 rfl rfl rfl) (by decide) ?_
  refine DW.x rfl rfl (X.move rfl) (by decide) ?_
  refine DW.x rfl rfl (X.call Try.call124 rfl (lowest124 _ _ _ (by omega) (by omega))) (by decide) ?_
  refine DW.x rfl rfl (X.field Try.runUnderlying33 rfl Try.sizeOf3 rfl) (by decide) ?_
  refine DW.x rfl rfl (X.loadB (k := 0) Try.isAgg3 rfl rfl rfl) (by decide) ?_
  refine DW.x rfl rfl (X.move rfl) (by decide) ?_
  refine DW.x rfl rfl (X.call Try.call124 rfl (lowest124 _ _ _ (by omega) (by omega))) (by decide) ?_
  refine DW.ts rfl rfl rfl rfl (T.storeBA (k := 2) Try.sizeOf45 rfl rfl rfl (one_cons rfl (one_cons rfl one_nil)) rfl rfl) ?_
  refine DW.ts rfl rfl rfl rfl (T.storeBA (k := 1) Try.sizeOf45 rfl rfl rfl (one_cons rfl (one_cons rfl one_nil)) rfl rfl) ?_
  refine DW.x rfl rfl (X.assign rfl) (by decide) ?_
  refine DW.nil ?_
  refine WK.nThen ?_
  refine WC.ret ?_
  refine WK.retC3 2 1 rfl rfl rfl rfl rfl rfl Try.isAgg45 Try.sizeOf45 Try.isAgg45 Try.sizeOf45 (fun w' hw' => Ret.exact hw' ?_)
  first | exact tup3 (agg2i (by rw [mbR_bad (by omega)]) (by rw [mbR_bad (by omega)])) (agg2i (by rw [mbR_bad (by omega)]) (by rw [mbR_bad (by omega)])) (int_eq (by rw [mbR_bad (by omega)])) | exact tup3 (agg2i (by rw [mbR_yes (by omega)]) (by rw [mbR_yes (by omega)])) (agg2i (by rw [mbR_yes (by omega)]) (by rw [mbR_yes (by omega)])) (int_eq (by rw [mbR_yes (by omega)]))

theorem moved143 (m : Mem) (cs : List Value) (s : Ser) (hs : Enc.rd m cs s) (a : Int) (b : Int)  (hok : Ok s) : Exact Try.prog 143 #[.agg cs.toArray, .int .i64 (a), .int .i64 (b)] m (.agg [.int .i64 ((bt s.Shifts a b).Lo), .int .i64 ((bt s.Shifts a b).Hi)].toArray) := by
 obtain ⟨v1, v3, rfl, hs2, hs4⟩ := hs
 have hl5 := hs2.le
 have hl6 := hs4.le
 have hnV := hok.nV
 have hnX := hok.nX
 refine Exact.start Try.func143 rfl Try.ntmps143 rfl fun wld => ?_
 refine WC.seq ?_
 refine WC.region ?_
 refine WL.tn (T.boxB rfl rfl) (by decide) fun b7 => ?_
 refine WL.tn (T.alloc Try.zeroValue33 rfl) (by decide) fun b8 => ?_
 refine WL.nil ?_
 refine WK.nThen ?_
 refine WC.seq ?_
 refine WC.region ?_
 refine WL.tn (T.alloc Try.zeroValue33 rfl) (by decide) fun b9 => ?_
 refine WL.nil ?_
 refine WK.nThen ?_
 refine WC.seq ?_
 refine WC.seq ?_
 refine WC.region ?_
 refine WL.x (X.assign rfl) (by decide) ?_
 refine WL.nil ?_
 refine WK.nThen ?_
 refine WC.block ?_
 refine WC.loop (G := Nat × Int × Int) (fun (k, lo, hi) => s.Shifts.length - k) (fun (k, lo, hi) => m) (fun (k, lo, hi) => [blk b9 33 [.int .i64 (lo), .int .i64 (hi)], blk b8 33 [.int .i64 (0), .int .i64 (0)], blk b7 25 [v1, v3]]) (fun (k, lo, hi) => [(1, .int .i64 (a)), (2, .int .i64 (b)), (3, .pointer (some ⟨b7, 0, none⟩)), (6, .pointer (some ⟨b8, 0, none⟩)), (7, .pointer (some ⟨b9, 0, none⟩)), (8, .int .i64 (↑k))]) (fun (k, lo, hi) => k ≤ s.Shifts.length ∧ lo = btLo s.Shifts a b k ∧ hi = btHi s.Shifts a b k) ((0, 0, 0)) rfl (.refl _) (.cons rfl (.cons rfl (.cons rfl (.cons rfl (.cons rfl (.cons rfl .nil)))))) ?_ ?_
 ·exact ⟨Nat.zero_le _, (by first | rfl | simp [offN, sumN, totN, btLo, btHi]), (by first | rfl | simp [offN, sumN, totN, btLo, btHi])⟩
 ·rintro ⟨k, lo, hi⟩ hF10
  show WK _ _ m [blk b9 33 [.int .i64 (lo), .int .i64 (hi)], blk b8 33 [.int .i64 (0), .int .i64 (0)], blk b7 25 [v1, v3]] [(1, .int .i64 (a)), (2, .int .i64 (b)), (3, .pointer (some ⟨b7, 0, none⟩)), (6, .pointer (some ⟨b8, 0, none⟩)), (7, .pointer (some ⟨b9, 0, none⟩)), (8, .int .i64 (↑k))] _
  replace hF10 : k ≤ s.Shifts.length ∧ lo = btLo s.Shifts a b k ∧ hi = btHi s.Shifts a b k := hF10
  obtain ⟨hk, hlo, hhi⟩ := hF10
  have hbb := bt_bd hok a b (n := k) (by omega)
  have hxl := fun h => hok.xl (i := k) h
  refine WC.seq ?_
  refine WC.seq ?_
  refine WC.region ?_
  refine WL.x (X.move rfl) (by decide) ?_
  refine WL.x (X.field Try.runUnderlying25 rfl Try.sizeOf23 rfl) (by decide) ?_
  refine WL.x (X.loadB (k := 2) Try.isAgg23 rfl rfl rfl) (by decide) ?_
  refine WL.x (X.len Try.runUnderlying23 rfl hs4) (by decide) ?_
  refine WL.cond (X.lss rfl rfl) (by decide) (fun h11 => ?_) (fun h11 => ?_)
  ·refine WL.nil ?_
   refine WK.nThen ?_
   refine WC.condT rfl ?_
   refine WC.skip ?_
   refine WK.nThen ?_
   refine WC.seq ?_
   refine WC.block ?_
   refine WC.seq ?_
   refine WC.region ?_
   refine WL.x (X.field Try.runUnderlying25 rfl Try.sizeOf23 rfl) (by decide) ?_
   refine WL.x (X.loadB (k := 2) Try.isAgg23 rfl rfl rfl) (by decide) ?_
   refine WL.x (X.move rfl) (by decide) ?_
   refine WL.xe (E.idxN k Try.runUnderlying23 Try.sizeOf72 rfl rfl hs4 (by omega)) (by decide) (fun p12 hp13 => ?_)
   have hp14 := At.Shf_0 hp13
   refine WL.x (X.field Try.runUnderlying72 rfl Try.sizeOf3 rfl) (by decide) ?_
   refine WL.x (X.loadInt Try.isAgg3 rfl hp14) (by decide) ?_
   refine WL.x (X.move rfl) (by decide) ?_
   refine WL.cond (X.gtr rfl rfl) (by decide) (fun h15 => ?_) (fun h15 => ?_)
   ·refine WL.x (X.move rfl) (by decide) ?_
    refine WL.yes rfl rfl ?_
    refine WL.x (X.field Try.runUnderlying25 rfl Try.sizeOf23 rfl) (by decide) ?_
    refine WL.yes rfl rfl ?_
    refine WL.x (X.loadB (k := 2) Try.isAgg23 rfl rfl rfl) (by decide) ?_
    refine WL.yes rfl rfl ?_
    refine WL.x (X.move rfl) (by decide) ?_
    refine WL.yes rfl rfl ?_
    refine WL.xe (E.idxN k Try.runUnderlying23 Try.sizeOf72 rfl rfl hs4 (by omega)) (by decide) (fun p16 hp17 => ?_)
    refine WL.yes rfl rfl ?_
    have hp18 := At.Shf_0 hp17
    refine WL.x (X.field Try.runUnderlying72 rfl Try.sizeOf3 rfl) (by decide) ?_
    refine WL.yes rfl rfl ?_
    refine WL.x (X.loadInt Try.isAgg3 rfl hp18) (by decide) ?_
    refine WL.yes rfl rfl ?_
    refine WL.x (X.move rfl) (by decide) ?_
    refine WL.yes rfl rfl ?_
    refine WL.cond (X.leq rfl rfl) (by decide) (fun h19 => ?_) (fun h19 => ?_)
    ·refine WL.x (X.pickT rfl rfl rfl) (by decide) ?_
     refine WL.nil ?_
     refine WK.nThen ?_
     refine WC.condT rfl ?_
     refine WC.seq ?_
     refine WC.draw (π := (.cons 0 (.cons 1 (.cons 2 (.cons 3 (.cons 4 (.cons 5 (.cons 6 (.cons 7 (.cons 8 (.cons 9 (.cons 10 (.cons 11 .done))))))))))))) [11] [11] rfl (by kernel_rfl) ?_
     refine DW.x rfl rfl (X.field Try.runUnderlying33 rfl Try.sizeOf3 rfl) (by decide) ?_
     refine DW.x rfl rfl (X.loadB (k := 0) Try.isAgg3 rfl rfl rfl) (by decide) ?_
     refine DW.x rfl rfl (X.field Try.runUnderlying25 rfl Try.sizeOf23 rfl) (by decide) ?_
     refine DW.x rfl rfl (X.loadB (k := 2) Try.isAgg23 rfl rfl rfl) (by decide) ?_
     refine DW.x rfl rfl (X.move rfl) (by decide) ?_
     refine DW.xe rfl rfl (E.idxN k Try.runUnderlying23 Try.sizeOf72 rfl rfl hs4 (by omega)) (by decide) (fun p20 hp21 => ?_)
     have hp22 := At.Shf_1 hp21
     refine DW.x rfl rfl (X.field Try.runUnderlying72 rfl Try.sizeOf33 rfl) (by decide) ?_
     have hp23 := At.Span_0 hp22
     refine DW.x rfl rfl (X.field Try.runUnderlying33 rfl Try.sizeOf3 rfl) (by decide) ?_
     refine DW.x rfl rfl (X.loadInt Try.isAgg3 rfl hp23) (by decide) ?_
     refine DW.x rfl rfl (X.add rfl rfl (by omega) (by omega)) (by decide) ?_
     refine DW.x rfl rfl (X.field Try.runUnderlying33 rfl Try.sizeOf3 rfl) (by decide) ?_
     refine DW.ts rfl rfl rfl rfl (T.storeB (k := 0) Try.sizeOf3 rfl rfl rfl rfl (Nat.le_of_ble_eq_true rfl)) ?_
     refine DW.nil ?_
     refine WK.nThen ?_
     refine WC.draw (π := (.cons 0 (.cons 1 (.cons 2 (.cons 3 (.cons 4 (.cons 5 (.cons 6 (.cons 7 (.cons 8 (.cons 9 (.cons 10 (.cons 11 .done))))))))))))) [11] [11] rfl (by kernel_rfl) ?_
     refine DW.x rfl rfl (X.field Try.runUnderlying33 rfl Try.sizeOf3 rfl) (by decide) ?_
     refine DW.x rfl rfl (X.loadB (k := 0) Try.isAgg3 rfl rfl rfl) (by decide) ?_
     refine DW.x rfl rfl (X.field Try.runUnderlying25 rfl Try.sizeOf23 rfl) (by decide) ?_
     refine DW.x rfl rfl (X.loadB (k := 2) Try.isAgg23 rfl rfl rfl) (by decide) ?_
     refine DW.x rfl rfl (X.move rfl) (by decide) ?_
     refine DW.xe rfl rfl (E.idxN k Try.runUnderlying23 Try.sizeOf72 rfl rfl hs4 (by omega)) (by decide) (fun p24 hp25 => ?_)
     have hp26 := At.Shf_1 hp25
     refine DW.x rfl rfl (X.field Try.runUnderlying72 rfl Try.sizeOf33 rfl) (by decide) ?_
     have hp27 := At.Span_1 hp26
     refine DW.x rfl rfl (X.field Try.runUnderlying33 rfl Try.sizeOf3 rfl) (by decide) ?_
     refine DW.x rfl rfl (X.loadInt Try.isAgg3 rfl hp27) (by decide) ?_
     refine DW.x rfl rfl (X.add rfl rfl (by omega) (by omega)) (by decide) ?_
     refine DW.x rfl rfl (X.field Try.runUnderlying33 rfl Try.sizeOf3 rfl) (by decide) ?_
     refine DW.ts rfl rfl rfl rfl (T.storeB (k := 0) Try.sizeOf3 rfl rfl rfl rfl (Nat.le_of_ble_eq_true rfl)) ?_
     refine DW.nil ?_
     refine WK.nBlock ?_
     refine WK.nThen ?_
     refine WC.region ?_
     refine WL.x (X.move rfl) (by decide) ?_
     refine WL.x (X.add rfl rfl (by omega) (by omega)) (by decide) ?_
     refine WL.x (X.assign rfl) (by decide) ?_
     refine WL.nil ?_
     refine WK.nThen ?_
     refine WK.next ((k + 1, lo + (((gt s.Shifts k).Levels).Lo), hi + (((gt s.Shifts k).Levels).Hi))) rfl (.refl _) (.cons rfl (.cons rfl (.cons rfl (.cons rfl (.cons rfl (.cons rfl .nil)))))) ?_ ?_
     ·refine ⟨by omega, ?_, ?_⟩
      ·have hs_ : btLo s.Shifts a b (k + 1) = btLo s.Shifts a b k + (if a < (gt s.Shifts k).Time ∧ (gt s.Shifts k).Time ≤ b then (gt s.Shifts k).Levels.Lo else 0) := rfl
       (repeat' split at hs_) <;> (try dsimp only at hs_) <;> first | omega | contradiction
      ·have hs_ : btHi s.Shifts a b (k + 1) = btHi s.Shifts a b k + (if a < (gt s.Shifts k).Time ∧ (gt s.Shifts k).Time ≤ b then (gt s.Shifts k).Levels.Hi else 0) := rfl
       (repeat' split at hs_) <;> (try dsimp only at hs_) <;> first | omega | contradiction
     ·(dsimp only; omega)
    ·refine WL.x (X.pickT rfl rfl rfl) (by decide) ?_
     refine WL.nil ?_
     refine WK.nThen ?_
     refine WC.condF rfl ?_
     refine WC.skip ?_
     refine WK.nBlock ?_
     refine WK.nThen ?_
     refine WC.region ?_
     refine WL.x (X.move rfl) (by decide) ?_
     refine WL.x (X.add rfl rfl (by omega) (by omega)) (by decide) ?_
     refine WL.x (X.assign rfl) (by decide) ?_
     refine WL.nil ?_
     refine WK.nThen ?_
     refine WK.next ((k + 1, lo, hi)) rfl (.refl _) (.cons rfl (.cons rfl (.cons rfl (.cons rfl (.cons rfl (.cons rfl .nil)))))) ?_ ?_
     ·refine ⟨by omega, ?_, ?_⟩
      ·have hs_ : btLo s.Shifts a b (k + 1) = btLo s.Shifts a b k + (if a < (gt s.Shifts k).Time ∧ (gt s.Shifts k).Time ≤ b then (gt s.Shifts k).Levels.Lo else 0) := rfl
       (repeat' split at hs_) <;> (try dsimp only at hs_) <;> first | omega | contradiction
      ·have hs_ : btHi s.Shifts a b (k + 1) = btHi s.Shifts a b k + (if a < (gt s.Shifts k).Time ∧ (gt s.Shifts k).Time ≤ b then (gt s.Shifts k).Levels.Hi else 0) := rfl
       (repeat' split at hs_) <;> (try dsimp only at hs_) <;> first | omega | contradiction
     ·(dsimp only; omega)
   ·refine WL.x (X.move rfl) (by decide) ?_
    refine WL.no rfl rfl rfl (by decide) ?_
    refine WL.no rfl rfl rfl (by decide) ?_
    refine WL.no rfl rfl rfl (by decide) ?_
    refine WL.no rfl rfl rfl (by decide) ?_
    refine WL.no rfl rfl rfl (by decide) ?_
    refine WL.no rfl rfl rfl (by decide) ?_
    refine WL.no rfl rfl rfl (by decide) ?_
    refine WL.no rfl rfl rfl (by decide) ?_
    refine WL.x (X.pickF rfl rfl rfl) (by decide) ?_
    refine WL.nil ?_
    refine WK.nThen ?_
    refine WC.condF rfl ?_
    refine WC.skip ?_
    refine WK.nBlock ?_
    refine WK.nThen ?_
    refine WC.region ?_
    refine WL.x (X.move rfl) (by decide) ?_
    refine WL.x (X.add rfl rfl (by omega) (by omega)) (by decide) ?_
    refine WL.x (X.assign rfl) (by decide) ?_
    refine WL.nil ?_
    refine WK.nThen ?_
    refine WK.next ((k + 1, lo, hi)) rfl (.refl _) (.cons rfl (.cons rfl (.cons rfl (.cons rfl (.cons rfl (.cons rfl .nil)))))) ?_ ?_
    ·refine ⟨by omega, ?_, ?_⟩
     ·have hs_ : btLo s.Shifts a b (k + 1) = btLo s.Shifts a b k + (if a < (gt s.Shifts k).Time ∧ (gt s.Shifts k).Time ≤ b then (gt s.Shifts k).Levels.Lo else 0) := rfl
      (repeat' split at hs_) <;> (try dsimp only at hs_) <;> first | omega | contradiction
     ·have hs_ : btHi s.Shifts a b (k + 1) = btHi s.Shifts a b k + (if a < (gt s.Shifts k).Time ∧ (gt s.Shifts k).Time ≤ b then (gt s.Shifts k).Levels.Hi else 0) := rfl
      (repeat' split at hs_) <;> (try dsimp only at hs_) <;> first | omega | contradiction
    ·(dsimp only; omega)
  ·refine WL.nil ?_
   refine WK.nThen ?_
   refine WC.condF rfl ?_
   refine WC.exit ?_
   refine WK.eThen ?_
   refine WK.eThen ?_
   refine WK.eHit ?_
   refine WK.nThen ?_
   refine WC.seq ?_
   refine WC.region ?_
   refine WL.x (X.loadBA (k := 0) Try.isAgg33 Try.sizeOf33 rfl rfl rfl) (by decide) ?_
   refine WL.ts (T.storeBA (k := 1) Try.sizeOf33 rfl rfl rfl (one_cons rfl (one_cons rfl one_nil)) rfl rfl) ?_
   refine WL.nil ?_
   refine WK.nThen ?_
   refine WC.ret ?_
   refine WK.retC1 1 rfl rfl rfl Try.isAgg33 Try.sizeOf33 (fun w' hw' => Ret.exact hw' ?_)
   exact agg2i (by rw [hlo, show k = s.Shifts.length by omega]; rfl) (by rw [hhi, show k = s.Shifts.length by omega]; rfl)

theorem even111 (m : Mem) {cs : List Value} {s : Ser} (hs : Enc.rd m cs s) (hok : Ok s) (k : Nat) (ik : Int) (hik : ik = k) (hk : k < s.Values.length) : Exact Try.prog 111 #[.agg cs.toArray, .int .i64 ik] m (.agg #[.int .i64 (evS s k).Lo, .int .i64 (evS s k).Hi]) := by
 obtain ⟨v1, v3, rfl, hs2, hs4⟩ := hs
 have hl5 := hs2.le
 have hl6 := hs4.le
 subst hik
 have hnV := hok.nV
 have hnX := hok.nX
 have hbb := bt_bd hok (-1) (gt s.Values k).Time (Nat.le_refl _)
 have hvl := hok.vl hk
 have hb1 : (bt s.Shifts (-1) (gt s.Values k).Time).Lo = btLo s.Shifts (-1) (gt s.Values k).Time s.Shifts.length := rfl
 have hb2 : (bt s.Shifts (-1) (gt s.Values k).Time).Hi = btHi s.Shifts (-1) (gt s.Values k).Time s.Shifts.length := rfl
 refine Exact.start Try.func111 rfl Try.ntmps111 rfl fun wld => ?_
 refine WC.seq ?_
 refine WC.region ?_
 refine WL.tn (T.boxB rfl rfl) (by decide) fun b7 => ?_
 refine WL.tn (T.alloc Try.zeroValue33 rfl) (by decide) fun b8 => ?_
 refine WL.nil ?_
 refine WK.nThen ?_
 refine WC.seq ?_
 refine WC.region ?_
 refine WL.x (X.field Try.runUnderlying25 rfl Try.sizeOf22 rfl) (by decide) ?_
 refine WL.x (X.loadB (k := 1) Try.isAgg22 rfl rfl rfl) (by decide) ?_
 refine WL.x (X.move rfl) (by decide) ?_
 refine WL.xe (E.idxN k Try.runUnderlying22 Try.sizeOf62 rfl rfl hs2 (by omega)) (by decide) (fun p9 hp10 => ?_)
 refine WL.xe (E.loadAgg Try.isAgg62 Try.sizeOf62 rfl hp10) (by decide) (fun c11 hc12 => ?_)
 obtain rfl := hc12
 refine WL.tn (T.alloc Try.zeroValue62 rfl) (by decide) fun b13 => ?_
 refine WL.ts (T.storeBA (k := 0) Try.sizeOf62 rfl rfl rfl (one_cons rfl (one_cons rfl (one_cons rfl one_nil))) rfl rfl) ?_
 refine WL.nil ?_
 refine WK.nThen ?_
 refine WC.seq ?_
 refine WC.region ?_
 refine WL.x (X.loadBA (k := 2) Try.isAgg25 Try.sizeOf25 rfl rfl rfl) (by decide) ?_
 refine WL.x (X.field Try.runUnderlying62 rfl Try.sizeOf3 rfl) (by decide) ?_
 refine WL.x (X.loadB (k := 0) Try.isAgg3 rfl rfl rfl) (by decide) ?_
 refine WL.x (X.call Try.call143 rfl (moved143 _ _ s ⟨_, _, rfl, hs2, hs4⟩ _ _ (by assumption))) (by decide) ?_
 refine WL.tn (T.alloc Try.zeroValue33 rfl) (by decide) fun b14 => ?_
 refine WL.ts (T.storeBA (k := 0) Try.sizeOf33 rfl rfl rfl (one_cons rfl (one_cons rfl one_nil)) rfl rfl) ?_
 refine WL.nil ?_
 refine WK.nThen ?_
 refine WC.seq ?_
 refine WC.region ?_
 refine WL.x (X.field Try.runUnderlying62 rfl Try.sizeOf33 rfl) (by decide) ?_
 refine WL.x (X.field Try.runUnderlying33 rfl Try.sizeOf3 rfl) (by decide) ?_
 refine WL.x (X.loadB (k := 1) Try.isAgg3 rfl rfl rfl) (by decide) ?_
 refine WL.x (X.field Try.runUnderlying33 rfl Try.sizeOf3 rfl) (by decide) ?_
 refine WL.x (X.loadB (k := 0) Try.isAgg3 rfl rfl rfl) (by decide) ?_
 refine WL.x (X.sub rfl rfl (by omega) (by omega)) (by decide) ?_
 refine WL.x (X.field Try.runUnderlying62 rfl Try.sizeOf33 rfl) (by decide) ?_
 refine WL.x (X.field Try.runUnderlying33 rfl Try.sizeOf3 rfl) (by decide) ?_
 refine WL.x (X.loadB (k := 1) Try.isAgg3 rfl rfl rfl) (by decide) ?_
 refine WL.x (X.field Try.runUnderlying33 rfl Try.sizeOf3 rfl) (by decide) ?_
 refine WL.x (X.loadB (k := 0) Try.isAgg3 rfl rfl rfl) (by decide) ?_
 refine WL.x (X.sub rfl rfl (by omega) (by omega)) (by decide) ?_
 refine WL.x (V := Value.agg [.int .i64 ((((gt s.Values k).Levels).Lo) - ((bt s.Shifts ((-1)) (((gt s.Values k).Time))).Hi)), .int .i64 ((((gt s.Values k).Levels).Hi) - ((bt s.Shifts ((-1)) (((gt s.Values k).Time))).Lo))].toArray) (X.build Try.zeroValue33 Try.runUnderlying33 (places33 _ Try.underlying33) rfl rfl) (by decide) ?_
 refine WL.ts (T.storeBA (k := 2) Try.sizeOf33 rfl rfl rfl (one_cons rfl (one_cons rfl one_nil)) rfl rfl) ?_
 refine WL.nil ?_
 refine WK.nThen ?_
 refine WC.ret ?_
 refine WK.retC1 2 rfl rfl rfl Try.isAgg33 Try.sizeOf33 (fun w' hw' => Ret.exact hw' ?_)
 first | rfl | exact agg2i rfl rfl

theorem extremes69 (m : Mem) (cs : List Value) (s : Ser) (hs : Enc.rd m cs s) (ctimes : List Value) (times : Span) (htimes : Enc.rd m ctimes times)   : Exact Try.prog 69 #[.agg cs.toArray, .agg ctimes.toArray] m (.tuple #[.agg [.int .i64 ((extR s times).1.Lo), .int .i64 ((extR s times).1.Hi)].toArray, .agg [.int .i64 ((extR s times).2.1.Lo), .int .i64 ((extR s times).2.1.Hi)].toArray, .int .i64 ((extR s times).2.2)]) := by
 obtain ⟨v1, v3, rfl, hs2, hs4⟩ := hs
 have hl5 := hs2.le
 have hl6 := hs4.le
 obtain rfl := htimes
 refine Exact.start Try.func69 rfl Try.ntmps69 rfl fun wld => ?_
 refine WC.seq ?_
 refine WC.region ?_
 refine WL.tn (T.boxB rfl rfl) (by decide) fun b7 => ?_
 refine WL.tn (T.boxB rfl rfl) (by decide) fun b8 => ?_
 refine WL.tn (T.alloc Try.zeroValue33 rfl) (by decide) fun b9 => ?_
 refine WL.tn (T.alloc Try.zeroValue33 rfl) (by decide) fun b10 => ?_
 refine WL.x (X.assign rfl) (by decide) ?_
 refine WL.nil ?_
 refine WK.nThen ?_
 refine WC.seq ?_
 refine WC.region ?_
 refine WL.x (X.loadBA (k := 3) Try.isAgg25 Try.sizeOf25 rfl rfl rfl) (by decide) ?_
 refine WL.x (X.loadBA (k := 2) Try.isAgg33 Try.sizeOf33 rfl rfl rfl) (by decide) ?_
 refine WL.tm (T.call Try.call131 rfl (asked131 _ _ s ⟨_, _, rfl, hs2, hs4⟩ _ times rfl )) (by decide) fun m11 r12 hle13 hR14 => ?_
 obtain ⟨v15, rfl, hs16⟩ := hR14
 replace hs2 := hs2.mono hle13
 replace hs4 := hs4.mono hle13
 have hl17 := hs16.le
 refine WL.x (X.move rfl) (by decide) ?_
 refine WL.x (X.extract rfl rfl) (by decide) ?_
 refine WL.x (X.extract rfl rfl) (by decide) ?_
 refine WL.x (X.extract rfl rfl) (by decide) ?_
 refine WL.x (X.assign rfl) (by decide) ?_
 refine WL.x (X.assign rfl) (by decide) ?_
 refine WL.x (X.assign rfl) (by decide) ?_
 refine WL.nil ?_
 refine WK.nThen ?_
 refine WC.seq ?_
 refine WC.seq ?_
 refine WC.region ?_
 refine WL.x (X.move rfl) (by decide) ?_
 refine WL.condn (X.neq rfl rfl) (by decide) (fun h18 => ?_) (fun h18 => ?_)
 ·refine WL.nil ?_
  refine WK.nThen ?_
  refine WC.condT rfl ?_
  refine WC.seq ?_
  refine WC.region ?_
  refine WL.x (V := Value.agg [.int .i64 (0), .int .i64 (0)].toArray) (X.build Try.zeroValue33 Try.runUnderlying33 (places33 _ Try.underlying33) rfl rfl) (by decide) ?_
  refine WL.x (V := Value.agg [.int .i64 (0), .int .i64 (0)].toArray) (X.build Try.zeroValue33 Try.runUnderlying33 (places33 _ Try.underlying33) rfl rfl) (by decide) ?_
  refine WL.x (X.move rfl) (by decide) ?_
  refine WL.ts (T.storeBA (k := 1) Try.sizeOf33 rfl rfl rfl (one_cons rfl (one_cons rfl one_nil)) rfl rfl) ?_
  refine WL.ts (T.storeBA (k := 0) Try.sizeOf33 rfl rfl rfl (one_cons rfl (one_cons rfl one_nil)) rfl rfl) ?_
  refine WL.x (X.assign rfl) (by decide) ?_
  refine WL.nil ?_
  refine WK.nThen ?_
  refine WC.ret ?_
  refine WK.rThen ?_
  refine WK.retC3 1 0 rfl rfl rfl rfl rfl rfl Try.isAgg33 Try.sizeOf33 Try.isAgg33 Try.sizeOf33 (fun w' hw' => Ret.exact hw' ?_)
  first | exact tup3 (agg2i (by rw [hey, hq1]) (by rw [hey, hq2])) (agg2i (by rw [hey, hq3]) (by rw [hey, hq4])) (int_eq (by rw [hey])) | (have hq_ := extR_badQ (s := s) (x := times) (by omega); exact tup3 (agg2i (by rw [hq_]) (by rw [hq_])) (agg2i (by rw [hq_]) (by rw [hq_])) (int_eq (by rw [hq_])))
 ·refine WL.nil ?_
  refine WK.nThen ?_
  refine WC.condF rfl ?_
  refine WC.skip ?_
  refine WK.nThen ?_
  refine WC.seq ?_
  have hz := askR_zero (by omega)
  have hok := hz.1
  have hnV := hok.nV
  have hwc := hz.2.2.1
  have hwd := wtC_le s times
  have ha1 : (askR s times).1 = wtL s times 1 := (by rw [hz.2.2.2])
  have ha2 : (askR s times).2.1 = ↑(wtC s times) := (by rw [hz.2.2.2])
  have hfw := wt_fac (s := s) (x := times) (c := 1) (by omega)
  have hwl := wtL_len s times 1
  have hbb := bd_bd hok hfw
  rw [ha1] at hs16
  rw [ha2]
  refine WC.region ?_
  refine WL.x (V := Value.agg [.int .i64 (1099511627776), .int .i64 (1099511627776)].toArray) (X.build Try.zeroValue33 Try.runUnderlying33 (places33 _ Try.underlying33) rfl rfl) (by decide) ?_
  refine WL.tn (T.alloc Try.zeroValue33 rfl) (by decide) fun b19 => ?_
  refine WL.ts (T.storeBA (k := 0) Try.sizeOf33 rfl rfl rfl (one_cons rfl (one_cons rfl one_nil)) rfl rfl) ?_
  refine WL.nil ?_
  refine WK.nThen ?_
  refine WC.seq ?_
  refine WC.region ?_
  refine WL.x (V := Value.agg [.int .i64 (-1099511627776), .int .i64 (-1099511627776)].toArray) (X.build Try.zeroValue33 Try.runUnderlying33 (places33 _ Try.underlying33) rfl rfl) (by decide) ?_
  refine WL.tn (T.alloc Try.zeroValue33 rfl) (by decide) fun b20 => ?_
  refine WL.ts (T.storeBA (k := 0) Try.sizeOf33 rfl rfl rfl (one_cons rfl (one_cons rfl one_nil)) rfl rfl) ?_
  refine WL.nil ?_
  refine WK.nThen ?_
  refine WC.seq ?_
  refine WC.seq ?_
  refine WC.region ?_
  refine WL.x (X.assign rfl) (by decide) ?_
  refine WL.nil ?_
  refine WK.nThen ?_
  refine WC.block ?_
  refine WC.loop (G := Nat × Int × Int × Int × Int) (fun (k, a1, a2, a3, a4) => s.Values.length - k) (fun (k, a1, a2, a3, a4) => m11) (fun (k, a1, a2, a3, a4) => [blk b20 33 [.int .i64 (a3), .int .i64 (a4)], blk b19 33 [.int .i64 (a1), .int .i64 (a2)], blk b10 33 [.int .i64 (0), .int .i64 (0)], blk b9 33 [.int .i64 (0), .int .i64 (0)], blk b8 33 [.int .i64 (times.Lo), .int .i64 (times.Hi)], blk b7 25 [v1, v3]]) (fun (k, a1, a2, a3, a4) => [(2, .pointer (some ⟨b7, 0, none⟩)), (4, .pointer (some ⟨b9, 0, none⟩)), (5, .pointer (some ⟨b10, 0, none⟩)), (7, v15), (10, .pointer (some ⟨b19, 0, none⟩)), (11, .pointer (some ⟨b20, 0, none⟩)), (12, .int .i64 (↑k))]) (fun (k, a1, a2, a3, a4) => k ≤ s.Values.length ∧ a1 = (exQ s times k).1.Lo ∧ a2 = (exQ s times k).1.Hi ∧ a3 = (exQ s times k).2.Lo ∧ a4 = (exQ s times k).2.Hi) ((0, 1099511627776, 1099511627776, -1099511627776, -1099511627776)) rfl (.refl _) (.cons rfl (.cons rfl (.cons rfl (.cons rfl (.cons rfl (.cons rfl (.cons rfl .nil))))))) ?_ ?_
  ·exact ⟨Nat.zero_le _, rfl, rfl, rfl, rfl⟩
  ·rintro ⟨k, a1, a2, a3, a4⟩ hF21
   show WK _ _ m11 [blk b20 33 [.int .i64 (a3), .int .i64 (a4)], blk b19 33 [.int .i64 (a1), .int .i64 (a2)], blk b10 33 [.int .i64 (0), .int .i64 (0)], blk b9 33 [.int .i64 (0), .int .i64 (0)], blk b8 33 [.int .i64 (times.Lo), .int .i64 (times.Hi)], blk b7 25 [v1, v3]] [(2, .pointer (some ⟨b7, 0, none⟩)), (4, .pointer (some ⟨b9, 0, none⟩)), (5, .pointer (some ⟨b10, 0, none⟩)), (7, v15), (10, .pointer (some ⟨b19, 0, none⟩)), (11, .pointer (some ⟨b20, 0, none⟩)), (12, .int .i64 (↑k))] _
   replace hF21 : k ≤ s.Values.length ∧ a1 = (exQ s times k).1.Lo ∧ a2 = (exQ s times k).1.Hi ∧ a3 = (exQ s times k).2.Lo ∧ a4 = (exQ s times k).2.Hi := hF21
   obtain ⟨hk, hq1, hq2, hq3, hq4⟩ := hF21
   refine WC.seq ?_
   refine WC.seq ?_
   refine WC.region ?_
   refine WL.x (X.move rfl) (by decide) ?_
   refine WL.x (X.move rfl) (by decide) ?_
   refine WL.x (X.len Try.runUnderlying28 rfl hs16) (by decide) ?_
   refine WL.cond (X.lss rfl rfl) (by decide) (fun h22 => ?_) (fun h22 => ?_)
   ·refine WL.nil ?_
    refine WK.nThen ?_
    refine WC.condT rfl ?_
    refine WC.skip ?_
    refine WK.nThen ?_
    refine WC.seq ?_
    refine WC.block ?_
    refine WC.seq ?_
    have hwk : gt (wtL s times 1) k = if inT times (gt s.Values k).Time then 1 else 0 := gt_map (by omega)
    have hiy : gt (wtL s times 1) k = 1 → inT times (gt s.Values k).Time := (by intro h; rw [hwk] at h; split at h; assumption; omega)
    have hin : ¬ gt (wtL s times 1) k = 1 → ¬ inT times (gt s.Values k).Time := (by intro h h2; rw [hwk, if_pos h2] at h; omega)
    refine WC.region ?_
    refine WL.x (X.move rfl) (by decide) ?_
    refine WL.x (X.move rfl) (by decide) ?_
    refine WL.xe (E.idxN k Try.runUnderlying28 Try.sizeOf3 rfl rfl hs16 (by omega)) (by decide) (fun p23 hp24 => ?_)
    refine WL.x (X.loadInt Try.isAgg3 rfl hp24) (by decide) ?_
    refine WL.cond (X.eql rfl rfl) (by decide) (fun h25 => ?_) (fun h25 => ?_)
    ·refine WL.nil ?_
     refine WK.nThen ?_
     refine WC.condT rfl ?_
     refine WC.seq ?_
     refine WC.region ?_
     refine WL.x (X.loadBA (k := 5) Try.isAgg25 Try.sizeOf25 rfl rfl rfl) (by decide) ?_
     refine WL.x (X.move rfl) (by decide) ?_
     refine WL.x (X.call Try.call111 rfl (even111 _ ⟨_, _, rfl, hs2, hs4⟩ hok k _ (by omega) (by omega))) (by decide) ?_
     refine WL.tn (T.alloc Try.zeroValue33 rfl) (by decide) fun b26 => ?_
     refine WL.ts (T.storeBA (k := 0) Try.sizeOf33 rfl rfl rfl (one_cons rfl (one_cons rfl one_nil)) rfl rfl) ?_
     refine WL.nil ?_
     refine WK.nThen ?_
     refine WC.seq ?_
     refine WC.region ?_
     refine WL.x (X.field Try.runUnderlying33 rfl Try.sizeOf3 rfl) (by decide) ?_
     refine WL.x (X.loadB (k := 2) Try.isAgg3 rfl rfl rfl) (by decide) ?_
     refine WL.x (X.field Try.runUnderlying33 rfl Try.sizeOf3 rfl) (by decide) ?_
     refine WL.x (X.loadB (k := 0) Try.isAgg3 rfl rfl rfl) (by decide) ?_
     refine WL.x (X.mn rfl rfl) (by decide) ?_
     refine WL.x (X.field Try.runUnderlying33 rfl Try.sizeOf3 rfl) (by decide) ?_
     refine WL.x (X.loadB (k := 2) Try.isAgg3 rfl rfl rfl) (by decide) ?_
     refine WL.x (X.field Try.runUnderlying33 rfl Try.sizeOf3 rfl) (by decide) ?_
     refine WL.x (X.loadB (k := 0) Try.isAgg3 rfl rfl rfl) (by decide) ?_
     refine WL.x (X.mn rfl rfl) (by decide) ?_
     refine WL.x (V := Value.agg [.int .i64 (min a1 ((evS s k).Lo)), .int .i64 (min a2 ((evS s k).Hi))].toArray) (X.build Try.zeroValue33 Try.runUnderlying33 (places33 _ Try.underlying33) rfl rfl) (by decide) ?_
     refine WL.ts (T.storeBA (k := 2) Try.sizeOf33 rfl rfl rfl (one_cons rfl (one_cons rfl one_nil)) rfl rfl) ?_
     refine WL.nil ?_
     refine WK.nThen ?_
     refine WC.region ?_
     refine WL.x (X.field Try.runUnderlying33 rfl Try.sizeOf3 rfl) (by decide) ?_
     refine WL.x (X.loadB (k := 1) Try.isAgg3 rfl rfl rfl) (by decide) ?_
     refine WL.x (X.field Try.runUnderlying33 rfl Try.sizeOf3 rfl) (by decide) ?_
     refine WL.x (X.loadB (k := 0) Try.isAgg3 rfl rfl rfl) (by decide) ?_
     refine WL.x (X.mx rfl rfl) (by decide) ?_
     refine WL.x (X.field Try.runUnderlying33 rfl Try.sizeOf3 rfl) (by decide) ?_
     refine WL.x (X.loadB (k := 1) Try.isAgg3 rfl rfl rfl) (by decide) ?_
     refine WL.x (X.field Try.runUnderlying33 rfl Try.sizeOf3 rfl) (by decide) ?_
     refine WL.x (X.loadB (k := 0) Try.isAgg3 rfl rfl rfl) (by decide) ?_
     refine WL.x (X.mx rfl rfl) (by decide) ?_
     refine WL.x (V := Value.agg [.int .i64 (max a3 ((evS s k).Lo)), .int .i64 (max a4 ((evS s k).Hi))].toArray) (X.build Try.zeroValue33 Try.runUnderlying33 (places33 _ Try.underlying33) rfl rfl) (by decide) ?_
     refine WL.ts (T.storeBA (k := 1) Try.sizeOf33 rfl rfl rfl (one_cons rfl (one_cons rfl one_nil)) rfl rfl) ?_
     refine WL.nil ?_
     refine WK.nBlock ?_
     refine WK.nThen ?_
     refine WC.region ?_
     refine WL.x (X.move rfl) (by decide) ?_
     refine WL.x (X.add rfl rfl (by omega) (by omega)) (by decide) ?_
     refine WL.x (X.assign rfl) (by decide) ?_
     refine WL.nil ?_
     refine WK.nThen ?_
     refine WK.next ((k + 1, min a1 ((evS s k).Lo), min a2 ((evS s k).Hi), max a3 ((evS s k).Lo), max a4 ((evS s k).Hi))) rfl (.cons _ (.refl _)) (.cons rfl (.cons rfl (.cons rfl (.cons rfl (.cons rfl (.cons rfl (.cons rfl .nil))))))) ?_ ?_
     ·first | exact ⟨by omega, by rw [exQ_yes (hiy (by omega)), hq1], by rw [exQ_yes (hiy (by omega)), hq2], by rw [exQ_yes (hiy (by omega)), hq3], by rw [exQ_yes (hiy (by omega)), hq4]⟩ | exact ⟨by omega, by rw [exQ_no (hin (by omega)), hq1], by rw [exQ_no (hin (by omega)), hq2], by rw [exQ_no (hin (by omega)), hq3], by rw [exQ_no (hin (by omega)), hq4]⟩
     ·(dsimp only; omega)
    ·refine WL.nil ?_
     refine WK.nThen ?_
     refine WC.condF rfl ?_
     refine WC.skip ?_
     refine WK.nBlock ?_
     refine WK.nThen ?_
     refine WC.region ?_
     refine WL.x (X.move rfl) (by decide) ?_
     refine WL.x (X.add rfl rfl (by omega) (by omega)) (by decide) ?_
     refine WL.x (X.assign rfl) (by decide) ?_
     refine WL.nil ?_
     refine WK.nThen ?_
     refine WK.next ((k + 1, a1, a2, a3, a4)) rfl (.refl _) (.cons rfl (.cons rfl (.cons rfl (.cons rfl (.cons rfl (.cons rfl (.cons rfl .nil))))))) ?_ ?_
     ·first | exact ⟨by omega, by rw [exQ_yes (hiy (by omega)), hq1], by rw [exQ_yes (hiy (by omega)), hq2], by rw [exQ_yes (hiy (by omega)), hq3], by rw [exQ_yes (hiy (by omega)), hq4]⟩ | exact ⟨by omega, by rw [exQ_no (hin (by omega)), hq1], by rw [exQ_no (hin (by omega)), hq2], by rw [exQ_no (hin (by omega)), hq3], by rw [exQ_no (hin (by omega)), hq4]⟩
     ·(dsimp only; omega)
   ·refine WL.nil ?_
    refine WK.nThen ?_
    refine WC.condF rfl ?_
    refine WC.exit ?_
    refine WK.eThen ?_
    refine WK.eThen ?_
    refine WK.eHit ?_
    refine WK.nThen ?_
    obtain rfl : k = s.Values.length := (by omega)
    have hey := extR_yesQ (s := s) (x := times) (by omega)
    refine WC.cut (G := Mem) (fun m27 => m27) (fun m27 => [blk b20 33 [.int .i64 (a3), .int .i64 (a4)], blk b19 33 [.int .i64 (a1), .int .i64 (a2)], blk b10 33 [.int .i64 (a3), .int .i64 (a4)], blk b9 33 [.int .i64 (a1), .int .i64 (a2)], blk b8 33 [.int .i64 (times.Lo), .int .i64 (times.Hi)], blk b7 25 [v1, v3]]) (fun m27 => [(4, .pointer (some ⟨b9, 0, none⟩)), (5, .pointer (some ⟨b10, 0, none⟩)), (6, .int .i64 (0))]) (fun m27 => m11.le m27 ∧ Sl (α := Val) m27 v1 s.Values ∧ Sl (α := Shf) m27 v3 s.Shifts) ?_ ?_
    ·refine WC.draw (π := (.cons 0 (.fork (.cons 1 (.cons 2 (.cons 3 (.cons 4 .done)))) (.cons 2 (.cons 1 (.cons 3 (.cons 4 .done))))))) [1, 2, 3] [2, 3] rfl (by kernel_rfl) ?_
     refine DW.x rfl rfl (X.loadBA (k := 1) Try.isAgg33 Try.sizeOf33 rfl rfl rfl) (by decide) ?_
     refine DW.fork (List.cons_ne_nil _ _) ?_ ?_
     ·refine DW.xp rfl rfl rfl (fun _ => (X.loadBA (k := 0) Try.isAgg33 Try.sizeOf33 rfl rfl rfl)) (by decide) ?_
      refine DW.ts rfl rfl rfl rfl (T.storeBA (k := 3) Try.sizeOf33 rfl rfl rfl (one_cons rfl (one_cons rfl one_nil)) rfl rfl) ?_
      refine DW.ts rfl rfl rfl rfl (T.storeBA (k := 2) Try.sizeOf33 rfl rfl rfl (one_cons rfl (one_cons rfl one_nil)) rfl rfl) ?_
      refine DW.x rfl rfl (X.assign rfl) (by decide) ?_
      refine DW.nil ?_
      refine WK.nThen ?_
      exact WK.meet m11 rfl (.refl _) (.cons rfl (.cons rfl (.cons rfl .nil))) ⟨(Mem.le_refl _), hs2, hs4⟩
     ·refine DW.ts rfl rfl rfl rfl (T.storeBA (k := 3) Try.sizeOf33 rfl rfl rfl (one_cons rfl (one_cons rfl one_nil)) rfl rfl) ?_
      refine DW.xp rfl rfl rfl (fun _ => (X.loadBA (k := 0) Try.isAgg33 Try.sizeOf33 rfl rfl rfl)) (by decide) ?_
      refine DW.ts rfl rfl rfl rfl (T.storeBA (k := 2) Try.sizeOf33 rfl rfl rfl (one_cons rfl (one_cons rfl one_nil)) rfl rfl) ?_
      refine DW.x rfl rfl (X.assign rfl) (by decide) ?_
      refine DW.nil ?_
      refine WK.nThen ?_
      exact WK.meet m11 rfl (.refl _) (.cons rfl (.cons rfl (.cons rfl .nil))) ⟨(Mem.le_refl _), hs2, hs4⟩
    ·rintro m27 ⟨hle28, hs29, hs30⟩
     show WK _ _ m27 [blk b20 33 [.int .i64 (a3), .int .i64 (a4)], blk b19 33 [.int .i64 (a1), .int .i64 (a2)], blk b10 33 [.int .i64 (a3), .int .i64 (a4)], blk b9 33 [.int .i64 (a1), .int .i64 (a2)], blk b8 33 [.int .i64 (times.Lo), .int .i64 (times.Hi)], blk b7 25 [v1, v3]] [(4, .pointer (some ⟨b9, 0, none⟩)), (5, .pointer (some ⟨b10, 0, none⟩)), (6, .int .i64 (0))] _
     replace hs2 := hs2.mono hle28
     replace hs4 := hs4.mono hle28
     replace hs16 := hs16.mono hle28
     have hl31 := hs29.le
     have hl32 := hs30.le
     refine WC.ret ?_
     refine WK.retC3 3 2 rfl rfl rfl rfl rfl rfl Try.isAgg33 Try.sizeOf33 Try.isAgg33 Try.sizeOf33 (fun w' hw' => Ret.exact hw' ?_)
     first | exact tup3 (agg2i (by rw [hey, hq1]) (by rw [hey, hq2])) (agg2i (by rw [hey, hq3]) (by rw [hey, hq4])) (int_eq (by rw [hey])) | (have hq_ := extR_badQ (s := s) (x := times) (by omega); exact tup3 (agg2i (by rw [hq_]) (by rw [hq_])) (agg2i (by rw [hq_]) (by rw [hq_])) (int_eq (by rw [hq_])))

theorem later88 (m : Mem) {cr : List Value} {r : Ser} (hr : Enc.rd m cr r) (hok : Ok r) (i k : Nat) (ii ik : Int) (hii : ii = i) (hik : ik = k) (hi : i < r.Values.length) (hk : k < r.Values.length) : Exact Try.prog 88 #[.agg cr.toArray, .int .i64 ik, .int .i64 ii] m (.agg #[.int .i64 (gap r i k).Lo, .int .i64 (gap r i k).Hi]) := by
 obtain ⟨v1, v3, rfl, hs2, hs4⟩ := hr
 have hl5 := hs2.le
 have hl6 := hs4.le
 subst hii
 subst hik
 have hnV := hok.nV
 have hnX := hok.nX
 have hgf := gap_fac (s := r) (i := i) (k := k)
 refine Exact.start Try.func88 rfl Try.ntmps88 rfl fun wld => ?_
 refine WC.seq ?_
 refine WC.region ?_
 refine WL.tn (T.boxB rfl rfl) (by decide) fun b7 => ?_
 refine WL.tn (T.alloc Try.zeroValue33 rfl) (by decide) fun b8 => ?_
 refine WL.nil ?_
 refine WK.nThen ?_
 refine WC.seq ?_
 refine WC.region ?_
 refine WL.x (X.field Try.runUnderlying25 rfl Try.sizeOf22 rfl) (by decide) ?_
 refine WL.x (X.loadB (k := 1) Try.isAgg22 rfl rfl rfl) (by decide) ?_
 refine WL.x (X.len Try.runUnderlying22 rfl hs2) (by decide) ?_
 refine WL.ta (T.makeN r.Values.length (a := (0 : Int)) sl28 rfl rfl rfl (by omega) (by decide)) (by decide) (fun v9 => ?_)
 refine WL.x (X.assign rfl) (by decide) ?_
 refine WL.nil ?_
 refine WK.nThen ?_
 refine WC.seq ?_
 have hz1 := gt_rep (j := i) hi
 refine WC.region ?_
 refine WL.x (X.move rfl) (by decide) ?_
 refine WL.x (X.move rfl) (by decide) ?_
 refine WL.x (X.idxI (k := 0) Try.runUnderlying28 Try.sizeOf3 rfl rfl rfl (by first | omega | (simp; omega) | simp) (by first | omega | (simp; omega) | simp)) (by decide) ?_
 refine WL.x (X.loadI (k := 0) (i := i) Try.isAgg3 rfl rfl (by first | omega | (simp; omega) | simp)) (by decide) ?_
 refine WL.x (X.add rfl rfl (by omega) (by omega)) (by decide) ?_
 refine WL.x (X.idxI (k := 0) Try.runUnderlying28 Try.sizeOf3 rfl rfl rfl (by first | omega | (simp; omega) | simp) (by first | omega | (simp; omega) | simp)) (by decide) ?_
 refine WL.ts (T.storeI (k := 0) (i := i) Try.sizeOf3 rfl rfl rfl (by first | omega | (simp; omega) | simp)) ?_
 refine WL.nil ?_
 refine WK.nThen ?_
 refine WC.seq ?_
 have hz2 := gap_mid hi hk
 refine WC.region ?_
 refine WL.x (X.move rfl) (by decide) ?_
 refine WL.x (X.move rfl) (by decide) ?_
 refine WL.x (X.idxI (k := 0) Try.runUnderlying28 Try.sizeOf3 rfl rfl rfl (by first | omega | (simp; omega) | simp) (by first | omega | (simp; omega) | simp)) (by decide) ?_
 refine WL.x (X.loadI (k := 0) (i := k) Try.isAgg3 rfl rfl (by first | omega | (simp; omega) | simp)) (by decide) ?_
 refine WL.x (X.sub rfl rfl (by omega) (by omega)) (by decide) ?_
 refine WL.x (X.idxI (k := 0) Try.runUnderlying28 Try.sizeOf3 rfl rfl rfl (by first | omega | (simp; omega) | simp) (by first | omega | (simp; omega) | simp)) (by decide) ?_
 refine WL.ts (T.storeI (k := 0) (i := k) Try.sizeOf3 rfl rfl rfl (by first | omega | (simp; omega) | simp)) ?_
 refine WL.nil ?_
 refine WK.nThen ?_
 refine WC.seq ?_
 have hgl : (gapL r.Values.length i k).length = r.Values.length := map_len _ _
 have he10 : (((List.replicate r.Values.length (0 : Int)).set i ((gt (List.replicate r.Values.length (0 : Int)) i) + 1)).set k ((gt ((List.replicate r.Values.length (0 : Int)).set i ((gt (List.replicate r.Values.length (0 : Int)) i) + 1)) k) - 1)) = (gapL r.Values.length i k) := gapL_eq hi hk
 rw [he10]
 refine WC.region ?_
 refine WL.x (X.loadBA (k := 2) Try.isAgg25 Try.sizeOf25 rfl rfl rfl) (by decide) ?_
 refine WL.x (X.move rfl) (by decide) ?_
 refine WL.freezeF 0 rfl rfl (by simp [lenB]; omega) (fun m11 hle12 hs13 => ?_)
 replace hs2 := hs2.mono hle12
 replace hs4 := hs4.mono hle12
 refine WL.x (X.call Try.call123 rfl (bounds123 _ _ r ⟨_, _, rfl, hs2, hs4⟩ _ _ hs13 (by assumption) (by first | assumption | exact momL_fac (by assumption)))) (by decide) ?_
 refine WL.ts (T.storeBA (k := 0) Try.sizeOf33 rfl rfl rfl (one_cons rfl (one_cons rfl one_nil)) rfl rfl) ?_
 refine WL.nil ?_
 refine WK.nThen ?_
 refine WC.ret ?_
 refine WK.retC1 0 rfl rfl rfl Try.isAgg33 Try.sizeOf33 (fun w' hw' => Ret.exact hw' ?_)
 rfl

theorem rank70 (m : Mem) (cs : List Value) (s : Ser) (hs : Enc.rd m cs s) (time : Int)   : Exact Try.prog 70 #[.agg cs.toArray, .int .i64 (time)] m (.tuple #[.agg [.int .i64 ((rankR s time).1.Lo), .int .i64 ((rankR s time).1.Hi)].toArray, .int .i64 ((rankR s time).2)]) := by
 obtain ⟨v1, v3, rfl, hs2, hs4⟩ := hs
 have hl5 := hs2.le
 have hl6 := hs4.le
 refine Exact.start Try.func70 rfl Try.ntmps70 rfl fun wld => ?_
 refine WC.seq ?_
 refine WC.region ?_
 refine WL.tn (T.boxB rfl rfl) (by decide) fun b7 => ?_
 refine WL.tn (T.alloc Try.zeroValue33 rfl) (by decide) fun b8 => ?_
 refine WL.x (X.assign rfl) (by decide) ?_
 refine WL.nil ?_
 refine WK.nThen ?_
 refine WC.seq ?_
 refine WC.region ?_
 refine WL.x (X.loadBA (k := 1) Try.isAgg25 Try.sizeOf25 rfl rfl rfl) (by decide) ?_
 refine WL.x (X.call Try.call97 rfl (check97 _ _ s ⟨_, _, rfl, hs2, hs4⟩ )) (by decide) ?_
 refine WL.x (X.assign rfl) (by decide) ?_
 refine WL.nil ?_
 refine WK.nThen ?_
 refine WC.seq ?_
 refine WC.seq ?_
 refine WC.region ?_
 refine WL.x (X.move rfl) (by decide) ?_
 refine WL.condn (X.neq rfl rfl) (by decide) (fun h9 => ?_) (fun h9 => ?_)
 ·refine WL.nil ?_
  refine WK.nThen ?_
  refine WC.condT rfl ?_
  refine WC.seq ?_
  refine WC.region ?_
  refine WL.x (V := Value.agg [.int .i64 (0), .int .i64 (0)].toArray) (X.build Try.zeroValue33 Try.runUnderlying33 (places33 _ Try.underlying33) rfl rfl) (by decide) ?_
  refine WL.x (X.move rfl) (by decide) ?_
  refine WL.ts (T.storeBA (k := 0) Try.sizeOf33 rfl rfl rfl (one_cons rfl (one_cons rfl one_nil)) rfl rfl) ?_
  refine WL.x (X.assign rfl) (by decide) ?_
  refine WL.nil ?_
  refine WK.nThen ?_
  refine WC.ret ?_
  refine WK.rThen ?_
  refine WK.retC2 0 rfl rfl rfl rfl Try.isAgg33 Try.sizeOf33 (fun w' hw' => Ret.exact hw' ?_)
  first | exact tup2 (agg2i (by rw [hry, hlo, hnn]) (by rw [hry, hhi, hnn])) (int_eq (by rw [hry])) | exact tup2 (agg2i (by rw [rankR_bad (by omega)]) (by rw [rankR_bad (by omega)])) (int_eq (by rw [rankR_bad (by omega)])) | exact tup2 (agg2i (by rw [rankR_no hok (fun j hj => hall j (by omega))]) (by rw [rankR_no hok (fun j hj => hall j (by omega))])) (int_eq (by rw [rankR_no hok (fun j hj => hall j (by omega))]))
 ·refine WL.nil ?_
  refine WK.nThen ?_
  refine WC.condF rfl ?_
  refine WC.skip ?_
  refine WK.nThen ?_
  refine WC.seq ?_
  refine WC.seq ?_
  have hok := Ok.of (s := s) (by omega)
  have hnV := hok.nV
  refine WC.region ?_
  refine WL.x (X.assign rfl) (by decide) ?_
  refine WL.nil ?_
  refine WK.nThen ?_
  refine WC.block ?_
  refine WC.loop (G := Nat) (fun k => s.Values.length - k) (fun k => m) (fun k => [blk b8 33 [.int .i64 (0), .int .i64 (0)], blk b7 25 [v1, v3]]) (fun k => [(1, .int .i64 (time)), (2, .pointer (some ⟨b7, 0, none⟩)), (4, .pointer (some ⟨b8, 0, none⟩)), (7, .int .i64 (↑k))]) (fun k => k ≤ s.Values.length ∧ (∀ j, j < k → (gt s.Values j).Time ≠ time)) 0 rfl (.refl _) (.cons rfl (.cons rfl (.cons rfl (.cons rfl .nil)))) ?_ ?_
  ·exact ⟨Nat.zero_le _, fun j hj => absurd hj (Nat.not_lt_zero _)⟩
  ·rintro k hF10
   show WK _ _ m [blk b8 33 [.int .i64 (0), .int .i64 (0)], blk b7 25 [v1, v3]] [(1, .int .i64 (time)), (2, .pointer (some ⟨b7, 0, none⟩)), (4, .pointer (some ⟨b8, 0, none⟩)), (7, .int .i64 (↑k))] _
   replace hF10 : k ≤ s.Values.length ∧ (∀ j, j < k → (gt s.Values j).Time ≠ time) := hF10
   obtain ⟨hk, hall⟩ := hF10
   refine WC.seq ?_
   refine WC.seq ?_
   refine WC.region ?_
   refine WL.x (X.move rfl) (by decide) ?_
   refine WL.x (X.field Try.runUnderlying25 rfl Try.sizeOf22 rfl) (by decide) ?_
   refine WL.x (X.loadB (k := 1) Try.isAgg22 rfl rfl rfl) (by decide) ?_
   refine WL.x (X.len Try.runUnderlying22 rfl hs2) (by decide) ?_
   refine WL.cond (X.lss rfl rfl) (by decide) (fun h11 => ?_) (fun h11 => ?_)
   ·refine WL.nil ?_
    refine WK.nThen ?_
    refine WC.condT rfl ?_
    refine WC.skip ?_
    refine WK.nThen ?_
    refine WC.seq ?_
    refine WC.block ?_
    refine WC.seq ?_
    refine WC.seq ?_
    refine WC.region ?_
    refine WL.x (X.field Try.runUnderlying25 rfl Try.sizeOf22 rfl) (by decide) ?_
    refine WL.x (X.loadB (k := 1) Try.isAgg22 rfl rfl rfl) (by decide) ?_
    refine WL.x (X.move rfl) (by decide) ?_
    refine WL.xe (E.idxN k Try.runUnderlying22 Try.sizeOf62 rfl rfl hs2 (by omega)) (by decide) (fun p12 hp13 => ?_)
    have hp14 := At.Val_0 hp13
    refine WL.x (X.field Try.runUnderlying62 rfl Try.sizeOf3 rfl) (by decide) ?_
    refine WL.x (X.loadInt Try.isAgg3 rfl hp14) (by decide) ?_
    refine WL.x (X.move rfl) (by decide) ?_
    refine WL.condn (X.neq rfl rfl) (by decide) (fun h15 => ?_) (fun h15 => ?_)
    ·refine WL.nil ?_
     refine WK.nThen ?_
     refine WC.condT rfl ?_
     refine WC.exit ?_
     refine WK.eThen ?_
     refine WK.eHit ?_
     refine WK.nThen ?_
     refine WC.region ?_
     refine WL.x (X.move rfl) (by decide) ?_
     refine WL.x (X.add rfl rfl (by omega) (by omega)) (by decide) ?_
     refine WL.x (X.assign rfl) (by decide) ?_
     refine WL.nil ?_
     refine WK.nThen ?_
     refine WK.next (k + 1) rfl (.refl _) (.cons rfl (.cons rfl (.cons rfl (.cons rfl .nil)))) ?_ ?_
     ·exact ⟨by omega, fun j hj => by rcases Nat.lt_succ_iff_lt_or_eq.1 hj with h | h; exact hall j h; subst h; assumption⟩
     ·omega
    ·refine WL.nil ?_
     refine WK.nThen ?_
     refine WC.condF rfl ?_
     refine WC.skip ?_
     refine WK.nThen ?_
     refine WC.seq ?_
     refine WC.region ?_
     refine WL.tn (T.alloc Try.zeroValue33 rfl) (by decide) fun b16 => ?_
     refine WL.nil ?_
     refine WK.nThen ?_
     refine WC.seq ?_
     refine WC.seq ?_
     refine WC.region ?_
     refine WL.x (X.assign rfl) (by decide) ?_
     refine WL.nil ?_
     refine WK.nThen ?_
     refine WC.block ?_
     refine WC.loop (G := Nat × Int × Int) (fun (n, lo, hi) => s.Values.length - n) (fun (n, lo, hi) => m) (fun (n, lo, hi) => [blk b16 33 [.int .i64 (lo), .int .i64 (hi)], blk b8 33 [.int .i64 (0), .int .i64 (0)], blk b7 25 [v1, v3]]) (fun (n, lo, hi) => [(2, .pointer (some ⟨b7, 0, none⟩)), (4, .pointer (some ⟨b8, 0, none⟩)), (7, .int .i64 (↑k)), (8, .pointer (some ⟨b16, 0, none⟩)), (9, .int .i64 (↑n))]) (fun (n, lo, hi) => n ≤ s.Values.length ∧ ((0 ≤ lo ∧ lo ≤ n) ∧ (0 ≤ hi ∧ hi ≤ n)) ∧ lo = (rankN s k n).Lo ∧ hi = (rankN s k n).Hi) ((0, 0, 0)) rfl (.refl _) (.cons rfl (.cons rfl (.cons rfl (.cons rfl (.cons rfl .nil))))) ?_ ?_
     ·exact ⟨Nat.zero_le _, by omega, rfl, rfl⟩
     ·rintro ⟨n, lo, hi⟩ hF17
      show WK _ _ m [blk b16 33 [.int .i64 (lo), .int .i64 (hi)], blk b8 33 [.int .i64 (0), .int .i64 (0)], blk b7 25 [v1, v3]] [(2, .pointer (some ⟨b7, 0, none⟩)), (4, .pointer (some ⟨b8, 0, none⟩)), (7, .int .i64 (↑k)), (8, .pointer (some ⟨b16, 0, none⟩)), (9, .int .i64 (↑n))] _
      replace hF17 : n ≤ s.Values.length ∧ ((0 ≤ lo ∧ lo ≤ n) ∧ (0 ≤ hi ∧ hi ≤ n)) ∧ lo = (rankN s k n).Lo ∧ hi = (rankN s k n).Hi := hF17
      obtain ⟨hn, hlh_, hlo, hhi⟩ := hF17
      refine WC.seq ?_
      refine WC.seq ?_
      refine WC.region ?_
      refine WL.x (X.move rfl) (by decide) ?_
      refine WL.x (X.field Try.runUnderlying25 rfl Try.sizeOf22 rfl) (by decide) ?_
      refine WL.x (X.loadB (k := 2) Try.isAgg22 rfl rfl rfl) (by decide) ?_
      refine WL.x (X.len Try.runUnderlying22 rfl hs2) (by decide) ?_
      refine WL.cond (X.lss rfl rfl) (by decide) (fun h18 => ?_) (fun h18 => ?_)
      ·refine WL.nil ?_
       refine WK.nThen ?_
       refine WC.condT rfl ?_
       refine WC.skip ?_
       refine WK.nThen ?_
       refine WC.seq ?_
       refine WC.block ?_
       refine WC.seq ?_
       refine WC.region ?_
       refine WL.x (X.loadBA (k := 2) Try.isAgg25 Try.sizeOf25 rfl rfl rfl) (by decide) ?_
       refine WL.x (X.move rfl) (by decide) ?_
       refine WL.x (X.move rfl) (by decide) ?_
       refine WL.x (X.call Try.call88 rfl (later88 _ ⟨_, _, rfl, hs2, hs4⟩ hok n k _ _ (by omega) (by omega) (by omega) (by omega))) (by decide) ?_
       refine WL.tn (T.alloc Try.zeroValue33 rfl) (by decide) fun b19 => ?_
       refine WL.ts (T.storeBA (k := 0) Try.sizeOf33 rfl rfl rfl (one_cons rfl (one_cons rfl one_nil)) rfl rfl) ?_
       refine WL.nil ?_
       refine WK.nThen ?_
       refine WC.seq ?_
       refine WC.seq ?_
       refine WC.region ?_
       refine WL.x (X.field Try.runUnderlying33 rfl Try.sizeOf3 rfl) (by decide) ?_
       refine WL.x (X.loadB (k := 0) Try.isAgg3 rfl rfl rfl) (by decide) ?_
       refine WL.cond (X.lss rfl rfl) (by decide) (fun h20 => ?_) (fun h20 => ?_)
       ·refine WL.nil ?_
        refine WK.nThen ?_
        refine WC.condT rfl ?_
        refine WC.region ?_
        refine WL.x (X.field Try.runUnderlying33 rfl Try.sizeOf3 rfl) (by decide) ?_
        refine WL.x (X.loadB (k := 1) Try.isAgg3 rfl rfl rfl) (by decide) ?_
        refine WL.x (X.add rfl rfl (by omega) (by omega)) (by decide) ?_
        refine WL.x (X.field Try.runUnderlying33 rfl Try.sizeOf3 rfl) (by decide) ?_
        refine WL.ts (T.storeB (k := 1) Try.sizeOf3 rfl rfl rfl rfl (Nat.le_of_ble_eq_true rfl)) ?_
        refine WL.nil ?_
        refine WK.nThen ?_
        refine WC.seq ?_
        refine WC.region ?_
        refine WL.x (X.field Try.runUnderlying33 rfl Try.sizeOf3 rfl) (by decide) ?_
        refine WL.x (X.loadB (k := 0) Try.isAgg3 rfl rfl rfl) (by decide) ?_
        refine WL.cond (X.lss rfl rfl) (by decide) (fun h21 => ?_) (fun h21 => ?_)
        ·refine WL.nil ?_
         refine WK.nThen ?_
         refine WC.condT rfl ?_
         refine WC.region ?_
         refine WL.x (X.field Try.runUnderlying33 rfl Try.sizeOf3 rfl) (by decide) ?_
         refine WL.x (X.loadB (k := 1) Try.isAgg3 rfl rfl rfl) (by decide) ?_
         refine WL.x (X.add rfl rfl (by omega) (by omega)) (by decide) ?_
         refine WL.x (X.field Try.runUnderlying33 rfl Try.sizeOf3 rfl) (by decide) ?_
         refine WL.ts (T.storeB (k := 1) Try.sizeOf3 rfl rfl rfl rfl (Nat.le_of_ble_eq_true rfl)) ?_
         refine WL.nil ?_
         refine WK.nBlock ?_
         refine WK.nThen ?_
         refine WC.region ?_
         refine WL.x (X.move rfl) (by decide) ?_
         refine WL.x (X.add rfl rfl (by omega) (by omega)) (by decide) ?_
         refine WL.x (X.assign rfl) (by decide) ?_
         refine WL.nil ?_
         refine WK.nThen ?_
         refine WK.next ((n + 1, lo + 1, hi + 1)) rfl (.cons _ (.refl _)) (.cons rfl (.cons rfl (.cons rfl (.cons rfl (.cons rfl .nil))))) ?_ ?_
         ·have hs1_ := rankN_lo s k n
          have hs2_ := rankN_hi s k n
          have hg3 := gap_order hok n k
          split at hs1_ <;> split at hs2_ <;> first | exact ⟨by omega, by omega, by omega, by omega⟩ | (exfalso; omega)
         ·(dsimp only; omega)
        ·refine WL.nil ?_
         refine WK.nThen ?_
         refine WC.condF rfl ?_
         refine WC.skip ?_
         refine WK.nBlock ?_
         refine WK.nThen ?_
         refine WC.region ?_
         refine WL.x (X.move rfl) (by decide) ?_
         refine WL.x (X.add rfl rfl (by omega) (by omega)) (by decide) ?_
         refine WL.x (X.assign rfl) (by decide) ?_
         refine WL.nil ?_
         refine WK.nThen ?_
         refine WK.next ((n + 1, lo + 1, hi)) rfl (.cons _ (.refl _)) (.cons rfl (.cons rfl (.cons rfl (.cons rfl (.cons rfl .nil))))) ?_ ?_
         ·have hs1_ := rankN_lo s k n
          have hs2_ := rankN_hi s k n
          have hg3 := gap_order hok n k
          split at hs1_ <;> split at hs2_ <;> first | exact ⟨by omega, by omega, by omega, by omega⟩ | (exfalso; omega)
         ·(dsimp only; omega)
       ·refine WL.nil ?_
        refine WK.nThen ?_
        refine WC.condF rfl ?_
        refine WC.skip ?_
        refine WK.nThen ?_
        refine WC.seq ?_
        refine WC.region ?_
        refine WL.x (X.field Try.runUnderlying33 rfl Try.sizeOf3 rfl) (by decide) ?_
        refine WL.x (X.loadB (k := 0) Try.isAgg3 rfl rfl rfl) (by decide) ?_
        refine WL.cond (X.lss rfl rfl) (by decide) (fun h22 => ?_) (fun h22 => ?_)
        ·refine WL.nil ?_
         refine WK.nThen ?_
         refine WC.condT rfl ?_
         refine WC.region ?_
         refine WL.x (X.field Try.runUnderlying33 rfl Try.sizeOf3 rfl) (by decide) ?_
         refine WL.x (X.loadB (k := 1) Try.isAgg3 rfl rfl rfl) (by decide) ?_
         refine WL.x (X.add rfl rfl (by omega) (by omega)) (by decide) ?_
         refine WL.x (X.field Try.runUnderlying33 rfl Try.sizeOf3 rfl) (by decide) ?_
         refine WL.ts (T.storeB (k := 1) Try.sizeOf3 rfl rfl rfl rfl (Nat.le_of_ble_eq_true rfl)) ?_
         refine WL.nil ?_
         refine WK.nBlock ?_
         refine WK.nThen ?_
         refine WC.region ?_
         refine WL.x (X.move rfl) (by decide) ?_
         refine WL.x (X.add rfl rfl (by omega) (by omega)) (by decide) ?_
         refine WL.x (X.assign rfl) (by decide) ?_
         refine WL.nil ?_
         refine WK.nThen ?_
         refine WK.next ((n + 1, lo, hi + 1)) rfl (.cons _ (.refl _)) (.cons rfl (.cons rfl (.cons rfl (.cons rfl (.cons rfl .nil))))) ?_ ?_
         ·have hs1_ := rankN_lo s k n
          have hs2_ := rankN_hi s k n
          have hg3 := gap_order hok n k
          split at hs1_ <;> split at hs2_ <;> first | exact ⟨by omega, by omega, by omega, by omega⟩ | (exfalso; omega)
         ·(dsimp only; omega)
        ·refine WL.nil ?_
         refine WK.nThen ?_
         refine WC.condF rfl ?_
         refine WC.skip ?_
         refine WK.nBlock ?_
         refine WK.nThen ?_
         refine WC.region ?_
         refine WL.x (X.move rfl) (by decide) ?_
         refine WL.x (X.add rfl rfl (by omega) (by omega)) (by decide) ?_
         refine WL.x (X.assign rfl) (by decide) ?_
         refine WL.nil ?_
         refine WK.nThen ?_
         refine WK.next ((n + 1, lo, hi)) rfl (.cons _ (.cons_cons _ (.cons_cons _ (.cons_cons _ .slnil)))) (.cons rfl (.cons rfl (.cons rfl (.cons rfl (.cons rfl .nil))))) ?_ ?_
         ·have hs1_ := rankN_lo s k n
          have hs2_ := rankN_hi s k n
          have hg3 := gap_order hok n k
          split at hs1_ <;> split at hs2_ <;> first | exact ⟨by omega, by omega, by omega, by omega⟩ | (exfalso; omega)
         ·(dsimp only; omega)
      ·refine WL.nil ?_
       refine WK.nThen ?_
       refine WC.condF rfl ?_
       refine WC.exit ?_
       refine WK.eThen ?_
       refine WK.eThen ?_
       refine WK.eHit ?_
       refine WK.nThen ?_
       refine WC.seq ?_
       have hry := rankR_yes hok (k := k) (by omega) hall (by omega)
       have hnn : n = s.Values.length := (by omega)
       refine WC.region ?_
       refine WL.x (X.loadBA (k := 0) Try.isAgg33 Try.sizeOf33 rfl rfl rfl) (by decide) ?_
       refine WL.ts (T.storeBA (k := 1) Try.sizeOf33 rfl rfl rfl (one_cons rfl (one_cons rfl one_nil)) rfl rfl) ?_
       refine WL.x (X.assign rfl) (by decide) ?_
       refine WL.nil ?_
       refine WK.nThen ?_
       refine WC.ret ?_
       refine WK.rBlock ?_
       refine WK.rThen ?_
       refine WK.rThen ?_
       refine WK.rBlock ?_
       refine WK.rThen ?_
       refine WK.retC2 1 rfl rfl rfl rfl Try.isAgg33 Try.sizeOf33 (fun w' hw' => Ret.exact hw' ?_)
       first | exact tup2 (agg2i (by rw [hry, hlo, hnn]) (by rw [hry, hhi, hnn])) (int_eq (by rw [hry])) | exact tup2 (agg2i (by rw [rankR_bad (by omega)]) (by rw [rankR_bad (by omega)])) (int_eq (by rw [rankR_bad (by omega)])) | exact tup2 (agg2i (by rw [rankR_no hok (fun j hj => hall j (by omega))]) (by rw [rankR_no hok (fun j hj => hall j (by omega))])) (int_eq (by rw [rankR_no hok (fun j hj => hall j (by omega))]))
   ·refine WL.nil ?_
    refine WK.nThen ?_
    refine WC.condF rfl ?_
    refine WC.exit ?_
    refine WK.eThen ?_
    refine WK.eThen ?_
    refine WK.eHit ?_
    refine WK.nThen ?_
    refine WC.seq ?_
    refine WC.region ?_
    refine WL.x (V := Value.agg [.int .i64 (0), .int .i64 (0)].toArray) (X.build Try.zeroValue33 Try.runUnderlying33 (places33 _ Try.underlying33) rfl rfl) (by decide) ?_
    refine WL.ts (T.storeBA (k := 0) Try.sizeOf33 rfl rfl rfl (one_cons rfl (one_cons rfl one_nil)) rfl rfl) ?_
    refine WL.x (X.assign rfl) (by decide) ?_
    refine WL.nil ?_
    refine WK.nThen ?_
    refine WC.ret ?_
    refine WK.retC2 0 rfl rfl rfl rfl Try.isAgg33 Try.sizeOf33 (fun w' hw' => Ret.exact hw' ?_)
    first | exact tup2 (agg2i (by rw [hry, hlo, hnn]) (by rw [hry, hhi, hnn])) (int_eq (by rw [hry])) | exact tup2 (agg2i (by rw [rankR_bad (by omega)]) (by rw [rankR_bad (by omega)])) (int_eq (by rw [rankR_bad (by omega)])) | exact tup2 (agg2i (by rw [rankR_no hok (fun j hj => hall j (by omega))]) (by rw [rankR_no hok (fun j hj => hall j (by omega))])) (int_eq (by rw [rankR_no hok (fun j hj => hall j (by omega))]))

theorem change72 (m : Mem) (cs : List Value) (s : Ser) (hs : Enc.rd m cs s) (ca : List Value) (a : Span) (ha : Enc.rd m ca a) (cb : List Value) (b : Span) (hb : Enc.rd m cb b)   : Exact Try.prog 72 #[.agg cs.toArray, .agg ca.toArray, .agg cb.toArray] m (.tuple #[.int .i64 ((chgR s a b).1), .int .i64 ((chgR s a b).2)]) := by
 obtain ⟨v1, v3, rfl, hs2, hs4⟩ := hs
 have hl5 := hs2.le
 have hl6 := hs4.le
 obtain rfl := ha
 obtain rfl := hb
 refine Exact.start Try.func72 rfl Try.ntmps72 rfl fun wld => ?_
 refine WC.seq ?_
 refine WC.region ?_
 refine WL.tn (T.boxB rfl rfl) (by decide) fun b7 => ?_
 refine WL.tn (T.boxB rfl rfl) (by decide) fun b8 => ?_
 refine WL.tn (T.boxB rfl rfl) (by decide) fun b9 => ?_
 refine WL.x (X.assign rfl) (by decide) ?_
 refine WL.x (X.assign rfl) (by decide) ?_
 refine WL.nil ?_
 refine WK.nThen ?_
 refine WC.seq ?_
 refine WC.region ?_
 refine WL.x (X.loadBA (k := 2) Try.isAgg25 Try.sizeOf25 rfl rfl rfl) (by decide) ?_
 refine WL.x (X.call Try.call97 rfl (check97 _ _ s ⟨_, _, rfl, hs2, hs4⟩ )) (by decide) ?_
 refine WL.x (X.assign rfl) (by decide) ?_
 refine WL.nil ?_
 refine WK.nThen ?_
 refine WC.seq ?_
 refine WC.seq ?_
 refine WC.region ?_
 refine WL.x (X.move rfl) (by decide) ?_
 refine WL.cond (X.eql rfl rfl) (by decide) (fun h10 => ?_) (fun h10 => ?_)
 ·refine WL.x (X.move rfl) (by decide) ?_
  refine WL.yes rfl rfl ?_
  refine WL.x (X.loadBA (k := 1) Try.isAgg33 Try.sizeOf33 rfl rfl rfl) (by decide) ?_
  refine WL.yes rfl rfl ?_
  refine WL.cond (X.call Try.call132 rfl (valid132 _ _ a rfl )) (by decide) (fun h11 => ?_) (fun h11 => ?_)
  ·refine WL.yes rfl rfl ?_
   refine WL.x (X.not rfl) (by decide) ?_
   refine WL.yes rfl rfl ?_
   refine WL.x (X.move rfl) (by decide) ?_
   refine WL.yes rfl rfl ?_
   refine WL.x (X.loadBA (k := 0) Try.isAgg33 Try.sizeOf33 rfl rfl rfl) (by decide) ?_
   refine WL.yes rfl rfl ?_
   refine WL.cond (X.call Try.call132 rfl (valid132 _ _ b rfl )) (by decide) (fun h12 => ?_) (fun h12 => ?_)
   ·refine WL.yes rfl rfl ?_
    refine WL.x (X.not rfl) (by decide) ?_
    refine WL.yes rfl rfl ?_
    refine WL.x (X.pickF rfl rfl rfl) (by decide) ?_
    refine WL.x (X.pickT rfl rfl rfl) (by decide) ?_
    refine WL.nil ?_
    refine WK.nThen ?_
    refine WC.condF rfl ?_
    refine WC.skip ?_
    refine WK.nThen ?_
    refine WC.seq ?_
    refine WC.seq ?_
    refine WC.region ?_
    refine WL.x (X.move rfl) (by decide) ?_
    refine WL.condn (X.neq rfl rfl) (by decide) (fun h13 => ?_) (fun h13 => ?_)
    ·refine WL.nil ?_
     refine WK.nThen ?_
     refine WC.condT rfl ?_
     refine WC.seq ?_
     refine WC.region ?_
     refine WL.x (X.move rfl) (by decide) ?_
     refine WL.x (X.assign rfl) (by decide) ?_
     refine WL.x (X.assign rfl) (by decide) ?_
     refine WL.nil ?_
     refine WK.nThen ?_
     refine WC.ret ?_
     refine WK.rThen ?_
     refine WK.ret2 rfl rfl rfl (fun w' hw' => Ret.exact hw' ?_)
     first | (exfalso; omega) | exact tup2 (int_eq (by rw [chgR_err (by omega)])) (int_eq (by rw [chgR_err (by omega)])) | exact tup2 (int_eq (by rw [chgR_arg (by omega) (fun hn => by first | exact absurd hn.1 (by assumption) | exact absurd hn.2 (by assumption))])) (int_eq (by rw [chgR_arg (by omega) (fun hn => by first | exact absurd hn.1 (by assumption) | exact absurd hn.2 (by assumption))])) | exact tup2 (int_eq (by rw [chgR_none (by omega) ⟨by assumption, by assumption⟩ (by omega)])) (int_eq (by rw [chgR_none (by omega) ⟨by assumption, by assumption⟩ (by omega)])) | exact tup2 (int_eq (by rw [chgR_ok (s := s) (a := a) (b := b) (by omega) ⟨by assumption, by assumption⟩ (by omega)])) (int_eq (by rw [chgR_ok (s := s) (a := a) (b := b) (by omega) ⟨by assumption, by assumption⟩ (by omega)]))
    ·refine WL.nil ?_
     refine WK.nThen ?_
     refine WC.condF rfl ?_
     refine WC.skip ?_
     refine WK.nThen ?_
     refine WC.seq ?_
     have hok := Ok.of (s := s) (by omega)
     have hnV := hok.nV
     have hwa := wtC_le s a
     have hwb := wtC_le s b
     have hcf := chg_fac hok a b
     have hcl := hcf.1
     have hl1 := wtL_len s a 1
     have hl2 := wtL_len s b 1
     refine WC.region ?_
     refine WL.x (X.loadBA (k := 2) Try.isAgg25 Try.sizeOf25 rfl rfl rfl) (by decide) ?_
     refine WL.x (X.loadBA (k := 1) Try.isAgg33 Try.sizeOf33 rfl rfl rfl) (by decide) ?_
     refine WL.tm (T.call Try.call133 rfl (in133 _ _ s ⟨_, _, rfl, hs2, hs4⟩ _ a rfl (by assumption))) (by decide) fun m14 r15 hle16 hR17 => ?_
     obtain ⟨v18, rfl, hs19⟩ := hR17
     replace hs2 := hs2.mono hle16
     replace hs4 := hs4.mono hle16
     have hl20 := hs19.le
     refine WL.x (X.move rfl) (by decide) ?_
     refine WL.x (X.extract rfl rfl) (by decide) ?_
     refine WL.x (X.extract rfl rfl) (by decide) ?_
     refine WL.x (X.assign rfl) (by decide) ?_
     refine WL.x (X.assign rfl) (by decide) ?_
     refine WL.nil ?_
     refine WK.nThen ?_
     refine WC.seq ?_
     refine WC.region ?_
     refine WL.x (X.loadBA (k := 2) Try.isAgg25 Try.sizeOf25 rfl rfl rfl) (by decide) ?_
     refine WL.x (X.loadBA (k := 0) Try.isAgg33 Try.sizeOf33 rfl rfl rfl) (by decide) ?_
     refine WL.tm (T.call Try.call133 rfl (in133 _ _ s ⟨_, _, rfl, hs2, hs4⟩ _ b rfl (by assumption))) (by decide) fun m21 r22 hle23 hR24 => ?_
     obtain ⟨v25, rfl, hs26⟩ := hR24
     replace hs2 := hs2.mono hle23
     replace hs4 := hs4.mono hle23
     replace hs19 := hs19.mono hle23
     have hl27 := hs26.le
     refine WL.x (X.move rfl) (by decide) ?_
     refine WL.x (X.extract rfl rfl) (by decide) ?_
     refine WL.x (X.extract rfl rfl) (by decide) ?_
     refine WL.x (X.assign rfl) (by decide) ?_
     refine WL.x (X.assign rfl) (by decide) ?_
     refine WL.nil ?_
     refine WK.nThen ?_
     refine WC.seq ?_
     refine WC.seq ?_
     refine WC.region ?_
     refine WL.x (X.move rfl) (by decide) ?_
     refine WL.cond (X.eql rfl rfl) (by decide) (fun h28 => ?_) (fun h28 => ?_)
     ·refine WL.x (X.move rfl) (by decide) ?_
      refine WL.no rfl rfl rfl (by decide) ?_
      refine WL.no rfl rfl rfl (by decide) ?_
      refine WL.x (X.pickT rfl rfl rfl) (by decide) ?_
      refine WL.nil ?_
      refine WK.nThen ?_
      refine WC.condT rfl ?_
      refine WC.seq ?_
      refine WC.region ?_
      refine WL.x (X.assign rfl) (by decide) ?_
      refine WL.x (X.assign rfl) (by decide) ?_
      refine WL.nil ?_
      refine WK.nThen ?_
      refine WC.ret ?_
      refine WK.rThen ?_
      refine WK.ret2 rfl rfl rfl (fun w' hw' => Ret.exact hw' ?_)
      first | (exfalso; omega) | exact tup2 (int_eq (by rw [chgR_err (by omega)])) (int_eq (by rw [chgR_err (by omega)])) | exact tup2 (int_eq (by rw [chgR_arg (by omega) (fun hn => by first | exact absurd hn.1 (by assumption) | exact absurd hn.2 (by assumption))])) (int_eq (by rw [chgR_arg (by omega) (fun hn => by first | exact absurd hn.1 (by assumption) | exact absurd hn.2 (by assumption))])) | exact tup2 (int_eq (by rw [chgR_none (by omega) ⟨by assumption, by assumption⟩ (by omega)])) (int_eq (by rw [chgR_none (by omega) ⟨by assumption, by assumption⟩ (by omega)])) | exact tup2 (int_eq (by rw [chgR_ok (s := s) (a := a) (b := b) (by omega) ⟨by assumption, by assumption⟩ (by omega)])) (int_eq (by rw [chgR_ok (s := s) (a := a) (b := b) (by omega) ⟨by assumption, by assumption⟩ (by omega)]))
     ·refine WL.x (X.move rfl) (by decide) ?_
      refine WL.yes rfl rfl ?_
      refine WL.x (X.move rfl) (by decide) ?_
      refine WL.yes rfl rfl ?_
      refine WL.cond (X.eql rfl rfl) (by decide) (fun h29 => ?_) (fun h29 => ?_)
      ·refine WL.x (X.pickF rfl rfl rfl) (by decide) ?_
       refine WL.nil ?_
       refine WK.nThen ?_
       refine WC.condT rfl ?_
       refine WC.seq ?_
       refine WC.region ?_
       refine WL.x (X.assign rfl) (by decide) ?_
       refine WL.x (X.assign rfl) (by decide) ?_
       refine WL.nil ?_
       refine WK.nThen ?_
       refine WC.ret ?_
       refine WK.rThen ?_
       refine WK.ret2 rfl rfl rfl (fun w' hw' => Ret.exact hw' ?_)
       first | (exfalso; omega) | exact tup2 (int_eq (by rw [chgR_err (by omega)])) (int_eq (by rw [chgR_err (by omega)])) | exact tup2 (int_eq (by rw [chgR_arg (by omega) (fun hn => by first | exact absurd hn.1 (by assumption) | exact absurd hn.2 (by assumption))])) (int_eq (by rw [chgR_arg (by omega) (fun hn => by first | exact absurd hn.1 (by assumption) | exact absurd hn.2 (by assumption))])) | exact tup2 (int_eq (by rw [chgR_none (by omega) ⟨by assumption, by assumption⟩ (by omega)])) (int_eq (by rw [chgR_none (by omega) ⟨by assumption, by assumption⟩ (by omega)])) | exact tup2 (int_eq (by rw [chgR_ok (s := s) (a := a) (b := b) (by omega) ⟨by assumption, by assumption⟩ (by omega)])) (int_eq (by rw [chgR_ok (s := s) (a := a) (b := b) (by omega) ⟨by assumption, by assumption⟩ (by omega)]))
      ·refine WL.x (X.pickF rfl rfl rfl) (by decide) ?_
       refine WL.nil ?_
       refine WK.nThen ?_
       refine WC.condF rfl ?_
       refine WC.skip ?_
       refine WK.nThen ?_
       refine WC.seq ?_
       refine WK.ownF Int 3 ?_
       refine WC.region ?_
       refine WL.x (X.assign rfl) (by decide) ?_
       refine WL.nil ?_
       refine WK.nThen ?_
       refine WC.seq ?_
       refine WC.seq ?_
       refine WC.region ?_
       refine WL.x (X.assign rfl) (by decide) ?_
       refine WL.nil ?_
       refine WK.nThen ?_
       refine WC.block ?_
       refine WC.loop (G := Nat × Value) (fun (k, vo) => s.Values.length - k) (fun (k, vo) => m21) (fun (k, vo) => [rowF (vo) 3 ((List.range k).map (chg1 s a b)), blk b9 33 [.int .i64 (b.Lo), .int .i64 (b.Hi)], blk b8 33 [.int .i64 (a.Lo), .int .i64 (a.Hi)], blk b7 25 [v1, v3]]) (fun (k, vo) => [(3, .pointer (some ⟨b7, 0, none⟩)), (9, v18), (10, .int .i64 (↑(wtC s a))), (11, v25), (12, .int .i64 (↑(wtC s b))), (13, vo), (14, .int .i64 (↑k))]) (fun (k, vo) => k ≤ s.Values.length) ((0, Value.slice none 0 0)) rfl (.refl _) (.cons rfl (.cons rfl (.cons rfl (.cons rfl (.cons rfl (.cons rfl (.cons rfl .nil))))))) ?_ ?_
       ·exact Nat.zero_le _
       ·rintro ⟨k, vo⟩ hF30
        show WK _ _ m21 [rowF (vo) 3 ((List.range k).map (chg1 s a b)), blk b9 33 [.int .i64 (b.Lo), .int .i64 (b.Hi)], blk b8 33 [.int .i64 (a.Lo), .int .i64 (a.Hi)], blk b7 25 [v1, v3]] [(3, .pointer (some ⟨b7, 0, none⟩)), (9, v18), (10, .int .i64 (↑(wtC s a))), (11, v25), (12, .int .i64 (↑(wtC s b))), (13, vo), (14, .int .i64 (↑k))] _
        replace hF30 : k ≤ s.Values.length := hF30
        have hk := hF30
        have hv1 := fun h => (wt_fac (s := s) (x := b) (c := 1) (by omega)).2 k h
        have hwa1 : gt (wtL s a 1) k = 0 ∨ gt (wtL s a 1) k = 1 ∨ s.Values.length ≤ k := (by by_cases h : k < s.Values.length; (rw [wtL, gt_map h]; split <;> omega); omega)
        have hwb1 : gt (wtL s b 1) k = 0 ∨ gt (wtL s b 1) k = 1 ∨ s.Values.length ≤ k := (by by_cases h : k < s.Values.length; (rw [wtL, gt_map h]; split <;> omega); omega)
        have hm1 : k < s.Values.length → 0 ≤ gt (wtL s b 1) k * ↑(wtC s a) ∧ gt (wtL s b 1) k * ↑(wtC s a) ≤ 200 := (by intro h; rcases hwb1 with h1 | h1 | h1 <;> first | (rw [h1]; omega) | omega)
        have hm2 : k < s.Values.length → 0 ≤ gt (wtL s a 1) k * ↑(wtC s b) ∧ gt (wtL s a 1) k * ↑(wtC s b) ≤ 200 := (by intro h; rcases hwa1 with h1 | h1 | h1 <;> first | (rw [h1]; omega) | omega)
        refine WC.seq ?_
        refine WC.seq ?_
        refine WC.region ?_
        refine WL.x (X.move rfl) (by decide) ?_
        refine WL.x (X.move rfl) (by decide) ?_
        refine WL.x (X.len Try.runUnderlying28 rfl hs19) (by decide) ?_
        refine WL.cond (X.lss rfl rfl) (by decide) (fun h31 => ?_) (fun h31 => ?_)
        ·refine WL.nil ?_
         refine WK.nThen ?_
         refine WC.condT rfl ?_
         refine WC.skip ?_
         refine WK.nThen ?_
         refine WC.seq ?_
         refine WC.block ?_
         refine WC.draw (π := (.cons 0 (.cons 1 (.cons 2 (.cons 3 (.cons 4 (.cons 5 (.cons 6 (.cons 7 (.cons 8 (.cons 9 (.cons 10 (.cons 11 (.cons 12 (.cons 13 (.cons 14 (.cons 15 (.cons 16 .done)))))))))))))))))) [14, 15] [15] rfl (by kernel_rfl) ?_
         refine DW.x rfl rfl (X.move rfl) (by decide) ?_
         refine DW.x rfl rfl (X.move rfl) (by decide) ?_
         refine DW.x rfl rfl (X.move rfl) (by decide) ?_
         refine DW.xe rfl rfl (E.idxN k Try.runUnderlying28 Try.sizeOf3 rfl rfl hs26 (by omega)) (by decide) (fun p32 hp33 => ?_)
         refine DW.x rfl rfl (X.loadInt Try.isAgg3 rfl hp33) (by decide) ?_
         refine DW.x rfl rfl (X.move rfl) (by decide) ?_
         refine DW.x rfl rfl (X.mul rfl rfl (by omega) (by omega)) (by decide) ?_
         refine DW.x rfl rfl (X.move rfl) (by decide) ?_
         refine DW.x rfl rfl (X.move rfl) (by decide) ?_
         refine DW.xe rfl rfl (E.idxN k Try.runUnderlying28 Try.sizeOf3 rfl rfl hs19 (by omega)) (by decide) (fun p34 hp35 => ?_)
         refine DW.x rfl rfl (X.loadInt Try.isAgg3 rfl hp35) (by decide) ?_
         refine DW.x rfl rfl (X.move rfl) (by decide) ?_
         refine DW.x rfl rfl (X.mul rfl rfl (by omega) (by omega)) (by decide) ?_
         refine DW.x rfl rfl (X.sub rfl rfl (by omega) (by omega)) (by decide) ?_
         refine DW.tl rfl rfl rfl (T.lit1 sl28 rfl rfl rfl (by decide)) (by decide) fun b36 => ?_
         refine DW.ta rfl rfl rfl rfl (T.appendF (k := 0) (a := (((gt (wtL s b 1) k) * (↑(wtC s a))) - ((gt (wtL s a 1) k) * (↑(wtC s b))) : Int)) sl28 rfl rfl rfl rfl (by first | omega | (simp; omega)) (by decide)) (by decide) (fun v37 => ?_)
         refine DW.x rfl rfl (X.assign rfl) (by decide) ?_
         refine DW.nil ?_
         refine WK.nBlock ?_
         refine WK.nThen ?_
         refine WC.region ?_
         refine WL.x (X.move rfl) (by decide) ?_
         refine WL.x (X.add rfl rfl (by omega) (by omega)) (by decide) ?_
         refine WL.x (X.assign rfl) (by decide) ?_
         refine WL.nil ?_
         refine WK.nThen ?_
         have he38 : (((List.range k).map (chg1 s a b)) ++ [(((gt (wtL s b 1) k) * (↑(wtC s a))) - ((gt (wtL s a 1) k) * (↑(wtC s b))) : Int)]) = ((List.range (k + 1)).map (chg1 s a b)) := map_succ _ _
         rw [he38]
         refine WK.next ((k + 1, v37)) rfl (.refl _) (.cons rfl (.cons rfl (.cons rfl (.cons rfl (.cons rfl (.cons rfl (.cons rfl .nil))))))) ?_ ?_
         ·omega
         ·(dsimp only; omega)
        ·refine WL.nil ?_
         refine WK.nThen ?_
         refine WC.condF rfl ?_
         refine WC.exit ?_
         refine WK.eThen ?_
         refine WK.eThen ?_
         refine WK.eHit ?_
         refine WK.nThen ?_
         refine WC.seq ?_
         have he39 : ((List.range k).map (chg1 s a b)) = (chgL s a b) := (by rw [show k = s.Values.length by omega]; exact chgL_eq s a b)
         rw [he39]
         refine WC.region ?_
         refine WL.x (X.loadBA (k := 3) Try.isAgg25 Try.sizeOf25 rfl rfl rfl) (by decide) ?_
         refine WL.x (X.move rfl) (by decide) ?_
         refine WL.freezeF 0 rfl rfl (by simp [lenB]; omega) (fun m40 hle41 hs42 => ?_)
         replace hs2 := hs2.mono hle41
         replace hs4 := hs4.mono hle41
         replace hs19 := hs19.mono hle41
         replace hs26 := hs26.mono hle41
         refine WL.x (X.call Try.call123 rfl (bounds123 _ _ s ⟨_, _, rfl, hs2, hs4⟩ _ _ hs42 (by assumption) (by first | assumption | exact momL_fac (by assumption)))) (by decide) ?_
         refine WL.x (X.call Try.call126 rfl (sure126 _ _ (bd s ((chgL s a b))) rfl )) (by decide) ?_
         refine WL.x (X.assign rfl) (by decide) ?_
         refine WL.x (X.assign rfl) (by decide) ?_
         refine WL.nil ?_
         refine WK.nThen ?_
         refine WC.ret ?_
         refine WK.ret2 rfl rfl rfl (fun w' hw' => Ret.exact hw' ?_)
         first | (exfalso; omega) | exact tup2 (int_eq (by rw [chgR_err (by omega)])) (int_eq (by rw [chgR_err (by omega)])) | exact tup2 (int_eq (by rw [chgR_arg (by omega) (fun hn => by first | exact absurd hn.1 (by assumption) | exact absurd hn.2 (by assumption))])) (int_eq (by rw [chgR_arg (by omega) (fun hn => by first | exact absurd hn.1 (by assumption) | exact absurd hn.2 (by assumption))])) | exact tup2 (int_eq (by rw [chgR_none (by omega) ⟨by assumption, by assumption⟩ (by omega)])) (int_eq (by rw [chgR_none (by omega) ⟨by assumption, by assumption⟩ (by omega)])) | exact tup2 (int_eq (by rw [chgR_ok (s := s) (a := a) (b := b) (by omega) ⟨by assumption, by assumption⟩ (by omega)])) (int_eq (by rw [chgR_ok (s := s) (a := a) (b := b) (by omega) ⟨by assumption, by assumption⟩ (by omega)]))
   ·refine WL.yes rfl rfl ?_
    refine WL.x (X.not rfl) (by decide) ?_
    refine WL.yes rfl rfl ?_
    refine WL.x (X.pickF rfl rfl rfl) (by decide) ?_
    refine WL.x (X.pickT rfl rfl rfl) (by decide) ?_
    refine WL.nil ?_
    refine WK.nThen ?_
    refine WC.condT rfl ?_
    refine WC.seq ?_
    refine WC.region ?_
    refine WL.x (X.assign rfl) (by decide) ?_
    refine WL.x (X.assign rfl) (by decide) ?_
    refine WL.nil ?_
    refine WK.nThen ?_
    refine WC.ret ?_
    refine WK.rThen ?_
    refine WK.ret2 rfl rfl rfl (fun w' hw' => Ret.exact hw' ?_)
    first | (exfalso; omega) | exact tup2 (int_eq (by rw [chgR_err (by omega)])) (int_eq (by rw [chgR_err (by omega)])) | exact tup2 (int_eq (by rw [chgR_arg (by omega) (fun hn => by first | exact absurd hn.1 (by assumption) | exact absurd hn.2 (by assumption))])) (int_eq (by rw [chgR_arg (by omega) (fun hn => by first | exact absurd hn.1 (by assumption) | exact absurd hn.2 (by assumption))])) | exact tup2 (int_eq (by rw [chgR_none (by omega) ⟨by assumption, by assumption⟩ (by omega)])) (int_eq (by rw [chgR_none (by omega) ⟨by assumption, by assumption⟩ (by omega)])) | exact tup2 (int_eq (by rw [chgR_ok (s := s) (a := a) (b := b) (by omega) ⟨by assumption, by assumption⟩ (by omega)])) (int_eq (by rw [chgR_ok (s := s) (a := a) (b := b) (by omega) ⟨by assumption, by assumption⟩ (by omega)]))
  ·refine WL.yes rfl rfl ?_
   refine WL.x (X.not rfl) (by decide) ?_
   refine WL.yes rfl rfl ?_
   refine WL.x (X.move rfl) (by decide) ?_
   refine WL.no rfl rfl rfl (by decide) ?_
   refine WL.no rfl rfl rfl (by decide) ?_
   refine WL.no rfl rfl rfl (by decide) ?_
   refine WL.yes rfl rfl ?_
   refine WL.x (X.pickT rfl rfl rfl) (by decide) ?_
   refine WL.x (X.pickT rfl rfl rfl) (by decide) ?_
   refine WL.nil ?_
   refine WK.nThen ?_
   refine WC.condT rfl ?_
   refine WC.seq ?_
   refine WC.region ?_
   refine WL.x (X.assign rfl) (by decide) ?_
   refine WL.x (X.assign rfl) (by decide) ?_
   refine WL.nil ?_
   refine WK.nThen ?_
   refine WC.ret ?_
   refine WK.rThen ?_
   refine WK.ret2 rfl rfl rfl (fun w' hw' => Ret.exact hw' ?_)
   first | (exfalso; omega) | exact tup2 (int_eq (by rw [chgR_err (by omega)])) (int_eq (by rw [chgR_err (by omega)])) | exact tup2 (int_eq (by rw [chgR_arg (by omega) (fun hn => by first | exact absurd hn.1 (by assumption) | exact absurd hn.2 (by assumption))])) (int_eq (by rw [chgR_arg (by omega) (fun hn => by first | exact absurd hn.1 (by assumption) | exact absurd hn.2 (by assumption))])) | exact tup2 (int_eq (by rw [chgR_none (by omega) ⟨by assumption, by assumption⟩ (by omega)])) (int_eq (by rw [chgR_none (by omega) ⟨by assumption, by assumption⟩ (by omega)])) | exact tup2 (int_eq (by rw [chgR_ok (s := s) (a := a) (b := b) (by omega) ⟨by assumption, by assumption⟩ (by omega)])) (int_eq (by rw [chgR_ok (s := s) (a := a) (b := b) (by omega) ⟨by assumption, by assumption⟩ (by omega)]))
 ·refine WL.x (X.move rfl) (by decide) ?_
  refine WL.no rfl rfl rfl (by decide) ?_
  refine WL.no rfl rfl rfl (by decide) ?_
  refine WL.no rfl rfl rfl (by decide) ?_
  refine WL.no rfl rfl rfl (by decide) ?_
  refine WL.noU rfl rfl (by decide) ?_
  refine WL.noU rfl rfl (by decide) ?_
  refine WL.noU rfl rfl (by decide) ?_
  refine WL.no rfl rfl rfl (by decide) ?_
  refine WL.x (X.pickF rfl rfl rfl) (by decide) ?_
  refine WL.nil ?_
  refine WK.nThen ?_
  refine WC.condF rfl ?_
  refine WC.skip ?_
  refine WK.nThen ?_
  refine WC.seq ?_
  refine WC.seq ?_
  refine WC.region ?_
  refine WL.x (X.move rfl) (by decide) ?_
  refine WL.condn (X.neq rfl rfl) (by decide) (fun h43 => ?_) (fun h43 => ?_)
  ·refine WL.nil ?_
   refine WK.nThen ?_
   refine WC.condT rfl ?_
   refine WC.seq ?_
   refine WC.region ?_
   refine WL.x (X.move rfl) (by decide) ?_
   refine WL.x (X.assign rfl) (by decide) ?_
   refine WL.x (X.assign rfl) (by decide) ?_
   refine WL.nil ?_
   refine WK.nThen ?_
   refine WC.ret ?_
   refine WK.rThen ?_
   refine WK.ret2 rfl rfl rfl (fun w' hw' => Ret.exact hw' ?_)
   first | (exfalso; omega) | exact tup2 (int_eq (by rw [chgR_err (by omega)])) (int_eq (by rw [chgR_err (by omega)])) | exact tup2 (int_eq (by rw [chgR_arg (by omega) (fun hn => by first | exact absurd hn.1 (by assumption) | exact absurd hn.2 (by assumption))])) (int_eq (by rw [chgR_arg (by omega) (fun hn => by first | exact absurd hn.1 (by assumption) | exact absurd hn.2 (by assumption))])) | exact tup2 (int_eq (by rw [chgR_none (by omega) ⟨by assumption, by assumption⟩ (by omega)])) (int_eq (by rw [chgR_none (by omega) ⟨by assumption, by assumption⟩ (by omega)])) | exact tup2 (int_eq (by rw [chgR_ok (s := s) (a := a) (b := b) (by omega) ⟨by assumption, by assumption⟩ (by omega)])) (int_eq (by rw [chgR_ok (s := s) (a := a) (b := b) (by omega) ⟨by assumption, by assumption⟩ (by omega)]))
  ·refine WL.nil ?_
   refine WK.nThen ?_
   refine WC.condF rfl ?_
   refine WC.skip ?_
   refine WK.nThen ?_
   refine WC.seq ?_
   have hok := Ok.of (s := s) (by omega)
   have hnV := hok.nV
   have hwa := wtC_le s a
   have hwb := wtC_le s b
   have hcf := chg_fac hok a b
   have hcl := hcf.1
   have hl1 := wtL_len s a 1
   have hl2 := wtL_len s b 1
   refine WC.region ?_
   refine WL.x (X.loadBA (k := 2) Try.isAgg25 Try.sizeOf25 rfl rfl rfl) (by decide) ?_
   refine WL.x (X.loadBA (k := 1) Try.isAgg33 Try.sizeOf33 rfl rfl rfl) (by decide) ?_
   refine WL.tm (T.call Try.call133 rfl (in133 _ _ s ⟨_, _, rfl, hs2, hs4⟩ _ a rfl (by assumption))) (by decide) fun m44 r45 hle46 hR47 => ?_
   obtain ⟨v48, rfl, hs49⟩ := hR47
   replace hs2 := hs2.mono hle46
   replace hs4 := hs4.mono hle46
   have hl50 := hs49.le
   refine WL.x (X.move rfl) (by decide) ?_
   refine WL.x (X.extract rfl rfl) (by decide) ?_
   refine WL.x (X.extract rfl rfl) (by decide) ?_
   refine WL.x (X.assign rfl) (by decide) ?_
   refine WL.x (X.assign rfl) (by decide) ?_
   refine WL.nil ?_
   refine WK.nThen ?_
   refine WC.seq ?_
   refine WC.region ?_
   refine WL.x (X.loadBA (k := 2) Try.isAgg25 Try.sizeOf25 rfl rfl rfl) (by decide) ?_
   refine WL.x (X.loadBA (k := 0) Try.isAgg33 Try.sizeOf33 rfl rfl rfl) (by decide) ?_
   refine WL.tm (T.call Try.call133 rfl (in133 _ _ s ⟨_, _, rfl, hs2, hs4⟩ _ b rfl (by assumption))) (by decide) fun m51 r52 hle53 hR54 => ?_
   obtain ⟨v55, rfl, hs56⟩ := hR54
   replace hs2 := hs2.mono hle53
   replace hs4 := hs4.mono hle53
   replace hs49 := hs49.mono hle53
   have hl57 := hs56.le
   refine WL.x (X.move rfl) (by decide) ?_
   refine WL.x (X.extract rfl rfl) (by decide) ?_
   refine WL.x (X.extract rfl rfl) (by decide) ?_
   refine WL.x (X.assign rfl) (by decide) ?_
   refine WL.x (X.assign rfl) (by decide) ?_
   refine WL.nil ?_
   refine WK.nThen ?_
   refine WC.seq ?_
   refine WC.seq ?_
   refine WC.region ?_
   refine WL.x (X.move rfl) (by decide) ?_
   refine WL.cond (X.eql rfl rfl) (by decide) (fun h58 => ?_) (fun h58 => ?_)
   ·refine WL.x (X.move rfl) (by decide) ?_
    refine WL.no rfl rfl rfl (by decide) ?_
    refine WL.no rfl rfl rfl (by decide) ?_
    refine WL.x (X.pickT rfl rfl rfl) (by decide) ?_
    refine WL.nil ?_
    refine WK.nThen ?_
    refine WC.condT rfl ?_
    refine WC.seq ?_
    refine WC.region ?_
    refine WL.x (X.assign rfl) (by decide) ?_
    refine WL.x (X.assign rfl) (by decide) ?_
    refine WL.nil ?_
    refine WK.nThen ?_
    refine WC.ret ?_
    refine WK.rThen ?_
    refine WK.ret2 rfl rfl rfl (fun w' hw' => Ret.exact hw' ?_)
    first | (exfalso; omega) | exact tup2 (int_eq (by rw [chgR_err (by omega)])) (int_eq (by rw [chgR_err (by omega)])) | exact tup2 (int_eq (by rw [chgR_arg (by omega) (fun hn => by first | exact absurd hn.1 (by assumption) | exact absurd hn.2 (by assumption))])) (int_eq (by rw [chgR_arg (by omega) (fun hn => by first | exact absurd hn.1 (by assumption) | exact absurd hn.2 (by assumption))])) | exact tup2 (int_eq (by rw [chgR_none (by omega) ⟨by assumption, by assumption⟩ (by omega)])) (int_eq (by rw [chgR_none (by omega) ⟨by assumption, by assumption⟩ (by omega)])) | exact tup2 (int_eq (by rw [chgR_ok (s := s) (a := a) (b := b) (by omega) ⟨by assumption, by assumption⟩ (by omega)])) (int_eq (by rw [chgR_ok (s := s) (a := a) (b := b) (by omega) ⟨by assumption, by assumption⟩ (by omega)]))
   ·refine WL.x (X.move rfl) (by decide) ?_
    refine WL.yes rfl rfl ?_
    refine WL.x (X.move rfl) (by decide) ?_
    refine WL.yes rfl rfl ?_
    refine WL.cond (X.eql rfl rfl) (by decide) (fun h59 => ?_) (fun h59 => ?_)
    ·refine WL.x (X.pickF rfl rfl rfl) (by decide) ?_
     refine WL.nil ?_
     refine WK.nThen ?_
     refine WC.condT rfl ?_
     refine WC.seq ?_
     refine WC.region ?_
     refine WL.x (X.assign rfl) (by decide) ?_
     refine WL.x (X.assign rfl) (by decide) ?_
     refine WL.nil ?_
     refine WK.nThen ?_
     refine WC.ret ?_
     refine WK.rThen ?_
     refine WK.ret2 rfl rfl rfl (fun w' hw' => Ret.exact hw' ?_)
     first | (exfalso; omega) | exact tup2 (int_eq (by rw [chgR_err (by omega)])) (int_eq (by rw [chgR_err (by omega)])) | exact tup2 (int_eq (by rw [chgR_arg (by omega) (fun hn => by first | exact absurd hn.1 (by assumption) | exact absurd hn.2 (by assumption))])) (int_eq (by rw [chgR_arg (by omega) (fun hn => by first | exact absurd hn.1 (by assumption) | exact absurd hn.2 (by assumption))])) | exact tup2 (int_eq (by rw [chgR_none (by omega) ⟨by assumption, by assumption⟩ (by omega)])) (int_eq (by rw [chgR_none (by omega) ⟨by assumption, by assumption⟩ (by omega)])) | exact tup2 (int_eq (by rw [chgR_ok (s := s) (a := a) (b := b) (by omega) ⟨by assumption, by assumption⟩ (by omega)])) (int_eq (by rw [chgR_ok (s := s) (a := a) (b := b) (by omega) ⟨by assumption, by assumption⟩ (by omega)]))
    ·refine WL.x (X.pickF rfl rfl rfl) (by decide) ?_
     refine WL.nil ?_
     refine WK.nThen ?_
     refine WC.condF rfl ?_
     refine WC.skip ?_
     refine WK.nThen ?_
     refine WC.seq ?_
     refine WK.ownF Int 3 ?_
     refine WC.region ?_
     refine WL.x (X.assign rfl) (by decide) ?_
     refine WL.nil ?_
     refine WK.nThen ?_
     refine WC.seq ?_
     refine WC.seq ?_
     refine WC.region ?_
     refine WL.x (X.assign rfl) (by decide) ?_
     refine WL.nil ?_
     refine WK.nThen ?_
     refine WC.block ?_
     refine WC.loop (G := Nat × Value) (fun (k, vo) => s.Values.length - k) (fun (k, vo) => m51) (fun (k, vo) => [rowF (vo) 3 ((List.range k).map (chg1 s a b)), blk b9 33 [.int .i64 (b.Lo), .int .i64 (b.Hi)], blk b8 33 [.int .i64 (a.Lo), .int .i64 (a.Hi)], blk b7 25 [v1, v3]]) (fun (k, vo) => [(3, .pointer (some ⟨b7, 0, none⟩)), (9, v48), (10, .int .i64 (↑(wtC s a))), (11, v55), (12, .int .i64 (↑(wtC s b))), (13, vo), (14, .int .i64 (↑k))]) (fun (k, vo) => k ≤ s.Values.length) ((0, Value.slice none 0 0)) rfl (.refl _) (.cons rfl (.cons rfl (.cons rfl (.cons rfl (.cons rfl (.cons rfl (.cons rfl .nil))))))) ?_ ?_
     ·exact Nat.zero_le _
     ·rintro ⟨k, vo⟩ hF60
      show WK _ _ m51 [rowF (vo) 3 ((List.range k).map (chg1 s a b)), blk b9 33 [.int .i64 (b.Lo), .int .i64 (b.Hi)], blk b8 33 [.int .i64 (a.Lo), .int .i64 (a.Hi)], blk b7 25 [v1, v3]] [(3, .pointer (some ⟨b7, 0, none⟩)), (9, v48), (10, .int .i64 (↑(wtC s a))), (11, v55), (12, .int .i64 (↑(wtC s b))), (13, vo), (14, .int .i64 (↑k))] _
      replace hF60 : k ≤ s.Values.length := hF60
      have hk := hF60
      have hv1 := fun h => (wt_fac (s := s) (x := b) (c := 1) (by omega)).2 k h
      have hwa1 : gt (wtL s a 1) k = 0 ∨ gt (wtL s a 1) k = 1 ∨ s.Values.length ≤ k := (by by_cases h : k < s.Values.length; (rw [wtL, gt_map h]; split <;> omega); omega)
      have hwb1 : gt (wtL s b 1) k = 0 ∨ gt (wtL s b 1) k = 1 ∨ s.Values.length ≤ k := (by by_cases h : k < s.Values.length; (rw [wtL, gt_map h]; split <;> omega); omega)
      have hm1 : k < s.Values.length → 0 ≤ gt (wtL s b 1) k * ↑(wtC s a) ∧ gt (wtL s b 1) k * ↑(wtC s a) ≤ 200 := (by intro h; rcases hwb1 with h1 | h1 | h1 <;> first | (rw [h1]; omega) | omega)
      have hm2 : k < s.Values.length → 0 ≤ gt (wtL s a 1) k * ↑(wtC s b) ∧ gt (wtL s a 1) k * ↑(wtC s b) ≤ 200 := (by intro h; rcases hwa1 with h1 | h1 | h1 <;> first | (rw [h1]; omega) | omega)
      refine WC.seq ?_
      refine WC.seq ?_
      refine WC.region ?_
      refine WL.x (X.move rfl) (by decide) ?_
      refine WL.x (X.move rfl) (by decide) ?_
      refine WL.x (X.len Try.runUnderlying28 rfl hs49) (by decide) ?_
      refine WL.cond (X.lss rfl rfl) (by decide) (fun h61 => ?_) (fun h61 => ?_)
      ·refine WL.nil ?_
       refine WK.nThen ?_
       refine WC.condT rfl ?_
       refine WC.skip ?_
       refine WK.nThen ?_
       refine WC.seq ?_
       refine WC.block ?_
       refine WC.draw (π := (.cons 0 (.cons 1 (.cons 2 (.cons 3 (.cons 4 (.cons 5 (.cons 6 (.cons 7 (.cons 8 (.cons 9 (.cons 10 (.cons 11 (.cons 12 (.cons 13 (.cons 14 (.cons 15 (.cons 16 .done)))))))))))))))))) [14, 15] [15] rfl (by kernel_rfl) ?_
       refine DW.x rfl rfl (X.move rfl) (by decide) ?_
       refine DW.x rfl rfl (X.move rfl) (by decide) ?_
       refine DW.x rfl rfl (X.move rfl) (by decide) ?_
       refine DW.xe rfl rfl (E.idxN k Try.runUnderlying28 Try.sizeOf3 rfl rfl hs56 (by omega)) (by decide) (fun p62 hp63 => ?_)
       refine DW.x rfl rfl (X.loadInt Try.isAgg3 rfl hp63) (by decide) ?_
       refine DW.x rfl rfl (X.move rfl) (by decide) ?_
       refine DW.x rfl rfl (X.mul rfl rfl (by omega) (by omega)) (by decide) ?_
       refine DW.x rfl rfl (X.move rfl) (by decide) ?_
       refine DW.x rfl rfl (X.move rfl) (by decide) ?_
       refine DW.xe rfl rfl (E.idxN k Try.runUnderlying28 Try.sizeOf3 rfl rfl hs49 (by omega)) (by decide) (fun p64 hp65 => ?_)
       refine DW.x rfl rfl (X.loadInt Try.isAgg3 rfl hp65) (by decide) ?_
       refine DW.x rfl rfl (X.move rfl) (by decide) ?_
       refine DW.x rfl rfl (X.mul rfl rfl (by omega) (by omega)) (by decide) ?_
       refine DW.x rfl rfl (X.sub rfl rfl (by omega) (by omega)) (by decide) ?_
       refine DW.tl rfl rfl rfl (T.lit1 sl28 rfl rfl rfl (by decide)) (by decide) fun b66 => ?_
       refine DW.ta rfl rfl rfl rfl (T.appendF (k := 0) (a := (((gt (wtL s b 1) k) * (↑(wtC s a))) - ((gt (wtL s a 1) k) * (↑(wtC s b))) : Int)) sl28 rfl rfl rfl rfl (by first | omega | (simp; omega)) (by decide)) (by decide) (fun v67 => ?_)
       refine DW.x rfl rfl (X.assign rfl) (by decide) ?_
       refine DW.nil ?_
       refine WK.nBlock ?_
       refine WK.nThen ?_
       refine WC.region ?_
       refine WL.x (X.move rfl) (by decide) ?_
       refine WL.x (X.add rfl rfl (by omega) (by omega)) (by decide) ?_
       refine WL.x (X.assign rfl) (by decide) ?_
       refine WL.nil ?_
       refine WK.nThen ?_
       have he68 : (((List.range k).map (chg1 s a b)) ++ [(((gt (wtL s b 1) k) * (↑(wtC s a))) - ((gt (wtL s a 1) k) * (↑(wtC s b))) : Int)]) = ((List.range (k + 1)).map (chg1 s a b)) := map_succ _ _
       rw [he68]
       refine WK.next ((k + 1, v67)) rfl (.refl _) (.cons rfl (.cons rfl (.cons rfl (.cons rfl (.cons rfl (.cons rfl (.cons rfl .nil))))))) ?_ ?_
       ·omega
       ·(dsimp only; omega)
      ·refine WL.nil ?_
       refine WK.nThen ?_
       refine WC.condF rfl ?_
       refine WC.exit ?_
       refine WK.eThen ?_
       refine WK.eThen ?_
       refine WK.eHit ?_
       refine WK.nThen ?_
       refine WC.seq ?_
       have he69 : ((List.range k).map (chg1 s a b)) = (chgL s a b) := (by rw [show k = s.Values.length by omega]; exact chgL_eq s a b)
       rw [he69]
       refine WC.region ?_
       refine WL.x (X.loadBA (k := 3) Try.isAgg25 Try.sizeOf25 rfl rfl rfl) (by decide) ?_
       refine WL.x (X.move rfl) (by decide) ?_
       refine WL.freezeF 0 rfl rfl (by simp [lenB]; omega) (fun m70 hle71 hs72 => ?_)
       replace hs2 := hs2.mono hle71
       replace hs4 := hs4.mono hle71
       replace hs49 := hs49.mono hle71
       replace hs56 := hs56.mono hle71
       refine WL.x (X.call Try.call123 rfl (bounds123 _ _ s ⟨_, _, rfl, hs2, hs4⟩ _ _ hs72 (by assumption) (by first | assumption | exact momL_fac (by assumption)))) (by decide) ?_
       refine WL.x (X.call Try.call126 rfl (sure126 _ _ (bd s ((chgL s a b))) rfl )) (by decide) ?_
       refine WL.x (X.assign rfl) (by decide) ?_
       refine WL.x (X.assign rfl) (by decide) ?_
       refine WL.nil ?_
       refine WK.nThen ?_
       refine WC.ret ?_
       refine WK.ret2 rfl rfl rfl (fun w' hw' => Ret.exact hw' ?_)
       first | (exfalso; omega) | exact tup2 (int_eq (by rw [chgR_err (by omega)])) (int_eq (by rw [chgR_err (by omega)])) | exact tup2 (int_eq (by rw [chgR_arg (by omega) (fun hn => by first | exact absurd hn.1 (by assumption) | exact absurd hn.2 (by assumption))])) (int_eq (by rw [chgR_arg (by omega) (fun hn => by first | exact absurd hn.1 (by assumption) | exact absurd hn.2 (by assumption))])) | exact tup2 (int_eq (by rw [chgR_none (by omega) ⟨by assumption, by assumption⟩ (by omega)])) (int_eq (by rw [chgR_none (by omega) ⟨by assumption, by assumption⟩ (by omega)])) | exact tup2 (int_eq (by rw [chgR_ok (s := s) (a := a) (b := b) (by omega) ⟨by assumption, by assumption⟩ (by omega)])) (int_eq (by rw [chgR_ok (s := s) (a := a) (b := b) (by omega) ⟨by assumption, by assumption⟩ (by omega)]))

end Go.Proofs.C8
