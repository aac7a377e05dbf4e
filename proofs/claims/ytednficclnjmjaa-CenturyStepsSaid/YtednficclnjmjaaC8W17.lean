import Derived.Test.YtednficclnjmjaaC8Ris
import Derived.Test.YtednficclnjmjaaC8Ref8
import Derived.Test.YtednficclnjmjaaC8W15
/- Century: walks, seventeenth part, by program. -/
namespace Go.Proofs.C8
open Go Go.Kx
set_option linter.unusedSimpArgs false

set_option maxRecDepth 20000 in
set_option maxHeartbeats 4000000 in
theorem adjust26 (m : Mem) (cs : List Value) (s : Ser) (hs : Enc.rd m cs s) (ct : List Value) (t : Ser) (ht : Enc.rd m ct t) (time : Int) (most : Int)   : Exact Try.prog 26 #[.agg cs.toArray, .agg ct.toArray, .int .i64 (time), .int .i64 (most)] m (.tuple #[.agg [.int .i64 ((adjR s t time most).1.Lo), .int .i64 ((adjR s t time most).1.Hi)].toArray, .int .i64 ((adjR s t time most).2)]) := by
 obtain ⟨v1, v3, rfl, hs2, hs4⟩ := hs
 have hl5 := hs2.le
 have hl6 := hs4.le
 obtain ⟨v7, v9, rfl, hs8, hs10⟩ := ht
 have hl11 := hs8.le
 have hl12 := hs10.le
 refine Exact.start Try.func26 rfl Try.ntmps26 rfl fun wld => ?_
 refine WC.seq ?_
 refine WC.region ?_
 refine WL.tn (T.boxB rfl rfl) (by decide) fun b13 => ?_
 refine WL.tn (T.boxB rfl rfl) (by decide) fun b14 => ?_
 refine WL.tn (T.alloc Try.zeroValue33 rfl) (by decide) fun b15 => ?_
 refine WL.x (X.assign rfl) (by decide) ?_
 refine WL.nil ?_
 refine WK.nThen ?_
 refine WC.seq ?_
 refine WC.region ?_
 refine WL.x (X.loadBA (k := 2) Try.isAgg25 Try.sizeOf25 rfl rfl rfl) (by decide) ?_
 refine WL.x (X.loadBA (k := 1) Try.isAgg25 Try.sizeOf25 rfl rfl rfl) (by decide) ?_
 refine WL.x (X.call Try.call85 rfl (both85 _ _ s ⟨_, _, rfl, hs2, hs4⟩ _ t ⟨_, _, rfl, hs8, hs10⟩ )) (by decide) ?_
 refine WL.x (X.assign rfl) (by decide) ?_
 refine WL.nil ?_
 refine WK.nThen ?_
 refine WC.seq ?_
 refine WC.seq ?_
 refine WC.region ?_
 refine WL.x (X.move rfl) (by decide) ?_
 refine WL.cond (X.eql rfl rfl) (by decide) (fun h16 => ?_) (fun h16 => ?_)
 ·refine WL.x (X.move rfl) (by decide) ?_
  refine WL.yes rfl rfl ?_
  refine WL.x (X.move rfl) (by decide) ?_
  refine WL.yes rfl rfl ?_
  refine WL.cond (X.call Try.call86 rfl (within86 _ _ _ _ )) (by decide) (fun h17 => ?_) (fun h17 => ?_)
  ·refine WL.yes rfl rfl ?_
   refine WL.x (X.not rfl) (by decide) ?_
   refine WL.yes rfl rfl ?_
   refine WL.x (X.move rfl) (by decide) ?_
   refine WL.yes rfl rfl ?_
   refine WL.x (X.move rfl) (by decide) ?_
   refine WL.yes rfl rfl ?_
   refine WL.cond (X.call Try.call86 rfl (within86 _ _ _ _ )) (by decide) (fun h18 => ?_) (fun h18 => ?_)
   ·refine WL.yes rfl rfl ?_
    refine WL.x (X.not rfl) (by decide) ?_
    refine WL.yes rfl rfl ?_
    refine WL.x (X.pickF rfl rfl rfl) (by decide) ?_
    refine WL.x (X.pickT rfl rfl rfl) (by decide) ?_
    refine WL.nil ?_
    refine WK.nThen ?_
    refine WC.condF rfl ?_
    refine WC.skip ?_
    refine WK.nThen ?_
    refine WC.seq ?_
    refine WC.seq ?_
    refine WC.region ?_
    refine WL.x (X.move rfl) (by decide) ?_
    refine WL.x (OpX.f (X.neq rfl rfl) (fun hn_ => hn_ h16)) (by decide) ?_
    refine WL.nil ?_
    refine WK.nThen ?_
    refine WC.condF rfl ?_
    refine WC.skip ?_
    refine WK.nThen ?_
    refine WC.seq ?_
    have h2z0 : twoE s t = 0 := (by omega)
    have h2z := twoE_zero (s := s) (t := t) h2z0
    have hos := Ok.of h2z.1
    have hot := Ok.of h2z.2
    have hnV := hos.nV
    have hcl := comL_len s t
    have hpl := prL_len s t
    have hrg : (0 ≤ time ∧ time ≤ 10000) ∧ (0 ≤ most ∧ most ≤ 24000) := (by omega)
    refine WC.region ?_
    refine WL.x (X.loadBA (k := 2) Try.isAgg25 Try.sizeOf25 rfl rfl rfl) (by decide) ?_
    refine WL.x (X.loadBA (k := 1) Try.isAgg25 Try.sizeOf25 rfl rfl rfl) (by decide) ?_
    refine WL.tm (T.call Try.call87 rfl (common87 _ _ s ⟨_, _, rfl, hs2, hs4⟩ _ t ⟨_, _, rfl, hs8, hs10⟩ (by assumption) (by assumption))) (by decide) fun m19 r20 hle21 hR22 => ?_
    obtain ⟨v23, hv_, hs24⟩ := hR22
    rw [← hv_] at hs24
    clear hv_ v23
    replace hs2 := hs2.mono hle21
    replace hs4 := hs4.mono hle21
    replace hs8 := hs8.mono hle21
    replace hs10 := hs10.mono hle21
    have hl25 := hs24.le
    refine WL.x (X.assign rfl) (by decide) ?_
    refine WL.nil ?_
    refine WK.nThen ?_
    refine WC.seq ?_
    refine WK.ownF Pr 119 ?_
    refine WC.region ?_
    refine WL.x (X.assign rfl) (by decide) ?_
    refine WL.nil ?_
    refine WK.nThen ?_
    refine WC.seq ?_
    refine WK.ownF Pr 119 ?_
    refine WC.region ?_
    refine WL.x (X.assign rfl) (by decide) ?_
    refine WL.nil ?_
    refine WK.nThen ?_
    refine WC.seq ?_
    refine WC.seq ?_
    refine WC.region ?_
    refine WL.x (X.assign rfl) (by decide) ?_
    refine WL.nil ?_
    refine WK.nThen ?_
    refine WC.block ?_
    refine WC.loop (G := Nat × Value × Value) (fun (n, va, vb) => (comL s t).length - n) (fun (n, va, vb) => m19) (fun (n, va, vb) => [rowF (vb) 119 (bhN s t time n), rowF (va) 119 (ahN s t time n), blk b15 33 [.int .i64 (0), .int .i64 (0)], blk b14 25 [v7, v9], blk b13 25 [v1, v3]]) (fun (n, va, vb) => [(2, .int .i64 (time)), (3, .int .i64 (most)), (4, .pointer (some ⟨b13, 0, none⟩)), (5, .pointer (some ⟨b14, 0, none⟩)), (8, .pointer (some ⟨b15, 0, none⟩)), (11, r20), (12, va), (13, vb), (14, .int .i64 (↑n))]) (fun (n, va, vb) => n ≤ (comL s t).length) ((0, Value.slice none 0 0, (Value.slice none 0 0))) rfl (.refl _) (.cons rfl (.cons rfl (.cons rfl (.cons rfl (.cons rfl (.cons rfl (.cons rfl (.cons rfl (.cons rfl .nil))))))))) ?_ ?_
    ·exact Nat.zero_le _
    ·rintro ⟨n, va, vb⟩ hF26
     show WK _ _ m19 [rowF (vb) 119 (bhN s t time n), rowF (va) 119 (ahN s t time n), blk b15 33 [.int .i64 (0), .int .i64 (0)], blk b14 25 [v7, v9], blk b13 25 [v1, v3]] [(2, .int .i64 (time)), (3, .int .i64 (most)), (4, .pointer (some ⟨b13, 0, none⟩)), (5, .pointer (some ⟨b14, 0, none⟩)), (8, .pointer (some ⟨b15, 0, none⟩)), (11, r20), (12, va), (13, vb), (14, .int .i64 (↑n))] _
     replace hF26 : n ≤ (comL s t).length := hF26
     have hn := hF26
     refine WK.good (fun hgood0 => ?_)
     have hal := ah_len s t time n
     refine WC.seq ?_
     refine WC.seq ?_
     refine WC.region ?_
     refine WL.x (X.move rfl) (by decide) ?_
     refine WL.x (X.move rfl) (by decide) ?_
     refine WL.x (X.len Try.runUnderlying115 rfl hs24) (by decide) ?_
     refine WL.cond (X.lss rfl rfl) (by decide) (fun h27 => ?_) (fun h27 => ?_)
     ·refine WL.nil ?_
      refine WK.nThen ?_
      refine WC.condT rfl ?_
      refine WC.skip ?_
      refine WK.nThen ?_
      refine WC.seq ?_
      refine WC.block ?_
      refine WC.seq ?_
      have hpk := pr_ok (s := s) (t := t) (n := n) (by omega)
      unfold prOk at hpk
      refine WC.draw (π := (.cons 0 (.cons 1 (.cons 2 (.cons 3 (.cons 4 (.cons 5 (.cons 6 (.cons 7 (.cons 8 (.cons 9 (.cons 10 (.cons 11 .done))))))))))))) [] [] rfl (by kernel_rfl) ?_
      refine DW.x rfl rfl (X.field Try.runUnderlying25 rfl Try.sizeOf22 rfl) (by decide) ?_
      refine DW.x rfl rfl (X.loadB (k := 4) Try.isAgg22 rfl rfl rfl) (by decide) ?_
      refine DW.x rfl rfl (X.move rfl) (by decide) ?_
      refine DW.x rfl rfl (X.move rfl) (by decide) ?_
      refine DW.xe rfl rfl (E.idxN n Try.runUnderlying115 Try.sizeOf119 rfl rfl hs24 (by omega)) (by decide) (fun p28 hp29 => ?_)
      have hp30 := At.Pr_0 hp29
      refine DW.x rfl rfl (X.field Try.runUnderlying119 rfl Try.sizeOf3 rfl) (by decide) ?_
      refine DW.x rfl rfl (X.loadInt Try.isAgg3 rfl hp30) (by decide) ?_
      refine DW.xe rfl rfl (E.idx Try.runUnderlying22 Try.sizeOf62 rfl rfl hs2 (by omega) (by omega)) (by decide) (fun p31 hp32 => ?_)
      have hp33 := At.Val_0 hp32
      refine DW.x rfl rfl (X.field Try.runUnderlying62 rfl Try.sizeOf3 rfl) (by decide) ?_
      refine DW.x rfl rfl (X.loadInt Try.isAgg3 rfl hp33) (by decide) ?_
      refine DW.x rfl rfl (X.move rfl) (by decide) ?_
      refine DW.cond rfl rfl (X.lss rfl rfl) (by decide) (fun h34 => ?_) (fun h34 => ?_)
      ·refine DW.nil ?_
       refine WK.nThen ?_
       refine WC.condT rfl ?_
       refine WC.region ?_
       refine WL.x (X.move rfl) (by decide) ?_
       refine WL.x (X.move rfl) (by decide) ?_
       refine WL.x (X.move rfl) (by decide) ?_
       refine WL.xe (E.idxN n Try.runUnderlying115 Try.sizeOf119 rfl rfl hs24 (by omega)) (by decide) (fun p35 hp36 => ?_)
       refine WL.xe (E.loadAgg Try.isAgg119 Try.sizeOf119 rfl hp36) (by decide) (fun c37 hc38 => ?_)
       obtain rfl := hc38
       refine WL.tl (T.lit1 sl115 rfl rfl rfl (by decide)) (by decide) fun b39 => ?_
       refine WL.ta (T.appendF (k := 1) (a := gt (prL s t) n) sl115 rfl rfl rfl rfl (by first | omega | (simp; done) | (simp; omega)) (by decide)) (by decide) (fun v40 => ?_)
       refine WL.x (X.assign rfl) (by decide) ?_
       refine WL.nil ?_
       refine WK.nBlock ?_
       refine WK.nThen ?_
       refine WC.region ?_
       refine WL.x (X.move rfl) (by decide) ?_
       refine WL.x (X.add rfl rfl (by omega) (by omega)) (by decide) ?_
       refine WL.x (X.assign rfl) (by decide) ?_
       refine WL.nil ?_
       refine WK.nThen ?_
       have he41 : ((ahN s t time n) ++ [gt (prL s t) n]) = (ahN s t time (n + 1)) := (by rw [ahN]; first | rw [if_pos (by omega)] | rw [if_neg (by omega)])
       rw [he41]
       have he42 : (bhN s t time n) = (bhN s t time (n + 1)) := (by rw [bhN]; first | rw [if_pos (by omega)] | rw [if_neg (by omega)])
       rw [he42]
       refine WK.next ((n + 1, v40, vb)) rfl (.refl _) (.cons rfl (.cons rfl (.cons rfl (.cons rfl (.cons rfl (.cons rfl (.cons rfl (.cons rfl (.cons rfl .nil))))))))) ?_ ?_
       ·omega
       ·(dsimp only; omega)
      ·refine DW.nil ?_
       refine WK.nThen ?_
       refine WC.condF rfl ?_
       refine WC.region ?_
       refine WL.x (X.move rfl) (by decide) ?_
       refine WL.x (X.move rfl) (by decide) ?_
       refine WL.xe (E.idxN n Try.runUnderlying115 Try.sizeOf119 rfl rfl hs24 (by omega)) (by decide) (fun p43 hp44 => ?_)
       refine WL.xe (E.loadAgg Try.isAgg119 Try.sizeOf119 rfl hp44) (by decide) (fun c45 hc46 => ?_)
       obtain rfl := hc46
       refine WL.freezeF 0 rfl rfl (by unfold lenB; first | omega | (simp; omega)) (fun m47 hle48 hs49 => ?_)
       replace hs2 := hs2.mono hle48
       replace hs4 := hs4.mono hle48
       replace hs8 := hs8.mono hle48
       replace hs10 := hs10.mono hle48
       replace hs24 := hs24.mono hle48
       replace hp29 := hp29.mono hle48
       replace hp30 := hp30.mono hle48
       replace hp32 := hp32.mono hle48
       replace hp33 := hp33.mono hle48
       replace hp44 := hp44.mono hle48
       refine WL.ta (T.litF (vals := [.agg [.int .i64 ((gt (prL s t) n).s), .int .i64 ((gt (prL s t) n).t)].toArray]) (L := [gt (prL s t) n]) sl115 rfl rfl (by intro v hv; simp at hv; subst hv; rfl) rfl rfl rfl) (by decide) (fun v50 => ?_)
       refine WL.x (X.move rfl) (by decide) ?_
       refine WL.ta (T.appendFl (α := Pr) (fun _ _ _ h => h) (k := 0) sl115 rfl rfl hs49 rfl (by first | omega | (simp; omega)) (by first | omega | (simp; omega))) (by decide) (fun v51 => ?_)
       refine WL.x (X.assign rfl) (by decide) ?_
       refine WL.nil ?_
       refine WK.nBlock ?_
       refine WK.nThen ?_
       refine WC.region ?_
       refine WL.x (X.move rfl) (by decide) ?_
       refine WL.x (X.add rfl rfl (by omega) (by omega)) (by decide) ?_
       refine WL.x (X.assign rfl) (by decide) ?_
       refine WL.nil ?_
       refine WK.nThen ?_
       refine WK.back hgood0 hle48 ?_
       have he52 : (ahN s t time n) = (ahN s t time (n + 1)) := (by rw [ahN]; first | rw [if_pos (by omega)] | rw [if_neg (by omega)])
       rw [he52]
       have he53 : (([gt (prL s t) n]) ++ (bhN s t time n)) = (bhN s t time (n + 1)) := (by rw [bhN]; first | rw [if_pos (by omega)] | rw [if_neg (by omega)])
       rw [he53]
       refine WK.next ((n + 1, va, v51)) rfl (.refl _) (.cons rfl (.cons rfl (.cons rfl (.cons rfl (.cons rfl (.cons rfl (.cons rfl (.cons rfl (.cons rfl .nil))))))))) ?_ ?_
       ·omega
       ·(dsimp only; omega)
     ·refine WL.nil ?_
      refine WK.nThen ?_
      refine WC.condF rfl ?_
      refine WC.exit ?_
      refine WK.eThen ?_
      refine WK.eThen ?_
      refine WK.eHit ?_
      refine WK.nThen ?_
      refine WC.seq ?_
      refine WC.seq ?_
      have hnn : n = (comL s t).length := (by omega)
      have he54 : (ahN s t time n) = (ahL s t time) := (by rw [hnn])
      rw [he54]
      have he55 : (bhN s t time n) = (bhL s t time) := (by rw [hnn])
      rw [he55]
      have hal2 : (ahL s t time).length + (bhL s t time).length = (comL s t).length := ah_len s t time _
      refine WC.region ?_
      refine WL.x (X.move rfl) (by decide) ?_
      refine WL.x (X.lenF (k := 1) Try.runUnderlying115 rfl rfl) (by decide) ?_
      refine WL.cond (X.eql rfl rfl) (by decide) (fun h56 => ?_) (fun h56 => ?_)
      ·refine WL.x (X.move rfl) (by decide) ?_
       refine WL.no rfl rfl rfl (by decide) ?_
       refine WL.no rfl rfl rfl (by decide) ?_
       refine WL.no rfl rfl rfl (by decide) ?_
       refine WL.x (X.pickT rfl rfl rfl) (by decide) ?_
       refine WL.nil ?_
       refine WK.nThen ?_
       refine WC.condT rfl ?_
       refine WC.seq ?_
       refine WC.region ?_
       refine WL.x (V := Value.agg [.int .i64 (0), .int .i64 (0)].toArray) (X.build Try.zeroValue33 Try.runUnderlying33 (places33 _ Try.underlying33) rfl rfl) (by decide) ?_
       refine WL.ts (T.storeBA (k := 2) Try.sizeOf33 rfl rfl rfl (one_cons rfl (one_cons rfl one_nil)) rfl rfl) ?_
       refine WL.x (X.assign rfl) (by decide) ?_
       refine WL.nil ?_
       refine WK.nThen ?_
       refine WC.ret ?_
       refine WK.rThen ?_
       refine WK.retC2 2 rfl rfl rfl rfl Try.isAgg33 Try.sizeOf33 (fun w' hw' => Ret.exact hw' ?_)
       first | (exfalso; omega) | exact tup2 (agg2i (by rw [adj_err (by omega)]) (by rw [adj_err (by omega)])) (int_eq (by rw [adj_err (by omega)])) | exact tup2 (agg2i (by rw [adj_arg (by omega) (by omega)]) (by rw [adj_arg (by omega) (by omega)])) (int_eq (by rw [adj_arg (by omega) (by omega)])) | exact tup2 (agg2i (by rw [(rad_n hos h2z0 hrg (by omega))]) (by rw [(rad_n hos h2z0 hrg (by omega))])) (int_eq (by rw [(rad_n hos h2z0 hrg (by omega))])) | exact tup2 (agg2i (by rw [(rad_e hos hot h2z0 hrg (by omega) (by omega) (by omega))]) (by rw [(rad_e hos hot h2z0 hrg (by omega) (by omega) (by omega))])) (int_eq (by rw [(rad_e hos hot h2z0 hrg (by omega) (by omega) (by omega))])) | exact tup2 (agg2i (by rw [hadj]) (by rw [hadj])) (int_eq (by rw [hadj]))
      ·refine WL.x (X.move rfl) (by decide) ?_
       refine WL.yes rfl rfl ?_
       refine WL.x (X.move rfl) (by decide) ?_
       refine WL.yes rfl rfl ?_
       refine WL.x (X.lenF (k := 0) Try.runUnderlying115 rfl rfl) (by decide) ?_
       refine WL.yes rfl rfl ?_
       refine WL.cond (X.eql rfl rfl) (by decide) (fun h57 => ?_) (fun h57 => ?_)
       ·refine WL.x (X.pickF rfl rfl rfl) (by decide) ?_
        refine WL.nil ?_
        refine WK.nThen ?_
        refine WC.condT rfl ?_
        refine WC.seq ?_
        refine WC.region ?_
        refine WL.x (V := Value.agg [.int .i64 (0), .int .i64 (0)].toArray) (X.build Try.zeroValue33 Try.runUnderlying33 (places33 _ Try.underlying33) rfl rfl) (by decide) ?_
        refine WL.ts (T.storeBA (k := 2) Try.sizeOf33 rfl rfl rfl (one_cons rfl (one_cons rfl one_nil)) rfl rfl) ?_
        refine WL.x (X.assign rfl) (by decide) ?_
        refine WL.nil ?_
        refine WK.nThen ?_
        refine WC.ret ?_
        refine WK.rThen ?_
        refine WK.retC2 2 rfl rfl rfl rfl Try.isAgg33 Try.sizeOf33 (fun w' hw' => Ret.exact hw' ?_)
        first | (exfalso; omega) | exact tup2 (agg2i (by rw [adj_err (by omega)]) (by rw [adj_err (by omega)])) (int_eq (by rw [adj_err (by omega)])) | exact tup2 (agg2i (by rw [adj_arg (by omega) (by omega)]) (by rw [adj_arg (by omega) (by omega)])) (int_eq (by rw [adj_arg (by omega) (by omega)])) | exact tup2 (agg2i (by rw [(rad_n hos h2z0 hrg (by omega))]) (by rw [(rad_n hos h2z0 hrg (by omega))])) (int_eq (by rw [(rad_n hos h2z0 hrg (by omega))])) | exact tup2 (agg2i (by rw [(rad_e hos hot h2z0 hrg (by omega) (by omega) (by omega))]) (by rw [(rad_e hos hot h2z0 hrg (by omega) (by omega) (by omega))])) (int_eq (by rw [(rad_e hos hot h2z0 hrg (by omega) (by omega) (by omega))])) | exact tup2 (agg2i (by rw [hadj]) (by rw [hadj])) (int_eq (by rw [hadj]))
       ·refine WL.x (X.pickF rfl rfl rfl) (by decide) ?_
        refine WL.nil ?_
        refine WK.nThen ?_
        refine WC.condF rfl ?_
        refine WC.skip ?_
        refine WK.nThen ?_
        refine WC.seq ?_
        refine WC.region ?_
        refine WL.x (X.loadBA (k := 4) Try.isAgg25 Try.sizeOf25 rfl rfl rfl) (by decide) ?_
        refine WL.x (X.loadBA (k := 3) Try.isAgg25 Try.sizeOf25 rfl rfl rfl) (by decide) ?_
        refine WL.x (X.move rfl) (by decide) ?_
        refine WL.x (X.move rfl) (by decide) ?_
        refine WL.freezeF 1 rfl rfl (by unfold lenB; first | omega | (simp; omega)) (fun m58 hle59 hs60 => ?_)
        replace hs2 := hs2.mono hle59
        replace hs4 := hs4.mono hle59
        replace hs8 := hs8.mono hle59
        replace hs10 := hs10.mono hle59
        replace hs24 := hs24.mono hle59
        refine WL.x (X.call Try.call93 rfl (chain93 _ _ s ⟨_, _, rfl, hs2, hs4⟩ _ t ⟨_, _, rfl, hs8, hs10⟩ _ _ hs60 _ (by assumption) (by assumption) (by omega) (by omega) (by first | exact ah_pr hos | exact bh_pr hos))) (by decide) ?_
        refine WL.tn (T.alloc Try.zeroValue33 rfl) (by decide) fun b61 => ?_
        refine WL.ts (T.storeBA (k := 0) Try.sizeOf33 rfl rfl rfl (one_cons rfl (one_cons rfl one_nil)) rfl rfl) ?_
        refine WL.nil ?_
        refine WK.nThen ?_
        refine WC.seq ?_
        refine WC.region ?_
        refine WL.x (X.loadBA (k := 4) Try.isAgg25 Try.sizeOf25 rfl rfl rfl) (by decide) ?_
        refine WL.x (X.loadBA (k := 3) Try.isAgg25 Try.sizeOf25 rfl rfl rfl) (by decide) ?_
        refine WL.x (X.move rfl) (by decide) ?_
        refine WL.x (X.move rfl) (by decide) ?_
        refine WL.freezeF 1 rfl rfl (by unfold lenB; first | omega | (simp; omega)) (fun m62 hle63 hs64 => ?_)
        replace hs2 := hs2.mono hle63
        replace hs4 := hs4.mono hle63
        replace hs8 := hs8.mono hle63
        replace hs10 := hs10.mono hle63
        replace hs24 := hs24.mono hle63
        replace hs60 := hs60.mono hle63
        refine WL.x (X.call Try.call93 rfl (chain93 _ _ s ⟨_, _, rfl, hs2, hs4⟩ _ t ⟨_, _, rfl, hs8, hs10⟩ _ _ hs64 _ (by assumption) (by assumption) (by omega) (by omega) (by first | exact ah_pr hos | exact bh_pr hos))) (by decide) ?_
        refine WL.tn (T.alloc Try.zeroValue33 rfl) (by decide) fun b65 => ?_
        refine WL.ts (T.storeBA (k := 0) Try.sizeOf33 rfl rfl rfl (one_cons rfl (one_cons rfl one_nil)) rfl rfl) ?_
        refine WL.nil ?_
        refine WK.nThen ?_
        refine WC.seq ?_
        refine WC.seq ?_
        have hcb1 := chR_bd hos hot hrg.2 (l := ahL s t time) (by omega) (ah_pr hos)
        have hcb2 := chR_bd hos hot hrg.2 (l := bhL s t time) (by omega) (bh_pr hos)
        refine WC.region ?_
        refine WL.x (X.field Try.runUnderlying33 rfl Try.sizeOf3 rfl) (by decide) ?_
        refine WL.x (X.loadB (k := 1) Try.isAgg3 rfl rfl rfl) (by decide) ?_
        refine WL.x (X.field Try.runUnderlying33 rfl Try.sizeOf3 rfl) (by decide) ?_
        refine WL.x (X.loadB (k := 1) Try.isAgg3 rfl rfl rfl) (by decide) ?_
        refine WL.cond (X.gtr rfl rfl) (by decide) (fun h66 => ?_) (fun h66 => ?_)
        ·refine WL.x (X.move rfl) (by decide) ?_
         refine WL.no rfl rfl rfl (by decide) ?_
         refine WL.no rfl rfl rfl (by decide) ?_
         refine WL.no rfl rfl rfl (by decide) ?_
         refine WL.no rfl rfl rfl (by decide) ?_
         refine WL.no rfl rfl rfl (by decide) ?_
         refine WL.x (X.pickT rfl rfl rfl) (by decide) ?_
         refine WL.nil ?_
         refine WK.nThen ?_
         refine WC.condT rfl ?_
         refine WC.seq ?_
         refine WC.region ?_
         refine WL.x (V := Value.agg [.int .i64 (0), .int .i64 (0)].toArray) (X.build Try.zeroValue33 Try.runUnderlying33 (places33 _ Try.underlying33) rfl rfl) (by decide) ?_
         refine WL.ts (T.storeBA (k := 2) Try.sizeOf33 rfl rfl rfl (one_cons rfl (one_cons rfl one_nil)) rfl rfl) ?_
         refine WL.x (X.assign rfl) (by decide) ?_
         refine WL.nil ?_
         refine WK.nThen ?_
         refine WC.ret ?_
         refine WK.rThen ?_
         refine WK.retC2 2 rfl rfl rfl rfl Try.isAgg33 Try.sizeOf33 (fun w' hw' => Ret.exact hw' ?_)
         first | (exfalso; omega) | exact tup2 (agg2i (by rw [adj_err (by omega)]) (by rw [adj_err (by omega)])) (int_eq (by rw [adj_err (by omega)])) | exact tup2 (agg2i (by rw [adj_arg (by omega) (by omega)]) (by rw [adj_arg (by omega) (by omega)])) (int_eq (by rw [adj_arg (by omega) (by omega)])) | exact tup2 (agg2i (by rw [(rad_n hos h2z0 hrg (by omega))]) (by rw [(rad_n hos h2z0 hrg (by omega))])) (int_eq (by rw [(rad_n hos h2z0 hrg (by omega))])) | exact tup2 (agg2i (by rw [(rad_e hos hot h2z0 hrg (by omega) (by omega) (by omega))]) (by rw [(rad_e hos hot h2z0 hrg (by omega) (by omega) (by omega))])) (int_eq (by rw [(rad_e hos hot h2z0 hrg (by omega) (by omega) (by omega))])) | exact tup2 (agg2i (by rw [hadj]) (by rw [hadj])) (int_eq (by rw [hadj]))
        ·refine WL.x (X.move rfl) (by decide) ?_
         refine WL.yes rfl rfl ?_
         refine WL.x (X.field Try.runUnderlying33 rfl Try.sizeOf3 rfl) (by decide) ?_
         refine WL.yes rfl rfl ?_
         refine WL.x (X.loadB (k := 0) Try.isAgg3 rfl rfl rfl) (by decide) ?_
         refine WL.yes rfl rfl ?_
         refine WL.x (X.field Try.runUnderlying33 rfl Try.sizeOf3 rfl) (by decide) ?_
         refine WL.yes rfl rfl ?_
         refine WL.x (X.loadB (k := 0) Try.isAgg3 rfl rfl rfl) (by decide) ?_
         refine WL.yes rfl rfl ?_
         refine WL.cond (X.gtr rfl rfl) (by decide) (fun h67 => ?_) (fun h67 => ?_)
         ·refine WL.x (X.pickF rfl rfl rfl) (by decide) ?_
          refine WL.nil ?_
          refine WK.nThen ?_
          refine WC.condT rfl ?_
          refine WC.seq ?_
          refine WC.region ?_
          refine WL.x (V := Value.agg [.int .i64 (0), .int .i64 (0)].toArray) (X.build Try.zeroValue33 Try.runUnderlying33 (places33 _ Try.underlying33) rfl rfl) (by decide) ?_
          refine WL.ts (T.storeBA (k := 2) Try.sizeOf33 rfl rfl rfl (one_cons rfl (one_cons rfl one_nil)) rfl rfl) ?_
          refine WL.x (X.assign rfl) (by decide) ?_
          refine WL.nil ?_
          refine WK.nThen ?_
          refine WC.ret ?_
          refine WK.rThen ?_
          refine WK.retC2 2 rfl rfl rfl rfl Try.isAgg33 Try.sizeOf33 (fun w' hw' => Ret.exact hw' ?_)
          first | (exfalso; omega) | exact tup2 (agg2i (by rw [adj_err (by omega)]) (by rw [adj_err (by omega)])) (int_eq (by rw [adj_err (by omega)])) | exact tup2 (agg2i (by rw [adj_arg (by omega) (by omega)]) (by rw [adj_arg (by omega) (by omega)])) (int_eq (by rw [adj_arg (by omega) (by omega)])) | exact tup2 (agg2i (by rw [(rad_n hos h2z0 hrg (by omega))]) (by rw [(rad_n hos h2z0 hrg (by omega))])) (int_eq (by rw [(rad_n hos h2z0 hrg (by omega))])) | exact tup2 (agg2i (by rw [(rad_e hos hot h2z0 hrg (by omega) (by omega) (by omega))]) (by rw [(rad_e hos hot h2z0 hrg (by omega) (by omega) (by omega))])) (int_eq (by rw [(rad_e hos hot h2z0 hrg (by omega) (by omega) (by omega))])) | exact tup2 (agg2i (by rw [hadj]) (by rw [hadj])) (int_eq (by rw [hadj]))
         ·refine WL.x (X.pickF rfl rfl rfl) (by decide) ?_
          refine WL.nil ?_
          refine WK.nThen ?_
          refine WC.condF rfl ?_
          refine WC.skip ?_
          refine WK.nThen ?_
          refine WC.seq ?_
          have hpa := ah_pr (s := s) (t := t) (time := time) hos (↑(ahL s t time).length - 1 : Int).toNat (by omega)
          have hpb := bh_pr (s := s) (t := t) (time := time) hos (↑(bhL s t time).length - 1 : Int).toNat (by omega)
          unfold prOk at hpa hpb
          refine WC.draw (π := (.cons 0 (.cons 1 (.cons 2 (.cons 3 (.cons 4 (.cons 5 (.cons 6 (.cons 7 (.cons 8 (.cons 9 (.cons 10 (.cons 11 (.cons 12 (.cons 13 (.cons 14 (.cons 15 (.cons 16 (.cons 17 (.cons 18 (.cons 19 (.cons 20 (.cons 21 (.cons 22 (.cons 23 (.cons 24 (.cons 25 (.cons 26 (.cons 27 (.cons 28 .done)))))))))))))))))))))))))))))) [27, 28] [28] rfl (by kernel_rfl) ?_
          refine DW.x rfl rfl (X.loadBA (k := 4) Try.isAgg25 Try.sizeOf25 rfl rfl rfl) (by decide) ?_
          refine DW.x rfl rfl (X.loadBA (k := 3) Try.isAgg25 Try.sizeOf25 rfl rfl rfl) (by decide) ?_
          refine DW.x rfl rfl (X.field Try.runUnderlying25 rfl Try.sizeOf22 rfl) (by decide) ?_
          refine DW.x rfl rfl (X.loadB (k := 4) Try.isAgg22 rfl rfl rfl) (by decide) ?_
          refine DW.x rfl rfl (X.move rfl) (by decide) ?_
          refine DW.x rfl rfl (X.move rfl) (by decide) ?_
          refine DW.x rfl rfl (X.len Try.runUnderlying115 rfl hs60) (by decide) ?_
          refine DW.x rfl rfl (X.sub rfl rfl (by omega) (by omega)) (by decide) ?_
          refine DW.xe rfl rfl (E.idx Try.runUnderlying115 Try.sizeOf119 rfl rfl hs60 (by omega) (by omega)) (by decide) (fun p68 hp69 => ?_)
          have hp70 := At.Pr_0 hp69
          refine DW.x rfl rfl (X.field Try.runUnderlying119 rfl Try.sizeOf3 rfl) (by decide) ?_
          refine DW.x rfl rfl (X.loadInt Try.isAgg3 rfl hp70) (by decide) ?_
          refine DW.xe rfl rfl (E.idx Try.runUnderlying22 Try.sizeOf62 rfl rfl hs2 (by omega) (by omega)) (by decide) (fun p71 hp72 => ?_)
          have hp73 := At.Val_0 hp72
          refine DW.x rfl rfl (X.field Try.runUnderlying62 rfl Try.sizeOf3 rfl) (by decide) ?_
          refine DW.x rfl rfl (X.loadInt Try.isAgg3 rfl hp73) (by decide) ?_
          refine DW.x rfl rfl (X.field Try.runUnderlying25 rfl Try.sizeOf22 rfl) (by decide) ?_
          refine DW.x rfl rfl (X.loadB (k := 4) Try.isAgg22 rfl rfl rfl) (by decide) ?_
          refine DW.x rfl rfl (X.move rfl) (by decide) ?_
          refine DW.x rfl rfl (X.move rfl) (by decide) ?_
          refine DW.x rfl rfl (X.len Try.runUnderlying115 rfl hs64) (by decide) ?_
          refine DW.x rfl rfl (X.sub rfl rfl (by omega) (by omega)) (by decide) ?_
          refine DW.xe rfl rfl (E.idx Try.runUnderlying115 Try.sizeOf119 rfl rfl hs64 (by omega) (by omega)) (by decide) (fun p74 hp75 => ?_)
          have hp76 := At.Pr_0 hp75
          refine DW.x rfl rfl (X.field Try.runUnderlying119 rfl Try.sizeOf3 rfl) (by decide) ?_
          refine DW.x rfl rfl (X.loadInt Try.isAgg3 rfl hp76) (by decide) ?_
          refine DW.xe rfl rfl (E.idx Try.runUnderlying22 Try.sizeOf62 rfl rfl hs2 (by omega) (by omega)) (by decide) (fun p77 hp78 => ?_)
          have hp79 := At.Val_0 hp78
          refine DW.x rfl rfl (X.field Try.runUnderlying62 rfl Try.sizeOf3 rfl) (by decide) ?_
          refine DW.x rfl rfl (X.loadInt Try.isAgg3 rfl hp79) (by decide) ?_
          refine DW.x rfl rfl (X.call Try.call94 rfl (shifted94 _ _ s ⟨_, _, rfl, hs2, hs4⟩ _ t ⟨_, _, rfl, hs8, hs10⟩ _ _ (by assumption) (by assumption))) (by decide) ?_
          refine DW.tn rfl rfl rfl (T.alloc Try.zeroValue33 rfl) (by decide) fun b80 => ?_
          refine DW.ts rfl rfl rfl rfl (T.storeBA (k := 0) Try.sizeOf33 rfl rfl rfl (one_cons rfl (one_cons rfl one_nil)) rfl rfl) ?_
          refine DW.nil ?_
          refine WK.nThen ?_
          refine WC.seq ?_
          have hsb := shf_bd hos hot (gt s.Values (gt (ahL s t time) (↑(ahL s t time).length - 1 : Int).toNat).s.toNat).Time (gt s.Values (gt (bhL s t time) (↑(bhL s t time).length - 1 : Int).toNat).s.toNat).Time
          have hadj := rad_ok hos hot h2z0 hrg (by omega) (by omega) (by omega) (by omega) (p := (↑(ahL s t time).length - 1 : Int).toNat) (q := (↑(bhL s t time).length - 1 : Int).toNat) (by omega) (by omega)
          refine WC.region ?_
          refine WL.x (X.field Try.runUnderlying33 rfl Try.sizeOf3 rfl) (by decide) ?_
          refine WL.x (X.loadB (k := 1) Try.isAgg3 rfl rfl rfl) (by decide) ?_
          refine WL.x (X.field Try.runUnderlying33 rfl Try.sizeOf3 rfl) (by decide) ?_
          refine WL.x (X.loadB (k := 2) Try.isAgg3 rfl rfl rfl) (by decide) ?_
          refine WL.x (X.sub rfl rfl (by omega) (by omega)) (by decide) ?_
          refine WL.x (X.field Try.runUnderlying33 rfl Try.sizeOf3 rfl) (by decide) ?_
          refine WL.x (X.loadB (k := 0) Try.isAgg3 rfl rfl rfl) (by decide) ?_
          refine WL.x (X.sub rfl rfl (by omega) (by omega)) (by decide) ?_
          refine WL.x (X.field Try.runUnderlying33 rfl Try.sizeOf3 rfl) (by decide) ?_
          refine WL.x (X.loadB (k := 1) Try.isAgg3 rfl rfl rfl) (by decide) ?_
          refine WL.x (X.field Try.runUnderlying33 rfl Try.sizeOf3 rfl) (by decide) ?_
          refine WL.x (X.loadB (k := 2) Try.isAgg3 rfl rfl rfl) (by decide) ?_
          refine WL.x (X.sub rfl rfl (by omega) (by omega)) (by decide) ?_
          refine WL.x (X.field Try.runUnderlying33 rfl Try.sizeOf3 rfl) (by decide) ?_
          refine WL.x (X.loadB (k := 0) Try.isAgg3 rfl rfl rfl) (by decide) ?_
          refine WL.x (X.sub rfl rfl (by omega) (by omega)) (by decide) ?_
          refine WL.x (V := Value.agg [.int .i64 ((((chR s t ((bhL s t time)) most).Lo) - ((chR s t ((ahL s t time)) most).Hi)) - ((shfS s t (((gt s.Values (((gt (ahL s t time) (((↑(ahL s t time).length) - 1 : Int).toNat)).s : Int).toNat)).Time)) (((gt s.Values (((gt (bhL s t time) (((↑(bhL s t time).length) - 1 : Int).toNat)).s : Int).toNat)).Time))).Hi)), .int .i64 ((((chR s t ((bhL s t time)) most).Hi) - ((chR s t ((ahL s t time)) most).Lo)) - ((shfS s t (((gt s.Values (((gt (ahL s t time) (((↑(ahL s t time).length) - 1 : Int).toNat)).s : Int).toNat)).Time)) (((gt s.Values (((gt (bhL s t time) (((↑(bhL s t time).length) - 1 : Int).toNat)).s : Int).toNat)).Time))).Lo))].toArray) (X.build Try.zeroValue33 Try.runUnderlying33 (places33 _ Try.underlying33) rfl rfl) (by decide) ?_
          refine WL.ts (T.storeBA (k := 3) Try.sizeOf33 rfl rfl rfl (one_cons rfl (one_cons rfl one_nil)) rfl rfl) ?_
          refine WL.x (X.assign rfl) (by decide) ?_
          refine WL.nil ?_
          refine WK.nThen ?_
          refine WC.ret ?_
          refine WK.retC2 3 rfl rfl rfl rfl Try.isAgg33 Try.sizeOf33 (fun w' hw' => Ret.exact hw' ?_)
          first | (exfalso; omega) | exact tup2 (agg2i (by rw [adj_err (by omega)]) (by rw [adj_err (by omega)])) (int_eq (by rw [adj_err (by omega)])) | exact tup2 (agg2i (by rw [adj_arg (by omega) (by omega)]) (by rw [adj_arg (by omega) (by omega)])) (int_eq (by rw [adj_arg (by omega) (by omega)])) | exact tup2 (agg2i (by rw [(rad_n hos h2z0 hrg (by omega))]) (by rw [(rad_n hos h2z0 hrg (by omega))])) (int_eq (by rw [(rad_n hos h2z0 hrg (by omega))])) | exact tup2 (agg2i (by rw [(rad_e hos hot h2z0 hrg (by omega) (by omega) (by omega))]) (by rw [(rad_e hos hot h2z0 hrg (by omega) (by omega) (by omega))])) (int_eq (by rw [(rad_e hos hot h2z0 hrg (by omega) (by omega) (by omega))])) | exact tup2 (agg2i (by rw [hadj]) (by rw [hadj])) (int_eq (by rw [hadj]))
   ·refine WL.yes rfl rfl ?_
    refine WL.x (X.not rfl) (by decide) ?_
    refine WL.yes rfl rfl ?_
    refine WL.x (X.pickF rfl rfl rfl) (by decide) ?_
    refine WL.x (X.pickT rfl rfl rfl) (by decide) ?_
    refine WL.nil ?_
    refine WK.nThen ?_
    refine WC.condT rfl ?_
    refine WC.seq ?_
    refine WC.region ?_
    refine WL.x (V := Value.agg [.int .i64 (0), .int .i64 (0)].toArray) (X.build Try.zeroValue33 Try.runUnderlying33 (places33 _ Try.underlying33) rfl rfl) (by decide) ?_
    refine WL.ts (T.storeBA (k := 0) Try.sizeOf33 rfl rfl rfl (one_cons rfl (one_cons rfl one_nil)) rfl rfl) ?_
    refine WL.x (X.assign rfl) (by decide) ?_
    refine WL.nil ?_
    refine WK.nThen ?_
    refine WC.ret ?_
    refine WK.rThen ?_
    refine WK.retC2 0 rfl rfl rfl rfl Try.isAgg33 Try.sizeOf33 (fun w' hw' => Ret.exact hw' ?_)
    first | (exfalso; omega) | exact tup2 (agg2i (by rw [adj_err (by omega)]) (by rw [adj_err (by omega)])) (int_eq (by rw [adj_err (by omega)])) | exact tup2 (agg2i (by rw [adj_arg (by omega) (by omega)]) (by rw [adj_arg (by omega) (by omega)])) (int_eq (by rw [adj_arg (by omega) (by omega)])) | exact tup2 (agg2i (by rw [(rad_n hos h2z0 hrg (by omega))]) (by rw [(rad_n hos h2z0 hrg (by omega))])) (int_eq (by rw [(rad_n hos h2z0 hrg (by omega))])) | exact tup2 (agg2i (by rw [(rad_e hos hot h2z0 hrg (by omega) (by omega) (by omega))]) (by rw [(rad_e hos hot h2z0 hrg (by omega) (by omega) (by omega))])) (int_eq (by rw [(rad_e hos hot h2z0 hrg (by omega) (by omega) (by omega))])) | exact tup2 (agg2i (by rw [hadj]) (by rw [hadj])) (int_eq (by rw [hadj]))
  ·refine WL.yes rfl rfl ?_
   refine WL.x (X.not rfl) (by decide) ?_
   refine WL.yes rfl rfl ?_
   refine WL.x (X.move rfl) (by decide) ?_
   refine WL.no rfl rfl rfl (by decide) ?_
   refine WL.no rfl rfl rfl (by decide) ?_
   refine WL.no rfl rfl rfl (by decide) ?_
   refine WL.yes rfl rfl ?_
   refine WL.x (X.pickT rfl rfl rfl) (by decide) ?_
   refine WL.x (X.pickT rfl rfl rfl) (by decide) ?_
   refine WL.nil ?_
   refine WK.nThen ?_
   refine WC.condT rfl ?_
   refine WC.seq ?_
   refine WC.region ?_
   refine WL.x (V := Value.agg [.int .i64 (0), .int .i64 (0)].toArray) (X.build Try.zeroValue33 Try.runUnderlying33 (places33 _ Try.underlying33) rfl rfl) (by decide) ?_
   refine WL.ts (T.storeBA (k := 0) Try.sizeOf33 rfl rfl rfl (one_cons rfl (one_cons rfl one_nil)) rfl rfl) ?_
   refine WL.x (X.assign rfl) (by decide) ?_
   refine WL.nil ?_
   refine WK.nThen ?_
   refine WC.ret ?_
   refine WK.rThen ?_
   refine WK.retC2 0 rfl rfl rfl rfl Try.isAgg33 Try.sizeOf33 (fun w' hw' => Ret.exact hw' ?_)
   first | (exfalso; omega) | exact tup2 (agg2i (by rw [adj_err (by omega)]) (by rw [adj_err (by omega)])) (int_eq (by rw [adj_err (by omega)])) | exact tup2 (agg2i (by rw [adj_arg (by omega) (by omega)]) (by rw [adj_arg (by omega) (by omega)])) (int_eq (by rw [adj_arg (by omega) (by omega)])) | exact tup2 (agg2i (by rw [(rad_n hos h2z0 hrg (by omega))]) (by rw [(rad_n hos h2z0 hrg (by omega))])) (int_eq (by rw [(rad_n hos h2z0 hrg (by omega))])) | exact tup2 (agg2i (by rw [(rad_e hos hot h2z0 hrg (by omega) (by omega) (by omega))]) (by rw [(rad_e hos hot h2z0 hrg (by omega) (by omega) (by omega))])) (int_eq (by rw [(rad_e hos hot h2z0 hrg (by omega) (by omega) (by omega))])) | exact tup2 (agg2i (by rw [hadj]) (by rw [hadj])) (int_eq (by rw [hadj]))
 ·refine WL.x (X.move rfl) (by decide) ?_
  refine WL.no rfl rfl rfl (by decide) ?_
  refine WL.no rfl rfl rfl (by decide) ?_
  refine WL.no rfl rfl rfl (by decide) ?_
  refine WL.no rfl rfl rfl (by decide) ?_
  refine WL.noU rfl rfl (by decide) ?_
  refine WL.noU rfl rfl (by decide) ?_
  refine WL.noU rfl rfl (by decide) ?_
  refine WL.no rfl rfl rfl (by decide) ?_
  refine WL.x (X.pickF rfl rfl rfl) (by decide) ?_
  refine WL.nil ?_
  refine WK.nThen ?_
  refine WC.condF rfl ?_
  refine WC.skip ?_
  refine WK.nThen ?_
  refine WC.seq ?_
  refine WC.seq ?_
  refine WC.region ?_
  refine WL.x (X.move rfl) (by decide) ?_
  refine WL.x (OpX.t (X.neq rfl rfl) h16) (by decide) ?_
  refine WL.nil ?_
  refine WK.nThen ?_
  refine WC.condT rfl ?_
  refine WC.seq ?_
  refine WC.region ?_
  refine WL.x (V := Value.agg [.int .i64 (0), .int .i64 (0)].toArray) (X.build Try.zeroValue33 Try.runUnderlying33 (places33 _ Try.underlying33) rfl rfl) (by decide) ?_
  refine WL.x (X.move rfl) (by decide) ?_
  refine WL.ts (T.storeBA (k := 0) Try.sizeOf33 rfl rfl rfl (one_cons rfl (one_cons rfl one_nil)) rfl rfl) ?_
  refine WL.x (X.assign rfl) (by decide) ?_
  refine WL.nil ?_
  refine WK.nThen ?_
  refine WC.ret ?_
  refine WK.rThen ?_
  refine WK.retC2 0 rfl rfl rfl rfl Try.isAgg33 Try.sizeOf33 (fun w' hw' => Ret.exact hw' ?_)
  first | (exfalso; omega) | exact tup2 (agg2i (by rw [adj_err (by omega)]) (by rw [adj_err (by omega)])) (int_eq (by rw [adj_err (by omega)])) | exact tup2 (agg2i (by rw [adj_arg (by omega) (by omega)]) (by rw [adj_arg (by omega) (by omega)])) (int_eq (by rw [adj_arg (by omega) (by omega)])) | exact tup2 (agg2i (by rw [(rad_n hos h2z0 hrg (by omega))]) (by rw [(rad_n hos h2z0 hrg (by omega))])) (int_eq (by rw [(rad_n hos h2z0 hrg (by omega))])) | exact tup2 (agg2i (by rw [(rad_e hos hot h2z0 hrg (by omega) (by omega) (by omega))]) (by rw [(rad_e hos hot h2z0 hrg (by omega) (by omega) (by omega))])) (int_eq (by rw [(rad_e hos hot h2z0 hrg (by omega) (by omega) (by omega))])) | exact tup2 (agg2i (by rw [hadj]) (by rw [hadj])) (int_eq (by rw [hadj]))

set_option maxRecDepth 20000 in
set_option maxHeartbeats 8000000 in
theorem rising101 (m : Mem) (cs : List Value) (s : Ser) (hs : Enc.rd m cs s)  (hok : Ok s) : Pure Try.prog 101 #[.agg cs.toArray] m (fun m' v => ∃ r0, v = .tuple #[r0, .bool ((risR s).2)] ∧ Sl m' r0 ((risR s).1)) := by
 obtain ⟨v1, v3, rfl, hs2, hs4⟩ := hs
 have hl5 := hs2.le
 have hl6 := hs4.le
 have hnV := hok.nV
 have hnX := hok.nX
 refine Pure.start Try.func101 rfl Try.ntmps101 rfl fun wld => ?_
 refine WC.seq ?_
 refine WC.region ?_
 refine WL.tn (T.boxB rfl rfl) (by decide) fun b7 => ?_
 refine WL.x (X.assign rfl) (by decide) ?_
 refine WL.x (X.assign rfl) (by decide) ?_
 refine WL.nil ?_
 refine WK.nThen ?_
 refine WC.seq ?_
 refine WC.region ?_
 refine WL.x (X.field Try.runUnderlying25 rfl Try.sizeOf22 rfl) (by decide) ?_
 refine WL.x (X.loadB (k := 0) Try.isAgg22 rfl rfl rfl) (by decide) ?_
 refine WL.x (X.len Try.runUnderlying22 rfl hs2) (by decide) ?_
 refine WL.x (X.assign rfl) (by decide) ?_
 refine WL.nil ?_
 refine WK.nThen ?_
 refine WC.seq ?_
 refine WC.seq ?_
 refine WC.region ?_
 refine WL.x (X.move rfl) (by decide) ?_
 refine WL.cond (X.eql rfl rfl) (by decide) (fun h8 => ?_) (fun h8 => ?_)
 ·refine WL.nil ?_
  refine WK.nThen ?_
  refine WC.condT rfl ?_
  refine WC.seq ?_
  refine WC.region ?_
  refine WL.x (X.assign rfl) (by decide) ?_
  refine WL.x (X.assign rfl) (by decide) ?_
  refine WL.nil ?_
  refine WK.nThen ?_
  refine WC.ret ?_
  refine WK.rThen ?_
  refine WK.ret2 rfl rfl rfl (fun w' hw' => Ret.mem hw' ?_)
  have hq_ := ris_nil hok (by omega)
  exact ⟨_, tup2 rfl (bool_eq (by rw [hq_])), by rw [hq_]; exact .nil⟩
 ·refine WL.nil ?_
  refine WK.nThen ?_
  refine WC.condF rfl ?_
  refine WC.skip ?_
  refine WK.nThen ?_
  refine WC.seq ?_
  have hn0 : 0 < s.Values.length := (by omega)
  refine WC.draw (π := (.cons 0 (.cons 1 (.cons 2 (.cons 3 (.cons 4 (.cons 5 (.cons 6 (.cons 7 (.cons 8 .done)))))))))) [7, 8] [8] rfl (by kernel_rfl) ?_
  refine DW.x rfl rfl (X.loadBA (k := 0) Try.isAgg25 Try.sizeOf25 rfl rfl rfl) (by decide) ?_
  refine DW.x rfl rfl (X.field Try.runUnderlying25 rfl Try.sizeOf22 rfl) (by decide) ?_
  refine DW.x rfl rfl (X.loadB (k := 0) Try.isAgg22 rfl rfl rfl) (by decide) ?_
  refine DW.xe rfl rfl (E.idxN 0 Try.runUnderlying22 Try.sizeOf62 rfl rfl hs2 (by omega)) (by decide) (fun p9 hp10 => ?_)
  have hp11 := At.Val_0 hp10
  refine DW.x rfl rfl (X.field Try.runUnderlying62 rfl Try.sizeOf3 rfl) (by decide) ?_
  refine DW.x rfl rfl (X.loadInt Try.isAgg3 rfl hp11) (by decide) ?_
  refine DW.x rfl rfl (X.call Try.call143 rfl (moved143 _ _ s ⟨_, _, rfl, hs2, hs4⟩ _ _ (by assumption))) (by decide) ?_
  refine DW.tn rfl rfl rfl (T.alloc Try.zeroValue33 rfl) (by decide) fun b12 => ?_
  refine DW.ts rfl rfl rfl rfl (T.storeBA (k := 0) Try.sizeOf33 rfl rfl rfl (one_cons rfl (one_cons rfl one_nil)) rfl rfl) ?_
  refine DW.nil ?_
  refine WK.nThen ?_
  refine WC.seq ?_
  have hfb := bt_small hok (-1) (gt s.Values 0).Time
  refine WC.region ?_
  refine WL.x (X.move rfl) (by decide) ?_
  refine WL.ta (T.makeN s.Values.length (a := (0 : Int)) sl28 rfl rfl rfl (by omega) (by decide)) (by decide) (fun v13 => ?_)
  refine WL.x (X.assign rfl) (by decide) ?_
  refine WL.nil ?_
  refine WK.nThen ?_
  refine WC.seq ?_
  refine WC.region ?_
  refine WL.x (X.move rfl) (by decide) ?_
  refine WL.ta (T.makeN s.Values.length (a := (0 : Int)) sl28 rfl rfl rfl (by omega) (by decide)) (by decide) (fun v14 => ?_)
  refine WL.x (X.assign rfl) (by decide) ?_
  refine WL.nil ?_
  refine WK.nThen ?_
  refine WC.seq ?_
  refine WC.seq ?_
  refine WC.region ?_
  refine WL.x (X.assign rfl) (by decide) ?_
  refine WL.nil ?_
  refine WK.nThen ?_
  refine WC.block ?_
  have he15 : (List.replicate s.Values.length (0 : Int)) = (fillR s.Values.length 0) := (fillR_zero _)
  rw [he15]
  refine WC.loop (G := Nat) (fun j => s.Values.length - j) (fun j => m) (fun j => [rowF (v14) 3 (fillR s.Values.length j), rowF (v13) 3 (fillR s.Values.length j), blk b12 33 [.int .i64 ((bt s.Shifts ((-1)) (((gt s.Values 0).Time))).Lo), .int .i64 ((bt s.Shifts ((-1)) (((gt s.Values 0).Time))).Hi)], blk b7 25 [v1, v3]]) (fun j => [(1, .pointer (some ⟨b7, 0, none⟩)), (4, .int .i64 (↑s.Values.length)), (5, .pointer (some ⟨b12, 0, none⟩)), (6, v13), (7, v14), (8, .int .i64 (↑j))]) (fun j => j ≤ s.Values.length) 0 rfl (.refl _) (.cons rfl (.cons rfl (.cons rfl (.cons rfl (.cons rfl (.cons rfl .nil)))))) ?_ ?_
  ·exact Nat.zero_le _
  ·rintro j hF16
   show WK _ _ m [rowF (v14) 3 (fillR s.Values.length j), rowF (v13) 3 (fillR s.Values.length j), blk b12 33 [.int .i64 ((bt s.Shifts ((-1)) (((gt s.Values 0).Time))).Lo), .int .i64 ((bt s.Shifts ((-1)) (((gt s.Values 0).Time))).Hi)], blk b7 25 [v1, v3]] [(1, .pointer (some ⟨b7, 0, none⟩)), (4, .int .i64 (↑s.Values.length)), (5, .pointer (some ⟨b12, 0, none⟩)), (6, v13), (7, v14), (8, .int .i64 (↑j))] _
   replace hF16 : j ≤ s.Values.length := hF16
   have hj := hF16
   have hfl := fillR_len s.Values.length j
   refine WC.seq ?_
   refine WC.seq ?_
   refine WC.region ?_
   refine WL.x (X.move rfl) (by decide) ?_
   refine WL.x (X.move rfl) (by decide) ?_
   refine WL.cond (X.lss rfl rfl) (by decide) (fun h17 => ?_) (fun h17 => ?_)
   ·refine WL.nil ?_
    refine WK.nThen ?_
    refine WC.condT rfl ?_
    refine WC.skip ?_
    refine WK.nThen ?_
    refine WC.seq ?_
    refine WC.block ?_
    refine WC.seq ?_
    refine WC.region ?_
    refine WL.x (X.move rfl) (by decide) ?_
    refine WL.x (X.move rfl) (by decide) ?_
    refine WL.x (X.idxIE (k := 1) j Try.runUnderlying28 Try.sizeOf3 rfl rfl rfl (by omega) (by first | omega | (simp; omega) | simp)) (by decide) ?_
    refine WL.ts (T.storeI (k := 1) (i := j) Try.sizeOf3 rfl rfl rfl (by first | omega | (simp; omega) | simp)) ?_
    refine WL.nil ?_
    refine WK.nThen ?_
    refine WC.region ?_
    refine WL.x (X.move rfl) (by decide) ?_
    refine WL.x (X.move rfl) (by decide) ?_
    refine WL.x (X.idxIE (k := 0) j Try.runUnderlying28 Try.sizeOf3 rfl rfl rfl (by omega) (by first | omega | (simp; omega) | simp)) (by decide) ?_
    refine WL.ts (T.storeI (k := 0) (i := j) Try.sizeOf3 rfl rfl rfl (by first | omega | (simp; omega) | simp)) ?_
    refine WL.nil ?_
    refine WK.nBlock ?_
    refine WK.nThen ?_
    refine WC.region ?_
    refine WL.x (X.move rfl) (by decide) ?_
    refine WL.x (X.add rfl rfl (by omega) (by omega)) (by decide) ?_
    refine WL.x (X.assign rfl) (by decide) ?_
    refine WL.nil ?_
    refine WK.nThen ?_
    have he18 : ((fillR s.Values.length j).set j (-1099511627776)) = (fillR s.Values.length (j + 1)) := (fillR_set (by omega))
    rw [he18]
    refine WK.next (j + 1) rfl (.refl _) (.cons rfl (.cons rfl (.cons rfl (.cons rfl (.cons rfl (.cons rfl .nil)))))) ?_ ?_
    ·omega
    ·omega
   ·refine WL.nil ?_
    refine WK.nThen ?_
    refine WC.condF rfl ?_
    refine WC.exit ?_
    refine WK.eThen ?_
    refine WK.eThen ?_
    refine WK.eHit ?_
    refine WK.nThen ?_
    refine WC.seq ?_
    have hkn : j = s.Values.length := (by omega)
    have hfl2 := fillR_len s.Values.length s.Values.length
    have he19 : (fillR s.Values.length j) = (fillR s.Values.length s.Values.length) := (by rw [hkn])
    rw [he19]
    refine WC.region ?_
    refine WL.x (X.move rfl) (by decide) ?_
    refine WL.x (X.field Try.runUnderlying33 rfl Try.sizeOf3 rfl) (by decide) ?_
    refine WL.x (X.loadB (k := 2) Try.isAgg3 rfl rfl rfl) (by decide) ?_
    refine WL.x (X.sub rfl rfl (by omega) (by omega)) (by decide) ?_
    refine WL.x (X.idxIE (k := 0) 0 Try.runUnderlying28 Try.sizeOf3 rfl rfl rfl (by omega) (by first | omega | (simp; omega) | simp)) (by decide) ?_
    refine WL.ts (T.storeI (k := 0) (i := 0) Try.sizeOf3 rfl rfl rfl (by first | omega | (simp; omega) | simp)) ?_
    refine WL.nil ?_
    refine WK.nThen ?_
    refine WC.seq ?_
    have he20 : ((fillR s.Values.length s.Values.length).set 0 (0 - ((bt s.Shifts ((-1)) (((gt s.Values 0).Time))).Hi))) = ((rX s 0).2) := rfl
    rw [he20]
    have he21 : (fillR s.Values.length s.Values.length) = ((rX s 0).1) := rfl
    rw [he21]
    refine WC.region ?_
    refine WL.x (X.assign rfl) (by decide) ?_
    refine WL.nil ?_
    refine WK.nThen ?_
    refine WC.seq ?_
    refine WC.seq ?_
    refine WC.region ?_
    refine WL.x (X.assign rfl) (by decide) ?_
    refine WL.nil ?_
    refine WK.nThen ?_
    refine WC.block ?_
    refine WC.loop (G := Nat × Bool) (fun (r, c) => 2 * s.Values.length + 4 - r) (fun (r, c) => m) (fun (r, c) => [rowF (v14) 3 ((rX s r).2), rowF (v13) 3 ((rX s r).1), blk b12 33 [.int .i64 ((bt s.Shifts ((-1)) (((gt s.Values 0).Time))).Lo), .int .i64 ((bt s.Shifts ((-1)) (((gt s.Values 0).Time))).Hi)], blk b7 25 [v1, v3]]) (fun (r, c) => [(1, .pointer (some ⟨b7, 0, none⟩)), (4, .int .i64 (↑s.Values.length)), (5, .pointer (some ⟨b12, 0, none⟩)), (6, v13), (7, v14), (9, .bool (c)), (10, .int .i64 (↑r))]) (fun (r, c) => r ≤ 2 * s.Values.length + 3 ∧ (c = true → r = 0 ∨ rX s r ≠ rX s (r - 1)) ∧ (c = false → 0 < r ∧ rX s r = rX s (r - 1) ∧ ¬ - (bt s.Shifts (-1) (gt s.Values 0).Time).Lo < gt (rX s (r - 1)).2 0)) ((0, true)) rfl (.refl _) (.cons rfl (.cons rfl (.cons rfl (.cons rfl (.cons rfl (.cons rfl (.cons rfl .nil))))))) ?_ ?_
    ·exact ⟨by omega, fun _ => .inl rfl, fun hc_ => (by cases hc_)⟩
    ·rintro ⟨r, c⟩ hF22
     show WK _ _ m [rowF (v14) 3 ((rX s r).2), rowF (v13) 3 ((rX s r).1), blk b12 33 [.int .i64 ((bt s.Shifts ((-1)) (((gt s.Values 0).Time))).Lo), .int .i64 ((bt s.Shifts ((-1)) (((gt s.Values 0).Time))).Hi)], blk b7 25 [v1, v3]] [(1, .pointer (some ⟨b7, 0, none⟩)), (4, .int .i64 (↑s.Values.length)), (5, .pointer (some ⟨b12, 0, none⟩)), (6, v13), (7, v14), (9, .bool (c)), (10, .int .i64 (↑r))] _
     replace hF22 : r ≤ 2 * s.Values.length + 3 ∧ (c = true → r = 0 ∨ rX s r ≠ rX s (r - 1)) ∧ (c = false → 0 < r ∧ rX s r = rX s (r - 1) ∧ ¬ - (bt s.Shifts (-1) (gt s.Values 0).Time).Lo < gt (rX s (r - 1)).2 0) := hF22
     obtain ⟨hr, hct, hcf⟩ := hF22
     have hrb := rX_bd hok r
     have hl1 := hrb.le
     have hl2 := hrb.lu
     have hu0 := hrb.bu 0 (by omega)
     refine WC.seq ?_
     refine WC.seq ?_
     refine WC.region ?_
     refine WL.x (X.move rfl) (by decide) ?_
     refine WL.nil ?_
     refine WK.nThen ?_
     refine WC.condb rfl (fun h23 => ?_) (fun h23 => ?_)
     ·refine WC.skip ?_
      refine WK.nThen ?_
      refine WC.seq ?_
      refine WC.block ?_
      refine WC.seq ?_
      refine WC.region ?_
      refine WL.x (X.assign rfl) (by decide) ?_
      refine WL.nil ?_
      refine WK.nThen ?_
      refine WC.seq ?_
      refine WC.seq ?_
      refine WC.draw (π := (.cons 0 (.cons 1 (.cons 2 (.cons 3 (.cons 4 (.cons 5 (.cons 6 (.cons 7 (.cons 8 (.cons 9 (.cons 10 (.cons 11 (.cons 12 (.cons 13 .done))))))))))))))) [] [] rfl (by kernel_rfl) ?_
      refine DW.x rfl rfl (X.move rfl) (by decide) ?_
      refine DW.x rfl rfl (X.move rfl) (by decide) ?_
      refine DW.x rfl rfl (X.mul rfl rfl (by omega) (by omega)) (by decide) ?_
      refine DW.x rfl rfl (X.add rfl rfl (by omega) (by omega)) (by decide) ?_
      refine DW.cond rfl rfl (X.gtr rfl rfl) (by decide) (fun h24 => ?_) (fun h24 => ?_)
      ·refine DW.x rfl rfl (X.move rfl) (by decide) ?_
       refine DW.no rfl rfl (by decide) ?_
       refine DW.no rfl rfl (by decide) ?_
       refine DW.no rfl rfl (by decide) ?_
       refine DW.no rfl rfl (by decide) ?_
       refine DW.no rfl rfl (by decide) ?_
       refine DW.no rfl rfl (by decide) ?_
       refine DW.no rfl rfl (by decide) ?_
       refine DW.x rfl rfl (X.pickT rfl rfl rfl) (by decide) ?_
       refine DW.nil ?_
       refine WK.nThen ?_
       refine WC.condT rfl ?_
       refine WC.seq ?_
       refine WC.region ?_
       refine WL.x (X.assign rfl) (by decide) ?_
       refine WL.x (X.assign rfl) (by decide) ?_
       refine WL.nil ?_
       refine WK.nThen ?_
       refine WC.ret ?_
       refine WK.rThen ?_
       refine WK.rBlock ?_
       refine WK.rThen ?_
       refine WK.rThen ?_
       refine WK.rBlock ?_
       refine WK.rThen ?_
       refine WK.ret2 rfl rfl rfl (fun w' hw' => Ret.mem hw' ?_)
       have hq_ := ris_no hok hn0 (hct (by assumption)) (by omega)
       exact ⟨_, tup2 rfl (bool_eq (by rw [hq_])), by rw [hq_]; exact .nil⟩
      ·refine DW.x rfl rfl (X.move rfl) (by decide) ?_
       refine DW.x rfl rfl (X.move rfl) (by decide) ?_
       refine DW.x rfl rfl (X.idxIE (k := 0) 0 Try.runUnderlying28 Try.sizeOf3 rfl rfl rfl (by omega) (by first | omega | (simp; omega) | simp)) (by decide) ?_
       refine DW.x rfl rfl (X.loadI (k := 0) (i := 0) Try.isAgg3 rfl rfl (by first | omega | (simp; omega) | simp)) (by decide) ?_
       refine DW.x rfl rfl (X.field Try.runUnderlying33 rfl Try.sizeOf3 rfl) (by decide) ?_
       refine DW.x rfl rfl (X.loadB (k := 2) Try.isAgg3 rfl rfl rfl) (by decide) ?_
       refine DW.x rfl rfl (X.sub rfl rfl (by omega) (by omega)) (by decide) ?_
       refine DW.cond rfl rfl (X.gtr rfl rfl) (by decide) (fun h25 => ?_) (fun h25 => ?_)
       ·refine DW.x rfl rfl (X.pickF rfl rfl rfl) (by decide) ?_
        refine DW.nil ?_
        refine WK.nThen ?_
        refine WC.condT rfl ?_
        refine WC.seq ?_
        refine WC.region ?_
        refine WL.x (X.assign rfl) (by decide) ?_
        refine WL.x (X.assign rfl) (by decide) ?_
        refine WL.nil ?_
        refine WK.nThen ?_
        refine WC.ret ?_
        refine WK.rThen ?_
        refine WK.rBlock ?_
        refine WK.rThen ?_
        refine WK.rThen ?_
        refine WK.rBlock ?_
        refine WK.rThen ?_
        refine WK.ret2 rfl rfl rfl (fun w' hw' => Ret.mem hw' ?_)
        have hq_ := ris_no hok hn0 (hct (by assumption)) (by omega)
        exact ⟨_, tup2 rfl (bool_eq (by rw [hq_])), by rw [hq_]; exact .nil⟩
       ·refine DW.x rfl rfl (X.pickF rfl rfl rfl) (by decide) ?_
        refine DW.nil ?_
        refine WK.nThen ?_
        refine WC.condF rfl ?_
        refine WC.skip ?_
        refine WK.nThen ?_
        refine WC.seq ?_
        have he26 : ((rX s r).2) = ((rPass s 0 (rX s r)).2) := rfl
        rw [he26]
        have he27 : ((rX s r).1) = ((rPass s 0 (rX s r)).1) := rfl
        rw [he27]
        refine WC.region ?_
        refine WL.x (X.assign rfl) (by decide) ?_
        refine WL.nil ?_
        refine WK.nThen ?_
        refine WC.block ?_
        refine WC.loop (G := Nat × Bool) (fun (k, d) => s.Values.length - k) (fun (k, d) => m) (fun (k, d) => [rowF (v14) 3 ((rPass s k (rX s r)).2), rowF (v13) 3 ((rPass s k (rX s r)).1), blk b12 33 [.int .i64 ((bt s.Shifts ((-1)) (((gt s.Values 0).Time))).Lo), .int .i64 ((bt s.Shifts ((-1)) (((gt s.Values 0).Time))).Hi)], blk b7 25 [v1, v3]]) (fun (k, d) => [(1, .pointer (some ⟨b7, 0, none⟩)), (4, .int .i64 (↑s.Values.length)), (5, .pointer (some ⟨b12, 0, none⟩)), (6, v13), (7, v14), (9, .bool (d)), (10, .int .i64 (↑r)), (11, .int .i64 (↑k)), (58, v14), (59, .pointer (some (rp (v14) (0)))), (60, .int .i64 (gt ((rX s r).2) 0)), (61, .pointer (some ⟨b12, 0, none⟩)), (62, .int .i64 ((bt s.Shifts ((-1)) (((gt s.Values 0).Time))).Lo)), (63, .int .i64 (0 - ((bt s.Shifts ((-1)) (((gt s.Values 0).Time))).Lo))), (64, .bool false)]) (fun (k, d) => k ≤ s.Values.length ∧ RI (rX s r) (rPass s k (rX s r)) d) ((0, false)) rfl (.refl _) (.cons rfl (.cons rfl (.cons rfl (.cons rfl (.cons rfl (.cons rfl (.cons rfl (.cons rfl (.cons rfl (.cons rfl (.cons rfl (.cons rfl (.cons rfl (.cons rfl (.cons rfl .nil))))))))))))))) ?_ ?_
        ·exact ⟨Nat.zero_le _, ri_start _⟩
        ·rintro ⟨k, d⟩ hF28
         show WK _ _ m [rowF (v14) 3 ((rPass s k (rX s r)).2), rowF (v13) 3 ((rPass s k (rX s r)).1), blk b12 33 [.int .i64 ((bt s.Shifts ((-1)) (((gt s.Values 0).Time))).Lo), .int .i64 ((bt s.Shifts ((-1)) (((gt s.Values 0).Time))).Hi)], blk b7 25 [v1, v3]] [(1, .pointer (some ⟨b7, 0, none⟩)), (4, .int .i64 (↑s.Values.length)), (5, .pointer (some ⟨b12, 0, none⟩)), (6, v13), (7, v14), (9, .bool (d)), (10, .int .i64 (↑r)), (11, .int .i64 (↑k)), (58, v14), (59, .pointer (some (rp (v14) (0)))), (60, .int .i64 (gt ((rX s r).2) 0)), (61, .pointer (some ⟨b12, 0, none⟩)), (62, .int .i64 ((bt s.Shifts ((-1)) (((gt s.Values 0).Time))).Lo)), (63, .int .i64 (0 - ((bt s.Shifts ((-1)) (((gt s.Values 0).Time))).Lo))), (64, .bool false)] _
         replace hF28 : k ≤ s.Values.length ∧ RI (rX s r) (rPass s k (rX s r)) d := hF28
         obtain ⟨hk, hri⟩ := hF28
         have hcb := rPass_bd hok hrb k hk
         have hl3 := hcb.le
         have hl4 := hcb.lu
         refine WC.seq ?_
         refine WC.seq ?_
         refine WC.region ?_
         refine WL.x (X.move rfl) (by decide) ?_
         refine WL.x (X.move rfl) (by decide) ?_
         refine WL.cond (X.lss rfl rfl) (by decide) (fun h29 => ?_) (fun h29 => ?_)
         ·refine WL.nil ?_
          refine WK.nThen ?_
          refine WC.condT rfl ?_
          refine WC.skip ?_
          refine WK.nThen ?_
          refine WC.seq ?_
          refine WC.block ?_
          refine WC.seq ?_
          have hb1 := hcb.be k (by omega)
          have hb2 := hcb.bu k (by omega)
          have hvl := hok.vl (i := k) (by omega)
          refine WC.region ?_
          refine WL.x (X.field Try.runUnderlying25 rfl Try.sizeOf22 rfl) (by decide) ?_
          refine WL.x (X.loadB (k := 3) Try.isAgg22 rfl rfl rfl) (by decide) ?_
          refine WL.x (X.move rfl) (by decide) ?_
          refine WL.xe (E.idxN k Try.runUnderlying22 Try.sizeOf62 rfl rfl hs2 (by omega)) (by decide) (fun p30 hp31 => ?_)
          have hp32 := At.Val_1 hp31
          refine WL.x (X.field Try.runUnderlying62 rfl Try.sizeOf33 rfl) (by decide) ?_
          refine WL.xe (E.loadAgg Try.isAgg33 Try.sizeOf33 rfl hp32) (by decide) (fun c33 hc34 => ?_)
          obtain rfl := hc34
          refine WL.tn (T.alloc Try.zeroValue33 rfl) (by decide) fun b35 => ?_
          refine WL.ts (T.storeBA (k := 0) Try.sizeOf33 rfl rfl rfl (one_cons rfl (one_cons rfl one_nil)) rfl rfl) ?_
          refine WL.nil ?_
          refine WK.nThen ?_
          refine WC.seq ?_
          refine WC.draw (π := (.cons 0 (.cons 1 (.cons 2 (.cons 3 (.cons 4 (.cons 5 (.cons 6 (.cons 7 .done))))))))) [] [] rfl (by kernel_rfl) ?_
          refine DW.x rfl rfl (X.field Try.runUnderlying33 rfl Try.sizeOf3 rfl) (by decide) ?_
          refine DW.x rfl rfl (X.loadB (k := 0) Try.isAgg3 rfl rfl rfl) (by decide) ?_
          refine DW.x rfl rfl (X.move rfl) (by decide) ?_
          refine DW.x rfl rfl (X.move rfl) (by decide) ?_
          refine DW.x rfl rfl (X.idxIE (k := 1) k Try.runUnderlying28 Try.sizeOf3 rfl rfl rfl (by omega) (by first | omega | (simp; omega) | simp)) (by decide) ?_
          refine DW.x rfl rfl (X.loadI (k := 1) (i := k) Try.isAgg3 rfl rfl (by first | omega | (simp; omega) | simp)) (by decide) ?_
          refine DW.x rfl rfl (X.add rfl rfl (by omega) (by omega)) (by decide) ?_
          refine DW.x rfl rfl (X.assign rfl) (by decide) ?_
          refine DW.nil ?_
          refine WK.nThen ?_
          refine WC.seq ?_
          refine WC.draw (π := (.cons 0 (.cons 1 (.cons 2 (.cons 3 (.cons 4 (.cons 5 (.cons 6 (.cons 7 (.cons 8 (.cons 9 (.cons 10 (.cons 11 (.cons 12 .done)))))))))))))) [] [] rfl (by kernel_rfl) ?_
          refine DW.x rfl rfl (X.move rfl) (by decide) ?_
          refine DW.x rfl rfl (X.move rfl) (by decide) ?_
          refine DW.x rfl rfl (X.idxIE (k := 1) k Try.runUnderlying28 Try.sizeOf3 rfl rfl rfl (by omega) (by first | omega | (simp; omega) | simp)) (by decide) ?_
          refine DW.x rfl rfl (X.loadI (k := 1) (i := k) Try.isAgg3 rfl rfl (by first | omega | (simp; omega) | simp)) (by decide) ?_
          refine DW.x rfl rfl (X.move rfl) (by decide) ?_
          refine DW.x rfl rfl (X.move rfl) (by decide) ?_
          refine DW.x rfl rfl (X.idxIE (k := 2) k Try.runUnderlying28 Try.sizeOf3 rfl rfl rfl (by omega) (by first | omega | (simp; omega) | simp)) (by decide) ?_
          refine DW.x rfl rfl (X.loadI (k := 2) (i := k) Try.isAgg3 rfl rfl (by first | omega | (simp; omega) | simp)) (by decide) ?_
          refine DW.x rfl rfl (X.field Try.runUnderlying33 rfl Try.sizeOf3 rfl) (by decide) ?_
          refine DW.x rfl rfl (X.loadB (k := 0) Try.isAgg3 rfl rfl rfl) (by decide) ?_
          refine DW.x rfl rfl (X.sub rfl rfl (by omega) (by omega)) (by decide) ?_
          refine DW.x rfl rfl (X.mx rfl rfl) (by decide) ?_
          refine DW.x rfl rfl (X.assign rfl) (by decide) ?_
          refine DW.nil ?_
          refine WK.nThen ?_
          refine WC.seq ?_
          refine WC.seq ?_
          refine WC.region ?_
          refine WL.x (X.move rfl) (by decide) ?_
          refine WL.cond (X.gtr rfl rfl) (by decide) (fun h36 => ?_) (fun h36 => ?_)
          ·refine WL.nil ?_
           refine WK.nThen ?_
           refine WC.condT rfl ?_
           refine WC.seq ?_
           have hb3 := hcb.be (k - 1) (by omega)
           have hb4 := hcb.bu (k - 1) (by omega)
           have hm1 := bt_small hok (gt s.Values (k - 1)).Time (gt s.Values k).Time
           refine WC.draw (π := (.cons 0 (.cons 1 (.cons 2 (.cons 3 (.cons 4 (.cons 5 (.cons 6 (.cons 7 (.cons 8 (.cons 9 (.cons 10 (.cons 11 (.cons 12 (.cons 13 (.cons 14 (.cons 15 (.cons 16 .done)))))))))))))))))) [15, 16] [16] rfl (by kernel_rfl) ?_
           refine DW.x rfl rfl (X.loadBA (k := 4) Try.isAgg25 Try.sizeOf25 rfl rfl rfl) (by decide) ?_
           refine DW.x rfl rfl (X.field Try.runUnderlying25 rfl Try.sizeOf22 rfl) (by decide) ?_
           refine DW.x rfl rfl (X.loadB (k := 4) Try.isAgg22 rfl rfl rfl) (by decide) ?_
           refine DW.x rfl rfl (X.move rfl) (by decide) ?_
           refine DW.x rfl rfl (X.sub rfl rfl (by omega) (by omega)) (by decide) ?_
           refine DW.xe rfl rfl (E.idxE (k - 1) Try.runUnderlying22 Try.sizeOf62 rfl rfl hs2 (by omega) (by omega)) (by decide) (fun p37 hp38 => ?_)
           have hp39 := At.Val_0 hp38
           refine DW.x rfl rfl (X.field Try.runUnderlying62 rfl Try.sizeOf3 rfl) (by decide) ?_
           refine DW.x rfl rfl (X.loadInt Try.isAgg3 rfl hp39) (by decide) ?_
           refine DW.x rfl rfl (X.field Try.runUnderlying25 rfl Try.sizeOf22 rfl) (by decide) ?_
           refine DW.x rfl rfl (X.loadB (k := 4) Try.isAgg22 rfl rfl rfl) (by decide) ?_
           refine DW.x rfl rfl (X.move rfl) (by decide) ?_
           refine DW.xe rfl rfl (E.idxN k Try.runUnderlying22 Try.sizeOf62 rfl rfl hs2 (by omega)) (by decide) (fun p40 hp41 => ?_)
           have hp42 := At.Val_0 hp41
           refine DW.x rfl rfl (X.field Try.runUnderlying62 rfl Try.sizeOf3 rfl) (by decide) ?_
           refine DW.x rfl rfl (X.loadInt Try.isAgg3 rfl hp42) (by decide) ?_
           refine DW.x rfl rfl (X.call Try.call143 rfl (moved143 _ _ s ⟨_, _, rfl, hs2, hs4⟩ _ _ (by assumption))) (by decide) ?_
           refine DW.tn rfl rfl rfl (T.alloc Try.zeroValue33 rfl) (by decide) fun b43 => ?_
           refine DW.ts rfl rfl rfl rfl (T.storeBA (k := 0) Try.sizeOf33 rfl rfl rfl (one_cons rfl (one_cons rfl one_nil)) rfl rfl) ?_
           refine DW.nil ?_
           refine WK.nThen ?_
           refine WC.seq ?_
           refine WC.region ?_
           refine WL.x (X.move rfl) (by decide) ?_
           refine WL.x (X.move rfl) (by decide) ?_
           refine WL.x (X.move rfl) (by decide) ?_
           refine WL.x (X.sub rfl rfl (by omega) (by omega)) (by decide) ?_
           refine WL.x (X.idxIE (k := 3) (k - 1) Try.runUnderlying28 Try.sizeOf3 rfl rfl rfl (by omega) (by first | omega | (simp; omega) | simp)) (by decide) ?_
           refine WL.x (X.loadI (k := 3) (i := (k - 1)) Try.isAgg3 rfl rfl (by first | omega | (simp; omega) | simp)) (by decide) ?_
           refine WL.x (X.mx rfl rfl) (by decide) ?_
           refine WL.x (X.assign rfl) (by decide) ?_
           refine WL.nil ?_
           refine WK.nThen ?_
           refine WC.draw (π := (.cons 0 (.cons 1 (.cons 2 (.cons 3 (.cons 4 (.cons 5 (.cons 6 (.cons 7 (.cons 8 (.cons 9 (.cons 10 .done)))))))))))) [] [] rfl (by kernel_rfl) ?_
           refine DW.x rfl rfl (X.move rfl) (by decide) ?_
           refine DW.x rfl rfl (X.move rfl) (by decide) ?_
           refine DW.x rfl rfl (X.move rfl) (by decide) ?_
           refine DW.x rfl rfl (X.sub rfl rfl (by omega) (by omega)) (by decide) ?_
           refine DW.x rfl rfl (X.idxIE (k := 2) (k - 1) Try.runUnderlying28 Try.sizeOf3 rfl rfl rfl (by omega) (by first | omega | (simp; omega) | simp)) (by decide) ?_
           refine DW.x rfl rfl (X.loadI (k := 2) (i := (k - 1)) Try.isAgg3 rfl rfl (by first | omega | (simp; omega) | simp)) (by decide) ?_
           refine DW.x rfl rfl (X.field Try.runUnderlying33 rfl Try.sizeOf3 rfl) (by decide) ?_
           refine DW.x rfl rfl (X.loadB (k := 0) Try.isAgg3 rfl rfl rfl) (by decide) ?_
           refine DW.x rfl rfl (X.sub rfl rfl (by omega) (by omega)) (by decide) ?_
           refine DW.x rfl rfl (X.mx rfl rfl) (by decide) ?_
           refine DW.x rfl rfl (X.assign rfl) (by decide) ?_
           refine DW.nil ?_
           refine WK.nThen ?_
           refine WC.seq ?_
           refine WC.seq ?_
           refine WC.region ?_
           refine WL.x (X.move rfl) (by decide) ?_
           refine WL.x (X.add rfl rfl (by omega) (by omega)) (by decide) ?_
           refine WL.x (X.move rfl) (by decide) ?_
           refine WL.cond (X.lss rfl rfl) (by decide) (fun h44 => ?_) (fun h44 => ?_)
           ·refine WL.nil ?_
            refine WK.nThen ?_
            refine WC.condT rfl ?_
            refine WC.seq ?_
            have hb5 := hcb.bu (k + 1) (by omega)
            have hm2 := bt_small hok (gt s.Values k).Time (gt s.Values (k + 1)).Time
            refine WC.draw (π := (.cons 0 (.cons 1 (.cons 2 (.cons 3 (.cons 4 (.cons 5 (.cons 6 (.cons 7 (.cons 8 (.cons 9 (.cons 10 (.cons 11 (.cons 12 (.cons 13 (.cons 14 (.cons 15 (.cons 16 .done)))))))))))))))))) [15, 16] [16] rfl (by kernel_rfl) ?_
            refine DW.x rfl rfl (X.loadBA (k := 5) Try.isAgg25 Try.sizeOf25 rfl rfl rfl) (by decide) ?_
            refine DW.x rfl rfl (X.field Try.runUnderlying25 rfl Try.sizeOf22 rfl) (by decide) ?_
            refine DW.x rfl rfl (X.loadB (k := 5) Try.isAgg22 rfl rfl rfl) (by decide) ?_
            refine DW.x rfl rfl (X.move rfl) (by decide) ?_
            refine DW.xe rfl rfl (E.idxN k Try.runUnderlying22 Try.sizeOf62 rfl rfl hs2 (by omega)) (by decide) (fun p45 hp46 => ?_)
            have hp47 := At.Val_0 hp46
            refine DW.x rfl rfl (X.field Try.runUnderlying62 rfl Try.sizeOf3 rfl) (by decide) ?_
            refine DW.x rfl rfl (X.loadInt Try.isAgg3 rfl hp47) (by decide) ?_
            refine DW.x rfl rfl (X.field Try.runUnderlying25 rfl Try.sizeOf22 rfl) (by decide) ?_
            refine DW.x rfl rfl (X.loadB (k := 5) Try.isAgg22 rfl rfl rfl) (by decide) ?_
            refine DW.x rfl rfl (X.move rfl) (by decide) ?_
            refine DW.x rfl rfl (X.add rfl rfl (by omega) (by omega)) (by decide) ?_
            refine DW.xe rfl rfl (E.idxE (k + 1) Try.runUnderlying22 Try.sizeOf62 rfl rfl hs2 (by omega) (by omega)) (by decide) (fun p48 hp49 => ?_)
            have hp50 := At.Val_0 hp49
            refine DW.x rfl rfl (X.field Try.runUnderlying62 rfl Try.sizeOf3 rfl) (by decide) ?_
            refine DW.x rfl rfl (X.loadInt Try.isAgg3 rfl hp50) (by decide) ?_
            refine DW.x rfl rfl (X.call Try.call143 rfl (moved143 _ _ s ⟨_, _, rfl, hs2, hs4⟩ _ _ (by assumption))) (by decide) ?_
            refine DW.tn rfl rfl rfl (T.alloc Try.zeroValue33 rfl) (by decide) fun b51 => ?_
            refine DW.ts rfl rfl rfl rfl (T.storeBA (k := 0) Try.sizeOf33 rfl rfl rfl (one_cons rfl (one_cons rfl one_nil)) rfl rfl) ?_
            refine DW.nil ?_
            refine WK.nThen ?_
            refine WC.draw (π := (.cons 0 (.cons 1 (.cons 2 (.cons 3 (.cons 4 (.cons 5 (.cons 6 (.cons 7 (.cons 8 (.cons 9 (.cons 10 .done)))))))))))) [] [] rfl (by kernel_rfl) ?_
            refine DW.x rfl rfl (X.move rfl) (by decide) ?_
            refine DW.x rfl rfl (X.move rfl) (by decide) ?_
            refine DW.x rfl rfl (X.move rfl) (by decide) ?_
            refine DW.x rfl rfl (X.add rfl rfl (by omega) (by omega)) (by decide) ?_
            refine DW.x rfl rfl (X.idxIE (k := 3) (k + 1) Try.runUnderlying28 Try.sizeOf3 rfl rfl rfl (by omega) (by first | omega | (simp; omega) | simp)) (by decide) ?_
            refine DW.x rfl rfl (X.loadI (k := 3) (i := (k + 1)) Try.isAgg3 rfl rfl (by first | omega | (simp; omega) | simp)) (by decide) ?_
            refine DW.x rfl rfl (X.field Try.runUnderlying33 rfl Try.sizeOf3 rfl) (by decide) ?_
            refine DW.x rfl rfl (X.loadB (k := 0) Try.isAgg3 rfl rfl rfl) (by decide) ?_
            refine DW.x rfl rfl (X.add rfl rfl (by omega) (by omega)) (by decide) ?_
            refine DW.x rfl rfl (X.mx rfl rfl) (by decide) ?_
            refine DW.x rfl rfl (X.assign rfl) (by decide) ?_
            refine DW.nil ?_
            refine WK.nThen ?_
            refine WC.seq ?_
            have hls : max ((((gt s.Values k).Levels).Lo) + (gt ((rPass s k (rX s r)).2) k)) (gt ((rPass s k (rX s r)).1) ((k - 1))) = rLst s k (rPass s k (rX s r)) := (by unfold rLst; first | rw [if_pos (by omega)] | rw [if_neg (by omega)])
            have hbk : max (max (max (gt ((rPass s k (rX s r)).2) k) ((gt ((rPass s k (rX s r)).1) k) - (((gt s.Values k).Levels).Hi))) ((gt ((rPass s k (rX s r)).2) ((k - 1))) - ((bt s.Shifts (((gt s.Values (k - 1)).Time)) (((gt s.Values k).Time))).Hi))) ((gt ((rPass s k (rX s r)).2) ((k + 1))) + ((bt s.Shifts (((gt s.Values k).Time)) (((gt s.Values (k + 1)).Time))).Lo)) = rBk s k (rPass s k (rX s r)) := (by unfold rBk rBk1 rBk0; first | rw [if_pos (by omega), if_pos (by omega)] | rw [if_pos (by omega), if_neg (by omega)] | rw [if_neg (by omega), if_pos (by omega)] | rw [if_neg (by omega), if_neg (by omega)])
            rw [hls, hbk]
            refine WC.region ?_
            refine WL.x (X.move rfl) (by decide) ?_
            refine WL.x (X.move rfl) (by decide) ?_
            refine WL.x (X.move rfl) (by decide) ?_
            refine WL.x (X.idxIE (k := 4) k Try.runUnderlying28 Try.sizeOf3 rfl rfl rfl (by omega) (by first | omega | (simp; omega) | simp)) (by decide) ?_
            refine WL.x (X.loadI (k := 4) (i := k) Try.isAgg3 rfl rfl (by first | omega | (simp; omega) | simp)) (by decide) ?_
            refine WL.cond (X.gtr rfl rfl) (by decide) (fun h52 => ?_) (fun h52 => ?_)
            ·refine WL.x (X.move rfl) (by decide) ?_
             refine WL.no rfl rfl rfl (by decide) ?_
             refine WL.no rfl rfl rfl (by decide) ?_
             refine WL.no rfl rfl rfl (by decide) ?_
             refine WL.no rfl rfl rfl (by decide) ?_
             refine WL.no rfl rfl rfl (by decide) ?_
             refine WL.no rfl rfl rfl (by decide) ?_
             refine WL.x (X.pickT rfl rfl rfl) (by decide) ?_
             refine WL.nil ?_
             refine WK.nThen ?_
             refine WC.condT rfl ?_
             refine WC.seq ?_
             refine WC.region ?_
             refine WL.x (X.assign rfl) (by decide) ?_
             refine WL.nil ?_
             refine WK.nThen ?_
             refine WC.seq ?_
             refine WC.region ?_
             refine WL.x (X.move rfl) (by decide) ?_
             refine WL.x (X.move rfl) (by decide) ?_
             refine WL.x (X.move rfl) (by decide) ?_
             refine WL.x (X.move rfl) (by decide) ?_
             refine WL.x (X.idxIE (k := 4) k Try.runUnderlying28 Try.sizeOf3 rfl rfl rfl (by omega) (by first | omega | (simp; omega) | simp)) (by decide) ?_
             refine WL.x (X.loadI (k := 4) (i := k) Try.isAgg3 rfl rfl (by first | omega | (simp; omega) | simp)) (by decide) ?_
             refine WL.x (X.move rfl) (by decide) ?_
             refine WL.x (X.mx rfl rfl) (by decide) ?_
             refine WL.x (X.idxIE (k := 4) k Try.runUnderlying28 Try.sizeOf3 rfl rfl rfl (by omega) (by first | omega | (simp; omega) | simp)) (by decide) ?_
             refine WL.ts (T.storeI (k := 4) (i := k) Try.sizeOf3 rfl rfl rfl (by first | omega | (simp; omega) | simp)) ?_
             refine WL.nil ?_
             refine WK.nThen ?_
             refine WC.region ?_
             refine WL.x (X.move rfl) (by decide) ?_
             refine WL.x (X.move rfl) (by decide) ?_
             refine WL.x (X.move rfl) (by decide) ?_
             refine WL.x (X.move rfl) (by decide) ?_
             refine WL.x (X.idxIE (k := 3) k Try.runUnderlying28 Try.sizeOf3 rfl rfl rfl (by omega) (by first | omega | (simp; omega) | simp)) (by decide) ?_
             refine WL.x (X.loadI (k := 3) (i := k) Try.isAgg3 rfl rfl (by first | omega | (simp; omega) | simp)) (by decide) ?_
             refine WL.x (X.move rfl) (by decide) ?_
             refine WL.x (X.mx rfl rfl) (by decide) ?_
             refine WL.x (X.idxIE (k := 3) k Try.runUnderlying28 Try.sizeOf3 rfl rfl rfl (by omega) (by first | omega | (simp; omega) | simp)) (by decide) ?_
             refine WL.ts (T.storeI (k := 3) (i := k) Try.sizeOf3 rfl rfl rfl (by first | omega | (simp; omega) | simp)) ?_
             refine WL.nil ?_
             refine WK.nBlock ?_
             refine WK.nThen ?_
             refine WC.region ?_
             refine WL.x (X.move rfl) (by decide) ?_
             refine WL.x (X.add rfl rfl (by omega) (by omega)) (by decide) ?_
             refine WL.x (X.assign rfl) (by decide) ?_
             refine WL.nil ?_
             refine WK.nThen ?_
             have hst : RI (rX s r) (rPass s (k + 1) (rX s r)) true := ri_yes hri (by omega) (by omega) (by omega)
             have he53 : (((rPass s k (rX s r)).1).set k (max (gt ((rPass s k (rX s r)).1) k) (rLst s k (rPass s k (rX s r))))) = ((rPass s (k + 1) (rX s r)).1) := ((set_max (by omega)).trans rfl)
             rw [he53]
             have he54 : (((rPass s k (rX s r)).2).set k (max (gt ((rPass s k (rX s r)).2) k) (rBk s k (rPass s k (rX s r))))) = ((rPass s (k + 1) (rX s r)).2) := ((set_max (by omega)).trans rfl)
             rw [he54]
             refine WK.next ((k + 1, true)) rfl (.cons _ (.cons _ (.cons _ (.cons_cons _ (.cons_cons _ (.cons_cons _ (.cons_cons _ .slnil))))))) (.cons rfl (.cons rfl (.cons rfl (.cons rfl (.cons rfl (.cons rfl (.cons rfl (.cons rfl (.cons rfl (.cons rfl (.cons rfl (.cons rfl (.cons rfl (.cons rfl (.cons rfl .nil))))))))))))))) ?_ ?_
             ·exact ⟨by omega, hst⟩
             ·(dsimp only; omega)
            ·refine WL.x (X.move rfl) (by decide) ?_
             refine WL.yes rfl rfl ?_
             refine WL.x (X.move rfl) (by decide) ?_
             refine WL.yes rfl rfl ?_
             refine WL.x (X.move rfl) (by decide) ?_
             refine WL.yes rfl rfl ?_
             refine WL.x (X.move rfl) (by decide) ?_
             refine WL.yes rfl rfl ?_
             refine WL.x (X.idxIE (k := 3) k Try.runUnderlying28 Try.sizeOf3 rfl rfl rfl (by omega) (by first | omega | (simp; omega) | simp)) (by decide) ?_
             refine WL.yes rfl rfl ?_
             refine WL.x (X.loadI (k := 3) (i := k) Try.isAgg3 rfl rfl (by first | omega | (simp; omega) | simp)) (by decide) ?_
             refine WL.yes rfl rfl ?_
             refine WL.cond (X.gtr rfl rfl) (by decide) (fun h55 => ?_) (fun h55 => ?_)
             ·refine WL.x (X.pickF rfl rfl rfl) (by decide) ?_
              refine WL.nil ?_
              refine WK.nThen ?_
              refine WC.condT rfl ?_
              refine WC.seq ?_
              refine WC.region ?_
              refine WL.x (X.assign rfl) (by decide) ?_
              refine WL.nil ?_
              refine WK.nThen ?_
              refine WC.seq ?_
              refine WC.region ?_
              refine WL.x (X.move rfl) (by decide) ?_
              refine WL.x (X.move rfl) (by decide) ?_
              refine WL.x (X.move rfl) (by decide) ?_
              refine WL.x (X.move rfl) (by decide) ?_
              refine WL.x (X.idxIE (k := 4) k Try.runUnderlying28 Try.sizeOf3 rfl rfl rfl (by omega) (by first | omega | (simp; omega) | simp)) (by decide) ?_
              refine WL.x (X.loadI (k := 4) (i := k) Try.isAgg3 rfl rfl (by first | omega | (simp; omega) | simp)) (by decide) ?_
              refine WL.x (X.move rfl) (by decide) ?_
              refine WL.x (X.mx rfl rfl) (by decide) ?_
              refine WL.x (X.idxIE (k := 4) k Try.runUnderlying28 Try.sizeOf3 rfl rfl rfl (by omega) (by first | omega | (simp; omega) | simp)) (by decide) ?_
              refine WL.ts (T.storeI (k := 4) (i := k) Try.sizeOf3 rfl rfl rfl (by first | omega | (simp; omega) | simp)) ?_
              refine WL.nil ?_
              refine WK.nThen ?_
              refine WC.region ?_
              refine WL.x (X.move rfl) (by decide) ?_
              refine WL.x (X.move rfl) (by decide) ?_
              refine WL.x (X.move rfl) (by decide) ?_
              refine WL.x (X.move rfl) (by decide) ?_
              refine WL.x (X.idxIE (k := 3) k Try.runUnderlying28 Try.sizeOf3 rfl rfl rfl (by omega) (by first | omega | (simp; omega) | simp)) (by decide) ?_
              refine WL.x (X.loadI (k := 3) (i := k) Try.isAgg3 rfl rfl (by first | omega | (simp; omega) | simp)) (by decide) ?_
              refine WL.x (X.move rfl) (by decide) ?_
              refine WL.x (X.mx rfl rfl) (by decide) ?_
              refine WL.x (X.idxIE (k := 3) k Try.runUnderlying28 Try.sizeOf3 rfl rfl rfl (by omega) (by first | omega | (simp; omega) | simp)) (by decide) ?_
              refine WL.ts (T.storeI (k := 3) (i := k) Try.sizeOf3 rfl rfl rfl (by first | omega | (simp; omega) | simp)) ?_
              refine WL.nil ?_
              refine WK.nBlock ?_
              refine WK.nThen ?_
              refine WC.region ?_
              refine WL.x (X.move rfl) (by decide) ?_
              refine WL.x (X.add rfl rfl (by omega) (by omega)) (by decide) ?_
              refine WL.x (X.assign rfl) (by decide) ?_
              refine WL.nil ?_
              refine WK.nThen ?_
              have hst : RI (rX s r) (rPass s (k + 1) (rX s r)) true := ri_yes hri (by omega) (by omega) (by omega)
              have he56 : (((rPass s k (rX s r)).1).set k (max (gt ((rPass s k (rX s r)).1) k) (rLst s k (rPass s k (rX s r))))) = ((rPass s (k + 1) (rX s r)).1) := ((set_max (by omega)).trans rfl)
              rw [he56]
              have he57 : (((rPass s k (rX s r)).2).set k (max (gt ((rPass s k (rX s r)).2) k) (rBk s k (rPass s k (rX s r))))) = ((rPass s (k + 1) (rX s r)).2) := ((set_max (by omega)).trans rfl)
              rw [he57]
              refine WK.next ((k + 1, true)) rfl (.cons _ (.cons _ (.cons _ (.cons_cons _ (.cons_cons _ (.cons_cons _ (.cons_cons _ .slnil))))))) (.cons rfl (.cons rfl (.cons rfl (.cons rfl (.cons rfl (.cons rfl (.cons rfl (.cons rfl (.cons rfl (.cons rfl (.cons rfl (.cons rfl (.cons rfl (.cons rfl (.cons rfl .nil))))))))))))))) ?_ ?_
              ·exact ⟨by omega, hst⟩
              ·(dsimp only; omega)
             ·refine WL.x (X.pickF rfl rfl rfl) (by decide) ?_
              refine WL.nil ?_
              refine WK.nThen ?_
              refine WC.condF rfl ?_
              refine WC.skip ?_
              refine WK.nBlock ?_
              refine WK.nThen ?_
              refine WC.region ?_
              refine WL.x (X.move rfl) (by decide) ?_
              refine WL.x (X.add rfl rfl (by omega) (by omega)) (by decide) ?_
              refine WL.x (X.assign rfl) (by decide) ?_
              refine WL.nil ?_
              refine WK.nThen ?_
              have hsn := ri_no hri (i := k) (by omega) (by omega)
              have hst : RI (rX s r) (rPass s (k + 1) (rX s r)) d := hsn.2
              have he58 : ((rPass s k (rX s r)).1) = ((rPass s (k + 1) (rX s r)).1) := (congrArg Prod.fst hsn.1).symm
              rw [he58]
              have he59 : ((rPass s k (rX s r)).2) = ((rPass s (k + 1) (rX s r)).2) := (congrArg Prod.snd hsn.1).symm
              rw [he59]
              refine WK.next ((k + 1, d)) rfl (.cons _ (.cons _ (.cons _ (.cons_cons _ (.cons_cons _ (.cons_cons _ (.cons_cons _ .slnil))))))) (.cons rfl (.cons rfl (.cons rfl (.cons rfl (.cons rfl (.cons rfl (.cons rfl (.cons rfl (.cons rfl (.cons rfl (.cons rfl (.cons rfl (.cons rfl (.cons rfl (.cons rfl .nil))))))))))))))) ?_ ?_
              ·exact ⟨by omega, hst⟩
              ·(dsimp only; omega)
           ·refine WL.nil ?_
            refine WK.nThen ?_
            refine WC.condF rfl ?_
            refine WC.skip ?_
            refine WK.nThen ?_
            refine WC.seq ?_
            have hls : max ((((gt s.Values k).Levels).Lo) + (gt ((rPass s k (rX s r)).2) k)) (gt ((rPass s k (rX s r)).1) ((k - 1))) = rLst s k (rPass s k (rX s r)) := (by unfold rLst; first | rw [if_pos (by omega)] | rw [if_neg (by omega)])
            have hbk : max (max (gt ((rPass s k (rX s r)).2) k) ((gt ((rPass s k (rX s r)).1) k) - (((gt s.Values k).Levels).Hi))) ((gt ((rPass s k (rX s r)).2) ((k - 1))) - ((bt s.Shifts (((gt s.Values (k - 1)).Time)) (((gt s.Values k).Time))).Hi)) = rBk s k (rPass s k (rX s r)) := (by unfold rBk rBk1 rBk0; first | rw [if_pos (by omega), if_pos (by omega)] | rw [if_pos (by omega), if_neg (by omega)] | rw [if_neg (by omega), if_pos (by omega)] | rw [if_neg (by omega), if_neg (by omega)])
            rw [hls, hbk]
            refine WC.region ?_
            refine WL.x (X.move rfl) (by decide) ?_
            refine WL.x (X.move rfl) (by decide) ?_
            refine WL.x (X.move rfl) (by decide) ?_
            refine WL.x (X.idxIE (k := 3) k Try.runUnderlying28 Try.sizeOf3 rfl rfl rfl (by omega) (by first | omega | (simp; omega) | simp)) (by decide) ?_
            refine WL.x (X.loadI (k := 3) (i := k) Try.isAgg3 rfl rfl (by first | omega | (simp; omega) | simp)) (by decide) ?_
            refine WL.cond (X.gtr rfl rfl) (by decide) (fun h60 => ?_) (fun h60 => ?_)
            ·refine WL.x (X.move rfl) (by decide) ?_
             refine WL.no rfl rfl rfl (by decide) ?_
             refine WL.no rfl rfl rfl (by decide) ?_
             refine WL.no rfl rfl rfl (by decide) ?_
             refine WL.no rfl rfl rfl (by decide) ?_
             refine WL.no rfl rfl rfl (by decide) ?_
             refine WL.no rfl rfl rfl (by decide) ?_
             refine WL.x (X.pickT rfl rfl rfl) (by decide) ?_
             refine WL.nil ?_
             refine WK.nThen ?_
             refine WC.condT rfl ?_
             refine WC.seq ?_
             refine WC.region ?_
             refine WL.x (X.assign rfl) (by decide) ?_
             refine WL.nil ?_
             refine WK.nThen ?_
             refine WC.seq ?_
             refine WC.region ?_
             refine WL.x (X.move rfl) (by decide) ?_
             refine WL.x (X.move rfl) (by decide) ?_
             refine WL.x (X.move rfl) (by decide) ?_
             refine WL.x (X.move rfl) (by decide) ?_
             refine WL.x (X.idxIE (k := 3) k Try.runUnderlying28 Try.sizeOf3 rfl rfl rfl (by omega) (by first | omega | (simp; omega) | simp)) (by decide) ?_
             refine WL.x (X.loadI (k := 3) (i := k) Try.isAgg3 rfl rfl (by first | omega | (simp; omega) | simp)) (by decide) ?_
             refine WL.x (X.move rfl) (by decide) ?_
             refine WL.x (X.mx rfl rfl) (by decide) ?_
             refine WL.x (X.idxIE (k := 3) k Try.runUnderlying28 Try.sizeOf3 rfl rfl rfl (by omega) (by first | omega | (simp; omega) | simp)) (by decide) ?_
             refine WL.ts (T.storeI (k := 3) (i := k) Try.sizeOf3 rfl rfl rfl (by first | omega | (simp; omega) | simp)) ?_
             refine WL.nil ?_
             refine WK.nThen ?_
             refine WC.region ?_
             refine WL.x (X.move rfl) (by decide) ?_
             refine WL.x (X.move rfl) (by decide) ?_
             refine WL.x (X.move rfl) (by decide) ?_
             refine WL.x (X.move rfl) (by decide) ?_
             refine WL.x (X.idxIE (k := 2) k Try.runUnderlying28 Try.sizeOf3 rfl rfl rfl (by omega) (by first | omega | (simp; omega) | simp)) (by decide) ?_
             refine WL.x (X.loadI (k := 2) (i := k) Try.isAgg3 rfl rfl (by first | omega | (simp; omega) | simp)) (by decide) ?_
             refine WL.x (X.move rfl) (by decide) ?_
             refine WL.x (X.mx rfl rfl) (by decide) ?_
             refine WL.x (X.idxIE (k := 2) k Try.runUnderlying28 Try.sizeOf3 rfl rfl rfl (by omega) (by first | omega | (simp; omega) | simp)) (by decide) ?_
             refine WL.ts (T.storeI (k := 2) (i := k) Try.sizeOf3 rfl rfl rfl (by first | omega | (simp; omega) | simp)) ?_
             refine WL.nil ?_
             refine WK.nBlock ?_
             refine WK.nThen ?_
             refine WC.region ?_
             refine WL.x (X.move rfl) (by decide) ?_
             refine WL.x (X.add rfl rfl (by omega) (by omega)) (by decide) ?_
             refine WL.x (X.assign rfl) (by decide) ?_
             refine WL.nil ?_
             refine WK.nThen ?_
             have hst : RI (rX s r) (rPass s (k + 1) (rX s r)) true := ri_yes hri (by omega) (by omega) (by omega)
             have he61 : (((rPass s k (rX s r)).1).set k (max (gt ((rPass s k (rX s r)).1) k) (rLst s k (rPass s k (rX s r))))) = ((rPass s (k + 1) (rX s r)).1) := ((set_max (by omega)).trans rfl)
             rw [he61]
             have he62 : (((rPass s k (rX s r)).2).set k (max (gt ((rPass s k (rX s r)).2) k) (rBk s k (rPass s k (rX s r))))) = ((rPass s (k + 1) (rX s r)).2) := ((set_max (by omega)).trans rfl)
             rw [he62]
             refine WK.next ((k + 1, true)) rfl (.cons _ (.cons _ (.cons_cons _ (.cons_cons _ (.cons_cons _ (.cons_cons _ .slnil)))))) (.cons rfl (.cons rfl (.cons rfl (.cons rfl (.cons rfl (.cons rfl (.cons rfl (.cons rfl (.cons rfl (.cons rfl (.cons rfl (.cons rfl (.cons rfl (.cons rfl (.cons rfl .nil))))))))))))))) ?_ ?_
             ·exact ⟨by omega, hst⟩
             ·(dsimp only; omega)
            ·refine WL.x (X.move rfl) (by decide) ?_
             refine WL.yes rfl rfl ?_
             refine WL.x (X.move rfl) (by decide) ?_
             refine WL.yes rfl rfl ?_
             refine WL.x (X.move rfl) (by decide) ?_
             refine WL.yes rfl rfl ?_
             refine WL.x (X.move rfl) (by decide) ?_
             refine WL.yes rfl rfl ?_
             refine WL.x (X.idxIE (k := 2) k Try.runUnderlying28 Try.sizeOf3 rfl rfl rfl (by omega) (by first | omega | (simp; omega) | simp)) (by decide) ?_
             refine WL.yes rfl rfl ?_
             refine WL.x (X.loadI (k := 2) (i := k) Try.isAgg3 rfl rfl (by first | omega | (simp; omega) | simp)) (by decide) ?_
             refine WL.yes rfl rfl ?_
             refine WL.cond (X.gtr rfl rfl) (by decide) (fun h63 => ?_) (fun h63 => ?_)
             ·refine WL.x (X.pickF rfl rfl rfl) (by decide) ?_
              refine WL.nil ?_
              refine WK.nThen ?_
              refine WC.condT rfl ?_
              refine WC.seq ?_
              refine WC.region ?_
              refine WL.x (X.assign rfl) (by decide) ?_
              refine WL.nil ?_
              refine WK.nThen ?_
              refine WC.seq ?_
              refine WC.region ?_
              refine WL.x (X.move rfl) (by decide) ?_
              refine WL.x (X.move rfl) (by decide) ?_
              refine WL.x (X.move rfl) (by decide) ?_
              refine WL.x (X.move rfl) (by decide) ?_
              refine WL.x (X.idxIE (k := 3) k Try.runUnderlying28 Try.sizeOf3 rfl rfl rfl (by omega) (by first | omega | (simp; omega) | simp)) (by decide) ?_
              refine WL.x (X.loadI (k := 3) (i := k) Try.isAgg3 rfl rfl (by first | omega | (simp; omega) | simp)) (by decide) ?_
              refine WL.x (X.move rfl) (by decide) ?_
              refine WL.x (X.mx rfl rfl) (by decide) ?_
              refine WL.x (X.idxIE (k := 3) k Try.runUnderlying28 Try.sizeOf3 rfl rfl rfl (by omega) (by first | omega | (simp; omega) | simp)) (by decide) ?_
              refine WL.ts (T.storeI (k := 3) (i := k) Try.sizeOf3 rfl rfl rfl (by first | omega | (simp; omega) | simp)) ?_
              refine WL.nil ?_
              refine WK.nThen ?_
              refine WC.region ?_
              refine WL.x (X.move rfl) (by decide) ?_
              refine WL.x (X.move rfl) (by decide) ?_
              refine WL.x (X.move rfl) (by decide) ?_
              refine WL.x (X.move rfl) (by decide) ?_
              refine WL.x (X.idxIE (k := 2) k Try.runUnderlying28 Try.sizeOf3 rfl rfl rfl (by omega) (by first | omega | (simp; omega) | simp)) (by decide) ?_
              refine WL.x (X.loadI (k := 2) (i := k) Try.isAgg3 rfl rfl (by first | omega | (simp; omega) | simp)) (by decide) ?_
              refine WL.x (X.move rfl) (by decide) ?_
              refine WL.x (X.mx rfl rfl) (by decide) ?_
              refine WL.x (X.idxIE (k := 2) k Try.runUnderlying28 Try.sizeOf3 rfl rfl rfl (by omega) (by first | omega | (simp; omega) | simp)) (by decide) ?_
              refine WL.ts (T.storeI (k := 2) (i := k) Try.sizeOf3 rfl rfl rfl (by first | omega | (simp; omega) | simp)) ?_
              refine WL.nil ?_
              refine WK.nBlock ?_
              refine WK.nThen ?_
              refine WC.region ?_
              refine WL.x (X.move rfl) (by decide) ?_
              refine WL.x (X.add rfl rfl (by omega) (by omega)) (by decide) ?_
              refine WL.x (X.assign rfl) (by decide) ?_
              refine WL.nil ?_
              refine WK.nThen ?_
              have hst : RI (rX s r) (rPass s (k + 1) (rX s r)) true := ri_yes hri (by omega) (by omega) (by omega)
              have he64 : (((rPass s k (rX s r)).1).set k (max (gt ((rPass s k (rX s r)).1) k) (rLst s k (rPass s k (rX s r))))) = ((rPass s (k + 1) (rX s r)).1) := ((set_max (by omega)).trans rfl)
              rw [he64]
              have he65 : (((rPass s k (rX s r)).2).set k (max (gt ((rPass s k (rX s r)).2) k) (rBk s k (rPass s k (rX s r))))) = ((rPass s (k + 1) (rX s r)).2) := ((set_max (by omega)).trans rfl)
              rw [he65]
              refine WK.next ((k + 1, true)) rfl (.cons _ (.cons _ (.cons_cons _ (.cons_cons _ (.cons_cons _ (.cons_cons _ .slnil)))))) (.cons rfl (.cons rfl (.cons rfl (.cons rfl (.cons rfl (.cons rfl (.cons rfl (.cons rfl (.cons rfl (.cons rfl (.cons rfl (.cons rfl (.cons rfl (.cons rfl (.cons rfl .nil))))))))))))))) ?_ ?_
              ·exact ⟨by omega, hst⟩
              ·(dsimp only; omega)
             ·refine WL.x (X.pickF rfl rfl rfl) (by decide) ?_
              refine WL.nil ?_
              refine WK.nThen ?_
              refine WC.condF rfl ?_
              refine WC.skip ?_
              refine WK.nBlock ?_
              refine WK.nThen ?_
              refine WC.region ?_
              refine WL.x (X.move rfl) (by decide) ?_
              refine WL.x (X.add rfl rfl (by omega) (by omega)) (by decide) ?_
              refine WL.x (X.assign rfl) (by decide) ?_
              refine WL.nil ?_
              refine WK.nThen ?_
              have hsn := ri_no hri (i := k) (by omega) (by omega)
              have hst : RI (rX s r) (rPass s (k + 1) (rX s r)) d := hsn.2
              have he66 : ((rPass s k (rX s r)).1) = ((rPass s (k + 1) (rX s r)).1) := (congrArg Prod.fst hsn.1).symm
              rw [he66]
              have he67 : ((rPass s k (rX s r)).2) = ((rPass s (k + 1) (rX s r)).2) := (congrArg Prod.snd hsn.1).symm
              rw [he67]
              refine WK.next ((k + 1, d)) rfl (.cons _ (.cons _ (.cons_cons _ (.cons_cons _ (.cons_cons _ (.cons_cons _ .slnil)))))) (.cons rfl (.cons rfl (.cons rfl (.cons rfl (.cons rfl (.cons rfl (.cons rfl (.cons rfl (.cons rfl (.cons rfl (.cons rfl (.cons rfl (.cons rfl (.cons rfl (.cons rfl .nil))))))))))))))) ?_ ?_
              ·exact ⟨by omega, hst⟩
              ·(dsimp only; omega)
          ·refine WL.nil ?_
           refine WK.nThen ?_
           refine WC.condF rfl ?_
           refine WC.skip ?_
           refine WK.nThen ?_
           refine WC.seq ?_
           refine WC.seq ?_
           refine WC.region ?_
           refine WL.x (X.move rfl) (by decide) ?_
           refine WL.x (X.add rfl rfl (by omega) (by omega)) (by decide) ?_
           refine WL.x (X.move rfl) (by decide) ?_
           refine WL.cond (X.lss rfl rfl) (by decide) (fun h68 => ?_) (fun h68 => ?_)
           ·refine WL.nil ?_
            refine WK.nThen ?_
            refine WC.condT rfl ?_
            refine WC.seq ?_
            have hb5 := hcb.bu (k + 1) (by omega)
            have hm2 := bt_small hok (gt s.Values k).Time (gt s.Values (k + 1)).Time
            refine WC.draw (π := (.cons 0 (.cons 1 (.cons 2 (.cons 3 (.cons 4 (.cons 5 (.cons 6 (.cons 7 (.cons 8 (.cons 9 (.cons 10 (.cons 11 (.cons 12 (.cons 13 (.cons 14 (.cons 15 (.cons 16 .done)))))))))))))))))) [15, 16] [16] rfl (by kernel_rfl) ?_
            refine DW.x rfl rfl (X.loadBA (k := 4) Try.isAgg25 Try.sizeOf25 rfl rfl rfl) (by decide) ?_
            refine DW.x rfl rfl (X.field Try.runUnderlying25 rfl Try.sizeOf22 rfl) (by decide) ?_
            refine DW.x rfl rfl (X.loadB (k := 4) Try.isAgg22 rfl rfl rfl) (by decide) ?_
            refine DW.x rfl rfl (X.move rfl) (by decide) ?_
            refine DW.xe rfl rfl (E.idxN k Try.runUnderlying22 Try.sizeOf62 rfl rfl hs2 (by omega)) (by decide) (fun p69 hp70 => ?_)
            have hp71 := At.Val_0 hp70
            refine DW.x rfl rfl (X.field Try.runUnderlying62 rfl Try.sizeOf3 rfl) (by decide) ?_
            refine DW.x rfl rfl (X.loadInt Try.isAgg3 rfl hp71) (by decide) ?_
            refine DW.x rfl rfl (X.field Try.runUnderlying25 rfl Try.sizeOf22 rfl) (by decide) ?_
            refine DW.x rfl rfl (X.loadB (k := 4) Try.isAgg22 rfl rfl rfl) (by decide) ?_
            refine DW.x rfl rfl (X.move rfl) (by decide) ?_
            refine DW.x rfl rfl (X.add rfl rfl (by omega) (by omega)) (by decide) ?_
            refine DW.xe rfl rfl (E.idxE (k + 1) Try.runUnderlying22 Try.sizeOf62 rfl rfl hs2 (by omega) (by omega)) (by decide) (fun p72 hp73 => ?_)
            have hp74 := At.Val_0 hp73
            refine DW.x rfl rfl (X.field Try.runUnderlying62 rfl Try.sizeOf3 rfl) (by decide) ?_
            refine DW.x rfl rfl (X.loadInt Try.isAgg3 rfl hp74) (by decide) ?_
            refine DW.x rfl rfl (X.call Try.call143 rfl (moved143 _ _ s ⟨_, _, rfl, hs2, hs4⟩ _ _ (by assumption))) (by decide) ?_
            refine DW.tn rfl rfl rfl (T.alloc Try.zeroValue33 rfl) (by decide) fun b75 => ?_
            refine DW.ts rfl rfl rfl rfl (T.storeBA (k := 0) Try.sizeOf33 rfl rfl rfl (one_cons rfl (one_cons rfl one_nil)) rfl rfl) ?_
            refine DW.nil ?_
            refine WK.nThen ?_
            refine WC.draw (π := (.cons 0 (.cons 1 (.cons 2 (.cons 3 (.cons 4 (.cons 5 (.cons 6 (.cons 7 (.cons 8 (.cons 9 (.cons 10 .done)))))))))))) [] [] rfl (by kernel_rfl) ?_
            refine DW.x rfl rfl (X.move rfl) (by decide) ?_
            refine DW.x rfl rfl (X.move rfl) (by decide) ?_
            refine DW.x rfl rfl (X.move rfl) (by decide) ?_
            refine DW.x rfl rfl (X.add rfl rfl (by omega) (by omega)) (by decide) ?_
            refine DW.x rfl rfl (X.idxIE (k := 2) (k + 1) Try.runUnderlying28 Try.sizeOf3 rfl rfl rfl (by omega) (by first | omega | (simp; omega) | simp)) (by decide) ?_
            refine DW.x rfl rfl (X.loadI (k := 2) (i := (k + 1)) Try.isAgg3 rfl rfl (by first | omega | (simp; omega) | simp)) (by decide) ?_
            refine DW.x rfl rfl (X.field Try.runUnderlying33 rfl Try.sizeOf3 rfl) (by decide) ?_
            refine DW.x rfl rfl (X.loadB (k := 0) Try.isAgg3 rfl rfl rfl) (by decide) ?_
            refine DW.x rfl rfl (X.add rfl rfl (by omega) (by omega)) (by decide) ?_
            refine DW.x rfl rfl (X.mx rfl rfl) (by decide) ?_
            refine DW.x rfl rfl (X.assign rfl) (by decide) ?_
            refine DW.nil ?_
            refine WK.nThen ?_
            refine WC.seq ?_
            have hls : (((gt s.Values k).Levels).Lo) + (gt ((rPass s k (rX s r)).2) k) = rLst s k (rPass s k (rX s r)) := (by unfold rLst; first | rw [if_pos (by omega)] | rw [if_neg (by omega)])
            have hbk : max (max (gt ((rPass s k (rX s r)).2) k) ((gt ((rPass s k (rX s r)).1) k) - (((gt s.Values k).Levels).Hi))) ((gt ((rPass s k (rX s r)).2) ((k + 1))) + ((bt s.Shifts (((gt s.Values k).Time)) (((gt s.Values (k + 1)).Time))).Lo)) = rBk s k (rPass s k (rX s r)) := (by unfold rBk rBk1 rBk0; first | rw [if_pos (by omega), if_pos (by omega)] | rw [if_pos (by omega), if_neg (by omega)] | rw [if_neg (by omega), if_pos (by omega)] | rw [if_neg (by omega), if_neg (by omega)])
            rw [hls, hbk]
            refine WC.region ?_
            refine WL.x (X.move rfl) (by decide) ?_
            refine WL.x (X.move rfl) (by decide) ?_
            refine WL.x (X.move rfl) (by decide) ?_
            refine WL.x (X.idxIE (k := 3) k Try.runUnderlying28 Try.sizeOf3 rfl rfl rfl (by omega) (by first | omega | (simp; omega) | simp)) (by decide) ?_
            refine WL.x (X.loadI (k := 3) (i := k) Try.isAgg3 rfl rfl (by first | omega | (simp; omega) | simp)) (by decide) ?_
            refine WL.cond (X.gtr rfl rfl) (by decide) (fun h76 => ?_) (fun h76 => ?_)
            ·refine WL.x (X.move rfl) (by decide) ?_
             refine WL.no rfl rfl rfl (by decide) ?_
             refine WL.no rfl rfl rfl (by decide) ?_
             refine WL.no rfl rfl rfl (by decide) ?_
             refine WL.no rfl rfl rfl (by decide) ?_
             refine WL.no rfl rfl rfl (by decide) ?_
             refine WL.no rfl rfl rfl (by decide) ?_
             refine WL.x (X.pickT rfl rfl rfl) (by decide) ?_
             refine WL.nil ?_
             refine WK.nThen ?_
             refine WC.condT rfl ?_
             refine WC.seq ?_
             refine WC.region ?_
             refine WL.x (X.assign rfl) (by decide) ?_
             refine WL.nil ?_
             refine WK.nThen ?_
             refine WC.seq ?_
             refine WC.region ?_
             refine WL.x (X.move rfl) (by decide) ?_
             refine WL.x (X.move rfl) (by decide) ?_
             refine WL.x (X.move rfl) (by decide) ?_
             refine WL.x (X.move rfl) (by decide) ?_
             refine WL.x (X.idxIE (k := 3) k Try.runUnderlying28 Try.sizeOf3 rfl rfl rfl (by omega) (by first | omega | (simp; omega) | simp)) (by decide) ?_
             refine WL.x (X.loadI (k := 3) (i := k) Try.isAgg3 rfl rfl (by first | omega | (simp; omega) | simp)) (by decide) ?_
             refine WL.x (X.move rfl) (by decide) ?_
             refine WL.x (X.mx rfl rfl) (by decide) ?_
             refine WL.x (X.idxIE (k := 3) k Try.runUnderlying28 Try.sizeOf3 rfl rfl rfl (by omega) (by first | omega | (simp; omega) | simp)) (by decide) ?_
             refine WL.ts (T.storeI (k := 3) (i := k) Try.sizeOf3 rfl rfl rfl (by first | omega | (simp; omega) | simp)) ?_
             refine WL.nil ?_
             refine WK.nThen ?_
             refine WC.region ?_
             refine WL.x (X.move rfl) (by decide) ?_
             refine WL.x (X.move rfl) (by decide) ?_
             refine WL.x (X.move rfl) (by decide) ?_
             refine WL.x (X.move rfl) (by decide) ?_
             refine WL.x (X.idxIE (k := 2) k Try.runUnderlying28 Try.sizeOf3 rfl rfl rfl (by omega) (by first | omega | (simp; omega) | simp)) (by decide) ?_
             refine WL.x (X.loadI (k := 2) (i := k) Try.isAgg3 rfl rfl (by first | omega | (simp; omega) | simp)) (by decide) ?_
             refine WL.x (X.move rfl) (by decide) ?_
             refine WL.x (X.mx rfl rfl) (by decide) ?_
             refine WL.x (X.idxIE (k := 2) k Try.runUnderlying28 Try.sizeOf3 rfl rfl rfl (by omega) (by first | omega | (simp; omega) | simp)) (by decide) ?_
             refine WL.ts (T.storeI (k := 2) (i := k) Try.sizeOf3 rfl rfl rfl (by first | omega | (simp; omega) | simp)) ?_
             refine WL.nil ?_
             refine WK.nBlock ?_
             refine WK.nThen ?_
             refine WC.region ?_
             refine WL.x (X.move rfl) (by decide) ?_
             refine WL.x (X.add rfl rfl (by omega) (by omega)) (by decide) ?_
             refine WL.x (X.assign rfl) (by decide) ?_
             refine WL.nil ?_
             refine WK.nThen ?_
             have hst : RI (rX s r) (rPass s (k + 1) (rX s r)) true := ri_yes hri (by omega) (by omega) (by omega)
             have he77 : (((rPass s k (rX s r)).1).set k (max (gt ((rPass s k (rX s r)).1) k) (rLst s k (rPass s k (rX s r))))) = ((rPass s (k + 1) (rX s r)).1) := ((set_max (by omega)).trans rfl)
             rw [he77]
             have he78 : (((rPass s k (rX s r)).2).set k (max (gt ((rPass s k (rX s r)).2) k) (rBk s k (rPass s k (rX s r))))) = ((rPass s (k + 1) (rX s r)).2) := ((set_max (by omega)).trans rfl)
             rw [he78]
             refine WK.next ((k + 1, true)) rfl (.cons _ (.cons _ (.cons_cons _ (.cons_cons _ (.cons_cons _ (.cons_cons _ .slnil)))))) (.cons rfl (.cons rfl (.cons rfl (.cons rfl (.cons rfl (.cons rfl (.cons rfl (.cons rfl (.cons rfl (.cons rfl (.cons rfl (.cons rfl (.cons rfl (.cons rfl (.cons rfl .nil))))))))))))))) ?_ ?_
             ·exact ⟨by omega, hst⟩
             ·(dsimp only; omega)
            ·refine WL.x (X.move rfl) (by decide) ?_
             refine WL.yes rfl rfl ?_
             refine WL.x (X.move rfl) (by decide) ?_
             refine WL.yes rfl rfl ?_
             refine WL.x (X.move rfl) (by decide) ?_
             refine WL.yes rfl rfl ?_
             refine WL.x (X.move rfl) (by decide) ?_
             refine WL.yes rfl rfl ?_
             refine WL.x (X.idxIE (k := 2) k Try.runUnderlying28 Try.sizeOf3 rfl rfl rfl (by omega) (by first | omega | (simp; omega) | simp)) (by decide) ?_
             refine WL.yes rfl rfl ?_
             refine WL.x (X.loadI (k := 2) (i := k) Try.isAgg3 rfl rfl (by first | omega | (simp; omega) | simp)) (by decide) ?_
             refine WL.yes rfl rfl ?_
             refine WL.cond (X.gtr rfl rfl) (by decide) (fun h79 => ?_) (fun h79 => ?_)
             ·refine WL.x (X.pickF rfl rfl rfl) (by decide) ?_
              refine WL.nil ?_
              refine WK.nThen ?_
              refine WC.condT rfl ?_
              refine WC.seq ?_
              refine WC.region ?_
              refine WL.x (X.assign rfl) (by decide) ?_
              refine WL.nil ?_
              refine WK.nThen ?_
              refine WC.seq ?_
              refine WC.region ?_
              refine WL.x (X.move rfl) (by decide) ?_
              refine WL.x (X.move rfl) (by decide) ?_
              refine WL.x (X.move rfl) (by decide) ?_
              refine WL.x (X.move rfl) (by decide) ?_
              refine WL.x (X.idxIE (k := 3) k Try.runUnderlying28 Try.sizeOf3 rfl rfl rfl (by omega) (by first | omega | (simp; omega) | simp)) (by decide) ?_
              refine WL.x (X.loadI (k := 3) (i := k) Try.isAgg3 rfl rfl (by first | omega | (simp; omega) | simp)) (by decide) ?_
              refine WL.x (X.move rfl) (by decide) ?_
              refine WL.x (X.mx rfl rfl) (by decide) ?_
              refine WL.x (X.idxIE (k := 3) k Try.runUnderlying28 Try.sizeOf3 rfl rfl rfl (by omega) (by first | omega | (simp; omega) | simp)) (by decide) ?_
              refine WL.ts (T.storeI (k := 3) (i := k) Try.sizeOf3 rfl rfl rfl (by first | omega | (simp; omega) | simp)) ?_
              refine WL.nil ?_
              refine WK.nThen ?_
              refine WC.region ?_
              refine WL.x (X.move rfl) (by decide) ?_
              refine WL.x (X.move rfl) (by decide) ?_
              refine WL.x (X.move rfl) (by decide) ?_
              refine WL.x (X.move rfl) (by decide) ?_
              refine WL.x (X.idxIE (k := 2) k Try.runUnderlying28 Try.sizeOf3 rfl rfl rfl (by omega) (by first | omega | (simp; omega) | simp)) (by decide) ?_
              refine WL.x (X.loadI (k := 2) (i := k) Try.isAgg3 rfl rfl (by first | omega | (simp; omega) | simp)) (by decide) ?_
              refine WL.x (X.move rfl) (by decide) ?_
              refine WL.x (X.mx rfl rfl) (by decide) ?_
              refine WL.x (X.idxIE (k := 2) k Try.runUnderlying28 Try.sizeOf3 rfl rfl rfl (by omega) (by first | omega | (simp; omega) | simp)) (by decide) ?_
              refine WL.ts (T.storeI (k := 2) (i := k) Try.sizeOf3 rfl rfl rfl (by first | omega | (simp; omega) | simp)) ?_
              refine WL.nil ?_
              refine WK.nBlock ?_
              refine WK.nThen ?_
              refine WC.region ?_
              refine WL.x (X.move rfl) (by decide) ?_
              refine WL.x (X.add rfl rfl (by omega) (by omega)) (by decide) ?_
              refine WL.x (X.assign rfl) (by decide) ?_
              refine WL.nil ?_
              refine WK.nThen ?_
              have hst : RI (rX s r) (rPass s (k + 1) (rX s r)) true := ri_yes hri (by omega) (by omega) (by omega)
              have he80 : (((rPass s k (rX s r)).1).set k (max (gt ((rPass s k (rX s r)).1) k) (rLst s k (rPass s k (rX s r))))) = ((rPass s (k + 1) (rX s r)).1) := ((set_max (by omega)).trans rfl)
              rw [he80]
              have he81 : (((rPass s k (rX s r)).2).set k (max (gt ((rPass s k (rX s r)).2) k) (rBk s k (rPass s k (rX s r))))) = ((rPass s (k + 1) (rX s r)).2) := ((set_max (by omega)).trans rfl)
              rw [he81]
              refine WK.next ((k + 1, true)) rfl (.cons _ (.cons _ (.cons_cons _ (.cons_cons _ (.cons_cons _ (.cons_cons _ .slnil)))))) (.cons rfl (.cons rfl (.cons rfl (.cons rfl (.cons rfl (.cons rfl (.cons rfl (.cons rfl (.cons rfl (.cons rfl (.cons rfl (.cons rfl (.cons rfl (.cons rfl (.cons rfl .nil))))))))))))))) ?_ ?_
              ·exact ⟨by omega, hst⟩
              ·(dsimp only; omega)
             ·refine WL.x (X.pickF rfl rfl rfl) (by decide) ?_
              refine WL.nil ?_
              refine WK.nThen ?_
              refine WC.condF rfl ?_
              refine WC.skip ?_
              refine WK.nBlock ?_
              refine WK.nThen ?_
              refine WC.region ?_
              refine WL.x (X.move rfl) (by decide) ?_
              refine WL.x (X.add rfl rfl (by omega) (by omega)) (by decide) ?_
              refine WL.x (X.assign rfl) (by decide) ?_
              refine WL.nil ?_
              refine WK.nThen ?_
              have hsn := ri_no hri (i := k) (by omega) (by omega)
              have hst : RI (rX s r) (rPass s (k + 1) (rX s r)) d := hsn.2
              have he82 : ((rPass s k (rX s r)).1) = ((rPass s (k + 1) (rX s r)).1) := (congrArg Prod.fst hsn.1).symm
              rw [he82]
              have he83 : ((rPass s k (rX s r)).2) = ((rPass s (k + 1) (rX s r)).2) := (congrArg Prod.snd hsn.1).symm
              rw [he83]
              refine WK.next ((k + 1, d)) rfl (.cons _ (.cons _ (.cons_cons _ (.cons_cons _ (.cons_cons _ (.cons_cons _ .slnil)))))) (.cons rfl (.cons rfl (.cons rfl (.cons rfl (.cons rfl (.cons rfl (.cons rfl (.cons rfl (.cons rfl (.cons rfl (.cons rfl (.cons rfl (.cons rfl (.cons rfl (.cons rfl .nil))))))))))))))) ?_ ?_
              ·exact ⟨by omega, hst⟩
              ·(dsimp only; omega)
           ·refine WL.nil ?_
            refine WK.nThen ?_
            refine WC.condF rfl ?_
            refine WC.skip ?_
            refine WK.nThen ?_
            refine WC.seq ?_
            have hls : (((gt s.Values k).Levels).Lo) + (gt ((rPass s k (rX s r)).2) k) = rLst s k (rPass s k (rX s r)) := (by unfold rLst; first | rw [if_pos (by omega)] | rw [if_neg (by omega)])
            have hbk : max (gt ((rPass s k (rX s r)).2) k) ((gt ((rPass s k (rX s r)).1) k) - (((gt s.Values k).Levels).Hi)) = rBk s k (rPass s k (rX s r)) := (by unfold rBk rBk1 rBk0; first | rw [if_pos (by omega), if_pos (by omega)] | rw [if_pos (by omega), if_neg (by omega)] | rw [if_neg (by omega), if_pos (by omega)] | rw [if_neg (by omega), if_neg (by omega)])
            rw [hls, hbk]
            refine WC.region ?_
            refine WL.x (X.move rfl) (by decide) ?_
            refine WL.x (X.move rfl) (by decide) ?_
            refine WL.x (X.move rfl) (by decide) ?_
            refine WL.x (X.idxIE (k := 2) k Try.runUnderlying28 Try.sizeOf3 rfl rfl rfl (by omega) (by first | omega | (simp; omega) | simp)) (by decide) ?_
            refine WL.x (X.loadI (k := 2) (i := k) Try.isAgg3 rfl rfl (by first | omega | (simp; omega) | simp)) (by decide) ?_
            refine WL.cond (X.gtr rfl rfl) (by decide) (fun h84 => ?_) (fun h84 => ?_)
            ·refine WL.x (X.move rfl) (by decide) ?_
             refine WL.no rfl rfl rfl (by decide) ?_
             refine WL.no rfl rfl rfl (by decide) ?_
             refine WL.no rfl rfl rfl (by decide) ?_
             refine WL.no rfl rfl rfl (by decide) ?_
             refine WL.no rfl rfl rfl (by decide) ?_
             refine WL.no rfl rfl rfl (by decide) ?_
             refine WL.x (X.pickT rfl rfl rfl) (by decide) ?_
             refine WL.nil ?_
             refine WK.nThen ?_
             refine WC.condT rfl ?_
             refine WC.seq ?_
             refine WC.region ?_
             refine WL.x (X.assign rfl) (by decide) ?_
             refine WL.nil ?_
             refine WK.nThen ?_
             refine WC.seq ?_
             refine WC.region ?_
             refine WL.x (X.move rfl) (by decide) ?_
             refine WL.x (X.move rfl) (by decide) ?_
             refine WL.x (X.move rfl) (by decide) ?_
             refine WL.x (X.move rfl) (by decide) ?_
             refine WL.x (X.idxIE (k := 2) k Try.runUnderlying28 Try.sizeOf3 rfl rfl rfl (by omega) (by first | omega | (simp; omega) | simp)) (by decide) ?_
             refine WL.x (X.loadI (k := 2) (i := k) Try.isAgg3 rfl rfl (by first | omega | (simp; omega) | simp)) (by decide) ?_
             refine WL.x (X.move rfl) (by decide) ?_
             refine WL.x (X.mx rfl rfl) (by decide) ?_
             refine WL.x (X.idxIE (k := 2) k Try.runUnderlying28 Try.sizeOf3 rfl rfl rfl (by omega) (by first | omega | (simp; omega) | simp)) (by decide) ?_
             refine WL.ts (T.storeI (k := 2) (i := k) Try.sizeOf3 rfl rfl rfl (by first | omega | (simp; omega) | simp)) ?_
             refine WL.nil ?_
             refine WK.nThen ?_
             refine WC.region ?_
             refine WL.x (X.move rfl) (by decide) ?_
             refine WL.x (X.move rfl) (by decide) ?_
             refine WL.x (X.move rfl) (by decide) ?_
             refine WL.x (X.move rfl) (by decide) ?_
             refine WL.x (X.idxIE (k := 1) k Try.runUnderlying28 Try.sizeOf3 rfl rfl rfl (by omega) (by first | omega | (simp; omega) | simp)) (by decide) ?_
             refine WL.x (X.loadI (k := 1) (i := k) Try.isAgg3 rfl rfl (by first | omega | (simp; omega) | simp)) (by decide) ?_
             refine WL.x (X.move rfl) (by decide) ?_
             refine WL.x (X.mx rfl rfl) (by decide) ?_
             refine WL.x (X.idxIE (k := 1) k Try.runUnderlying28 Try.sizeOf3 rfl rfl rfl (by omega) (by first | omega | (simp; omega) | simp)) (by decide) ?_
             refine WL.ts (T.storeI (k := 1) (i := k) Try.sizeOf3 rfl rfl rfl (by first | omega | (simp; omega) | simp)) ?_
             refine WL.nil ?_
             refine WK.nBlock ?_
             refine WK.nThen ?_
             refine WC.region ?_
             refine WL.x (X.move rfl) (by decide) ?_
             refine WL.x (X.add rfl rfl (by omega) (by omega)) (by decide) ?_
             refine WL.x (X.assign rfl) (by decide) ?_
             refine WL.nil ?_
             refine WK.nThen ?_
             have hst : RI (rX s r) (rPass s (k + 1) (rX s r)) true := ri_yes hri (by omega) (by omega) (by omega)
             have he85 : (((rPass s k (rX s r)).1).set k (max (gt ((rPass s k (rX s r)).1) k) (rLst s k (rPass s k (rX s r))))) = ((rPass s (k + 1) (rX s r)).1) := ((set_max (by omega)).trans rfl)
             rw [he85]
             have he86 : (((rPass s k (rX s r)).2).set k (max (gt ((rPass s k (rX s r)).2) k) (rBk s k (rPass s k (rX s r))))) = ((rPass s (k + 1) (rX s r)).2) := ((set_max (by omega)).trans rfl)
             rw [he86]
             refine WK.next ((k + 1, true)) rfl (.cons _ (.cons_cons _ (.cons_cons _ (.cons_cons _ (.cons_cons _ .slnil))))) (.cons rfl (.cons rfl (.cons rfl (.cons rfl (.cons rfl (.cons rfl (.cons rfl (.cons rfl (.cons rfl (.cons rfl (.cons rfl (.cons rfl (.cons rfl (.cons rfl (.cons rfl .nil))))))))))))))) ?_ ?_
             ·exact ⟨by omega, hst⟩
             ·(dsimp only; omega)
            ·refine WL.x (X.move rfl) (by decide) ?_
             refine WL.yes rfl rfl ?_
             refine WL.x (X.move rfl) (by decide) ?_
             refine WL.yes rfl rfl ?_
             refine WL.x (X.move rfl) (by decide) ?_
             refine WL.yes rfl rfl ?_
             refine WL.x (X.move rfl) (by decide) ?_
             refine WL.yes rfl rfl ?_
             refine WL.x (X.idxIE (k := 1) k Try.runUnderlying28 Try.sizeOf3 rfl rfl rfl (by omega) (by first | omega | (simp; omega) | simp)) (by decide) ?_
             refine WL.yes rfl rfl ?_
             refine WL.x (X.loadI (k := 1) (i := k) Try.isAgg3 rfl rfl (by first | omega | (simp; omega) | simp)) (by decide) ?_
             refine WL.yes rfl rfl ?_
             refine WL.cond (X.gtr rfl rfl) (by decide) (fun h87 => ?_) (fun h87 => ?_)
             ·refine WL.x (X.pickF rfl rfl rfl) (by decide) ?_
              refine WL.nil ?_
              refine WK.nThen ?_
              refine WC.condT rfl ?_
              refine WC.seq ?_
              refine WC.region ?_
              refine WL.x (X.assign rfl) (by decide) ?_
              refine WL.nil ?_
              refine WK.nThen ?_
              refine WC.seq ?_
              refine WC.region ?_
              refine WL.x (X.move rfl) (by decide) ?_
              refine WL.x (X.move rfl) (by decide) ?_
              refine WL.x (X.move rfl) (by decide) ?_
              refine WL.x (X.move rfl) (by decide) ?_
              refine WL.x (X.idxIE (k := 2) k Try.runUnderlying28 Try.sizeOf3 rfl rfl rfl (by omega) (by first | omega | (simp; omega) | simp)) (by decide) ?_
              refine WL.x (X.loadI (k := 2) (i := k) Try.isAgg3 rfl rfl (by first | omega | (simp; omega) | simp)) (by decide) ?_
              refine WL.x (X.move rfl) (by decide) ?_
              refine WL.x (X.mx rfl rfl) (by decide) ?_
              refine WL.x (X.idxIE (k := 2) k Try.runUnderlying28 Try.sizeOf3 rfl rfl rfl (by omega) (by first | omega | (simp; omega) | simp)) (by decide) ?_
              refine WL.ts (T.storeI (k := 2) (i := k) Try.sizeOf3 rfl rfl rfl (by first | omega | (simp; omega) | simp)) ?_
              refine WL.nil ?_
              refine WK.nThen ?_
              refine WC.region ?_
              refine WL.x (X.move rfl) (by decide) ?_
              refine WL.x (X.move rfl) (by decide) ?_
              refine WL.x (X.move rfl) (by decide) ?_
              refine WL.x (X.move rfl) (by decide) ?_
              refine WL.x (X.idxIE (k := 1) k Try.runUnderlying28 Try.sizeOf3 rfl rfl rfl (by omega) (by first | omega | (simp; omega) | simp)) (by decide) ?_
              refine WL.x (X.loadI (k := 1) (i := k) Try.isAgg3 rfl rfl (by first | omega | (simp; omega) | simp)) (by decide) ?_
              refine WL.x (X.move rfl) (by decide) ?_
              refine WL.x (X.mx rfl rfl) (by decide) ?_
              refine WL.x (X.idxIE (k := 1) k Try.runUnderlying28 Try.sizeOf3 rfl rfl rfl (by omega) (by first | omega | (simp; omega) | simp)) (by decide) ?_
              refine WL.ts (T.storeI (k := 1) (i := k) Try.sizeOf3 rfl rfl rfl (by first | omega | (simp; omega) | simp)) ?_
              refine WL.nil ?_
              refine WK.nBlock ?_
              refine WK.nThen ?_
              refine WC.region ?_
              refine WL.x (X.move rfl) (by decide) ?_
              refine WL.x (X.add rfl rfl (by omega) (by omega)) (by decide) ?_
              refine WL.x (X.assign rfl) (by decide) ?_
              refine WL.nil ?_
              refine WK.nThen ?_
              have hst : RI (rX s r) (rPass s (k + 1) (rX s r)) true := ri_yes hri (by omega) (by omega) (by omega)
              have he88 : (((rPass s k (rX s r)).1).set k (max (gt ((rPass s k (rX s r)).1) k) (rLst s k (rPass s k (rX s r))))) = ((rPass s (k + 1) (rX s r)).1) := ((set_max (by omega)).trans rfl)
              rw [he88]
              have he89 : (((rPass s k (rX s r)).2).set k (max (gt ((rPass s k (rX s r)).2) k) (rBk s k (rPass s k (rX s r))))) = ((rPass s (k + 1) (rX s r)).2) := ((set_max (by omega)).trans rfl)
              rw [he89]
              refine WK.next ((k + 1, true)) rfl (.cons _ (.cons_cons _ (.cons_cons _ (.cons_cons _ (.cons_cons _ .slnil))))) (.cons rfl (.cons rfl (.cons rfl (.cons rfl (.cons rfl (.cons rfl (.cons rfl (.cons rfl (.cons rfl (.cons rfl (.cons rfl (.cons rfl (.cons rfl (.cons rfl (.cons rfl .nil))))))))))))))) ?_ ?_
              ·exact ⟨by omega, hst⟩
              ·(dsimp only; omega)
             ·refine WL.x (X.pickF rfl rfl rfl) (by decide) ?_
              refine WL.nil ?_
              refine WK.nThen ?_
              refine WC.condF rfl ?_
              refine WC.skip ?_
              refine WK.nBlock ?_
              refine WK.nThen ?_
              refine WC.region ?_
              refine WL.x (X.move rfl) (by decide) ?_
              refine WL.x (X.add rfl rfl (by omega) (by omega)) (by decide) ?_
              refine WL.x (X.assign rfl) (by decide) ?_
              refine WL.nil ?_
              refine WK.nThen ?_
              have hsn := ri_no hri (i := k) (by omega) (by omega)
              have hst : RI (rX s r) (rPass s (k + 1) (rX s r)) d := hsn.2
              have he90 : ((rPass s k (rX s r)).1) = ((rPass s (k + 1) (rX s r)).1) := (congrArg Prod.fst hsn.1).symm
              rw [he90]
              have he91 : ((rPass s k (rX s r)).2) = ((rPass s (k + 1) (rX s r)).2) := (congrArg Prod.snd hsn.1).symm
              rw [he91]
              refine WK.next ((k + 1, d)) rfl (.cons _ (.cons_cons _ (.cons_cons _ (.cons_cons _ (.cons_cons _ .slnil))))) (.cons rfl (.cons rfl (.cons rfl (.cons rfl (.cons rfl (.cons rfl (.cons rfl (.cons rfl (.cons rfl (.cons rfl (.cons rfl (.cons rfl (.cons rfl (.cons rfl (.cons rfl .nil))))))))))))))) ?_ ?_
              ·exact ⟨by omega, hst⟩
              ·(dsimp only; omega)
         ·refine WL.nil ?_
          refine WK.nThen ?_
          refine WC.condF rfl ?_
          refine WC.exit ?_
          refine WK.eThen ?_
          refine WK.eThen ?_
          refine WK.eHit ?_
          refine WK.nBlock ?_
          refine WK.nThen ?_
          have hkn : k = s.Values.length := (by omega)
          rw [hkn] at hri
          have hri2 := ri_ne hri
          have he92 : ((rPass s k (rX s r)).2) = ((rX s (r + 1)).2) := (by rw [hkn]; rfl)
          rw [he92]
          have he93 : ((rPass s k (rX s r)).1) = ((rX s (r + 1)).1) := (by rw [hkn]; rfl)
          rw [he93]
          refine WC.region ?_
          refine WL.x (X.move rfl) (by decide) ?_
          refine WL.x (X.add rfl rfl (by omega) (by omega)) (by decide) ?_
          refine WL.x (X.assign rfl) (by decide) ?_
          refine WL.nil ?_
          refine WK.nThen ?_
          refine WK.next ((r + 1, d)) rfl (.refl _) (.cons rfl (.cons rfl (.cons rfl (.cons rfl (.cons rfl (.cons rfl (.cons rfl .nil))))))) ?_ ?_
          ·exact ⟨by omega, fun hc_ => .inr (by rw [Nat.add_sub_cancel]; exact hri2.1 hc_), fun hc_ => ⟨by omega, by rw [Nat.add_sub_cancel]; exact hri2.2 hc_, by rw [Nat.add_sub_cancel]; omega⟩⟩
          ·(dsimp only; omega)
     ·refine WC.exit ?_
      refine WK.eThen ?_
      refine WK.eThen ?_
      refine WK.eHit ?_
      refine WK.nThen ?_
      refine WC.seq ?_
      refine WC.region ?_
      refine WL.x (X.move rfl) (by decide) ?_
      refine WL.x (X.assign rfl) (by decide) ?_
      refine WL.x (X.assign rfl) (by decide) ?_
      refine WL.nil ?_
      refine WK.nThen ?_
      refine WC.ret ?_
      refine WK.freezeF 1 rfl rfl (by unfold lenB; omega) (fun m94 hle95 hs96 => ?_)
      replace hs2 := hs2.mono hle95
      replace hs4 := hs4.mono hle95
      replace hp10 := hp10.mono hle95
      replace hp11 := hp11.mono hle95
      refine WK.ret2 rfl rfl rfl (fun w' hw' => Ret.mem hw' ?_)
      have hq_ := ris_yes hok hn0 (hcf (by assumption)).1 (hcf (by assumption)).2.1 (hcf (by assumption)).2.2
      exact ⟨_, tup2 rfl (bool_eq (by rw [hq_])), by rw [hq_]; exact hs96⟩

theorem mono31 (m : Mem) (cs : List Value) (s : Ser) (hs : Enc.rd m cs s)   : Pure Try.prog 31 #[.agg cs.toArray] m (fun m' v => ∃ r0, v = .tuple #[r0, .int .i64 ((monoR s).2)] ∧ Sl m' r0 ((monoR s).1)) := by
 obtain ⟨v1, v3, rfl, hs2, hs4⟩ := hs
 have hl5 := hs2.le
 have hl6 := hs4.le
 refine Pure.start Try.func31 rfl Try.ntmps31 rfl fun wld => ?_
 refine WC.seq ?_
 refine WC.region ?_
 refine WL.tn (T.boxB rfl rfl) (by decide) fun b7 => ?_
 refine WL.x (X.assign rfl) (by decide) ?_
 refine WL.x (X.assign rfl) (by decide) ?_
 refine WL.nil ?_
 refine WK.nThen ?_
 refine WC.seq ?_
 refine WC.region ?_
 refine WL.x (X.loadBA (k := 0) Try.isAgg25 Try.sizeOf25 rfl rfl rfl) (by decide) ?_
 refine WL.x (X.call Try.call97 rfl (check97 _ _ s ⟨_, _, rfl, hs2, hs4⟩ )) (by decide) ?_
 refine WL.x (X.assign rfl) (by decide) ?_
 refine WL.nil ?_
 refine WK.nThen ?_
 refine WC.seq ?_
 refine WC.seq ?_
 refine WC.region ?_
 refine WL.x (X.move rfl) (by decide) ?_
 refine WL.condn (X.neq rfl rfl) (by decide) (fun h8 => ?_) (fun h8 => ?_)
 ·refine WL.nil ?_
  refine WK.nThen ?_
  refine WC.condT rfl ?_
  refine WC.seq ?_
  refine WC.region ?_
  refine WL.x (X.move rfl) (by decide) ?_
  refine WL.x (X.assign rfl) (by decide) ?_
  refine WL.x (X.assign rfl) (by decide) ?_
  refine WL.nil ?_
  refine WK.nThen ?_
  refine WC.ret ?_
  refine WK.rThen ?_
  refine WK.ret2 rfl rfl rfl (fun w' hw' => Ret.mem hw' ?_)
  exact ⟨_, tup2 rfl (int_eq (by rw [monoR_err (by omega)])), by rw [monoR_err (by omega)]; exact .nil⟩
 ·refine WL.nil ?_
  refine WK.nThen ?_
  refine WC.condF rfl ?_
  refine WC.skip ?_
  refine WK.nThen ?_
  refine WC.seq ?_
  have hok := Ok.of (s := s) (by omega)
  refine WC.region ?_
  refine WL.x (X.loadBA (k := 0) Try.isAgg25 Try.sizeOf25 rfl rfl rfl) (by decide) ?_
  refine WL.tm (T.call Try.call101 rfl (rising101 _ _ s ⟨_, _, rfl, hs2, hs4⟩ (by assumption))) (by decide) fun m9 r10 hle11 hR12 => ?_
  obtain ⟨v13, rfl, hs14⟩ := hR12
  replace hs2 := hs2.mono hle11
  replace hs4 := hs4.mono hle11
  have hl15 := hs14.le
  refine WL.x (X.move rfl) (by decide) ?_
  refine WL.x (X.extract rfl rfl) (by decide) ?_
  refine WL.x (X.extract rfl rfl) (by decide) ?_
  refine WL.x (X.assign rfl) (by decide) ?_
  refine WL.x (X.assign rfl) (by decide) ?_
  refine WL.nil ?_
  refine WK.nThen ?_
  refine WC.seq ?_
  refine WC.seq ?_
  refine WC.region ?_
  refine WL.x (X.move rfl) (by decide) ?_
  refine WL.condb (X.not rfl) (by decide) (fun h16 => ?_) (fun h16 => ?_)
  ·refine WL.nil ?_
   refine WK.nThen ?_
   refine WC.condT rfl ?_
   refine WC.seq ?_
   refine WC.region ?_
   refine WL.x (X.assign rfl) (by decide) ?_
   refine WL.x (X.assign rfl) (by decide) ?_
   refine WL.nil ?_
   refine WK.nThen ?_
   refine WC.ret ?_
   refine WK.rThen ?_
   refine WK.ret2 rfl rfl rfl (fun w' hw' => Ret.mem hw' ?_)
   have hq_ := ris_false hok (by simpa using (by assumption : (!(risR s).2) = true))
   exact ⟨_, tup2 rfl (int_eq (by rw [hq_])), by rw [hq_]; exact .nil⟩
  ·refine WL.nil ?_
   refine WK.nThen ?_
   refine WC.condF rfl ?_
   refine WC.skip ?_
   refine WK.nThen ?_
   refine WC.seq ?_
   refine WC.region ?_
   refine WL.x (X.move rfl) (by decide) ?_
   refine WL.x (X.assign rfl) (by decide) ?_
   refine WL.x (X.assign rfl) (by decide) ?_
   refine WL.nil ?_
   refine WK.nThen ?_
   refine WC.ret ?_
   refine WK.ret2 rfl rfl rfl (fun w' hw' => Ret.mem hw' ?_)
   have hq_ := ris_true (s := s) (by simpa using (by assumption : (!(risR s).2) = false))
   exact ⟨_, tup2 rfl (int_eq hq_.1.symm), by rw [← hq_.2]; exact hs14⟩

end Go.Proofs.C8
