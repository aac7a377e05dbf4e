import Derived.Test.YtednficclnjmjaaKxW
import Derived.Test.YtednficclnjmjaaC8Lin
import Derived.Test.YtednficclnjmjaaC8W14
/- Century: walks, fifteenth part, by program. -/
namespace Go.Proofs.C8
open Go Go.Kx
set_option linter.unusedSimpArgs false

theorem cut78 (m : Mem) (cs : List Value) (s : Ser) (hs : Enc.rd m cs s) (cx : List Value) (x : Span) (hx : Enc.rd m cx x)   : Pure Try.prog 78 #[.agg cs.toArray, .agg cx.toArray] m (fun m' v => ∃ r0, v = .tuple #[.agg r0.toArray, .int .i64 ((cutR s x).2)] ∧ Enc.rd m' r0 ((cutR s x).1)) := by
 obtain ⟨v1, v3, rfl, hs2, hs4⟩ := hs
 have hl5 := hs2.le
 have hl6 := hs4.le
 obtain rfl := hx
 refine Pure.start Try.func78 rfl Try.ntmps78 rfl fun wld => ?_
 refine WC.r ?_
 refine WL.tn (T.boxB rfl rfl) (by decide) fun b7 => ?_
 refine WL.tn (T.boxB rfl rfl) (by decide) fun b8 => ?_
 refine WL.tn (T.alloc Try.zeroValue25 rfl) (by decide) fun b9 => ?_
 refine WL.ag rfl ?_
 refine WL.z ?_
 refine WC.r ?_
 refine WL.y (X.loadBA (k := 2) Try.isAgg25 Try.sizeOf25 rfl rfl rfl) ?_
 refine WL.y (X.call Try.call97 rfl (check97 _ _ s ⟨_, _, rfl, hs2, hs4⟩ )) ?_
 refine WL.ag rfl ?_
 refine WL.z ?_
 refine WC.seq ?_
 refine WC.r ?_
 refine WL.mv rfl ?_
 refine WL.condn (X.neq rfl rfl) (by decide) (fun h10 => ?_) (fun h10 => ?_)
 ·refine WL.z ?_
  refine WC.condT rfl ?_
  refine WC.r ?_
  refine WL.y (V := Value.agg [.slice none 0 0, .slice none 0 0].toArray) (X.build Try.zeroValue25 Try.runUnderlying25 (places25 _ Try.underlying25) rfl rfl) ?_
  refine WL.mv rfl ?_
  refine WL.ts (T.storeBA (k := 0) Try.sizeOf25 rfl rfl rfl (one_cons rfl (one_cons rfl one_nil)) rfl rfl) ?_
  refine WL.ag rfl ?_
  refine WL.z ?_
  refine WC.ret ?_
  refine WK.rThen ?_
  refine WK.retC2 0 rfl rfl rfl rfl Try.isAgg25 Try.sizeOf25 (fun w' hw' => Ret.mem hw' ?_)
  first | exact ⟨_, tup2 rfl (int_eq (by rw [cutR_err (by omega)])), by rw [cutR_err (by omega)]; exact ⟨_, _, rfl, .nil, .nil⟩⟩ | exact ⟨_, tup2 rfl (int_eq (by rw [cutR_arg (by omega) (by assumption)])), by rw [cutR_arg (by omega) (by assumption)]; exact ⟨_, _, rfl, .nil, .nil⟩⟩ | exact ⟨_, tup2 rfl (int_eq (by rw [cutR_ok (by omega) (by assumption)])), by rw [cutR_ok (by omega) (by assumption)]; exact ⟨_, _, rfl, .nil, .nil⟩⟩
 ·refine WL.z ?_
  refine WC.condF rfl ?_
  refine WC.skip ?_
  refine WK.nThen ?_
  refine WC.seq ?_
  refine WC.r ?_
  refine WL.y (X.loadBA (k := 1) Try.isAgg33 Try.sizeOf33 rfl rfl rfl) ?_
  refine WL.cond (X.call Try.call132 rfl (valid132 _ _ x rfl )) (by decide) (fun h11 => ?_) (fun h11 => ?_)
  ·refine WL.y (X.not rfl) ?_
   refine WL.z ?_
   refine WC.condF rfl ?_
   refine WC.skip ?_
   refine WK.nThen ?_
   refine WC.seq ?_
   have hok := Ok.of (s := s) (by omega)
   have hnV := hok.nV
   have hnX := hok.nX
   refine WC.region ?_
   refine WL.tn (T.alloc Try.zeroValue25 rfl) (by decide) fun b12 => ?_
   refine WL.z ?_
   refine WC.seq ?_
   refine WC.seq ?_
   refine WK.ownF Val 62 ?_
   refine WK.ownF Shf 72 ?_
   refine WC.region ?_
   refine WL.ag rfl ?_
   refine WL.z ?_
   refine WC.block ?_
   refine WC.loop (G := Nat × Value) (fun (k, va) => s.Values.length - k) (fun (k, va) => m) (fun (k, va) => [rowF ((.slice none 0 0)) 72 (([] : List Shf)), rowF (va) 62 (cutVN s x k), blk b12 25 [va, (.slice none 0 0)], blk b9 25 [.slice none 0 0, .slice none 0 0], blk b8 33 [.int .i64 (x.Lo), .int .i64 (x.Hi)], blk b7 25 [v1, v3]]) (fun (k, va) => [(2, .pointer (some ⟨b7, 0, none⟩)), (3, .pointer (some ⟨b8, 0, none⟩)), (4, .pointer (some ⟨b9, 0, none⟩)), (7, .pointer (some ⟨b12, 0, none⟩)), (8, .int .i64 (↑k))]) (fun (k, va) => k ≤ s.Values.length) ((0, Value.slice none 0 0)) rfl (.refl _) (.cons rfl (.cons rfl (.cons rfl (.cons rfl (.cons rfl .nil))))) ?_ ?_
   ·exact Nat.zero_le _
   ·rintro ⟨k, va⟩ hF13
    show WK _ _ m [rowF ((.slice none 0 0)) 72 (([] : List Shf)), rowF (va) 62 (cutVN s x k), blk b12 25 [va, (.slice none 0 0)], blk b9 25 [.slice none 0 0, .slice none 0 0], blk b8 33 [.int .i64 (x.Lo), .int .i64 (x.Hi)], blk b7 25 [v1, v3]] [(2, .pointer (some ⟨b7, 0, none⟩)), (3, .pointer (some ⟨b8, 0, none⟩)), (4, .pointer (some ⟨b9, 0, none⟩)), (7, .pointer (some ⟨b12, 0, none⟩)), (8, .int .i64 (↑k))] _
    replace hF13 : k ≤ s.Values.length := hF13
    have hk := hF13
    have hcv := cutV_len s x k
    refine WC.seq ?_
    refine WC.r ?_
    refine WL.mv rfl ?_
    refine WL.y (X.field Try.runUnderlying25 rfl Try.sizeOf22 rfl) ?_
    refine WL.y (X.loadB (k := 5) Try.isAgg22 rfl rfl rfl) ?_
    refine WL.y (X.len Try.runUnderlying22 rfl hs2) ?_
    refine WL.cond (X.lss rfl rfl) (by decide) (fun h14 => ?_) (fun h14 => ?_)
    ·refine WL.z ?_
     refine WC.condT rfl ?_
     refine WC.skip ?_
     refine WK.nThen ?_
     refine WC.seq ?_
     refine WC.block ?_
     refine WC.seq ?_
     refine WC.draw (π := (.cons 0 (.cons 1 (.cons 2 (.cons 3 (.cons 4 (.cons 5 (.cons 6 (.cons 7 (.cons 8 (.cons 9 (.cons 10 .done)))))))))))) [] [] rfl (by kernel_rfl) ?_
     refine DW.y rfl rfl (X.field Try.runUnderlying25 rfl Try.sizeOf22 rfl) ?_
     refine DW.y rfl rfl (X.loadB (k := 5) Try.isAgg22 rfl rfl rfl) ?_
     refine DW.y rfl rfl (X.move rfl) ?_
     refine DW.xe rfl rfl (E.idxN k Try.runUnderlying22 Try.sizeOf62 rfl rfl hs2 (by omega)) (by decide) (fun p15 hp16 => ?_)
     have hp17 := At.Val_0 hp16
     refine DW.y rfl rfl (X.field Try.runUnderlying62 rfl Try.sizeOf3 rfl) ?_
     refine DW.y rfl rfl (X.loadInt Try.isAgg3 rfl hp17) ?_
     refine DW.y rfl rfl (X.field Try.runUnderlying33 rfl Try.sizeOf3 rfl) ?_
     refine DW.y rfl rfl (X.loadB (k := 4) Try.isAgg3 rfl rfl rfl) ?_
     refine DW.y rfl rfl (X.field Try.runUnderlying33 rfl Try.sizeOf3 rfl) ?_
     refine DW.y rfl rfl (X.loadB (k := 4) Try.isAgg3 rfl rfl rfl) ?_
     refine DW.cond rfl rfl (X.call Try.call86 rfl (within86 _ _ _ _ )) (by decide) (fun h18 => ?_) (fun h18 => ?_)
     ·refine DW.nil ?_
      refine WK.nThen ?_
      refine WC.condT rfl ?_
      refine WC.draw (π := (.cons 0 (.cons 1 (.cons 2 (.cons 3 (.cons 4 (.cons 5 (.cons 6 (.cons 7 (.cons 8 (.cons 9 (.cons 10 .done)))))))))))) [7, 8, 10] [8, 10] rfl (by kernel_rfl) ?_
      refine DW.y rfl rfl (X.field Try.runUnderlying25 rfl Try.sizeOf22 rfl) ?_
      refine DW.y rfl rfl (X.loadB (k := 2) Try.isAgg22 rfl rfl rfl) ?_
      refine DW.y rfl rfl (X.field Try.runUnderlying25 rfl Try.sizeOf22 rfl) ?_
      refine DW.y rfl rfl (X.loadB (k := 5) Try.isAgg22 rfl rfl rfl) ?_
      refine DW.y rfl rfl (X.move rfl) ?_
      refine DW.xe rfl rfl (E.idxN k Try.runUnderlying22 Try.sizeOf62 rfl rfl hs2 (by omega)) (by decide) (fun p19 hp20 => ?_)
      refine DW.xe rfl rfl (E.loadAgg Try.isAgg62 Try.sizeOf62 rfl hp20) (by decide) (fun c21 hc22 => ?_)
      obtain rfl := hc22
      refine DW.tl rfl rfl rfl (T.lit1 sl22 rfl rfl rfl (by decide)) (by decide) fun b23 => ?_
      refine DW.ta rfl rfl rfl rfl (T.appendF (k := 1) (a := gt s.Values k) sl22 rfl rfl rfl rfl (by first | omega | (simp; done) | (simp; omega)) (by decide)) (by decide) (fun v24 => ?_)
      refine DW.y rfl rfl (X.field Try.runUnderlying25 rfl Try.sizeOf22 rfl) ?_
      refine DW.ts rfl rfl rfl rfl (OpTo.own1 (k := 1) rfl trivial (defd2 rfl rfl rfl) fun ho25 => T.storeB (k := 2) Try.sizeOf22 rfl rfl rfl ho25 (Nat.le_of_ble_eq_true rfl)) ?_
      refine DW.nil ?_
      refine WK.nBlock ?_
      refine WK.nThen ?_
      refine WC.region ?_
      refine WL.mv rfl ?_
      refine WL.y (X.add rfl rfl (by omega) (by omega)) ?_
      refine WL.ag rfl ?_
      refine WL.z ?_
      have he26 : ((cutVN s x k) ++ [gt s.Values k]) = (cutVN s x (k + 1)) := (by rw [cutVN]; first | rw [if_pos (by unfold inT; omega)] | rw [if_neg (by unfold inT; omega)])
      rw [he26]
      refine WK.next ((k + 1, v24)) rfl (.refl _) (.cons rfl (.cons rfl (.cons rfl (.cons rfl (.cons rfl .nil))))) ?_ ?_
      ·omega
      ·(dsimp only; omega)
     ·refine DW.nil ?_
      refine WK.nThen ?_
      refine WC.condF rfl ?_
      refine WC.skip ?_
      refine WK.nBlock ?_
      refine WK.nThen ?_
      refine WC.region ?_
      refine WL.mv rfl ?_
      refine WL.y (X.add rfl rfl (by omega) (by omega)) ?_
      refine WL.ag rfl ?_
      refine WL.z ?_
      have he27 : (cutVN s x k) = (cutVN s x (k + 1)) := (by rw [cutVN]; first | rw [if_pos (by unfold inT; omega)] | rw [if_neg (by unfold inT; omega)])
      rw [he27]
      refine WK.next ((k + 1, va)) rfl (.refl _) (.cons rfl (.cons rfl (.cons rfl (.cons rfl (.cons rfl .nil))))) ?_ ?_
      ·omega
      ·(dsimp only; omega)
    ·refine WL.z ?_
     refine WC.condF rfl ?_
     refine WC.exit ?_
     refine WK.eThen ?_
     refine WK.eThen ?_
     refine WK.eHit ?_
     refine WK.nThen ?_
     refine WC.seq ?_
     refine WC.r ?_
     refine WL.ag rfl ?_
     refine WL.z ?_
     refine WC.block ?_
     refine WC.loop (G := Nat × Value) (fun (i, vb) => s.Shifts.length - i) (fun (i, vb) => m) (fun (i, vb) => [rowF (vb) 72 (cutXN s x i), rowF (va) 62 (cutVN s x k), blk b12 25 [va, vb], blk b9 25 [.slice none 0 0, .slice none 0 0], blk b8 33 [.int .i64 (x.Lo), .int .i64 (x.Hi)], blk b7 25 [v1, v3]]) (fun (i, vb) => [(2, .pointer (some ⟨b7, 0, none⟩)), (3, .pointer (some ⟨b8, 0, none⟩)), (4, .pointer (some ⟨b9, 0, none⟩)), (7, .pointer (some ⟨b12, 0, none⟩)), (9, .int .i64 (↑i))]) (fun (i, vb) => i ≤ s.Shifts.length) ((0, (Value.slice none 0 0))) rfl (.refl _) (.cons rfl (.cons rfl (.cons rfl (.cons rfl (.cons rfl .nil))))) ?_ ?_
     ·exact Nat.zero_le _
     ·rintro ⟨i, vb⟩ hF28
      show WK _ _ m [rowF (vb) 72 (cutXN s x i), rowF (va) 62 (cutVN s x k), blk b12 25 [va, vb], blk b9 25 [.slice none 0 0, .slice none 0 0], blk b8 33 [.int .i64 (x.Lo), .int .i64 (x.Hi)], blk b7 25 [v1, v3]] [(2, .pointer (some ⟨b7, 0, none⟩)), (3, .pointer (some ⟨b8, 0, none⟩)), (4, .pointer (some ⟨b9, 0, none⟩)), (7, .pointer (some ⟨b12, 0, none⟩)), (9, .int .i64 (↑i))] _
      replace hF28 : i ≤ s.Shifts.length := hF28
      have hi := hF28
      have hcx := cutX_len s x i
      refine WC.seq ?_
      refine WC.r ?_
      refine WL.mv rfl ?_
      refine WL.y (X.field Try.runUnderlying25 rfl Try.sizeOf23 rfl) ?_
      refine WL.y (X.loadB (k := 5) Try.isAgg23 rfl rfl rfl) ?_
      refine WL.y (X.len Try.runUnderlying23 rfl hs4) ?_
      refine WL.cond (X.lss rfl rfl) (by decide) (fun h29 => ?_) (fun h29 => ?_)
      ·refine WL.z ?_
       refine WC.condT rfl ?_
       refine WC.skip ?_
       refine WK.nThen ?_
       refine WC.seq ?_
       refine WC.block ?_
       refine WC.seq ?_
       refine WC.draw (π := (.cons 0 (.cons 1 (.cons 2 (.cons 3 (.cons 4 (.cons 5 (.cons 6 (.cons 7 (.cons 8 (.cons 9 (.cons 10 .done)))))))))))) [] [] rfl (by kernel_rfl) ?_
       refine DW.y rfl rfl (X.field Try.runUnderlying25 rfl Try.sizeOf23 rfl) ?_
       refine DW.y rfl rfl (X.loadB (k := 5) Try.isAgg23 rfl rfl rfl) ?_
       refine DW.y rfl rfl (X.move rfl) ?_
       refine DW.xe rfl rfl (E.idxN i Try.runUnderlying23 Try.sizeOf72 rfl rfl hs4 (by omega)) (by decide) (fun p30 hp31 => ?_)
       have hp32 := At.Shf_0 hp31
       refine DW.y rfl rfl (X.field Try.runUnderlying72 rfl Try.sizeOf3 rfl) ?_
       refine DW.y rfl rfl (X.loadInt Try.isAgg3 rfl hp32) ?_
       refine DW.y rfl rfl (X.field Try.runUnderlying33 rfl Try.sizeOf3 rfl) ?_
       refine DW.y rfl rfl (X.loadB (k := 4) Try.isAgg3 rfl rfl rfl) ?_
       refine DW.y rfl rfl (X.field Try.runUnderlying33 rfl Try.sizeOf3 rfl) ?_
       refine DW.y rfl rfl (X.loadB (k := 4) Try.isAgg3 rfl rfl rfl) ?_
       refine DW.cond rfl rfl (X.call Try.call86 rfl (within86 _ _ _ _ )) (by decide) (fun h33 => ?_) (fun h33 => ?_)
       ·refine DW.nil ?_
        refine WK.nThen ?_
        refine WC.condT rfl ?_
        refine WC.draw (π := (.cons 0 (.cons 1 (.cons 2 (.cons 3 (.cons 4 (.cons 5 (.cons 6 (.cons 7 (.cons 8 (.cons 9 (.cons 10 .done)))))))))))) [7, 8, 10] [8, 10] rfl (by kernel_rfl) ?_
        refine DW.y rfl rfl (X.field Try.runUnderlying25 rfl Try.sizeOf23 rfl) ?_
        refine DW.y rfl rfl (X.loadB (k := 2) Try.isAgg23 rfl rfl rfl) ?_
        refine DW.y rfl rfl (X.field Try.runUnderlying25 rfl Try.sizeOf23 rfl) ?_
        refine DW.y rfl rfl (X.loadB (k := 5) Try.isAgg23 rfl rfl rfl) ?_
        refine DW.y rfl rfl (X.move rfl) ?_
        refine DW.xe rfl rfl (E.idxN i Try.runUnderlying23 Try.sizeOf72 rfl rfl hs4 (by omega)) (by decide) (fun p34 hp35 => ?_)
        refine DW.xe rfl rfl (E.loadAgg Try.isAgg72 Try.sizeOf72 rfl hp35) (by decide) (fun c36 hc37 => ?_)
        obtain rfl := hc37
        refine DW.tl rfl rfl rfl (T.lit1 sl23 rfl rfl rfl (by decide)) (by decide) fun b38 => ?_
        refine DW.ta rfl rfl rfl rfl (T.appendF (k := 0) (a := gt s.Shifts i) sl23 rfl rfl rfl rfl (by first | omega | (simp; done) | (simp; omega)) (by decide)) (by decide) (fun v39 => ?_)
        refine DW.y rfl rfl (X.field Try.runUnderlying25 rfl Try.sizeOf23 rfl) ?_
        refine DW.ts rfl rfl rfl rfl (OpTo.own1 (k := 0) rfl trivial (defd2 rfl rfl rfl) fun ho40 => T.storeB (k := 2) Try.sizeOf23 rfl rfl rfl ho40 (Nat.le_of_ble_eq_true rfl)) ?_
        refine DW.nil ?_
        refine WK.nBlock ?_
        refine WK.nThen ?_
        refine WC.region ?_
        refine WL.mv rfl ?_
        refine WL.y (X.add rfl rfl (by omega) (by omega)) ?_
        refine WL.ag rfl ?_
        refine WL.z ?_
        have he41 : ((cutXN s x i) ++ [gt s.Shifts i]) = (cutXN s x (i + 1)) := (by rw [cutXN]; first | rw [if_pos (by unfold inT; omega)] | rw [if_neg (by unfold inT; omega)])
        rw [he41]
        refine WK.next ((i + 1, v39)) rfl (.refl _) (.cons rfl (.cons rfl (.cons rfl (.cons rfl (.cons rfl .nil))))) ?_ ?_
        ·omega
        ·(dsimp only; omega)
       ·refine DW.nil ?_
        refine WK.nThen ?_
        refine WC.condF rfl ?_
        refine WC.skip ?_
        refine WK.nBlock ?_
        refine WK.nThen ?_
        refine WC.region ?_
        refine WL.mv rfl ?_
        refine WL.y (X.add rfl rfl (by omega) (by omega)) ?_
        refine WL.ag rfl ?_
        refine WL.z ?_
        have he42 : (cutXN s x i) = (cutXN s x (i + 1)) := (by rw [cutXN]; first | rw [if_pos (by unfold inT; omega)] | rw [if_neg (by unfold inT; omega)])
        rw [he42]
        refine WK.next ((i + 1, vb)) rfl (.refl _) (.cons rfl (.cons rfl (.cons rfl (.cons rfl (.cons rfl .nil))))) ?_ ?_
        ·omega
        ·(dsimp only; omega)
      ·refine WL.z ?_
       refine WC.condF rfl ?_
       refine WC.exit ?_
       refine WK.eThen ?_
       refine WK.eThen ?_
       refine WK.eHit ?_
       refine WK.nThen ?_
       refine WC.seq ?_
       obtain rfl : k = s.Values.length := (by omega)
       obtain rfl : i = s.Shifts.length := (by omega)
       refine WC.region ?_
       refine WL.y (X.loadBA (k := 2) Try.isAgg25 Try.sizeOf25 rfl rfl rfl) ?_
       refine WL.own1 (k := 1) rfl (fun ho43 => ?_)
       refine WL.own1 (k := 0) rfl (fun ho44 => ?_)
       refine WL.ts (T.storeBA (k := 3) Try.sizeOf25 rfl rfl rfl (one_cons ho43 (one_cons ho44 one_nil)) rfl rfl) ?_
       refine WL.ag rfl ?_
       refine WL.z ?_
       refine WC.ret ?_
       refine WK.freezeF 1 rfl rfl (by first | (simp [lenB]; omega) | (simp [lenB]; done)) (fun m45 hle46 hs47 => ?_)
       replace hs2 := hs2.mono hle46
       replace hs4 := hs4.mono hle46
       refine WK.freezeF 0 rfl rfl (by first | (simp [lenB]; omega) | (simp [lenB]; done)) (fun m48 hle49 hs50 => ?_)
       replace hs2 := hs2.mono hle49
       replace hs4 := hs4.mono hle49
       replace hs47 := hs47.mono hle49
       refine WK.retC2 1 rfl rfl rfl rfl Try.isAgg25 Try.sizeOf25 (fun w' hw' => Ret.mem hw' ?_)
       first | exact ⟨_, tup2 rfl (int_eq (by rw [cutR_err (by omega)])), by rw [cutR_err (by omega)]; exact ⟨_, _, rfl, hs47, hs50⟩⟩ | exact ⟨_, tup2 rfl (int_eq (by rw [cutR_arg (by omega) (by assumption)])), by rw [cutR_arg (by omega) (by assumption)]; exact ⟨_, _, rfl, hs47, hs50⟩⟩ | exact ⟨_, tup2 rfl (int_eq (by rw [cutR_ok (by omega) (by assumption)])), by rw [cutR_ok (by omega) (by assumption)]; exact ⟨_, _, rfl, hs47, hs50⟩⟩
  ·refine WL.y (X.not rfl) ?_
   refine WL.z ?_
   refine WC.condT rfl ?_
   refine WC.r ?_
   refine WL.y (V := Value.agg [.slice none 0 0, .slice none 0 0].toArray) (X.build Try.zeroValue25 Try.runUnderlying25 (places25 _ Try.underlying25) rfl rfl) ?_
   refine WL.ts (T.storeBA (k := 0) Try.sizeOf25 rfl rfl rfl (one_cons rfl (one_cons rfl one_nil)) rfl rfl) ?_
   refine WL.ag rfl ?_
   refine WL.z ?_
   refine WC.ret ?_
   refine WK.rThen ?_
   refine WK.retC2 0 rfl rfl rfl rfl Try.isAgg25 Try.sizeOf25 (fun w' hw' => Ret.mem hw' ?_)
   first | exact ⟨_, tup2 rfl (int_eq (by rw [cutR_err (by omega)])), by rw [cutR_err (by omega)]; exact ⟨_, _, rfl, .nil, .nil⟩⟩ | exact ⟨_, tup2 rfl (int_eq (by rw [cutR_arg (by omega) (by assumption)])), by rw [cutR_arg (by omega) (by assumption)]; exact ⟨_, _, rfl, .nil, .nil⟩⟩ | exact ⟨_, tup2 rfl (int_eq (by rw [cutR_ok (by omega) (by assumption)])), by rw [cutR_ok (by omega) (by assumption)]; exact ⟨_, _, rfl, .nil, .nil⟩⟩

set_option maxRecDepth 20000 in
set_option maxHeartbeats 400000 in
theorem narrow75 (m : Mem) (cs : List Value) (s : Ser) (hs : Enc.rd m cs s) (time : Int) (cx : List Value) (x : Span) (hx : Enc.rd m cx x)   : Pure Try.prog 75 #[.agg cs.toArray, .int .i64 (time), .agg cx.toArray] m (fun m' v => ∃ r0, v = .tuple #[.agg r0.toArray, .int .i64 ((narR s time x).2)] ∧ Enc.rd m' r0 ((narR s time x).1)) := by
 obtain ⟨v1, v3, rfl, hs2, hs4⟩ := hs
 have hl5 := hs2.le
 have hl6 := hs4.le
 obtain rfl := hx
 refine Pure.start Try.func75 rfl Try.ntmps75 rfl fun wld => ?_
 refine WC.r ?_
 refine WL.tn (T.boxB rfl rfl) (by decide) fun b7 => ?_
 refine WL.tn (T.boxB rfl rfl) (by decide) fun b8 => ?_
 refine WL.tn (T.alloc Try.zeroValue25 rfl) (by decide) fun b9 => ?_
 refine WL.ag rfl ?_
 refine WL.z ?_
 refine WC.r ?_
 refine WL.y (X.loadBA (k := 2) Try.isAgg25 Try.sizeOf25 rfl rfl rfl) ?_
 refine WL.y (X.call Try.call97 rfl (check97 _ _ s ⟨_, _, rfl, hs2, hs4⟩ )) ?_
 refine WL.ag rfl ?_
 refine WL.z ?_
 refine WC.seq ?_
 refine WC.r ?_
 refine WL.mv rfl ?_
 refine WL.condn (X.neq rfl rfl) (by decide) (fun h10 => ?_) (fun h10 => ?_)
 ·refine WL.z ?_
  refine WC.condT rfl ?_
  refine WC.r ?_
  refine WL.y (V := Value.agg [.slice none 0 0, .slice none 0 0].toArray) (X.build Try.zeroValue25 Try.runUnderlying25 (places25 _ Try.underlying25) rfl rfl) ?_
  refine WL.mv rfl ?_
  refine WL.ts (T.storeBA (k := 0) Try.sizeOf25 rfl rfl rfl (one_cons rfl (one_cons rfl one_nil)) rfl rfl) ?_
  refine WL.ag rfl ?_
  refine WL.z ?_
  refine WC.ret ?_
  refine WK.rThen ?_
  refine WK.retC2 0 rfl rfl rfl rfl Try.isAgg25 Try.sizeOf25 (fun w' hw' => Ret.mem hw' ?_)
  first | exact ⟨_, tup2 rfl (int_eq (by rw [narR_err (by omega)])), by rw [narR_err (by omega)]; exact ⟨_, _, rfl, .nil, .nil⟩⟩ | exact ⟨_, tup2 rfl (int_eq (by rw [narR_no (by omega) (fun j hj => hall j (by omega))])), by rw [narR_no (by omega) (fun j hj => hall j (by omega))]; exact ⟨_, _, rfl, .nil, .nil⟩⟩ | exact ⟨_, tup2 rfl (int_eq (by rw [narR_none (k := k) (by omega) (by omega) hall (by omega) (by unfold meetS; dsimp only; omega)])), by rw [narR_none (k := k) (by omega) (by omega) hall (by omega) (by unfold meetS; dsimp only; omega)]; exact ⟨_, _, rfl, .nil, .nil⟩⟩ | exact ⟨_, tup2 rfl (int_eq (by rw [narR_yes (k := k) (by omega) (by omega) hall (by omega) (by unfold meetS; dsimp only; omega)])), by rw [narR_yes (k := k) (by omega) (by omega) hall (by omega) (by unfold meetS; dsimp only; omega)]; exact ⟨_, _, rfl, .nil, .nil⟩⟩
 ·refine WL.z ?_
  refine WC.condF rfl ?_
  refine WC.skip ?_
  refine WK.nThen ?_
  have hok := Ok.of (s := s) (by omega)
  have hnV := hok.nV
  have hnX := hok.nX
  refine WK.freezeS (α := Ser) (x := s) 2 rfl rfl (show Enc.rd (α := Ser) m [v1, v3] s from ⟨_, _, rfl, hs2, hs4⟩) (fun m11 hle12 hp13 => ?_)
  replace hs2 := hs2.mono hle12
  replace hs4 := hs4.mono hle12
  refine WC.cut (G := Mem × Nat × Value × Value) (fun (m14, b32, v25, v29) => m14) (fun (m14, b32, v25, v29) => [blk b32 25 [v25, v29], rowF (v29) 72 ([] ++ s.Shifts), rowF (v25) 62 ([] ++ s.Values), blk b9 25 [.slice none 0 0, .slice none 0 0], blk b8 33 [.int .i64 (x.Lo), .int .i64 (x.Hi)]]) (fun (m14, b32, v25, v29) => [(1, .int .i64 (time)), (5, .pointer (some ⟨b8, 0, none⟩)), (6, .pointer (some ⟨b9, 0, none⟩)), (9, .pointer (some ⟨b32, 0, none⟩))]) (fun (m14, b32, v25, v29) => m11.le m14) ?_ ?_
  ·refine WC.draw (π := (.cons 1 (.cons 2 (.cons 5 (.cons 6 (.fork (.cons 0 (.fork (.cons 3 (.fork (.cons 4 (.fork (.cons 7 (.cons 8 (.cons 9 (.cons 10 .done)))) (.cons 9 (.cons 7 (.cons 8 (.cons 10 .done)))))) (.cons 9 (.cons 4 (.cons 7 (.cons 8 (.cons 10 .done))))))) (.fork (.cons 4 (.fork (.cons 3 (.fork (.cons 7 (.cons 8 (.cons 9 (.cons 10 .done)))) (.cons 9 (.cons 7 (.cons 8 (.cons 10 .done)))))) (.cons 9 (.cons 3 (.cons 7 (.cons 8 (.cons 10 .done))))))) (.cons 9 (.fork (.cons 3 (.cons 4 (.cons 7 (.cons 8 (.cons 10 .done))))) (.cons 4 (.cons 3 (.cons 7 (.cons 8 (.cons 10 .done)))))))))) (.fork (.cons 4 (.fork (.cons 0 (.fork (.cons 3 (.fork (.cons 7 (.cons 8 (.cons 9 (.cons 10 .done)))) (.cons 9 (.cons 7 (.cons 8 (.cons 10 .done)))))) (.cons 9 (.cons 3 (.cons 7 (.cons 8 (.cons 10 .done))))))) (.cons 9 (.cons 0 (.cons 3 (.cons 7 (.cons 8 (.cons 10 .done)))))))) (.cons 9 (.fork (.cons 0 (.fork (.cons 3 (.cons 4 (.cons 7 (.cons 8 (.cons 10 .done))))) (.cons 4 (.cons 3 (.cons 7 (.cons 8 (.cons 10 .done))))))) (.cons 4 (.cons 0 (.cons 3 (.cons 7 (.cons 8 (.cons 10 .done))))))))))))))) [0, 3, 4, 7, 9, 10] [3, 7, 10, 100005, 100006] rfl (by kernel_rfl) ?_
   have hp15 := At.Ser_0 hp13
   refine DW.y rfl rfl (X.field Try.runUnderlying25 rfl Try.sizeOf22 rfl) ?_
   refine DW.xe rfl rfl (E.loadSl Try.isAgg22 rfl hp15) (by decide) (fun v16 hs17 => ?_)
   have hl18 := hs17.le
   have hp19 := At.Ser_1 hp13
   refine DW.xf rfl rfl rfl (fun _ _ hle_ => (X.field Try.runUnderlying25 rfl Try.sizeOf23 rfl)) (by decide) ?_
   refine DW.xfe rfl rfl rfl (EF.loadSl Try.isAgg23 rfl hp19) (by decide) (fun v20 hs21 => ?_)
   have hl22 := hs21.le
   refine DW.fork (List.cons_ne_nil _ _) ?_ ?_
   ·refine DW.tO rfl rfl rfl (OpTo.taO (T.lit0 (α := Val) sl22 rfl)) (by decide) (fun m24 Es_ v23 hle25 hR_ => ?_)
    subst hR_
    replace hs2 := hs2.mono hle25
    replace hs4 := hs4.mono hle25
    replace hp13 := hp13.mono hle25
    replace hp15 := hp15.mono hle25
    replace hs17 := hs17.mono hle25
    replace hp19 := hp19.mono hle25
    replace hs21 := hs21.mono hle25
    refine DW.fork (List.cons_ne_nil _ _) ?_ ?_
    ·refine DW.ta rfl rfl rfl rfl (T.appendFl (α := Val) (fun _ _ _ h => h) (k := 0) sl22 rfl rfl hs17 rfl (by first | omega | (simp; omega)) (by first | omega | (simp; omega))) (by decide) (fun v26 => ?_)
     refine DW.fork (List.cons_ne_nil _ _) ?_ ?_
     ·refine DW.tO rfl rfl rfl (OpTo.taO (T.lit0 (α := Shf) sl23 rfl)) (by decide) (fun m28 Es_ v27 hle29 hR_ => ?_)
      subst hR_
      replace hs2 := hs2.mono hle29
      replace hs4 := hs4.mono hle29
      replace hp13 := hp13.mono hle29
      replace hp15 := hp15.mono hle29
      replace hs17 := hs17.mono hle29
      replace hp19 := hp19.mono hle29
      replace hs21 := hs21.mono hle29
      refine DW.fork (List.cons_ne_nil _ _) ?_ ?_
      ·refine DW.ta rfl rfl rfl rfl (T.appendFl (α := Shf) (fun _ _ _ h => h) (k := 0) sl23 rfl rfl hs21 rfl (by first | omega | (simp; omega)) (by first | omega | (simp; omega))) (by decide) (fun v30 => ?_)
       refine DW.y (V := Value.agg [v26, v30].toArray) rfl rfl (OpX.own1 (k := 1) rfl trivial (defdB rfl) fun ho31 => (OpX.own1 (k := 0) rfl trivial (defdB rfl) fun ho32 => (X.build Try.zeroValue25 Try.runUnderlying25 (places25 _ Try.underlying25) rfl (by simp only [Instr.fill, one_cells ho31, one_cells ho32]; rfl)))) ?_
       refine DW.tn rfl rfl rfl (T.alloc Try.zeroValue25 rfl) (by decide) fun b33 => ?_
       refine DW.ts rfl rfl rfl rfl (OpTo.own1 (k := 2) rfl trivial (defd2 rfl rfl rfl) fun ho34 => (OpTo.own1 (k := 1) rfl trivial (defd2 rfl rfl rfl) fun ho35 => (T.storeBA (k := 0) Try.sizeOf25 rfl rfl rfl (one_cons ho34 (one_cons ho35 one_nil)) rfl rfl))) ?_
       refine DW.nil ?_
       refine WK.nThen ?_
       exact WK.meet (m28, b33, v26, v30) rfl (.refl _) (.cons rfl (.cons rfl (.cons rfl (.cons rfl .nil)))) (Mem.le_trans hle25 hle29)
      ·refine DW.tn rfl rfl rfl (T.alloc Try.zeroValue25 rfl) (by decide) fun b36 => ?_
       refine DW.ta rfl rfl rfl rfl (T.appendFl (α := Shf) (fun _ _ _ h => h) (k := 1) sl23 rfl rfl hs21 rfl (by first | omega | (simp; omega)) (by first | omega | (simp; omega))) (by decide) (fun v37 => ?_)
       refine DW.y (V := Value.agg [v26, v37].toArray) rfl rfl (OpX.own1 (k := 2) rfl trivial (defdB rfl) fun ho38 => (OpX.own1 (k := 1) rfl trivial (defdB rfl) fun ho39 => (X.build Try.zeroValue25 Try.runUnderlying25 (places25 _ Try.underlying25) rfl (by simp only [Instr.fill, one_cells ho38, one_cells ho39]; rfl)))) ?_
       refine DW.ts rfl rfl rfl rfl (OpTo.own1 (k := 2) rfl trivial (defd2 rfl rfl rfl) fun ho40 => (OpTo.own1 (k := 1) rfl trivial (defd2 rfl rfl rfl) fun ho41 => (T.storeBA (k := 0) Try.sizeOf25 rfl rfl rfl (one_cons ho40 (one_cons ho41 one_nil)) rfl rfl))) ?_
       refine DW.nil ?_
       refine WK.nThen ?_
       exact WK.meet (m28, b36, v26, v37) rfl (.refl _) (.cons rfl (.cons rfl (.cons rfl (.cons rfl .nil)))) (Mem.le_trans hle25 hle29)
     ·refine DW.tn rfl rfl rfl (T.alloc Try.zeroValue25 rfl) (by decide) fun b42 => ?_
      refine DW.tO rfl rfl rfl (OpTo.taO (T.lit0 (α := Shf) sl23 rfl)) (by decide) (fun m44 Es_ v43 hle45 hR_ => ?_)
      subst hR_
      replace hs2 := hs2.mono hle45
      replace hs4 := hs4.mono hle45
      replace hp13 := hp13.mono hle45
      replace hp15 := hp15.mono hle45
      replace hs17 := hs17.mono hle45
      replace hp19 := hp19.mono hle45
      replace hs21 := hs21.mono hle45
      refine DW.ta rfl rfl rfl rfl (T.appendFl (α := Shf) (fun _ _ _ h => h) (k := 0) sl23 rfl rfl hs21 rfl (by first | omega | (simp; omega)) (by first | omega | (simp; omega))) (by decide) (fun v46 => ?_)
      refine DW.y (V := Value.agg [v26, v46].toArray) rfl rfl (OpX.own1 (k := 2) rfl trivial (defdB rfl) fun ho47 => (OpX.own1 (k := 0) rfl trivial (defdB rfl) fun ho48 => (X.build Try.zeroValue25 Try.runUnderlying25 (places25 _ Try.underlying25) rfl (by simp only [Instr.fill, one_cells ho47, one_cells ho48]; rfl)))) ?_
      refine DW.ts rfl rfl rfl rfl (OpTo.own1 (k := 2) rfl trivial (defd2 rfl rfl rfl) fun ho49 => (OpTo.own1 (k := 0) rfl trivial (defd2 rfl rfl rfl) fun ho50 => (T.storeBA (k := 1) Try.sizeOf25 rfl rfl rfl (one_cons ho49 (one_cons ho50 one_nil)) rfl rfl))) ?_
      refine DW.nil ?_
      refine WK.nThen ?_
      refine WK.perm [blk b42 25 [v26, v46], rowF (v46) 72 ([] ++ s.Shifts), rowF (v26) 62 ([] ++ s.Values), blk b9 25 [.slice none 0 0, .slice none 0 0], blk b8 33 [.int .i64 (x.Lo), .int .i64 (x.Hi)]] ((List.Perm.cons _ (.refl _)).trans (List.perm_middle (l₁ := [rowF (v46) 72 ([] ++ s.Shifts)]) (l₂ := [rowF (v26) 62 ([] ++ s.Values), blk b9 25 [.slice none 0 0, .slice none 0 0], blk b8 33 [.int .i64 (x.Lo), .int .i64 (x.Hi)]]) (a := blk b42 25 [v26, v46])).symm) ?_
      exact WK.meet (m44, b42, v26, v46) rfl (.refl _) (.cons rfl (.cons rfl (.cons rfl (.cons rfl .nil)))) (Mem.le_trans hle25 hle45)
    ·refine DW.fork (List.cons_ne_nil _ _) ?_ ?_
     ·refine DW.tO rfl rfl rfl (OpTo.taO (T.lit0 (α := Shf) sl23 rfl)) (by decide) (fun m52 Es_ v51 hle53 hR_ => ?_)
      subst hR_
      replace hs2 := hs2.mono hle53
      replace hs4 := hs4.mono hle53
      replace hp13 := hp13.mono hle53
      replace hp15 := hp15.mono hle53
      replace hs17 := hs17.mono hle53
      replace hp19 := hp19.mono hle53
      replace hs21 := hs21.mono hle53
      refine DW.fork (List.cons_ne_nil _ _) ?_ ?_
      ·refine DW.ta rfl rfl rfl rfl (T.appendFl (α := Val) (fun _ _ _ h => h) (k := 1) sl22 rfl rfl hs17 rfl (by first | omega | (simp; omega)) (by first | omega | (simp; omega))) (by decide) (fun v54 => ?_)
       refine DW.fork (List.cons_ne_nil _ _) ?_ ?_
       ·refine DW.ta rfl rfl rfl rfl (T.appendFl (α := Shf) (fun _ _ _ h => h) (k := 0) sl23 rfl rfl hs21 rfl (by first | omega | (simp; omega)) (by first | omega | (simp; omega))) (by decide) (fun v55 => ?_)
        refine DW.y (V := Value.agg [v54, v55].toArray) rfl rfl (OpX.own1 (k := 1) rfl trivial (defdB rfl) fun ho56 => (OpX.own1 (k := 0) rfl trivial (defdB rfl) fun ho57 => (X.build Try.zeroValue25 Try.runUnderlying25 (places25 _ Try.underlying25) rfl (by simp only [Instr.fill, one_cells ho56, one_cells ho57]; rfl)))) ?_
        refine DW.tn rfl rfl rfl (T.alloc Try.zeroValue25 rfl) (by decide) fun b58 => ?_
        refine DW.ts rfl rfl rfl rfl (OpTo.own1 (k := 2) rfl trivial (defd2 rfl rfl rfl) fun ho59 => (OpTo.own1 (k := 1) rfl trivial (defd2 rfl rfl rfl) fun ho60 => (T.storeBA (k := 0) Try.sizeOf25 rfl rfl rfl (one_cons ho59 (one_cons ho60 one_nil)) rfl rfl))) ?_
        refine DW.nil ?_
        refine WK.nThen ?_
        exact WK.meet (m52, b58, v54, v55) rfl (.refl _) (.cons rfl (.cons rfl (.cons rfl (.cons rfl .nil)))) (Mem.le_trans hle25 hle53)
       ·refine DW.tn rfl rfl rfl (T.alloc Try.zeroValue25 rfl) (by decide) fun b61 => ?_
        refine DW.ta rfl rfl rfl rfl (T.appendFl (α := Shf) (fun _ _ _ h => h) (k := 1) sl23 rfl rfl hs21 rfl (by first | omega | (simp; omega)) (by first | omega | (simp; omega))) (by decide) (fun v62 => ?_)
        refine DW.y (V := Value.agg [v54, v62].toArray) rfl rfl (OpX.own1 (k := 2) rfl trivial (defdB rfl) fun ho63 => (OpX.own1 (k := 1) rfl trivial (defdB rfl) fun ho64 => (X.build Try.zeroValue25 Try.runUnderlying25 (places25 _ Try.underlying25) rfl (by simp only [Instr.fill, one_cells ho63, one_cells ho64]; rfl)))) ?_
        refine DW.ts rfl rfl rfl rfl (OpTo.own1 (k := 2) rfl trivial (defd2 rfl rfl rfl) fun ho65 => (OpTo.own1 (k := 1) rfl trivial (defd2 rfl rfl rfl) fun ho66 => (T.storeBA (k := 0) Try.sizeOf25 rfl rfl rfl (one_cons ho65 (one_cons ho66 one_nil)) rfl rfl))) ?_
        refine DW.nil ?_
        refine WK.nThen ?_
        exact WK.meet (m52, b61, v54, v62) rfl (.refl _) (.cons rfl (.cons rfl (.cons rfl (.cons rfl .nil)))) (Mem.le_trans hle25 hle53)
      ·refine DW.tn rfl rfl rfl (T.alloc Try.zeroValue25 rfl) (by decide) fun b67 => ?_
       refine DW.ta rfl rfl rfl rfl (T.appendFl (α := Val) (fun _ _ _ h => h) (k := 2) sl22 rfl rfl hs17 rfl (by first | omega | (simp; omega)) (by first | omega | (simp; omega))) (by decide) (fun v68 => ?_)
       refine DW.ta rfl rfl rfl rfl (T.appendFl (α := Shf) (fun _ _ _ h => h) (k := 1) sl23 rfl rfl hs21 rfl (by first | omega | (simp; omega)) (by first | omega | (simp; omega))) (by decide) (fun v69 => ?_)
       refine DW.y (V := Value.agg [v68, v69].toArray) rfl rfl (OpX.own1 (k := 2) rfl trivial (defdB rfl) fun ho70 => (OpX.own1 (k := 1) rfl trivial (defdB rfl) fun ho71 => (X.build Try.zeroValue25 Try.runUnderlying25 (places25 _ Try.underlying25) rfl (by simp only [Instr.fill, one_cells ho70, one_cells ho71]; rfl)))) ?_
       refine DW.ts rfl rfl rfl rfl (OpTo.own1 (k := 2) rfl trivial (defd2 rfl rfl rfl) fun ho72 => (OpTo.own1 (k := 1) rfl trivial (defd2 rfl rfl rfl) fun ho73 => (T.storeBA (k := 0) Try.sizeOf25 rfl rfl rfl (one_cons ho72 (one_cons ho73 one_nil)) rfl rfl))) ?_
       refine DW.nil ?_
       refine WK.nThen ?_
       exact WK.meet (m52, b67, v68, v69) rfl (.refl _) (.cons rfl (.cons rfl (.cons rfl (.cons rfl .nil)))) (Mem.le_trans hle25 hle53)
     ·refine DW.tn rfl rfl rfl (T.alloc Try.zeroValue25 rfl) (by decide) fun b74 => ?_
      refine DW.fork (List.cons_ne_nil _ _) ?_ ?_
      ·refine DW.ta rfl rfl rfl rfl (T.appendFl (α := Val) (fun _ _ _ h => h) (k := 1) sl22 rfl rfl hs17 rfl (by first | omega | (simp; omega)) (by first | omega | (simp; omega))) (by decide) (fun v75 => ?_)
       refine DW.tO rfl rfl rfl (OpTo.taO (T.lit0 (α := Shf) sl23 rfl)) (by decide) (fun m77 Es_ v76 hle78 hR_ => ?_)
       subst hR_
       replace hs2 := hs2.mono hle78
       replace hs4 := hs4.mono hle78
       replace hp13 := hp13.mono hle78
       replace hp15 := hp15.mono hle78
       replace hs17 := hs17.mono hle78
       replace hp19 := hp19.mono hle78
       replace hs21 := hs21.mono hle78
       refine DW.ta rfl rfl rfl rfl (T.appendFl (α := Shf) (fun _ _ _ h => h) (k := 0) sl23 rfl rfl hs21 rfl (by first | omega | (simp; omega)) (by first | omega | (simp; omega))) (by decide) (fun v79 => ?_)
       refine DW.y (V := Value.agg [v75, v79].toArray) rfl rfl (OpX.own1 (k := 2) rfl trivial (defdB rfl) fun ho80 => (OpX.own1 (k := 0) rfl trivial (defdB rfl) fun ho81 => (X.build Try.zeroValue25 Try.runUnderlying25 (places25 _ Try.underlying25) rfl (by simp only [Instr.fill, one_cells ho80, one_cells ho81]; rfl)))) ?_
       refine DW.ts rfl rfl rfl rfl (OpTo.own1 (k := 2) rfl trivial (defd2 rfl rfl rfl) fun ho82 => (OpTo.own1 (k := 0) rfl trivial (defd2 rfl rfl rfl) fun ho83 => (T.storeBA (k := 1) Try.sizeOf25 rfl rfl rfl (one_cons ho82 (one_cons ho83 one_nil)) rfl rfl))) ?_
       refine DW.nil ?_
       refine WK.nThen ?_
       refine WK.perm [blk b74 25 [v75, v79], rowF (v79) 72 ([] ++ s.Shifts), rowF (v75) 62 ([] ++ s.Values), blk b9 25 [.slice none 0 0, .slice none 0 0], blk b8 33 [.int .i64 (x.Lo), .int .i64 (x.Hi)]] ((List.Perm.cons _ (.refl _)).trans (List.perm_middle (l₁ := [rowF (v79) 72 ([] ++ s.Shifts)]) (l₂ := [rowF (v75) 62 ([] ++ s.Values), blk b9 25 [.slice none 0 0, .slice none 0 0], blk b8 33 [.int .i64 (x.Lo), .int .i64 (x.Hi)]]) (a := blk b74 25 [v75, v79])).symm) ?_
       exact WK.meet (m77, b74, v75, v79) rfl (.refl _) (.cons rfl (.cons rfl (.cons rfl (.cons rfl .nil)))) (Mem.le_trans hle25 hle78)
      ·refine DW.tO rfl rfl rfl (OpTo.taO (T.lit0 (α := Shf) sl23 rfl)) (by decide) (fun m85 Es_ v84 hle86 hR_ => ?_)
       subst hR_
       replace hs2 := hs2.mono hle86
       replace hs4 := hs4.mono hle86
       replace hp13 := hp13.mono hle86
       replace hp15 := hp15.mono hle86
       replace hs17 := hs17.mono hle86
       replace hp19 := hp19.mono hle86
       replace hs21 := hs21.mono hle86
       refine DW.ta rfl rfl rfl rfl (T.appendFl (α := Val) (fun _ _ _ h => h) (k := 2) sl22 rfl rfl hs17 rfl (by first | omega | (simp; omega)) (by first | omega | (simp; omega))) (by decide) (fun v87 => ?_)
       refine DW.ta rfl rfl rfl rfl (T.appendFl (α := Shf) (fun _ _ _ h => h) (k := 0) sl23 rfl rfl hs21 rfl (by first | omega | (simp; omega)) (by first | omega | (simp; omega))) (by decide) (fun v88 => ?_)
       refine DW.y (V := Value.agg [v87, v88].toArray) rfl rfl (OpX.own1 (k := 2) rfl trivial (defdB rfl) fun ho89 => (OpX.own1 (k := 0) rfl trivial (defdB rfl) fun ho90 => (X.build Try.zeroValue25 Try.runUnderlying25 (places25 _ Try.underlying25) rfl (by simp only [Instr.fill, one_cells ho89, one_cells ho90]; rfl)))) ?_
       refine DW.ts rfl rfl rfl rfl (OpTo.own1 (k := 2) rfl trivial (defd2 rfl rfl rfl) fun ho91 => (OpTo.own1 (k := 0) rfl trivial (defd2 rfl rfl rfl) fun ho92 => (T.storeBA (k := 1) Try.sizeOf25 rfl rfl rfl (one_cons ho91 (one_cons ho92 one_nil)) rfl rfl))) ?_
       refine DW.nil ?_
       refine WK.nThen ?_
       refine WK.perm [blk b74 25 [v87, v88], rowF (v88) 72 ([] ++ s.Shifts), rowF (v87) 62 ([] ++ s.Values), blk b9 25 [.slice none 0 0, .slice none 0 0], blk b8 33 [.int .i64 (x.Lo), .int .i64 (x.Hi)]] ((List.Perm.cons _ (.refl _)).trans (List.perm_middle (l₁ := [rowF (v88) 72 ([] ++ s.Shifts)]) (l₂ := [rowF (v87) 62 ([] ++ s.Values), blk b9 25 [.slice none 0 0, .slice none 0 0], blk b8 33 [.int .i64 (x.Lo), .int .i64 (x.Hi)]]) (a := blk b74 25 [v87, v88])).symm) ?_
       exact WK.meet (m85, b74, v87, v88) rfl (.refl _) (.cons rfl (.cons rfl (.cons rfl (.cons rfl .nil)))) (Mem.le_trans hle25 hle86)
   ·refine DW.fork (List.cons_ne_nil _ _) ?_ ?_
    ·refine DW.tO rfl rfl rfl (OpTo.taO (T.lit0 (α := Shf) sl23 rfl)) (by decide) (fun m94 Es_ v93 hle95 hR_ => ?_)
     subst hR_
     replace hs2 := hs2.mono hle95
     replace hs4 := hs4.mono hle95
     replace hp13 := hp13.mono hle95
     replace hp15 := hp15.mono hle95
     replace hs17 := hs17.mono hle95
     replace hp19 := hp19.mono hle95
     replace hs21 := hs21.mono hle95
     refine DW.fork (List.cons_ne_nil _ _) ?_ ?_
     ·refine DW.tO rfl rfl rfl (OpTo.taO (T.lit0 (α := Val) sl22 rfl)) (by decide) (fun m97 Es_ v96 hle98 hR_ => ?_)
      subst hR_
      replace hs2 := hs2.mono hle98
      replace hs4 := hs4.mono hle98
      replace hp13 := hp13.mono hle98
      replace hp15 := hp15.mono hle98
      replace hs17 := hs17.mono hle98
      replace hp19 := hp19.mono hle98
      replace hs21 := hs21.mono hle98
      refine DW.fork (List.cons_ne_nil _ _) ?_ ?_
      ·refine DW.ta rfl rfl rfl rfl (T.appendFl (α := Val) (fun _ _ _ h => h) (k := 0) sl22 rfl rfl hs17 rfl (by first | omega | (simp; omega)) (by first | omega | (simp; omega))) (by decide) (fun v99 => ?_)
       refine DW.fork (List.cons_ne_nil _ _) ?_ ?_
       ·refine DW.ta rfl rfl rfl rfl (T.appendFl (α := Shf) (fun _ _ _ h => h) (k := 1) sl23 rfl rfl hs21 rfl (by first | omega | (simp; omega)) (by first | omega | (simp; omega))) (by decide) (fun v100 => ?_)
        refine DW.y (V := Value.agg [v99, v100].toArray) rfl rfl (OpX.own1 (k := 0) rfl trivial (defdB rfl) fun ho101 => (OpX.own1 (k := 1) rfl trivial (defdB rfl) fun ho102 => (X.build Try.zeroValue25 Try.runUnderlying25 (places25 _ Try.underlying25) rfl (by simp only [Instr.fill, one_cells ho101, one_cells ho102]; rfl)))) ?_
        refine DW.tn rfl rfl rfl (T.alloc Try.zeroValue25 rfl) (by decide) fun b103 => ?_
        refine DW.ts rfl rfl rfl rfl (OpTo.own1 (k := 1) rfl trivial (defd2 rfl rfl rfl) fun ho104 => (OpTo.own1 (k := 2) rfl trivial (defd2 rfl rfl rfl) fun ho105 => (T.storeBA (k := 0) Try.sizeOf25 rfl rfl rfl (one_cons ho104 (one_cons ho105 one_nil)) rfl rfl))) ?_
        refine DW.nil ?_
        refine WK.nThen ?_
        refine WK.perm [blk b103 25 [v99, v100], rowF (v100) 72 ([] ++ s.Shifts), rowF (v99) 62 ([] ++ s.Values), blk b9 25 [.slice none 0 0, .slice none 0 0], blk b8 33 [.int .i64 (x.Lo), .int .i64 (x.Hi)]] (List.Perm.cons _ ((List.Perm.cons _ (.refl _)).trans (List.perm_middle (l₁ := [rowF (v99) 62 ([] ++ s.Values)]) (l₂ := [blk b9 25 [.slice none 0 0, .slice none 0 0], blk b8 33 [.int .i64 (x.Lo), .int .i64 (x.Hi)]]) (a := rowF (v100) 72 ([] ++ s.Shifts))).symm)) ?_
        exact WK.meet (m97, b103, v99, v100) rfl (.refl _) (.cons rfl (.cons rfl (.cons rfl (.cons rfl .nil)))) (Mem.le_trans hle95 hle98)
       ·refine DW.tn rfl rfl rfl (T.alloc Try.zeroValue25 rfl) (by decide) fun b106 => ?_
        refine DW.ta rfl rfl rfl rfl (T.appendFl (α := Shf) (fun _ _ _ h => h) (k := 2) sl23 rfl rfl hs21 rfl (by first | omega | (simp; omega)) (by first | omega | (simp; omega))) (by decide) (fun v107 => ?_)
        refine DW.y (V := Value.agg [v99, v107].toArray) rfl rfl (OpX.own1 (k := 1) rfl trivial (defdB rfl) fun ho108 => (OpX.own1 (k := 2) rfl trivial (defdB rfl) fun ho109 => (X.build Try.zeroValue25 Try.runUnderlying25 (places25 _ Try.underlying25) rfl (by simp only [Instr.fill, one_cells ho108, one_cells ho109]; rfl)))) ?_
        refine DW.ts rfl rfl rfl rfl (OpTo.own1 (k := 1) rfl trivial (defd2 rfl rfl rfl) fun ho110 => (OpTo.own1 (k := 2) rfl trivial (defd2 rfl rfl rfl) fun ho111 => (T.storeBA (k := 0) Try.sizeOf25 rfl rfl rfl (one_cons ho110 (one_cons ho111 one_nil)) rfl rfl))) ?_
        refine DW.nil ?_
        refine WK.nThen ?_
        refine WK.perm [blk b106 25 [v99, v107], rowF (v107) 72 ([] ++ s.Shifts), rowF (v99) 62 ([] ++ s.Values), blk b9 25 [.slice none 0 0, .slice none 0 0], blk b8 33 [.int .i64 (x.Lo), .int .i64 (x.Hi)]] (List.Perm.cons _ ((List.Perm.cons _ (.refl _)).trans (List.perm_middle (l₁ := [rowF (v99) 62 ([] ++ s.Values)]) (l₂ := [blk b9 25 [.slice none 0 0, .slice none 0 0], blk b8 33 [.int .i64 (x.Lo), .int .i64 (x.Hi)]]) (a := rowF (v107) 72 ([] ++ s.Shifts))).symm)) ?_
        exact WK.meet (m97, b106, v99, v107) rfl (.refl _) (.cons rfl (.cons rfl (.cons rfl (.cons rfl .nil)))) (Mem.le_trans hle95 hle98)
      ·refine DW.tn rfl rfl rfl (T.alloc Try.zeroValue25 rfl) (by decide) fun b112 => ?_
       refine DW.ta rfl rfl rfl rfl (T.appendFl (α := Val) (fun _ _ _ h => h) (k := 1) sl22 rfl rfl hs17 rfl (by first | omega | (simp; omega)) (by first | omega | (simp; omega))) (by decide) (fun v113 => ?_)
       refine DW.ta rfl rfl rfl rfl (T.appendFl (α := Shf) (fun _ _ _ h => h) (k := 2) sl23 rfl rfl hs21 rfl (by first | omega | (simp; omega)) (by first | omega | (simp; omega))) (by decide) (fun v114 => ?_)
       refine DW.y (V := Value.agg [v113, v114].toArray) rfl rfl (OpX.own1 (k := 1) rfl trivial (defdB rfl) fun ho115 => (OpX.own1 (k := 2) rfl trivial (defdB rfl) fun ho116 => (X.build Try.zeroValue25 Try.runUnderlying25 (places25 _ Try.underlying25) rfl (by simp only [Instr.fill, one_cells ho115, one_cells ho116]; rfl)))) ?_
       refine DW.ts rfl rfl rfl rfl (OpTo.own1 (k := 1) rfl trivial (defd2 rfl rfl rfl) fun ho117 => (OpTo.own1 (k := 2) rfl trivial (defd2 rfl rfl rfl) fun ho118 => (T.storeBA (k := 0) Try.sizeOf25 rfl rfl rfl (one_cons ho117 (one_cons ho118 one_nil)) rfl rfl))) ?_
       refine DW.nil ?_
       refine WK.nThen ?_
       refine WK.perm [blk b112 25 [v113, v114], rowF (v114) 72 ([] ++ s.Shifts), rowF (v113) 62 ([] ++ s.Values), blk b9 25 [.slice none 0 0, .slice none 0 0], blk b8 33 [.int .i64 (x.Lo), .int .i64 (x.Hi)]] (List.Perm.cons _ ((List.Perm.cons _ (.refl _)).trans (List.perm_middle (l₁ := [rowF (v113) 62 ([] ++ s.Values)]) (l₂ := [blk b9 25 [.slice none 0 0, .slice none 0 0], blk b8 33 [.int .i64 (x.Lo), .int .i64 (x.Hi)]]) (a := rowF (v114) 72 ([] ++ s.Shifts))).symm)) ?_
       exact WK.meet (m97, b112, v113, v114) rfl (.refl _) (.cons rfl (.cons rfl (.cons rfl (.cons rfl .nil)))) (Mem.le_trans hle95 hle98)
     ·refine DW.tn rfl rfl rfl (T.alloc Try.zeroValue25 rfl) (by decide) fun b119 => ?_
      refine DW.tO rfl rfl rfl (OpTo.taO (T.lit0 (α := Val) sl22 rfl)) (by decide) (fun m121 Es_ v120 hle122 hR_ => ?_)
      subst hR_
      replace hs2 := hs2.mono hle122
      replace hs4 := hs4.mono hle122
      replace hp13 := hp13.mono hle122
      replace hp15 := hp15.mono hle122
      replace hs17 := hs17.mono hle122
      replace hp19 := hp19.mono hle122
      replace hs21 := hs21.mono hle122
      refine DW.ta rfl rfl rfl rfl (T.appendFl (α := Val) (fun _ _ _ h => h) (k := 0) sl22 rfl rfl hs17 rfl (by first | omega | (simp; omega)) (by first | omega | (simp; omega))) (by decide) (fun v123 => ?_)
      refine DW.ta rfl rfl rfl rfl (T.appendFl (α := Shf) (fun _ _ _ h => h) (k := 2) sl23 rfl rfl hs21 rfl (by first | omega | (simp; omega)) (by first | omega | (simp; omega))) (by decide) (fun v124 => ?_)
      refine DW.y (V := Value.agg [v123, v124].toArray) rfl rfl (OpX.own1 (k := 0) rfl trivial (defdB rfl) fun ho125 => (OpX.own1 (k := 2) rfl trivial (defdB rfl) fun ho126 => (X.build Try.zeroValue25 Try.runUnderlying25 (places25 _ Try.underlying25) rfl (by simp only [Instr.fill, one_cells ho125, one_cells ho126]; rfl)))) ?_
      refine DW.ts rfl rfl rfl rfl (OpTo.own1 (k := 0) rfl trivial (defd2 rfl rfl rfl) fun ho127 => (OpTo.own1 (k := 2) rfl trivial (defd2 rfl rfl rfl) fun ho128 => (T.storeBA (k := 1) Try.sizeOf25 rfl rfl rfl (one_cons ho127 (one_cons ho128 one_nil)) rfl rfl))) ?_
      refine DW.nil ?_
      refine WK.nThen ?_
      refine WK.perm [blk b119 25 [v123, v124], rowF (v124) 72 ([] ++ s.Shifts), rowF (v123) 62 ([] ++ s.Values), blk b9 25 [.slice none 0 0, .slice none 0 0], blk b8 33 [.int .i64 (x.Lo), .int .i64 (x.Hi)]] ((List.Perm.cons _ ((List.Perm.cons _ (.refl _)).trans (List.perm_middle (l₁ := [rowF (v123) 62 ([] ++ s.Values)]) (l₂ := [blk b9 25 [.slice none 0 0, .slice none 0 0], blk b8 33 [.int .i64 (x.Lo), .int .i64 (x.Hi)]]) (a := rowF (v124) 72 ([] ++ s.Shifts))).symm)).trans (List.perm_middle (l₁ := [rowF (v123) 62 ([] ++ s.Values)]) (l₂ := [rowF (v124) 72 ([] ++ s.Shifts), blk b9 25 [.slice none 0 0, .slice none 0 0], blk b8 33 [.int .i64 (x.Lo), .int .i64 (x.Hi)]]) (a := blk b119 25 [v123, v124])).symm) ?_
      exact WK.meet (m121, b119, v123, v124) rfl (.refl _) (.cons rfl (.cons rfl (.cons rfl (.cons rfl .nil)))) (Mem.le_trans hle95 hle122)
    ·refine DW.tn rfl rfl rfl (T.alloc Try.zeroValue25 rfl) (by decide) fun b129 => ?_
     refine DW.fork (List.cons_ne_nil _ _) ?_ ?_
     ·refine DW.tO rfl rfl rfl (OpTo.taO (T.lit0 (α := Val) sl22 rfl)) (by decide) (fun m131 Es_ v130 hle132 hR_ => ?_)
      subst hR_
      replace hs2 := hs2.mono hle132
      replace hs4 := hs4.mono hle132
      replace hp13 := hp13.mono hle132
      replace hp15 := hp15.mono hle132
      replace hs17 := hs17.mono hle132
      replace hp19 := hp19.mono hle132
      replace hs21 := hs21.mono hle132
      refine DW.fork (List.cons_ne_nil _ _) ?_ ?_
      ·refine DW.ta rfl rfl rfl rfl (T.appendFl (α := Val) (fun _ _ _ h => h) (k := 0) sl22 rfl rfl hs17 rfl (by first | omega | (simp; omega)) (by first | omega | (simp; omega))) (by decide) (fun v133 => ?_)
       refine DW.tO rfl rfl rfl (OpTo.taO (T.lit0 (α := Shf) sl23 rfl)) (by decide) (fun m135 Es_ v134 hle136 hR_ => ?_)
       subst hR_
       replace hs2 := hs2.mono hle136
       replace hs4 := hs4.mono hle136
       replace hp13 := hp13.mono hle136
       replace hp15 := hp15.mono hle136
       replace hs17 := hs17.mono hle136
       replace hp19 := hp19.mono hle136
       replace hs21 := hs21.mono hle136
       refine DW.ta rfl rfl rfl rfl (T.appendFl (α := Shf) (fun _ _ _ h => h) (k := 0) sl23 rfl rfl hs21 rfl (by first | omega | (simp; omega)) (by first | omega | (simp; omega))) (by decide) (fun v137 => ?_)
       refine DW.y (V := Value.agg [v133, v137].toArray) rfl rfl (OpX.own1 (k := 1) rfl trivial (defdB rfl) fun ho138 => (OpX.own1 (k := 0) rfl trivial (defdB rfl) fun ho139 => (X.build Try.zeroValue25 Try.runUnderlying25 (places25 _ Try.underlying25) rfl (by simp only [Instr.fill, one_cells ho138, one_cells ho139]; rfl)))) ?_
       refine DW.ts rfl rfl rfl rfl (OpTo.own1 (k := 1) rfl trivial (defd2 rfl rfl rfl) fun ho140 => (OpTo.own1 (k := 0) rfl trivial (defd2 rfl rfl rfl) fun ho141 => (T.storeBA (k := 2) Try.sizeOf25 rfl rfl rfl (one_cons ho140 (one_cons ho141 one_nil)) rfl rfl))) ?_
       refine DW.nil ?_
       refine WK.nThen ?_
       refine WK.perm [blk b129 25 [v133, v137], rowF (v137) 72 ([] ++ s.Shifts), rowF (v133) 62 ([] ++ s.Values), blk b9 25 [.slice none 0 0, .slice none 0 0], blk b8 33 [.int .i64 (x.Lo), .int .i64 (x.Hi)]] ((List.Perm.cons _ (.refl _)).trans (List.perm_middle (l₁ := [rowF (v137) 72 ([] ++ s.Shifts), rowF (v133) 62 ([] ++ s.Values)]) (l₂ := [blk b9 25 [.slice none 0 0, .slice none 0 0], blk b8 33 [.int .i64 (x.Lo), .int .i64 (x.Hi)]]) (a := blk b129 25 [v133, v137])).symm) ?_
       exact WK.meet (m135, b129, v133, v137) rfl (.refl _) (.cons rfl (.cons rfl (.cons rfl (.cons rfl .nil)))) (Mem.le_trans hle132 hle136)
      ·refine DW.tO rfl rfl rfl (OpTo.taO (T.lit0 (α := Shf) sl23 rfl)) (by decide) (fun m143 Es_ v142 hle144 hR_ => ?_)
       subst hR_
       replace hs2 := hs2.mono hle144
       replace hs4 := hs4.mono hle144
       replace hp13 := hp13.mono hle144
       replace hp15 := hp15.mono hle144
       replace hs17 := hs17.mono hle144
       replace hp19 := hp19.mono hle144
       replace hs21 := hs21.mono hle144
       refine DW.ta rfl rfl rfl rfl (T.appendFl (α := Val) (fun _ _ _ h => h) (k := 1) sl22 rfl rfl hs17 rfl (by first | omega | (simp; omega)) (by first | omega | (simp; omega))) (by decide) (fun v145 => ?_)
       refine DW.ta rfl rfl rfl rfl (T.appendFl (α := Shf) (fun _ _ _ h => h) (k := 0) sl23 rfl rfl hs21 rfl (by first | omega | (simp; omega)) (by first | omega | (simp; omega))) (by decide) (fun v146 => ?_)
       refine DW.y (V := Value.agg [v145, v146].toArray) rfl rfl (OpX.own1 (k := 1) rfl trivial (defdB rfl) fun ho147 => (OpX.own1 (k := 0) rfl trivial (defdB rfl) fun ho148 => (X.build Try.zeroValue25 Try.runUnderlying25 (places25 _ Try.underlying25) rfl (by simp only [Instr.fill, one_cells ho147, one_cells ho148]; rfl)))) ?_
       refine DW.ts rfl rfl rfl rfl (OpTo.own1 (k := 1) rfl trivial (defd2 rfl rfl rfl) fun ho149 => (OpTo.own1 (k := 0) rfl trivial (defd2 rfl rfl rfl) fun ho150 => (T.storeBA (k := 2) Try.sizeOf25 rfl rfl rfl (one_cons ho149 (one_cons ho150 one_nil)) rfl rfl))) ?_
       refine DW.nil ?_
       refine WK.nThen ?_
       refine WK.perm [blk b129 25 [v145, v146], rowF (v146) 72 ([] ++ s.Shifts), rowF (v145) 62 ([] ++ s.Values), blk b9 25 [.slice none 0 0, .slice none 0 0], blk b8 33 [.int .i64 (x.Lo), .int .i64 (x.Hi)]] ((List.Perm.cons _ (.refl _)).trans (List.perm_middle (l₁ := [rowF (v146) 72 ([] ++ s.Shifts), rowF (v145) 62 ([] ++ s.Values)]) (l₂ := [blk b9 25 [.slice none 0 0, .slice none 0 0], blk b8 33 [.int .i64 (x.Lo), .int .i64 (x.Hi)]]) (a := blk b129 25 [v145, v146])).symm) ?_
       exact WK.meet (m143, b129, v145, v146) rfl (.refl _) (.cons rfl (.cons rfl (.cons rfl (.cons rfl .nil)))) (Mem.le_trans hle132 hle144)
     ·refine DW.tO rfl rfl rfl (OpTo.taO (T.lit0 (α := Shf) sl23 rfl)) (by decide) (fun m152 Es_ v151 hle153 hR_ => ?_)
      subst hR_
      replace hs2 := hs2.mono hle153
      replace hs4 := hs4.mono hle153
      replace hp13 := hp13.mono hle153
      replace hp15 := hp15.mono hle153
      replace hs17 := hs17.mono hle153
      replace hp19 := hp19.mono hle153
      replace hs21 := hs21.mono hle153
      refine DW.tO rfl rfl rfl (OpTo.taO (T.lit0 (α := Val) sl22 rfl)) (by decide) (fun m155 Es_ v154 hle156 hR_ => ?_)
      subst hR_
      replace hs2 := hs2.mono hle156
      replace hs4 := hs4.mono hle156
      replace hp13 := hp13.mono hle156
      replace hp15 := hp15.mono hle156
      replace hs17 := hs17.mono hle156
      replace hp19 := hp19.mono hle156
      replace hs21 := hs21.mono hle156
      refine DW.ta rfl rfl rfl rfl (T.appendFl (α := Val) (fun _ _ _ h => h) (k := 0) sl22 rfl rfl hs17 rfl (by first | omega | (simp; omega)) (by first | omega | (simp; omega))) (by decide) (fun v157 => ?_)
      refine DW.ta rfl rfl rfl rfl (T.appendFl (α := Shf) (fun _ _ _ h => h) (k := 1) sl23 rfl rfl hs21 rfl (by first | omega | (simp; omega)) (by first | omega | (simp; omega))) (by decide) (fun v158 => ?_)
      refine DW.y (V := Value.agg [v157, v158].toArray) rfl rfl (OpX.own1 (k := 0) rfl trivial (defdB rfl) fun ho159 => (OpX.own1 (k := 1) rfl trivial (defdB rfl) fun ho160 => (X.build Try.zeroValue25 Try.runUnderlying25 (places25 _ Try.underlying25) rfl (by simp only [Instr.fill, one_cells ho159, one_cells ho160]; rfl)))) ?_
      refine DW.ts rfl rfl rfl rfl (OpTo.own1 (k := 0) rfl trivial (defd2 rfl rfl rfl) fun ho161 => (OpTo.own1 (k := 1) rfl trivial (defd2 rfl rfl rfl) fun ho162 => (T.storeBA (k := 2) Try.sizeOf25 rfl rfl rfl (one_cons ho161 (one_cons ho162 one_nil)) rfl rfl))) ?_
      refine DW.nil ?_
      refine WK.nThen ?_
      refine WK.perm [blk b129 25 [v157, v158], rowF (v158) 72 ([] ++ s.Shifts), rowF (v157) 62 ([] ++ s.Values), blk b9 25 [.slice none 0 0, .slice none 0 0], blk b8 33 [.int .i64 (x.Lo), .int .i64 (x.Hi)]] ((List.Perm.cons _ ((List.Perm.cons _ (.refl _)).trans (List.perm_middle (l₁ := [rowF (v157) 62 ([] ++ s.Values)]) (l₂ := [blk b9 25 [.slice none 0 0, .slice none 0 0], blk b8 33 [.int .i64 (x.Lo), .int .i64 (x.Hi)]]) (a := rowF (v158) 72 ([] ++ s.Shifts))).symm)).trans (List.perm_middle (l₁ := [rowF (v157) 62 ([] ++ s.Values), rowF (v158) 72 ([] ++ s.Shifts)]) (l₂ := [blk b9 25 [.slice none 0 0, .slice none 0 0], blk b8 33 [.int .i64 (x.Lo), .int .i64 (x.Hi)]]) (a := blk b129 25 [v157, v158])).symm) ?_
      exact WK.meet (m155, b129, v157, v158) rfl (.refl _) (.cons rfl (.cons rfl (.cons rfl (.cons rfl .nil)))) (Mem.le_trans hle153 hle156)
  ·rintro ⟨m14, b32, v25, v29⟩ hle163
   show WK _ _ m14 [blk b32 25 [v25, v29], rowF (v29) 72 ([] ++ s.Shifts), rowF (v25) 62 ([] ++ s.Values), blk b9 25 [.slice none 0 0, .slice none 0 0], blk b8 33 [.int .i64 (x.Lo), .int .i64 (x.Hi)]] [(1, .int .i64 (time)), (5, .pointer (some ⟨b8, 0, none⟩)), (6, .pointer (some ⟨b9, 0, none⟩)), (9, .pointer (some ⟨b32, 0, none⟩))] _
   replace hs2 := hs2.mono hle163
   replace hs4 := hs4.mono hle163
   replace hp13 := hp13.mono hle163
   refine WC.seq ?_
   refine WC.seq ?_
   have he164 : ([] ++ s.Shifts) = s.Shifts := List.nil_append _
   rw [he164]
   have he165 : ([] ++ s.Values) = s.Values := List.nil_append _
   rw [he165]
   refine WC.region ?_
   refine WL.ag rfl ?_
   refine WL.z ?_
   refine WC.block ?_
   refine WC.loop (G := Nat) (fun k => s.Values.length - k) (fun k => m14) (fun k => [blk b32 25 [v25, v29], rowF (v29) 72 (s.Shifts), rowF (v25) 62 (s.Values), blk b9 25 [.slice none 0 0, .slice none 0 0], blk b8 33 [.int .i64 (x.Lo), .int .i64 (x.Hi)]]) (fun k => [(1, .int .i64 (time)), (5, .pointer (some ⟨b8, 0, none⟩)), (6, .pointer (some ⟨b9, 0, none⟩)), (9, .pointer (some ⟨b32, 0, none⟩)), (10, .int .i64 (↑k))]) (fun k => k ≤ s.Values.length ∧ (∀ j, j < k → (gt s.Values j).Time ≠ time)) 0 rfl (.refl _) (.cons rfl (.cons rfl (.cons rfl (.cons rfl (.cons rfl .nil))))) ?_ ?_
   ·exact ⟨Nat.zero_le _, fun j hj => absurd hj (Nat.not_lt_zero _)⟩
   ·rintro k hF166
    show WK _ _ m14 [blk b32 25 [v25, v29], rowF (v29) 72 (s.Shifts), rowF (v25) 62 (s.Values), blk b9 25 [.slice none 0 0, .slice none 0 0], blk b8 33 [.int .i64 (x.Lo), .int .i64 (x.Hi)]] [(1, .int .i64 (time)), (5, .pointer (some ⟨b8, 0, none⟩)), (6, .pointer (some ⟨b9, 0, none⟩)), (9, .pointer (some ⟨b32, 0, none⟩)), (10, .int .i64 (↑k))] _
    replace hF166 : k ≤ s.Values.length ∧ (∀ j, j < k → (gt s.Values j).Time ≠ time) := hF166
    obtain ⟨hk, hall⟩ := hF166
    refine WC.seq ?_
    refine WC.r ?_
    refine WL.mv rfl ?_
    refine WL.y (X.field Try.runUnderlying25 rfl Try.sizeOf22 rfl) ?_
    refine WL.y (X.loadB (k := 0) Try.isAgg22 rfl rfl rfl) ?_
    refine WL.y (X.lenF (k := 2) Try.runUnderlying22 rfl rfl) ?_
    refine WL.cond (X.lss rfl rfl) (by decide) (fun h167 => ?_) (fun h167 => ?_)
    ·refine WL.z ?_
     refine WC.condT rfl ?_
     refine WC.skip ?_
     refine WK.nThen ?_
     refine WC.seq ?_
     refine WC.block ?_
     refine WC.r ?_
     refine WL.y (X.field Try.runUnderlying25 rfl Try.sizeOf22 rfl) ?_
     refine WL.y (X.loadB (k := 0) Try.isAgg22 rfl rfl rfl) ?_
     refine WL.mv rfl ?_
     refine WL.y (X.idxRow (k := 2) Try.runUnderlying22 Try.sizeOf62 rfl rfl rfl (by first | omega | (simp; omega) | simp) (by first | omega | (simp; omega) | simp)) ?_
     refine WL.y (X.field Try.runUnderlying62 rfl Try.sizeOf3 rfl) ?_
     refine WL.y (X.loadFp (k := 2) (i := k) (off := 0) (u := .int .i64 (((gt s.Values k)).Time)) Try.isAgg3 rfl rfl (by first | omega | (simp; omega) | simp) rfl) ?_
     refine WL.mv rfl ?_
     refine WL.cond (X.eql rfl rfl) (by decide) (fun h168 => ?_) (fun h168 => ?_)
     ·refine WL.z ?_
      refine WC.condT rfl ?_
      refine WC.r ?_
      refine WL.y (X.field Try.runUnderlying25 rfl Try.sizeOf22 rfl) ?_
      refine WL.y (X.loadB (k := 0) Try.isAgg22 rfl rfl rfl) ?_
      refine WL.mv rfl ?_
      refine WL.y (X.idxRow (k := 2) Try.runUnderlying22 Try.sizeOf62 rfl rfl rfl (by first | omega | (simp; omega) | simp) (by first | omega | (simp; omega) | simp)) ?_
      refine WL.y (X.field Try.runUnderlying62 rfl Try.sizeOf33 rfl) ?_
      refine WL.y (X.loadFs (k := 2) (i := k) (off := 1) (us := [.int .i64 ((((gt s.Values k)).Levels).Lo), .int .i64 ((((gt s.Values k)).Levels).Hi)]) Try.isAgg33 Try.sizeOf33 rfl rfl (by first | omega | (simp; omega) | simp) rfl rfl) ?_
      refine WL.tn (T.alloc Try.zeroValue33 rfl) (by decide) fun b169 => ?_
      refine WL.ts (T.storeBA (k := 0) Try.sizeOf33 rfl rfl rfl (one_cons rfl (one_cons rfl one_nil)) rfl rfl) ?_
      refine WL.z ?_
      refine WC.r ?_
      refine WL.y (X.field Try.runUnderlying33 rfl Try.sizeOf3 rfl) ?_
      refine WL.y (X.loadB (k := 0) Try.isAgg3 rfl rfl rfl) ?_
      refine WL.y (X.field Try.runUnderlying33 rfl Try.sizeOf3 rfl) ?_
      refine WL.y (X.loadB (k := 5) Try.isAgg3 rfl rfl rfl) ?_
      refine WL.y (X.mx rfl rfl) ?_
      refine WL.y (X.field Try.runUnderlying33 rfl Try.sizeOf3 rfl) ?_
      refine WL.y (X.loadB (k := 0) Try.isAgg3 rfl rfl rfl) ?_
      refine WL.y (X.field Try.runUnderlying33 rfl Try.sizeOf3 rfl) ?_
      refine WL.y (X.loadB (k := 5) Try.isAgg3 rfl rfl rfl) ?_
      refine WL.y (X.mn rfl rfl) ?_
      refine WL.y (V := Value.agg [.int .i64 (max ((((gt s.Values k)).Levels).Lo) x.Lo), .int .i64 (min ((((gt s.Values k)).Levels).Hi) x.Hi)].toArray) (X.build Try.zeroValue33 Try.runUnderlying33 (places33 _ Try.underlying33) rfl rfl) ?_
      refine WL.ts (T.storeBA (k := 0) Try.sizeOf33 rfl rfl rfl (one_cons rfl (one_cons rfl one_nil)) rfl rfl) ?_
      refine WL.z ?_
      refine WC.seq ?_
      refine WC.r ?_
      refine WL.y (X.field Try.runUnderlying33 rfl Try.sizeOf3 rfl) ?_
      refine WL.y (X.loadB (k := 0) Try.isAgg3 rfl rfl rfl) ?_
      refine WL.y (X.field Try.runUnderlying33 rfl Try.sizeOf3 rfl) ?_
      refine WL.y (X.loadB (k := 0) Try.isAgg3 rfl rfl rfl) ?_
      refine WL.cond (X.gtr rfl rfl) (by decide) (fun h170 => ?_) (fun h170 => ?_)
      ·refine WL.z ?_
       refine WC.condT rfl ?_
       refine WC.r ?_
       refine WL.y (V := Value.agg [.slice none 0 0, .slice none 0 0].toArray) (X.build Try.zeroValue25 Try.runUnderlying25 (places25 _ Try.underlying25) rfl rfl) ?_
       refine WL.ts (T.storeBA (k := 4) Try.sizeOf25 rfl rfl rfl (one_cons rfl (one_cons rfl one_nil)) rfl rfl) ?_
       refine WL.ag rfl ?_
       refine WL.z ?_
       refine WC.ret ?_
       refine WK.rThen ?_
       refine WK.rBlock ?_
       refine WK.rThen ?_
       refine WK.rThen ?_
       refine WK.rBlock ?_
       refine WK.rThen ?_
       refine WK.retC2 4 rfl rfl rfl rfl Try.isAgg25 Try.sizeOf25 (fun w' hw' => Ret.mem hw' ?_)
       first | exact ⟨_, tup2 rfl (int_eq (by rw [narR_err (by omega)])), by rw [narR_err (by omega)]; exact ⟨_, _, rfl, .nil, .nil⟩⟩ | exact ⟨_, tup2 rfl (int_eq (by rw [narR_no (by omega) (fun j hj => hall j (by omega))])), by rw [narR_no (by omega) (fun j hj => hall j (by omega))]; exact ⟨_, _, rfl, .nil, .nil⟩⟩ | exact ⟨_, tup2 rfl (int_eq (by rw [narR_none (k := k) (by omega) (by omega) hall (by omega) (by unfold meetS; dsimp only; omega)])), by rw [narR_none (k := k) (by omega) (by omega) hall (by omega) (by unfold meetS; dsimp only; omega)]; exact ⟨_, _, rfl, .nil, .nil⟩⟩ | exact ⟨_, tup2 rfl (int_eq (by rw [narR_yes (k := k) (by omega) (by omega) hall (by omega) (by unfold meetS; dsimp only; omega)])), by rw [narR_yes (k := k) (by omega) (by omega) hall (by omega) (by unfold meetS; dsimp only; omega)]; exact ⟨_, _, rfl, .nil, .nil⟩⟩
      ·refine WL.z ?_
       refine WC.condF rfl ?_
       refine WC.skip ?_
       refine WK.nThen ?_
       refine WC.r ?_
       refine WL.y (X.field Try.runUnderlying25 rfl Try.sizeOf22 rfl) ?_
       refine WL.y (X.loadB (k := 1) Try.isAgg22 rfl rfl rfl) ?_
       refine WL.mv rfl ?_
       refine WL.y (X.loadBA (k := 0) Try.isAgg33 Try.sizeOf33 rfl rfl rfl) ?_
       refine WL.y (X.idxRow (k := 3) Try.runUnderlying22 Try.sizeOf62 rfl rfl rfl (by first | omega | (simp; omega) | simp) (by first | omega | (simp; omega) | simp)) ?_
       refine WL.y (X.field Try.runUnderlying62 rfl Try.sizeOf33 rfl) ?_
       refine WL.ts (T.storeFp (k := 3) (i := k) (off := 1) (us := [.int .i64 (max ((((gt s.Values k)).Levels).Lo) x.Lo), .int .i64 (min ((((gt s.Values k)).Levels).Hi) x.Hi)]) ((Val.mk (((gt s.Values k)).Time) ((Span.mk (max ((((gt s.Values k)).Levels).Lo) x.Lo) (min ((((gt s.Values k)).Levels).Hi) x.Hi))))) Try.sizeOf33 rfl rfl rfl rfl (Nat.zero_lt_succ _) rfl (by first | omega | (simp; omega) | simp) rfl rfl (one_cons rfl (one_cons rfl one_nil))) ?_
       refine WL.z ?_
       refine WC.seq ?_
       have hnl : (narV s k x).length = s.Values.length := (by simp [narV])
       have he171 : (s.Values.set k ((Val.mk (((gt s.Values k)).Time) ((Span.mk (max ((((gt s.Values k)).Levels).Lo) x.Lo) (min ((((gt s.Values k)).Levels).Hi) x.Hi)))))) = (narV s k x) := rfl
       rw [he171]
       refine WC.region ?_
       refine WL.y (X.loadBA (k := 1) Try.isAgg25 Try.sizeOf25 rfl rfl rfl) ?_
       refine WL.own1 (k := 3) rfl (fun ho172 => ?_)
       refine WL.own1 (k := 2) rfl (fun ho173 => ?_)
       refine WL.ts (T.storeBA (k := 4) Try.sizeOf25 rfl rfl rfl (one_cons ho172 (one_cons ho173 one_nil)) rfl rfl) ?_
       refine WL.ag rfl ?_
       refine WL.z ?_
       refine WC.ret ?_
       refine WK.rBlock ?_
       refine WK.rThen ?_
       refine WK.rThen ?_
       refine WK.rBlock ?_
       refine WK.rThen ?_
       refine WK.freezeF 3 rfl rfl (by first | (simp [lenB]; omega) | (simp [lenB]; done)) (fun m174 hle175 hs176 => ?_)
       replace hs2 := hs2.mono hle175
       replace hs4 := hs4.mono hle175
       replace hp13 := hp13.mono hle175
       refine WK.freezeF 2 rfl rfl (by first | (simp [lenB]; omega) | (simp [lenB]; done)) (fun m177 hle178 hs179 => ?_)
       replace hs2 := hs2.mono hle178
       replace hs4 := hs4.mono hle178
       replace hp13 := hp13.mono hle178
       replace hs176 := hs176.mono hle178
       refine WK.retC2 2 rfl rfl rfl rfl Try.isAgg25 Try.sizeOf25 (fun w' hw' => Ret.mem hw' ?_)
       first | exact ⟨_, tup2 rfl (int_eq (by rw [narR_err (by omega)])), by rw [narR_err (by omega)]; exact ⟨_, _, rfl, hs176, hs179⟩⟩ | exact ⟨_, tup2 rfl (int_eq (by rw [narR_no (by omega) (fun j hj => hall j (by omega))])), by rw [narR_no (by omega) (fun j hj => hall j (by omega))]; exact ⟨_, _, rfl, hs176, hs179⟩⟩ | exact ⟨_, tup2 rfl (int_eq (by rw [narR_none (k := k) (by omega) (by omega) hall (by omega) (by unfold meetS; dsimp only; omega)])), by rw [narR_none (k := k) (by omega) (by omega) hall (by omega) (by unfold meetS; dsimp only; omega)]; exact ⟨_, _, rfl, hs176, hs179⟩⟩ | exact ⟨_, tup2 rfl (int_eq (by rw [narR_yes (k := k) (by omega) (by omega) hall (by omega) (by unfold meetS; dsimp only; omega)])), by rw [narR_yes (k := k) (by omega) (by omega) hall (by omega) (by unfold meetS; dsimp only; omega)]; exact ⟨_, _, rfl, hs176, hs179⟩⟩
     ·refine WL.z ?_
      refine WC.condF rfl ?_
      refine WC.skip ?_
      refine WK.nBlock ?_
      refine WK.nThen ?_
      refine WC.region ?_
      refine WL.mv rfl ?_
      refine WL.y (X.add rfl rfl (by omega) (by omega)) ?_
      refine WL.ag rfl ?_
      refine WL.z ?_
      refine WK.next (k + 1) rfl (.refl _) (.cons rfl (.cons rfl (.cons rfl (.cons rfl (.cons rfl .nil))))) ?_ ?_
      ·exact ⟨by omega, fun j hj => by rcases Nat.lt_succ_iff_lt_or_eq.1 hj with h | h; exact hall j h; subst h; assumption⟩
      ·omega
    ·refine WL.z ?_
     refine WC.condF rfl ?_
     refine WC.exit ?_
     refine WK.eThen ?_
     refine WK.eThen ?_
     refine WK.eHit ?_
     refine WK.nThen ?_
     refine WC.r ?_
     refine WL.y (V := Value.agg [.slice none 0 0, .slice none 0 0].toArray) (X.build Try.zeroValue25 Try.runUnderlying25 (places25 _ Try.underlying25) rfl rfl) ?_
     refine WL.ts (T.storeBA (k := 3) Try.sizeOf25 rfl rfl rfl (one_cons rfl (one_cons rfl one_nil)) rfl rfl) ?_
     refine WL.ag rfl ?_
     refine WL.z ?_
     refine WC.ret ?_
     refine WK.retC2 3 rfl rfl rfl rfl Try.isAgg25 Try.sizeOf25 (fun w' hw' => Ret.mem hw' ?_)
     first | exact ⟨_, tup2 rfl (int_eq (by rw [narR_err (by omega)])), by rw [narR_err (by omega)]; exact ⟨_, _, rfl, .nil, .nil⟩⟩ | exact ⟨_, tup2 rfl (int_eq (by rw [narR_no (by omega) (fun j hj => hall j (by omega))])), by rw [narR_no (by omega) (fun j hj => hall j (by omega))]; exact ⟨_, _, rfl, .nil, .nil⟩⟩ | exact ⟨_, tup2 rfl (int_eq (by rw [narR_none (k := k) (by omega) (by omega) hall (by omega) (by unfold meetS; dsimp only; omega)])), by rw [narR_none (k := k) (by omega) (by omega) hall (by omega) (by unfold meetS; dsimp only; omega)]; exact ⟨_, _, rfl, .nil, .nil⟩⟩ | exact ⟨_, tup2 rfl (int_eq (by rw [narR_yes (k := k) (by omega) (by omega) hall (by omega) (by unfold meetS; dsimp only; omega)])), by rw [narR_yes (k := k) (by omega) (by omega) hall (by omega) (by unfold meetS; dsimp only; omega)]; exact ⟨_, _, rfl, .nil, .nil⟩⟩

theorem clone114 (m : Mem) {v : Value} {L : List Val} (hL : Sl m v L) (hn : L.length ≤ 1000) : Mut Try.prog 114 #[v] m [] (fun _ Es u => Es = [rowF u 62 L] ∧ u.oneCell' = true) := by
 refine Mut.start Try.func114 rfl Try.ntmps114 rfl fun wld => ?_
 refine WC.r ?_
 refine WL.ag rfl ?_
 refine WL.z ?_
 refine WC.seq ?_
 refine WC.r ?_
 refine WL.mv rfl ?_
 refine WL.condb (X.eqlNil Try.underlying22 rfl rfl hL) (by decide) (fun h1 => ?_) (fun h1 => ?_)
 ·refine WL.z ?_
  refine WC.condT rfl ?_
  refine WC.seq ?_
  obtain rfl := hL.nil_of (by assumption)
  refine WK.ownF Val 62 ?_
  refine WC.region ?_
  refine WL.ag rfl ?_
  refine WL.z ?_
  refine WC.ret ?_
  refine WK.rThen ?_
  refine WK.ret1 rfl rfl (fun w' hw' => Ret.mut hw' ?_)
  first | exact ⟨rfl, rfl⟩ | exact ⟨rfl, ho_⟩
 ·refine WL.z ?_
  refine WC.condF rfl ?_
  refine WC.skip ?_
  refine WK.nThen ?_
  refine WC.r ?_
  refine WL.ta (T.lit0 (α := Val) sl22 rfl) (by decide) (fun v2 => ?_)
  refine WL.mv rfl ?_
  refine WL.ta (T.appendFl (α := Val) (fun _ _ _ h => h) (k := 0) sl22 rfl rfl hL rfl (by first | omega | (simp; omega)) (by first | omega | (simp; omega))) (by decide) (fun v3 => ?_)
  refine WL.own1 (k := 0) rfl (fun ho_ => ?_)
  refine WL.ag rfl ?_
  refine WL.z ?_
  refine WC.ret ?_
  refine WK.ret1 rfl rfl (fun w' hw' => Ret.mut hw' ?_)
  first | exact ⟨rfl, rfl⟩ | exact ⟨rfl, ho_⟩

theorem clone115 (m : Mem) {v : Value} {L : List Shf} (hL : Sl m v L) (hn : L.length ≤ 1000) : Mut Try.prog 115 #[v] m [] (fun _ Es u => Es = [rowF u 72 L] ∧ u.oneCell' = true) := by
 refine Mut.start Try.func115 rfl Try.ntmps115 rfl fun wld => ?_
 refine WC.r ?_
 refine WL.ag rfl ?_
 refine WL.z ?_
 refine WC.seq ?_
 refine WC.r ?_
 refine WL.mv rfl ?_
 refine WL.condb (X.eqlNil Try.underlying23 rfl rfl hL) (by decide) (fun h1 => ?_) (fun h1 => ?_)
 ·refine WL.z ?_
  refine WC.condT rfl ?_
  refine WC.seq ?_
  obtain rfl := hL.nil_of (by assumption)
  refine WK.ownF Shf 72 ?_
  refine WC.region ?_
  refine WL.ag rfl ?_
  refine WL.z ?_
  refine WC.ret ?_
  refine WK.rThen ?_
  refine WK.ret1 rfl rfl (fun w' hw' => Ret.mut hw' ?_)
  first | exact ⟨rfl, rfl⟩ | exact ⟨rfl, ho_⟩
 ·refine WL.z ?_
  refine WC.condF rfl ?_
  refine WC.skip ?_
  refine WK.nThen ?_
  refine WC.r ?_
  refine WL.ta (T.lit0 (α := Shf) sl23 rfl) (by decide) (fun v2 => ?_)
  refine WL.mv rfl ?_
  refine WL.ta (T.appendFl (α := Shf) (fun _ _ _ h => h) (k := 0) sl23 rfl rfl hL rfl (by first | omega | (simp; omega)) (by first | omega | (simp; omega))) (by decide) (fun v3 => ?_)
  refine WL.own1 (k := 0) rfl (fun ho_ => ?_)
  refine WL.ag rfl ?_
  refine WL.z ?_
  refine WC.ret ?_
  refine WK.ret1 rfl rfl (fun w' hw' => Ret.mut hw' ?_)
  first | exact ⟨rfl, rfl⟩ | exact ⟨rfl, ho_⟩

set_option maxRecDepth 20000 in
set_option maxHeartbeats 400000 in
theorem narrow55 (m : Mem) (cs : List Value) (s : Ser) (hs : Enc.rd m cs s) (time : Int) (cx : List Value) (x : Span) (hx : Enc.rd m cx x)   : Pure Try.prog 55 #[.agg cs.toArray, .int .i64 (time), .agg cx.toArray] m (fun m' v => ∃ r0, v = .tuple #[.agg r0.toArray, .int .i64 ((narR s time x).2)] ∧ Enc.rd m' r0 ((narR s time x).1)) := by
 obtain ⟨v1, v3, rfl, hs2, hs4⟩ := hs
 have hl5 := hs2.le
 have hl6 := hs4.le
 obtain rfl := hx
 refine Pure.start Try.func55 rfl Try.ntmps55 rfl fun wld => ?_
 refine WC.r ?_
 refine WL.tn (T.boxB rfl rfl) (by decide) fun b7 => ?_
 refine WL.tn (T.boxB rfl rfl) (by decide) fun b8 => ?_
 refine WL.tn (T.alloc Try.zeroValue25 rfl) (by decide) fun b9 => ?_
 refine WL.ag rfl ?_
 refine WL.z ?_
 refine WC.seq ?_
 refine WC.r ?_
 refine WL.y (X.loadBA (k := 2) Try.isAgg25 Try.sizeOf25 rfl rfl rfl) ?_
 refine WL.tm (T.litM (α := Ser) (vals := [.agg [v1, v3].toArray]) (L := [s]) sl179 rfl (.cons rfl ⟨_, _, rfl, hs2, hs4⟩ .nil) rfl rfl) (by decide) (fun m10 v11 hle12 hs13 => ?_)
 replace hs2 := hs2.mono hle12
 replace hs4 := hs4.mono hle12
 refine WL.y (X.call Try.call81 rfl (checked81_1 _ _ hs13)) ?_
 refine WL.ag rfl ?_
 refine WL.z ?_
 refine WC.r ?_
 refine WL.mv rfl ?_
 refine WL.condn (X.neq rfl rfl) (by decide) (fun h14 => ?_) (fun h14 => ?_)
 ·refine WL.z ?_
  refine WC.condT rfl ?_
  refine WC.r ?_
  refine WL.y (V := Value.agg [.slice none 0 0, .slice none 0 0].toArray) (X.build Try.zeroValue25 Try.runUnderlying25 (places25 _ Try.underlying25) rfl rfl) ?_
  refine WL.mv rfl ?_
  refine WL.ts (T.storeBA (k := 0) Try.sizeOf25 rfl rfl rfl (one_cons rfl (one_cons rfl one_nil)) rfl rfl) ?_
  refine WL.ag rfl ?_
  refine WL.z ?_
  refine WC.ret ?_
  refine WK.rThen ?_
  refine WK.retC2 0 rfl rfl rfl rfl Try.isAgg25 Try.sizeOf25 (fun w' hw' => Ret.mem hw' ?_)
  first | exact ⟨_, tup2 rfl (int_eq (by rw [narR_err (by omega)])), by rw [narR_err (by omega)]; exact ⟨_, _, rfl, .nil, .nil⟩⟩ | exact ⟨_, tup2 rfl (int_eq (by rw [narR_a (by omega) (by omega)])), by rw [narR_a (by omega) (by omega)]; exact ⟨_, _, rfl, .nil, .nil⟩⟩ | exact ⟨_, tup2 rfl (int_eq (by rw [narR_b (by omega) (by omega) (by unfold meetS; dsimp only; omega)])), by rw [narR_b (by omega) (by omega) (by unfold meetS; dsimp only; omega)]; exact ⟨_, _, rfl, .nil, .nil⟩⟩ | exact ⟨_, tup2 rfl (int_eq (by rw [narR_c (by omega) (by omega) (by unfold meetS; dsimp only; omega)])), by rw [narR_c (by omega) (by omega) (by unfold meetS; dsimp only; omega)]; exact ⟨_, _, rfl, .nil, .nil⟩⟩
 ·refine WL.z ?_
  refine WC.condF rfl ?_
  refine WC.skip ?_
  refine WK.nThen ?_
  refine WC.seq ?_
  have hok := Ok.of (s := s) (by omega)
  have hnV := hok.nV
  have hnX := hok.nX
  refine WC.region ?_
  refine WL.y (X.loadBA (k := 2) Try.isAgg25 Try.sizeOf25 rfl rfl rfl) ?_
  refine WL.y (V := Value.agg [v1, v3].toArray) (X.build Try.zeroValue111 Try.runUnderlying111 (places111 _ Try.underlying111) rfl rfl) ?_
  refine WL.mv rfl ?_
  refine WL.y (X.call Try.call110 rfl (index110 _ _ s ⟨_, _, rfl, hs2, hs4⟩ _ )) ?_
  refine WL.ag rfl ?_
  refine WL.z ?_
  refine WC.seq ?_
  refine WC.seq ?_
  have hib := idxR_bd s time
  refine WC.region ?_
  refine WL.mv rfl ?_
  refine WL.cond (X.lss rfl rfl) (by decide) (fun h15 => ?_) (fun h15 => ?_)
  ·refine WL.z ?_
   refine WC.condT rfl ?_
   refine WC.r ?_
   refine WL.y (V := Value.agg [.slice none 0 0, .slice none 0 0].toArray) (X.build Try.zeroValue25 Try.runUnderlying25 (places25 _ Try.underlying25) rfl rfl) ?_
   refine WL.ts (T.storeBA (k := 0) Try.sizeOf25 rfl rfl rfl (one_cons rfl (one_cons rfl one_nil)) rfl rfl) ?_
   refine WL.ag rfl ?_
   refine WL.z ?_
   refine WC.ret ?_
   refine WK.rThen ?_
   refine WK.retC2 0 rfl rfl rfl rfl Try.isAgg25 Try.sizeOf25 (fun w' hw' => Ret.mem hw' ?_)
   first | exact ⟨_, tup2 rfl (int_eq (by rw [narR_err (by omega)])), by rw [narR_err (by omega)]; exact ⟨_, _, rfl, .nil, .nil⟩⟩ | exact ⟨_, tup2 rfl (int_eq (by rw [narR_a (by omega) (by omega)])), by rw [narR_a (by omega) (by omega)]; exact ⟨_, _, rfl, .nil, .nil⟩⟩ | exact ⟨_, tup2 rfl (int_eq (by rw [narR_b (by omega) (by omega) (by unfold meetS; dsimp only; omega)])), by rw [narR_b (by omega) (by omega) (by unfold meetS; dsimp only; omega)]; exact ⟨_, _, rfl, .nil, .nil⟩⟩ | exact ⟨_, tup2 rfl (int_eq (by rw [narR_c (by omega) (by omega) (by unfold meetS; dsimp only; omega)])), by rw [narR_c (by omega) (by omega) (by unfold meetS; dsimp only; omega)]; exact ⟨_, _, rfl, .nil, .nil⟩⟩
  ·refine WL.z ?_
   refine WC.condF rfl ?_
   refine WC.skip ?_
   refine WK.nThen ?_
   refine WC.r ?_
   refine WL.y (X.field Try.runUnderlying25 rfl Try.sizeOf22 rfl) ?_
   refine WL.y (X.loadB (k := 2) Try.isAgg22 rfl rfl rfl) ?_
   refine WL.mv rfl ?_
   refine WL.xe (E.idx Try.runUnderlying22 Try.sizeOf62 rfl rfl hs2 (by omega) (by omega)) (by decide) (fun p16 hp17 => ?_)
   have hp18 := At.Val_1 hp17
   refine WL.y (X.field Try.runUnderlying62 rfl Try.sizeOf33 rfl) ?_
   refine WL.xe (E.loadAgg Try.isAgg33 Try.sizeOf33 rfl hp18) (by decide) (fun c19 hc20 => ?_)
   obtain rfl := hc20
   refine WL.tn (T.alloc Try.zeroValue33 rfl) (by decide) fun b21 => ?_
   refine WL.ts (T.storeBA (k := 0) Try.sizeOf33 rfl rfl rfl (one_cons rfl (one_cons rfl one_nil)) rfl rfl) ?_
   refine WL.z ?_
   refine WC.r ?_
   refine WL.y (X.field Try.runUnderlying33 rfl Try.sizeOf3 rfl) ?_
   refine WL.y (X.loadB (k := 0) Try.isAgg3 rfl rfl rfl) ?_
   refine WL.y (X.field Try.runUnderlying33 rfl Try.sizeOf3 rfl) ?_
   refine WL.y (X.loadB (k := 2) Try.isAgg3 rfl rfl rfl) ?_
   refine WL.y (X.mx rfl rfl) ?_
   refine WL.y (X.field Try.runUnderlying33 rfl Try.sizeOf3 rfl) ?_
   refine WL.y (X.loadB (k := 0) Try.isAgg3 rfl rfl rfl) ?_
   refine WL.y (X.field Try.runUnderlying33 rfl Try.sizeOf3 rfl) ?_
   refine WL.y (X.loadB (k := 2) Try.isAgg3 rfl rfl rfl) ?_
   refine WL.y (X.mn rfl rfl) ?_
   refine WL.y (V := Value.agg [.int .i64 (max (((gt s.Values ((idxR s time : Int).toNat)).Levels).Lo) x.Lo), .int .i64 (min (((gt s.Values ((idxR s time : Int).toNat)).Levels).Hi) x.Hi)].toArray) (X.build Try.zeroValue33 Try.runUnderlying33 (places33 _ Try.underlying33) rfl rfl) ?_
   refine WL.tn (T.alloc Try.zeroValue33 rfl) (by decide) fun b22 => ?_
   refine WL.ts (T.storeBA (k := 0) Try.sizeOf33 rfl rfl rfl (one_cons rfl (one_cons rfl one_nil)) rfl rfl) ?_
   refine WL.z ?_
   refine WC.seq ?_
   refine WC.r ?_
   refine WL.y (X.field Try.runUnderlying33 rfl Try.sizeOf3 rfl) ?_
   refine WL.y (X.loadB (k := 0) Try.isAgg3 rfl rfl rfl) ?_
   refine WL.y (X.field Try.runUnderlying33 rfl Try.sizeOf3 rfl) ?_
   refine WL.y (X.loadB (k := 0) Try.isAgg3 rfl rfl rfl) ?_
   refine WL.cond (X.gtr rfl rfl) (by decide) (fun h23 => ?_) (fun h23 => ?_)
   ·refine WL.z ?_
    refine WC.condT rfl ?_
    refine WC.r ?_
    refine WL.y (V := Value.agg [.slice none 0 0, .slice none 0 0].toArray) (X.build Try.zeroValue25 Try.runUnderlying25 (places25 _ Try.underlying25) rfl rfl) ?_
    refine WL.ts (T.storeBA (k := 2) Try.sizeOf25 rfl rfl rfl (one_cons rfl (one_cons rfl one_nil)) rfl rfl) ?_
    refine WL.ag rfl ?_
    refine WL.z ?_
    refine WC.ret ?_
    refine WK.rThen ?_
    refine WK.retC2 2 rfl rfl rfl rfl Try.isAgg25 Try.sizeOf25 (fun w' hw' => Ret.mem hw' ?_)
    first | exact ⟨_, tup2 rfl (int_eq (by rw [narR_err (by omega)])), by rw [narR_err (by omega)]; exact ⟨_, _, rfl, .nil, .nil⟩⟩ | exact ⟨_, tup2 rfl (int_eq (by rw [narR_a (by omega) (by omega)])), by rw [narR_a (by omega) (by omega)]; exact ⟨_, _, rfl, .nil, .nil⟩⟩ | exact ⟨_, tup2 rfl (int_eq (by rw [narR_b (by omega) (by omega) (by unfold meetS; dsimp only; omega)])), by rw [narR_b (by omega) (by omega) (by unfold meetS; dsimp only; omega)]; exact ⟨_, _, rfl, .nil, .nil⟩⟩ | exact ⟨_, tup2 rfl (int_eq (by rw [narR_c (by omega) (by omega) (by unfold meetS; dsimp only; omega)])), by rw [narR_c (by omega) (by omega) (by unfold meetS; dsimp only; omega)]; exact ⟨_, _, rfl, .nil, .nil⟩⟩
   ·refine WL.z ?_
    refine WC.condF rfl ?_
    refine WC.skip ?_
    refine WK.nThen ?_
    refine WC.cut (G := Mem × Nat × Value × Value) (fun (m24, b34, v26, v31) => m24) (fun (m24, b34, v26, v31) => [blk b34 25 [v26, v31], rowF (v31) 72 (s.Shifts), rowF (v26) 62 (s.Values), blk b22 33 [.int .i64 (max (((gt s.Values ((idxR s time : Int).toNat)).Levels).Lo) x.Lo), .int .i64 (min (((gt s.Values ((idxR s time : Int).toNat)).Levels).Hi) x.Hi)], blk b21 33 [.int .i64 (((gt s.Values ((idxR s time : Int).toNat)).Levels).Lo), .int .i64 (((gt s.Values ((idxR s time : Int).toNat)).Levels).Hi)], blk b9 25 [.slice none 0 0, .slice none 0 0], blk b8 33 [.int .i64 (x.Lo), .int .i64 (x.Hi)], blk b7 25 [v1, v3]]) (fun (m24, b34, v26, v31) => [(6, .pointer (some ⟨b9, 0, none⟩)), (9, .int .i64 (idxR s time)), (11, .pointer (some ⟨b22, 0, none⟩)), (12, .pointer (some ⟨b34, 0, none⟩))]) (fun (m24, b34, v26, v31) => m10.le m24 ∧ Sl (α := Val) m24 v1 s.Values ∧ Sl (α := Shf) m24 v3 s.Shifts) ?_ ?_
    ·refine WC.draw (π := (.cons 0 (.cons 1 (.cons 3 (.cons 4 (.fork (.cons 2 (.fork (.cons 5 (.cons 6 (.cons 7 (.cons 8 .done)))) (.cons 7 (.cons 5 (.cons 6 (.cons 8 .done)))))) (.cons 7 (.cons 2 (.cons 5 (.cons 6 (.cons 8 .done))))))))))) [2, 5, 7, 8] [8] rfl (by kernel_rfl) ?_
     refine DW.y rfl rfl (X.field Try.runUnderlying25 rfl Try.sizeOf22 rfl) ?_
     refine DW.y rfl rfl (X.loadB (k := 4) Try.isAgg22 rfl rfl rfl) ?_
     refine DW.y rfl rfl (X.field Try.runUnderlying25 rfl Try.sizeOf23 rfl) ?_
     refine DW.y rfl rfl (X.loadB (k := 4) Try.isAgg23 rfl rfl rfl) ?_
     refine DW.fork (List.cons_ne_nil _ _) ?_ ?_
     ·refine DW.tO rfl rfl rfl (T.callO Try.call114 rfl (clone114 _ hs2 (by omega))) (by decide) (fun m25 Es26 v27 hle28 hR_ => ?_)
      obtain ⟨rfl, ho29⟩ := hR_
      replace hs2 := hs2.mono hle28
      replace hs4 := hs4.mono hle28
      replace hs13 := hs13.mono hle28
      replace hp17 := hp17.mono hle28
      replace hp18 := hp18.mono hle28
      refine DW.fork (List.cons_ne_nil _ _) ?_ ?_
      ·refine DW.tO rfl rfl rfl (T.callO Try.call115 rfl (clone115 _ hs4 (by omega))) (by decide) (fun m30 Es31 v32 hle33 hR_ => ?_)
       obtain ⟨rfl, ho34⟩ := hR_
       replace hs2 := hs2.mono hle33
       replace hs4 := hs4.mono hle33
       replace hs13 := hs13.mono hle33
       replace hp17 := hp17.mono hle33
       replace hp18 := hp18.mono hle33
       refine DW.y (V := Value.agg [v27, v32].toArray) rfl rfl (X.build Try.zeroValue25 Try.runUnderlying25 (places25 _ Try.underlying25) rfl (by simp only [Instr.fill, one_cells ho29, one_cells ho34]; rfl)) ?_
       refine DW.tn rfl rfl rfl (T.alloc Try.zeroValue25 rfl) (by decide) fun b35 => ?_
       refine DW.ts rfl rfl rfl rfl (T.storeBA (k := 0) Try.sizeOf25 rfl rfl rfl (one_cons ho29 (one_cons ho34 one_nil)) rfl rfl) ?_
       refine DW.nil ?_
       refine WK.nThen ?_
       exact WK.meet (m30, b35, v27, v32) rfl (.refl _) (.cons rfl (.cons rfl (.cons rfl (.cons rfl .nil)))) ⟨(Mem.le_trans hle28 hle33), hs2, hs4⟩
      ·refine DW.tn rfl rfl rfl (T.alloc Try.zeroValue25 rfl) (by decide) fun b36 => ?_
       refine DW.tO rfl rfl rfl (T.callO Try.call115 rfl (clone115 _ hs4 (by omega))) (by decide) (fun m37 Es38 v39 hle40 hR_ => ?_)
       obtain ⟨rfl, ho41⟩ := hR_
       replace hs2 := hs2.mono hle40
       replace hs4 := hs4.mono hle40
       replace hs13 := hs13.mono hle40
       replace hp17 := hp17.mono hle40
       replace hp18 := hp18.mono hle40
       refine DW.y (V := Value.agg [v27, v39].toArray) rfl rfl (X.build Try.zeroValue25 Try.runUnderlying25 (places25 _ Try.underlying25) rfl (by simp only [Instr.fill, one_cells ho29, one_cells ho41]; rfl)) ?_
       refine DW.ts rfl rfl rfl rfl (T.storeBA (k := 1) Try.sizeOf25 rfl rfl rfl (one_cons ho29 (one_cons ho41 one_nil)) rfl rfl) ?_
       refine DW.nil ?_
       refine WK.nThen ?_
       refine WK.perm [blk b36 25 [v27, v39], rowF (v39) 72 (s.Shifts), rowF (v27) 62 (s.Values), blk b22 33 [.int .i64 (max (((gt s.Values ((idxR s time : Int).toNat)).Levels).Lo) x.Lo), .int .i64 (min (((gt s.Values ((idxR s time : Int).toNat)).Levels).Hi) x.Hi)], blk b21 33 [.int .i64 (((gt s.Values ((idxR s time : Int).toNat)).Levels).Lo), .int .i64 (((gt s.Values ((idxR s time : Int).toNat)).Levels).Hi)], blk b9 25 [.slice none 0 0, .slice none 0 0], blk b8 33 [.int .i64 (x.Lo), .int .i64 (x.Hi)], blk b7 25 [v1, v3]] ((List.Perm.cons _ (.refl _)).trans (List.perm_middle (l₁ := [rowF (v39) 72 (s.Shifts)]) (l₂ := [rowF (v27) 62 (s.Values), blk b22 33 [.int .i64 (max (((gt s.Values ((idxR s time : Int).toNat)).Levels).Lo) x.Lo), .int .i64 (min (((gt s.Values ((idxR s time : Int).toNat)).Levels).Hi) x.Hi)], blk b21 33 [.int .i64 (((gt s.Values ((idxR s time : Int).toNat)).Levels).Lo), .int .i64 (((gt s.Values ((idxR s time : Int).toNat)).Levels).Hi)], blk b9 25 [.slice none 0 0, .slice none 0 0], blk b8 33 [.int .i64 (x.Lo), .int .i64 (x.Hi)], blk b7 25 [v1, v3]]) (a := blk b36 25 [v27, v39])).symm) ?_
       exact WK.meet (m37, b36, v27, v39) rfl (.refl _) (.cons rfl (.cons rfl (.cons rfl (.cons rfl .nil)))) ⟨(Mem.le_trans hle28 hle40), hs2, hs4⟩
     ·refine DW.tn rfl rfl rfl (T.alloc Try.zeroValue25 rfl) (by decide) fun b42 => ?_
      refine DW.tO rfl rfl rfl (T.callO Try.call114 rfl (clone114 _ hs2 (by omega))) (by decide) (fun m43 Es44 v45 hle46 hR_ => ?_)
      obtain ⟨rfl, ho47⟩ := hR_
      replace hs2 := hs2.mono hle46
      replace hs4 := hs4.mono hle46
      replace hs13 := hs13.mono hle46
      replace hp17 := hp17.mono hle46
      replace hp18 := hp18.mono hle46
      refine DW.tO rfl rfl rfl (T.callO Try.call115 rfl (clone115 _ hs4 (by omega))) (by decide) (fun m48 Es49 v50 hle51 hR_ => ?_)
      obtain ⟨rfl, ho52⟩ := hR_
      replace hs2 := hs2.mono hle51
      replace hs4 := hs4.mono hle51
      replace hs13 := hs13.mono hle51
      replace hp17 := hp17.mono hle51
      replace hp18 := hp18.mono hle51
      refine DW.y (V := Value.agg [v45, v50].toArray) rfl rfl (X.build Try.zeroValue25 Try.runUnderlying25 (places25 _ Try.underlying25) rfl (by simp only [Instr.fill, one_cells ho47, one_cells ho52]; rfl)) ?_
      refine DW.ts rfl rfl rfl rfl (T.storeBA (k := 2) Try.sizeOf25 rfl rfl rfl (one_cons ho47 (one_cons ho52 one_nil)) rfl rfl) ?_
      refine DW.nil ?_
      refine WK.nThen ?_
      refine WK.perm [blk b42 25 [v45, v50], rowF (v50) 72 (s.Shifts), rowF (v45) 62 (s.Values), blk b22 33 [.int .i64 (max (((gt s.Values ((idxR s time : Int).toNat)).Levels).Lo) x.Lo), .int .i64 (min (((gt s.Values ((idxR s time : Int).toNat)).Levels).Hi) x.Hi)], blk b21 33 [.int .i64 (((gt s.Values ((idxR s time : Int).toNat)).Levels).Lo), .int .i64 (((gt s.Values ((idxR s time : Int).toNat)).Levels).Hi)], blk b9 25 [.slice none 0 0, .slice none 0 0], blk b8 33 [.int .i64 (x.Lo), .int .i64 (x.Hi)], blk b7 25 [v1, v3]] ((List.Perm.cons _ (.refl _)).trans (List.perm_middle (l₁ := [rowF (v50) 72 (s.Shifts), rowF (v45) 62 (s.Values)]) (l₂ := [blk b22 33 [.int .i64 (max (((gt s.Values ((idxR s time : Int).toNat)).Levels).Lo) x.Lo), .int .i64 (min (((gt s.Values ((idxR s time : Int).toNat)).Levels).Hi) x.Hi)], blk b21 33 [.int .i64 (((gt s.Values ((idxR s time : Int).toNat)).Levels).Lo), .int .i64 (((gt s.Values ((idxR s time : Int).toNat)).Levels).Hi)], blk b9 25 [.slice none 0 0, .slice none 0 0], blk b8 33 [.int .i64 (x.Lo), .int .i64 (x.Hi)], blk b7 25 [v1, v3]]) (a := blk b42 25 [v45, v50])).symm) ?_
      exact WK.meet (m48, b42, v45, v50) rfl (.refl _) (.cons rfl (.cons rfl (.cons rfl (.cons rfl .nil)))) ⟨(Mem.le_trans hle46 hle51), hs2, hs4⟩
    ·rintro ⟨m24, b34, v26, v31⟩ ⟨hle53, hs54, hs55⟩
     show WK _ _ m24 [blk b34 25 [v26, v31], rowF (v31) 72 (s.Shifts), rowF (v26) 62 (s.Values), blk b22 33 [.int .i64 (max (((gt s.Values ((idxR s time : Int).toNat)).Levels).Lo) x.Lo), .int .i64 (min (((gt s.Values ((idxR s time : Int).toNat)).Levels).Hi) x.Hi)], blk b21 33 [.int .i64 (((gt s.Values ((idxR s time : Int).toNat)).Levels).Lo), .int .i64 (((gt s.Values ((idxR s time : Int).toNat)).Levels).Hi)], blk b9 25 [.slice none 0 0, .slice none 0 0], blk b8 33 [.int .i64 (x.Lo), .int .i64 (x.Hi)], blk b7 25 [v1, v3]] [(6, .pointer (some ⟨b9, 0, none⟩)), (9, .int .i64 (idxR s time)), (11, .pointer (some ⟨b22, 0, none⟩)), (12, .pointer (some ⟨b34, 0, none⟩))] _
     replace hs2 := hs2.mono hle53
     replace hs4 := hs4.mono hle53
     replace hs13 := hs13.mono hle53
     replace hp17 := hp17.mono hle53
     replace hp18 := hp18.mono hle53
     have hl56 := hs54.le
     have hl57 := hs55.le
     refine WC.r ?_
     refine WL.y (X.field Try.runUnderlying25 rfl Try.sizeOf22 rfl) ?_
     refine WL.y (X.loadB (k := 0) Try.isAgg22 rfl rfl rfl) ?_
     refine WL.mv rfl ?_
     refine WL.y (X.loadBA (k := 3) Try.isAgg33 Try.sizeOf33 rfl rfl rfl) ?_
     refine WL.y (X.idxRow (k := 2) Try.runUnderlying22 Try.sizeOf62 rfl rfl rfl (by first | omega | (simp; omega) | simp) (by first | omega | (simp; omega) | simp)) ?_
     refine WL.y (X.field Try.runUnderlying62 rfl Try.sizeOf33 rfl) ?_
     refine WL.ts (T.storeFp (k := 2) (i := (idxR s time : Int).toNat) (off := 1) (us := [.int .i64 (max (((gt s.Values ((idxR s time : Int).toNat)).Levels).Lo) x.Lo), .int .i64 (min (((gt s.Values ((idxR s time : Int).toNat)).Levels).Hi) x.Hi)]) ((Val.mk (((gt s.Values ((idxR s time : Int).toNat))).Time) ((Span.mk (max (((gt s.Values ((idxR s time : Int).toNat)).Levels).Lo) x.Lo) (min (((gt s.Values ((idxR s time : Int).toNat)).Levels).Hi) x.Hi))))) Try.sizeOf33 rfl rfl rfl rfl (Nat.zero_lt_succ _) rfl (by first | omega | (simp; omega) | simp) rfl rfl (one_cons rfl (one_cons rfl one_nil))) ?_
     refine WL.z ?_
     refine WC.seq ?_
     have hnl : (narV s (idxR s time).toNat x).length = s.Values.length := (by simp [narV])
     have he58 : (s.Values.set ((idxR s time : Int).toNat) ((Val.mk (((gt s.Values ((idxR s time : Int).toNat))).Time) ((Span.mk (max (((gt s.Values ((idxR s time : Int).toNat)).Levels).Lo) x.Lo) (min (((gt s.Values ((idxR s time : Int).toNat)).Levels).Hi) x.Hi)))))) = (narV s (idxR s time).toNat x) := rfl
     rw [he58]
     refine WC.region ?_
     refine WL.y (X.loadBA (k := 0) Try.isAgg25 Try.sizeOf25 rfl rfl rfl) ?_
     refine WL.own1 (k := 2) rfl (fun ho59 => ?_)
     refine WL.own1 (k := 1) rfl (fun ho60 => ?_)
     refine WL.ts (T.storeBA (k := 5) Try.sizeOf25 rfl rfl rfl (one_cons ho59 (one_cons ho60 one_nil)) rfl rfl) ?_
     refine WL.ag rfl ?_
     refine WL.z ?_
     refine WC.ret ?_
     refine WK.freezeF 2 rfl rfl (by first | (simp [lenB]; omega) | (simp [lenB]; done)) (fun m61 hle62 hs63 => ?_)
     replace hs2 := hs2.mono hle62
     replace hs4 := hs4.mono hle62
     replace hs13 := hs13.mono hle62
     replace hp17 := hp17.mono hle62
     replace hp18 := hp18.mono hle62
     replace hs54 := hs54.mono hle62
     replace hs55 := hs55.mono hle62
     refine WK.freezeF 1 rfl rfl (by first | (simp [lenB]; omega) | (simp [lenB]; done)) (fun m64 hle65 hs66 => ?_)
     replace hs2 := hs2.mono hle65
     replace hs4 := hs4.mono hle65
     replace hs13 := hs13.mono hle65
     replace hp17 := hp17.mono hle65
     replace hp18 := hp18.mono hle65
     replace hs54 := hs54.mono hle65
     replace hs55 := hs55.mono hle65
     replace hs63 := hs63.mono hle65
     refine WK.retC2 3 rfl rfl rfl rfl Try.isAgg25 Try.sizeOf25 (fun w' hw' => Ret.mem hw' ?_)
     first | exact ⟨_, tup2 rfl (int_eq (by rw [narR_err (by omega)])), by rw [narR_err (by omega)]; exact ⟨_, _, rfl, hs63, hs66⟩⟩ | exact ⟨_, tup2 rfl (int_eq (by rw [narR_a (by omega) (by omega)])), by rw [narR_a (by omega) (by omega)]; exact ⟨_, _, rfl, hs63, hs66⟩⟩ | exact ⟨_, tup2 rfl (int_eq (by rw [narR_b (by omega) (by omega) (by unfold meetS; dsimp only; omega)])), by rw [narR_b (by omega) (by omega) (by unfold meetS; dsimp only; omega)]; exact ⟨_, _, rfl, hs63, hs66⟩⟩ | exact ⟨_, tup2 rfl (int_eq (by rw [narR_c (by omega) (by omega) (by unfold meetS; dsimp only; omega)])), by rw [narR_c (by omega) (by omega) (by unfold meetS; dsimp only; omega)]; exact ⟨_, _, rfl, hs63, hs66⟩⟩

end Go.Proofs.C8
