import Derived.Test.YtooomcigmleneaaGreatKxW
import Derived.Test.YtooomcigmleneaaGreatT10Seg
import Derived.Test.YtooomcigmleneaaGreatT10W13
import Derived.Test.YtooomcigmleneaaGreatT10Forg
import Derived.KernelRfl
/- Top: walks, fourteenth part, by program. -/
namespace Go.Proofs.T10
open Go Go.Kx
set_option linter.unusedSimpArgs false
set_option linter.unusedVariables false

theorem sort148 (m : Mem) {v : Value} {L : List Span} (hL : L.length ≤ 1000000) (hB : bdS L) {fc : Nat} {cf : Span → Span → Int} (hC : CmpOk fc cf) : Mut Tryz.prog 148 #[v, .func (.func fc) #[] #[]] m [rowF v 23 L] (fun _ Es u => u = .tuple #[] ∧ ∃ R, Es = [rowF v 23 R] ∧ R.Perm L ∧ Srt Span.Lo R 0 R.length) := by
 refine Mut.start Tryz.func148 rfl Tryz.ntmps148 rfl fun wld => ?_
 refine WC.r ?_
 refine WL.mv rfl ?_
 refine WL.y (X.lenF (k := 0) Tryz.runUnderlying28 rfl rfl) ?_
 refine WL.ag rfl ?_
 refine WL.z ?_
 refine WC.region ?_
 refine WL.mv rfl ?_
 refine WL.mv rfl ?_
 refine WL.mv rfl ?_
 refine WL.y (X.conv Tryz.runUnderlying3 Tryz.runUnderlying358 rfl (wrap_u64 (by omega) (by omega))) ?_
 refine WL.tm (T.call Tryz.call225 rfl (lenG225 _ (z := ↑L.length) (by omega))) (by decide) (fun m1 _ hle2 hR_ => ?_)
 obtain ⟨x3, rfl, hr4, hr5⟩ := hR_
 refine WL.mv rfl ?_
 refine WL.tM (T.callP (A := []) Tryz.call224 rfl (.refl _) (pdq224 _ _ (L := L) (a := 0) (b := L.length) (by omega) hB hC rfl rfl rfl (Nat.zero_le _) (Nat.le_refl _) (by omega) (.zero _ _))) (by decide) (fun m6 Es_ _ hle7 hR_ => ?_)
 obtain ⟨rfl, R8, rfl, hR9⟩ := hR_
 refine WL.nil ?_
 refine WK.end0 rfl (fun w' hw' => Ret.mut hw' ?_)
 exact ⟨rfl, _, rfl, hR9.1.perm, by rw [hR9.1.len]; exact hR9.2⟩

theorem grow214 (m : Mem) {n : Nat} {zn : Int} (hz : zn = n) (hn : n ≤ 200000) : Mut Tryz.prog 214 #[.slice none 0 0, .int .i64 zn] m [] (fun _ Es u => Es = [rowF u 23 ([] : List Span)] ∧ u.oneCell' = true) := by
 subst hz
 refine Mut.start Tryz.func214 rfl Tryz.ntmps214 rfl fun wld => ?_
 refine WC.r ?_
 refine WL.ag rfl ?_
 refine WL.z ?_
 refine WC.seq ?_
 refine WC.r ?_
 refine WL.mv rfl ?_
 refine WL.y (OpX.f (X.lss rfl rfl) (by omega)) ?_
 refine WL.z ?_
 refine WC.condF rfl ?_
 refine WC.skip ?_
 refine WK.nThen ?_
 refine WC.seq ?_
 refine WC.r ?_
 refine WL.mv rfl ?_
 refine WL.mv rfl ?_
 refine WL.y (X.cap (c := 0) Tryz.runUnderlying28 rfl) ?_
 refine WL.mv rfl ?_
 refine WL.y (X.lenV Tryz.runUnderlying28 rfl (q := 0) rfl) ?_
 refine WL.y (X.sub rfl rfl (by omega) (by omega)) ?_
 refine WL.y (X.sub rfl rfl (by omega) (by omega)) ?_
 refine WL.ag rfl ?_
 refine WL.z ?_
 refine WC.r ?_
 refine WL.mv rfl ?_
 refine WL.cond (X.gtr rfl rfl) (by decide) (fun h1 => ?_) (fun h1 => ?_)
 ·refine WL.z ?_
  refine WC.condT rfl ?_
  refine WC.region ?_
  refine WL.mv rfl ?_
  refine WL.mv rfl ?_
  refine WL.y (X.cap (c := 0) Tryz.runUnderlying28 rfl) ?_
  refine WL.y (X.slNil Tryz.underlying28 Tryz.sizeOf23 rfl rfl) ?_
  refine WL.mv rfl ?_
  refine WL.to (T.appendZ0 sl28 Tryz.underlying3 n rfl rfl (by omega) (by omega) (by decide) (by omega) (by omega)) (by decide) (fun v_ m_ H_ hz_ => ?_)
  obtain ⟨rfl, g_, c_, zs, rfl, hc_, hzl, rfl⟩ := hz_
  refine WL.mv rfl ?_
  refine WL.y (X.lenV Tryz.runUnderlying28 rfl (q := 0) rfl) ?_
  refine WL.y (X.slHi 0 Tryz.underlying28 Tryz.sizeOf23 rfl rfl rfl (by omega) (by omega)) ?_
  refine WL.ag rfl ?_
  refine WL.z ?_
  refine WC.seq ?_
  refine WK.shrink (k := 0) (h := 0) rfl (by omega) ?_
  refine WC.region ?_
  refine WL.mv rfl ?_
  refine WL.ag rfl ?_
  refine WL.z ?_
  refine WC.ret ?_
  refine WK.ret1 rfl rfl (fun w' hw' => Ret.mut hw' ?_)
  exact ⟨congrArg (fun e_ => [e_]) (rowF_of (α := Span) (L := []) rfl (by rw [Nat.zero_mul]; rfl)), rfl⟩
 ·refine WL.z ?_
  refine WC.condF rfl ?_
  refine WC.skip ?_
  refine WK.nThen ?_
  refine WC.seq ?_
  refine WK.ownF Span 23 ?_
  refine WC.region ?_
  refine WL.mv rfl ?_
  refine WL.ag rfl ?_
  refine WL.z ?_
  refine WC.ret ?_
  refine WK.ret1 rfl rfl (fun w' hw' => Ret.mut hw' ?_)
  exact ⟨rfl, rfl⟩

set_option maxHeartbeats 1000000 in
theorem concat128 (m : Mem) {v : Value} {Ls : List (List Span)} (hL : Sl m v Ls) (hn : Ls.length ≤ 4) (hb : ∀ i, i < Ls.length → (gt Ls i).length ≤ 50000) : Mut Tryz.prog 128 #[v] m [] (fun _ Es u => Es = [rowF u 23 (catN Ls Ls.length)] ∧ u.oneCell' = true) := by
 refine Mut.start Tryz.func128 rfl Tryz.ntmps128 rfl fun wld => ?_
 refine WC.r ?_
 refine WL.ag rfl ?_
 refine WL.z ?_
 refine WC.r ?_
 refine WL.ag rfl ?_
 refine WL.z ?_
 refine WC.seq ?_
 refine WC.r ?_
 refine WL.mv rfl ?_
 refine WL.y (X.len Tryz.runUnderlying67 rfl hL) ?_
 refine WL.mv rfl ?_
 refine WL.z ?_
 refine WC.block ?_
 refine WC.loop (G := Nat × Int) (fun (k, z_) => Ls.length - k) (fun (k, z_) => m) (fun (k, z_) => []) (fun (k, z_) => [(0, v), (3, .int .i64 (z_)), (9, v), (10, .int .i64 (↑Ls.length)), (11, .int .i64 (↑k))]) (fun (k, z_) => k ≤ Ls.length ∧ z_ = (lenN Ls k : Int)) ((0, 0)) rfl (.refl _) (.cons rfl (.cons rfl (.cons rfl (.cons rfl (.cons rfl .nil))))) ?_ ?_
 ·exact ⟨Nat.zero_le _, rfl⟩
 ·rintro ⟨k, z_⟩ hF1
  show WK _ _ m [] [(0, v), (3, .int .i64 (z_)), (9, v), (10, .int .i64 (↑Ls.length)), (11, .int .i64 (↑k))] _
  replace hF1 : k ≤ Ls.length ∧ z_ = (lenN Ls k : Int) := hF1
  obtain ⟨hk, hz_⟩ := hF1
  have hlb := lenN_le hb k (by omega)
  have hgb := fun h_ : k < Ls.length => hb k h_
  refine WC.r ?_
  refine WL.cond (X.lss rfl rfl) (by decide) (fun h2 => ?_) (fun h2 => ?_)
  ·refine WL.z ?_
   refine WC.seq ?_
   refine WC.condT rfl ?_
   refine WC.skip ?_
   refine WK.nThen ?_
   refine WC.seq ?_
   refine WC.block ?_
   refine WC.r ?_
   refine WL.xe (E.idxN k Tryz.runUnderlying67 Tryz.sizeOf28 rfl rfl hL (by omega)) (by decide) (fun p3 hp4 => ?_)
   refine WL.xe (E.loadSl Tryz.isAgg28 rfl hp4) (by decide) (fun v5 hs6 => ?_)
   have hl7 := hs6.le
   refine WL.ag rfl ?_
   refine WL.z ?_
   refine WC.r ?_
   refine WL.mv rfl ?_
   refine WL.mv rfl ?_
   refine WL.y (X.len Tryz.runUnderlying28 rfl hs6) ?_
   refine WL.y (X.add rfl rfl (by omega) (by omega)) ?_
   refine WL.ag rfl ?_
   refine WL.z ?_
   refine WC.r ?_
   refine WL.mv rfl ?_
   refine WL.y (OpX.f (X.lss rfl rfl) (by omega)) ?_
   refine WL.z ?_
   refine WC.condF rfl ?_
   refine WC.skip ?_
   refine WK.nBlock ?_
   refine WK.nThen ?_
   refine WC.region ?_
   refine WL.y (X.add rfl rfl (by omega) (by omega)) ?_
   refine WL.mv rfl ?_
   refine WL.z ?_
   refine WK.next ((k + 1, z_ + (↑(gt Ls k).length))) rfl (.refl _) (.cons rfl (.cons rfl (.cons rfl (.cons rfl (.cons rfl .nil))))) ?_ ?_
   ·exact ⟨by omega, by have h_ := lenN_succ Ls k; omega⟩
   ·(dsimp only; omega)
  ·refine WL.z ?_
   refine WC.seq ?_
   refine WC.condF rfl ?_
   refine WC.exit ?_
   refine WK.eThen ?_
   refine WK.eThen ?_
   refine WK.eHit ?_
   refine WK.nThen ?_
   refine WC.r ?_
   refine WL.mv rfl ?_
   refine WL.tM (T.callO Tryz.call214 rfl (grow214 _ (n := Int.toNat z_) (by omega) (by omega))) (by decide) (fun m8 Es9 v10 hle11 hR_ => ?_)
   obtain ⟨rfl, ho12⟩ := hR_
   replace hL := hL.mono hle11
   refine WL.ag rfl ?_
   refine WL.z ?_
   refine WC.seq ?_
   refine WC.r ?_
   refine WL.mv rfl ?_
   refine WL.y (X.len Tryz.runUnderlying67 rfl hL) ?_
   refine WL.mv rfl ?_
   refine WL.z ?_
   refine WC.block ?_
   have he13 : (([] : List Span)) = (catN Ls 0) := rfl
   rw [he13]
   refine WC.loop (G := Nat × Value) (fun (i, vo) => Ls.length - i) (fun (i, vo) => m8) (fun (i, vo) => [rowF (vo) 23 (catN Ls i)]) (fun (i, vo) => [(6, vo), (25, v), (26, .int .i64 (↑Ls.length)), (27, .int .i64 (↑i))]) (fun (i, vo) => i ≤ Ls.length) ((0, v10)) rfl (.refl _) (.cons rfl (.cons rfl (.cons rfl (.cons rfl .nil)))) ?_ ?_
   ·exact Nat.zero_le _
   ·rintro ⟨i, vo⟩ hF14
    show WK _ _ m8 [rowF (vo) 23 (catN Ls i)] [(6, vo), (25, v), (26, .int .i64 (↑Ls.length)), (27, .int .i64 (↑i))] _
    replace hF14 : i ≤ Ls.length := hF14
    have hi := hF14
    have hlb := lenN_le hb i (by omega)
    unfold lenN at hlb
    have hgb := fun h_ : i < Ls.length => hb i h_
    refine WC.r ?_
    refine WL.cond (X.lss rfl rfl) (by decide) (fun h15 => ?_) (fun h15 => ?_)
    ·refine WL.z ?_
     refine WC.seq ?_
     refine WC.condT rfl ?_
     refine WC.skip ?_
     refine WK.nThen ?_
     refine WC.seq ?_
     refine WC.block ?_
     refine WC.r ?_
     refine WL.xe (E.idxN i Tryz.runUnderlying67 Tryz.sizeOf28 rfl rfl hL (by omega)) (by decide) (fun p16 hp17 => ?_)
     refine WL.xe (E.loadSl Tryz.isAgg28 rfl hp17) (by decide) (fun v18 hs19 => ?_)
     have hl20 := hs19.le
     refine WL.ag rfl ?_
     refine WL.z ?_
     refine WC.region ?_
     refine WL.mv rfl ?_
     refine WL.mv rfl ?_
     refine WL.ta (T.appendFl (α := Span) (fun _ _ _ h => h) (k := 0) sl28 rfl rfl hs19 rfl (by first | omega | (simp; omega)) (by first | omega | (simp; omega))) (by decide) (fun v21 => ?_)
     refine WL.ag rfl ?_
     refine WL.nil ?_
     refine WK.nBlock ?_
     refine WK.nThen ?_
     refine WC.region ?_
     refine WL.y (X.add rfl rfl (by omega) (by omega)) ?_
     refine WL.mv rfl ?_
     refine WL.z ?_
     have he22 : ((catN Ls i) ++ (gt Ls i)) = (catN Ls (i + 1)) := rfl
     rw [he22]
     refine WK.next ((i + 1, v21)) rfl (.refl _) (.cons rfl (.cons rfl (.cons rfl (.cons rfl .nil)))) ?_ ?_
     ·omega
     ·(dsimp only; omega)
    ·refine WL.z ?_
     refine WC.seq ?_
     refine WC.condF rfl ?_
     refine WC.exit ?_
     refine WK.eThen ?_
     refine WK.eThen ?_
     refine WK.eHit ?_
     refine WK.nThen ?_
     refine WC.r ?_
     refine WL.own1 (k := 0) rfl (fun ho_ => ?_)
     obtain rfl : i = Ls.length := (by omega)
     refine WL.mv rfl ?_
     refine WL.ag rfl ?_
     refine WL.z ?_
     refine WC.ret ?_
     refine WK.ret1 rfl rfl (fun w' hw' => Ret.mut hw' ?_)
     exact ⟨rfl, ho_⟩

end Go.Proofs.T10
/- Top: walks, fifteenth part, by program. -/
namespace Go.Proofs.T10
open Go Go.Kx
set_option linter.unusedSimpArgs false
set_option linter.unusedVariables false

set_option maxHeartbeats 4000000 in
theorem read73 (m : Mem) {p : Paper} {v : Value} {l : List Point} (hl : Sl m v l) : Pure Tryz.prog 73 #[.agg [.int .i64 (p.Pitch), .int .i64 (p.Height), .int .i64 (p.Radius), .int .i64 (p.Low), .int .i64 (p.High), .int .i64 (p.Columns), .int .i64 (p.Along.Lo), .int .i64 (p.Along.Hi), .int .i64 (p.Across.Lo), .int .i64 (p.Across.Hi)].toArray, v] m (fun _ u => ∃ f, u = .tuple #[.agg (Flat.enc (α := Paper) f).toArray, .int .i64 (readE p l)] ∧ (readE p l = 0 → f = p)) := by
 refine Pure.start Tryz.func73 rfl Tryz.ntmps73 rfl fun wld => ?_
 refine WC.r ?_
 refine WL.tn (T.boxB rfl rfl) (by decide) fun b1 => ?_
 refine WL.tn (T.alloc Tryz.zeroValue179 rfl) (by decide) fun b2 => ?_
 refine WL.ag rfl ?_
 refine WL.z ?_
 refine WC.seq ?_
 refine WC.r ?_
 refine WL.y (X.loadBA (k := 1) Tryz.isAgg25 Tryz.sizeOf25 rfl rfl rfl) ?_
 refine WL.y (X.call Tryz.call141 rfl (paper141 _ _ p rfl )) ?_
 refine WL.ag rfl ?_
 refine WL.z ?_
 refine WC.r ?_
 refine WL.mv rfl ?_
 refine WL.condn (X.neq rfl rfl) (by decide) (fun h3 => ?_) (fun h3 => ?_)
 ·refine WL.z ?_
  refine WC.condT rfl ?_
  refine WC.r ?_
  refine WL.y (V := Value.agg [.int .i64 (0), .int .i64 (0), .int .i64 (0), .int .i64 (0), .int .i64 (0), .int .i64 (0), .int .i64 (0), .int .i64 (0), .int .i64 (0), .int .i64 (0)].toArray) (X.build Tryz.zeroValue179 Tryz.runUnderlying179 (places179 _ Tryz.underlying179) rfl rfl) ?_
  refine WL.mv rfl ?_
  refine WL.ts (T.storeBA (k := 0) Tryz.sizeOf179 rfl rfl rfl (one_cons rfl (one_cons rfl (one_cons rfl (one_cons rfl (one_cons rfl (one_cons rfl (one_cons rfl (one_cons rfl (one_cons rfl (one_cons rfl one_nil)))))))))) rfl rfl) ?_
  refine WL.ag rfl ?_
  refine WL.z ?_
  refine WC.ret ?_
  refine WK.rThen ?_
  refine WK.retC2 0 rfl rfl rfl rfl Tryz.isAgg179 Tryz.sizeOf179 (fun w' hw' => Ret.mem hw' ?_)
  exact ⟨⟨0, 0, 0, 0, 0, 0, ⟨0, 0⟩, ⟨0, 0⟩⟩, tup2 rfl (int_eq (readE_bad (by omega)).symm), fun h_ => by rw [readE_bad (by omega)] at h_; omega⟩
 ·refine WL.z ?_
  refine WC.condF rfl ?_
  refine WC.skip ?_
  refine WK.nThen ?_
  refine WC.r ?_
  refine WL.mv rfl ?_
  refine WL.tm (T.call Tryz.call142 rfl (trace142 _ hl)) (by decide) (fun m4 _ hle5 hR_ => ?_)
  obtain ⟨z6, rfl⟩ := hR_
  replace hl := hl.mono hle5
  refine WL.mv rfl ?_
  refine WL.y (X.extract rfl rfl) ?_
  refine WL.y (X.extract rfl rfl) ?_
  refine WL.ag rfl ?_
  refine WL.ag rfl ?_
  refine WL.z ?_
  refine WC.r ?_
  refine WL.y (X.loadBA (k := 1) Tryz.isAgg25 Tryz.sizeOf25 rfl rfl rfl) ?_
  refine WL.y (V := Value.agg [.int .i64 (p.Pitch), .int .i64 (p.Height), .int .i64 (p.Radius), .int .i64 (p.Low), .int .i64 (p.High), .int .i64 (p.Columns), .int .i64 (p.Along.Lo), .int .i64 (p.Along.Hi), .int .i64 (p.Across.Lo), .int .i64 (p.Across.Hi)].toArray) (X.build Tryz.zeroValue179 Tryz.runUnderlying179 (places179 _ Tryz.underlying179) rfl (by kernel_rfl)) ?_
  refine WL.mv rfl ?_
  refine WL.ts (T.storeBA (k := 0) Tryz.sizeOf179 rfl rfl rfl (one_cons rfl (one_cons rfl (one_cons rfl (one_cons rfl (one_cons rfl (one_cons rfl (one_cons rfl (one_cons rfl (one_cons rfl (one_cons rfl one_nil)))))))))) rfl rfl) ?_
  refine WL.ag rfl ?_
  refine WL.z ?_
  refine WC.ret ?_
  refine WK.retC2 0 rfl rfl rfl rfl Tryz.isAgg179 Tryz.sizeOf179 (fun w' hw' => Ret.mem hw' ?_)
  exact ⟨p, tup2 rfl (int_eq (readE_ok (by omega)).symm), fun _ => rfl⟩

set_option maxHeartbeats 1000000 in
theorem line143 (m : Mem) {f : Paper} {t : Point} {pf pt : Addr} (hpf : At m pf f) (hpt : At m pt t) (hf : paperP f) (ht : pointP t) : Iter Tryz.prog 143 [.pointer (some pf), .pointer (some pt)] m false (lineNo f t) (lineA f t) := by
 intro lo S HS I Ix s0 hone hmono hy h0
 have hyb_ := yLo_bd hf ht
 have ht_ := ht
 unfold pointP at ht_
 have hf1_ := hf.1
 have hpl1_ := places_bd ht_.1 ht_.2.2 hf.2.2.2.1
 have hpl2_ := places_bd ht_.2.1 ht_.2.2 hf.2.2.2.2
 refine Mut.start Tryz.func143 rfl Tryz.ntmps143 rfl fun wld => ?_
 refine WC.cut (G := Mem × Nat × Nat) (fun (m1, b9, b10) => m1) (fun (m1, b9, b10) => ([blk b10 23 [.int .i64 ((placesS t.Y t.Half f.Across).Lo), .int .i64 (min (placesS t.Y t.Half f.Across).Hi f.Height)], blk b9 23 [.int .i64 ((placesS t.X t.Half f.Along).Lo), .int .i64 ((placesS t.X t.Half f.Along).Hi)]] ++ HS s0)) (fun (m1, b9, b10) => [(0, .func (.yield lo) #[] #[]), (1, .pointer (some (pf))), (4, .pointer (some ⟨b9, 0, none⟩)), (5, .pointer (some ⟨b10, 0, none⟩))]) (fun (m1, b9, b10) => m.le m1) ?_ ?_
 ·refine WC.draw (π := (.cons 0 (.cons 1 (.cons 2 (.cons 3 (.cons 4 (.cons 5 (.fork (.cons 6 (.cons 7 (.cons 8 (.cons 9 .done)))) (.cons 7 (.cons 6 (.cons 8 (.cons 9 .done)))))))))))) [6, 7, 8, 9] [8, 9] rfl (by kernel_rfl) ?_
  refine DW.xe rfl rfl (E.loadAgg Tryz.isAgg179 Tryz.sizeOf179 rfl hpf) (by decide) (fun c2 hc3 => ?_)
  obtain rfl := hc3
  refine DW.xe rfl rfl (E.loadAgg Tryz.isAgg102 Tryz.sizeOf102 rfl hpt) (by decide) (fun c4 hc5 => ?_)
  obtain rfl := hc5
  refine DW.y rfl rfl (X.call Tryz.call144 rfl (along144 _ _ f rfl _ t rfl (by assumption) (by assumption))) ?_
  refine DW.xe rfl rfl (E.loadAgg Tryz.isAgg179 Tryz.sizeOf179 rfl hpf) (by decide) (fun c6 hc7 => ?_)
  obtain rfl := hc7
  refine DW.xe rfl rfl (E.loadAgg Tryz.isAgg102 Tryz.sizeOf102 rfl hpt) (by decide) (fun c8 hc9 => ?_)
  obtain rfl := hc9
  refine DW.y rfl rfl (X.call Tryz.call145 rfl (heights145 _ _ f rfl _ t rfl (by assumption) (by assumption))) ?_
  refine DW.fork (List.cons_ne_nil _ _) ?_ ?_
  ·refine DW.tn rfl rfl rfl (T.alloc Tryz.zeroValue23 rfl) (by decide) fun b10 => ?_
   refine DW.tn rfl rfl rfl (T.alloc Tryz.zeroValue23 rfl) (by decide) fun b11 => ?_
   refine DW.ts rfl rfl rfl rfl (T.storeBA (k := 1) Tryz.sizeOf23 rfl rfl rfl (one_cons rfl (one_cons rfl one_nil)) rfl rfl) ?_
   refine DW.ts rfl rfl rfl rfl (T.storeBA (k := 0) Tryz.sizeOf23 rfl rfl rfl (one_cons rfl (one_cons rfl one_nil)) rfl rfl) ?_
   refine DW.nil ?_
   refine WK.nThen ?_
   exact WK.meet (m, b10, b11) rfl (.refl _) (.cons rfl (.cons rfl (.cons rfl (.cons rfl .nil)))) (Mem.le_refl _)
  ·refine DW.tn rfl rfl rfl (T.alloc Tryz.zeroValue23 rfl) (by decide) fun b12 => ?_
   refine DW.tn rfl rfl rfl (T.alloc Tryz.zeroValue23 rfl) (by decide) fun b13 => ?_
   refine DW.ts rfl rfl rfl rfl (T.storeBA (k := 0) Tryz.sizeOf23 rfl rfl rfl (one_cons rfl (one_cons rfl one_nil)) rfl rfl) ?_
   refine DW.ts rfl rfl rfl rfl (T.storeBA (k := 1) Tryz.sizeOf23 rfl rfl rfl (one_cons rfl (one_cons rfl one_nil)) rfl rfl) ?_
   refine DW.nil ?_
   refine WK.nThen ?_
   refine WK.perm ([blk b12 23 [.int .i64 ((placesS t.Y t.Half f.Across).Lo), .int .i64 (min (placesS t.Y t.Half f.Across).Hi f.Height)], blk b13 23 [.int .i64 ((placesS t.X t.Half f.Along).Lo), .int .i64 ((placesS t.X t.Half f.Along).Hi)]] ++ HS s0) (List.Perm.append_right (HS s0) ((List.Perm.cons _ (.refl _)).trans (List.perm_middle (l₁ := [blk b13 23 [.int .i64 ((placesS t.X t.Half f.Along).Lo), .int .i64 ((placesS t.X t.Half f.Along).Hi)]]) (l₂ := []) (a := blk b12 23 [.int .i64 ((placesS t.Y t.Half f.Across).Lo), .int .i64 (min (placesS t.Y t.Half f.Across).Hi f.Height)])).symm)) ?_
   exact WK.meet (m, b13, b12) rfl (.refl _) (.cons rfl (.cons rfl (.cons rfl (.cons rfl .nil)))) (Mem.le_refl _)
 ·rintro ⟨m1, b9, b10⟩ hle14
  show WK _ _ m1 ([blk b10 23 [.int .i64 ((placesS t.Y t.Half f.Across).Lo), .int .i64 (min (placesS t.Y t.Half f.Across).Hi f.Height)], blk b9 23 [.int .i64 ((placesS t.X t.Half f.Along).Lo), .int .i64 ((placesS t.X t.Half f.Along).Hi)]] ++ HS s0) [(0, .func (.yield lo) #[] #[]), (1, .pointer (some (pf))), (4, .pointer (some ⟨b9, 0, none⟩)), (5, .pointer (some ⟨b10, 0, none⟩))] _
  replace hpf := hpf.mono hle14
  replace hpt := hpt.mono hle14
  refine WC.r ?_
  refine WL.y (X.field Tryz.runUnderlying23 rfl Tryz.sizeOf3 rfl) ?_
  refine WL.y (X.loadB (k := 0) Tryz.isAgg3 rfl rfl rfl) ?_
  refine WL.ag rfl ?_
  refine WL.z ?_
  refine WC.block ?_
  have hm0_ : m.le m1 := hle14
  refine WC.loop (G := Nat × Int × Mem × S) (fun (k, y, mm, ss) => lineNo f t - k) (fun (k, y, mm, ss) => mm) (fun (k, y, mm, ss) => ([blk b10 23 [.int .i64 ((placesS t.Y t.Half f.Across).Lo), .int .i64 (min (placesS t.Y t.Half f.Across).Hi f.Height)], blk b9 23 [.int .i64 ((placesS t.X t.Half f.Along).Lo), .int .i64 ((placesS t.X t.Half f.Along).Hi)]] ++ HS ss)) (fun (k, y, mm, ss) => [(0, .func (.yield lo) #[] #[]), (1, .pointer (some (pf))), (4, .pointer (some ⟨b9, 0, none⟩)), (5, .pointer (some ⟨b10, 0, none⟩)), (6, .int .i64 (y))]) (fun (k, y, mm, ss) => m1.le mm ∧ I k mm ss ∧ k ≤ lineNo f t ∧ y = yLo f t + k) ((0, (placesS t.Y t.Half f.Across).Lo, m1, s0)) rfl (.refl _) (.cons rfl (.cons rfl (.cons rfl (.cons rfl (.cons rfl .nil))))) ?_ ?_
  ·exact ⟨Mem.le_refl _, hmono _ _ _ _ hle14 h0, Nat.zero_le _, by unfold yLo; omega⟩
  ·rintro ⟨k, y, mm, ss⟩ hF15
   show WK _ _ mm ([blk b10 23 [.int .i64 ((placesS t.Y t.Half f.Across).Lo), .int .i64 (min (placesS t.Y t.Half f.Across).Hi f.Height)], blk b9 23 [.int .i64 ((placesS t.X t.Half f.Along).Lo), .int .i64 ((placesS t.X t.Half f.Along).Hi)]] ++ HS ss) [(0, .func (.yield lo) #[] #[]), (1, .pointer (some (pf))), (4, .pointer (some ⟨b9, 0, none⟩)), (5, .pointer (some ⟨b10, 0, none⟩)), (6, .int .i64 (y))] _
   replace hF15 : m1.le mm ∧ I k mm ss ∧ k ≤ lineNo f t ∧ y = yLo f t + k := hF15
   obtain ⟨hmm, hI, hk, hy_⟩ := hF15
   replace hpf := hpf.mono hmm
   replace hpt := hpt.mono hmm
   have hkn_ := hk
   unfold lineNo yLo yHi at hkn_
   have hyl_ : yLo f t = (placesS t.Y t.Half f.Across).Lo := rfl
   refine WC.seq ?_
   refine WC.r ?_
   refine WL.mv rfl ?_
   refine WL.y (X.field Tryz.runUnderlying23 rfl Tryz.sizeOf3 rfl) ?_
   refine WL.y (X.loadB (k := 0) Tryz.isAgg3 rfl rfl rfl) ?_
   refine WL.cond (X.leq rfl rfl) (by decide) (fun h16 => ?_) (fun h16 => ?_)
   ·refine WL.z ?_
    refine WC.condT rfl ?_
    refine WC.skip ?_
    refine WK.nThen ?_
    refine WC.seq ?_
    refine WC.block ?_
    refine WC.r ?_
    refine WL.xe (E.loadAgg Tryz.isAgg179 Tryz.sizeOf179 rfl hpf) (by decide) (fun c17 hc18 => ?_)
    obtain rfl := hc18
    refine WL.mv rfl ?_
    refine WL.y (X.call Tryz.call146 rfl (arc146 _ _ f rfl _ (by assumption) (by omega))) ?_
    refine WL.ag rfl ?_
    refine WL.z ?_
    refine WC.seq ?_
    have hab_ := arc_bd hf (y := y) (by omega)
    refine WC.draw (π := (.cons 0 (.cons 1 (.cons 2 (.cons 3 (.cons 4 (.cons 5 (.cons 6 (.cons 7 (.cons 8 (.cons 9 (.cons 10 (.cons 11 (.cons 12 (.cons 13 (.cons 14 (.cons 15 (.cons 16 (.cons 17 (.cons 18 (.cons 19 (.cons 20 .done)))))))))))))))))))))) [19] [19] rfl (by kernel_rfl) ?_
    refine DW.y rfl rfl (X.move rfl) ?_
    refine DW.y rfl rfl (X.move rfl) ?_
    refine DW.y rfl rfl (X.field Tryz.runUnderlying23 rfl Tryz.sizeOf3 rfl) ?_
    refine DW.y rfl rfl (X.loadB (k := 1) Tryz.isAgg3 rfl rfl rfl) ?_
    refine DW.y rfl rfl (X.move rfl) ?_
    refine DW.y rfl rfl (X.sub rfl rfl (by omega) (by omega)) ?_
    have hp19 := At.zero hpf
    refine DW.y rfl rfl (X.field Tryz.runUnderlying179 rfl Tryz.sizeOf25 rfl) ?_
    have hp20 := At.Paper_0 hp19
    refine DW.y rfl rfl (X.field Tryz.runUnderlying25 rfl Tryz.sizeOf3 rfl) ?_
    refine DW.y rfl rfl (X.loadInt Tryz.isAgg3 rfl hp20) ?_
    refine DW.y rfl rfl (X.call Tryz.call147 rfl (floor147 _ _ _ (by omega) (by omega))) ?_
    refine DW.y rfl rfl (X.field Tryz.runUnderlying23 rfl Tryz.sizeOf3 rfl) ?_
    refine DW.y rfl rfl (X.loadB (k := 1) Tryz.isAgg3 rfl rfl rfl) ?_
    refine DW.y rfl rfl (X.move rfl) ?_
    refine DW.y rfl rfl (X.sub rfl rfl (by omega) (by omega)) ?_
    have hp21 := At.zero hpf
    refine DW.y rfl rfl (X.field Tryz.runUnderlying179 rfl Tryz.sizeOf25 rfl) ?_
    have hp22 := At.Paper_0 hp21
    refine DW.y rfl rfl (X.field Tryz.runUnderlying25 rfl Tryz.sizeOf3 rfl) ?_
    refine DW.y rfl rfl (X.loadInt Tryz.isAgg3 rfl hp22) ?_
    refine DW.y rfl rfl (X.call Tryz.call147 rfl (floor147 _ _ _ (by omega) (by omega))) ?_
    refine DW.y (V := Value.agg [.int .i64 (((((placesS t.X t.Half f.Along).Lo) - (arcI f y))) / f.Pitch), .int .i64 (((((placesS t.X t.Half f.Along).Hi) - (arcI f y))) / f.Pitch)].toArray) rfl rfl (X.build Tryz.zeroValue23 Tryz.runUnderlying23 (places23 _ Tryz.underlying23) rfl rfl) ?_
    have hk_ : k < lineNo f t := (by have h_ := hyb_; unfold lineNo yLo yHi at *; omega)
    refine DW.tY rfl rfl rfl rfl (T.yield (A := [blk b10 23 [.int .i64 ((placesS t.Y t.Half f.Across).Lo), .int .i64 (min (placesS t.Y t.Half f.Across).Hi f.Height)], blk b9 23 [.int .i64 ((placesS t.X t.Half f.Along).Lo), .int .i64 ((placesS t.X t.Half f.Along).Hi)]]) rfl rfl rfl (hy k _ ss _ hk_ (Mem.le_trans hle14 hmm) (lineA_eq (by unfold yLo; omega) (by unfold lineC; rfl) (by unfold lineC; rfl) _) hI)) (fun _ _ h_ => h_.1) (fun _ _ h_ => h_.1) (by decide) (fun m2_ H2_ hT_ => ?_) (fun m2_ H2_ hT_ => ?_)
    ·obtain ⟨hle2_, s2_, rfl, hI2_⟩ := hT_
     replace hpf := hpf.mono hle2_
     replace hpt := hpt.mono hle2_
     replace hp19 := hp19.mono hle2_
     replace hp20 := hp20.mono hle2_
     replace hp21 := hp21.mono hle2_
     replace hp22 := hp22.mono hle2_
     refine DW.y rfl rfl (X.not rfl) ?_
     refine DW.nil ?_
     refine WK.nThen ?_
     refine WC.condF rfl ?_
     refine WC.skip ?_
     refine WK.nBlock ?_
     refine WK.nThen ?_
     refine WC.region ?_
     refine WL.mv rfl ?_
     refine WL.y (X.add rfl rfl (by omega) (by omega)) ?_
     refine WL.ag rfl ?_
     refine WL.z ?_
     refine WK.next ((k + 1, y + 1, m2_, s2_)) rfl (.refl _) (.cons rfl (.cons rfl (.cons rfl (.cons rfl (.cons rfl .nil))))) ?_ ?_
     ·exact ⟨Mem.le_trans hmm hle2_, hI2_, by omega, by omega⟩
     ·(dsimp only; omega)
    ·obtain ⟨hle2_, s2_, rfl, hI2_⟩ := hT_
     replace hpf := hpf.mono hle2_
     replace hpt := hpt.mono hle2_
     replace hp19 := hp19.mono hle2_
     replace hp20 := hp20.mono hle2_
     replace hp21 := hp21.mono hle2_
     replace hp22 := hp22.mono hle2_
     refine DW.y rfl rfl (X.not rfl) ?_
     refine DW.nil ?_
     refine WK.nThen ?_
     refine WC.condT rfl ?_
     refine WC.ret ?_
     refine WK.rBlock ?_
     refine WK.rThen ?_
     refine WK.rThen ?_
     refine WK.rBlock ?_
     refine WK.ret0 rfl (fun w' hw' => Ret.mut (hw'.weaken (.cons _ (.cons _ (.refl _)))) ?_)
     exact ⟨s2_, rfl, .inr ⟨k + 1, by omega, hI2_⟩⟩
   ·refine WL.z ?_
    refine WC.condF rfl ?_
    refine WC.exit ?_
    refine WK.eThen ?_
    refine WK.eThen ?_
    refine WK.eHit ?_
    refine WK.end0 rfl (fun w' hw' => Ret.mut (hw'.weaken (.cons _ (.cons _ (.refl _)))) ?_)
    obtain rfl : k = lineNo f t := (by unfold lineNo yLo yHi; omega)
    exact ⟨ss, rfl, .inl hI⟩

theorem line75 (m : Mem) {f : Paper} {t : Point} (hf : paperP f) (ht : pointP t) : Pure Tryz.prog 75 #[.agg [.int .i64 (f.Pitch), .int .i64 (f.Height), .int .i64 (f.Radius), .int .i64 (f.Low), .int .i64 (f.High), .int .i64 (f.Columns), .int .i64 (f.Along.Lo), .int .i64 (f.Along.Hi), .int .i64 (f.Across.Lo), .int .i64 (f.Across.Hi)].toArray, .agg [.int .i64 (t.X), .int .i64 (t.Y), .int .i64 (t.Half)].toArray] m (fun m' v => ∃ lb, v = .func (.func 143) #[] lb.toArray ∧ Iter Tryz.prog 143 lb m' false (lineNo f t) (lineA f t)) := by
 refine Pure.start Tryz.func75 rfl Tryz.ntmps75 rfl fun wld => ?_
 refine WC.r ?_
 refine WL.tn (T.boxB rfl rfl) (by decide) fun b1 => ?_
 refine WL.tn (T.boxB rfl rfl) (by decide) fun b2 => ?_
 refine WL.ag rfl ?_
 refine WL.z ?_
 refine WC.seq ?_
 refine WK.freezeS (α := Paper) (x := f) 1 rfl rfl (show Enc.rd (α := Paper) m [.int .i64 (f.Pitch), .int .i64 (f.Height), .int .i64 (f.Radius), .int .i64 (f.Low), .int .i64 (f.High), .int .i64 (f.Columns), .int .i64 (f.Along.Lo), .int .i64 (f.Along.Hi), .int .i64 (f.Across.Lo), .int .i64 (f.Across.Hi)] f from rfl) (fun m3 hle4 hp5 => ?_)
 refine WK.freezeS (α := Point) (x := t) 0 rfl rfl (show Enc.rd (α := Point) m3 [.int .i64 (t.X), .int .i64 (t.Y), .int .i64 (t.Half)] t from rfl) (fun m6 hle7 hp8 => ?_)
 replace hp5 := hp5.mono hle7
 refine WC.region ?_
 refine WL.y (X.makeFunc (by intro x hx; simp at hx; rcases hx with rfl | rfl; all_goals exact ⟨_, rfl⟩) rfl) ?_
 refine WL.ag rfl ?_
 refine WL.z ?_
 refine WC.ret ?_
 refine WK.ret1 rfl rfl (fun w' hw' => Ret.mem hw' ?_)
 exact ⟨_, rfl, line143 _ hp5 hp8 hf ht⟩

end Go.Proofs.T10
/- Top: walks, sixteenth part, by program. -/
namespace Go.Proofs.T10
open Go Go.Kx
set_option linter.unusedSimpArgs false
set_option linter.unusedVariables false

set_option maxHeartbeats 2000000 in
theorem add78 (m : Mem) {V v : Value} {e sz n off : Nat} {xs : List Value} {L M : List Span} {vl : Value} (hxv : xs[off]? = some v) (hL : RisP L) (hM : Sl m vl M) (hMp : RisP M) : Mut Tryz.prog 78 #[.pointer (some (rp V off)), vl] m [row V e sz n xs, rowF v 23 L] (fun _ Es u => u = .tuple #[] ∧ ∃ v', Es = [row V e sz n (xs.set off v'), rowF v' 23 (unionC (L ++ M))] ∧ v'.oneCell' = true) := by
 have hoff : off < xs.length := (List.getElem?_eq_some_iff.1 hxv).1
 have hll_ := hL.len
 have hml_ := hMp.len
 have hv_ : ∀ s ∈ L ++ M, s.Lo ≤ s.Hi := fun s hs => (List.mem_append.1 hs).elim (hL.valid s) (hMp.valid s)
 refine Mut.start Tryz.func78 rfl Tryz.ntmps78 rfl fun wld => ?_
 refine WC.r ?_
 refine WL.mv rfl ?_
 refine WL.y (X.nilCheck rfl) ?_
 refine WL.y (X.field Tryz.runUnderlying184 rfl Tryz.sizeOf28 rfl) ?_
 refine WL.y (X.loadRow (k := 0) Tryz.isAgg28 rfl rfl hxv) ?_
 refine WL.mv rfl ?_
 refine WL.own1 (k := 1) rfl (fun ho2 => ?_)
 refine WL.ta (T.litF (α := RawV) (vals := [v, vl]) (L := [RawV.mk v ho2, RawV.mk vl hM.one]) sl67 rfl (raw_two ho2 hM.one) (by intro v hv; simp at hv; rcases hv with rfl | rfl <;> first | (simp [one_cells ho2, Flat.n]; done) | (simp [one_cells hM.one, Flat.n]; done)) rfl rfl rfl) (by decide) (fun v1 => ?_)
 refine WL.tM (T.callOL (R := fun Es_ u_ => Es_ = [rowF u_ 23 (catN [L, M] 2)] ∧ u_.oneCell' = true) Tryz.call128 rfl (fun _ w_ hw_ => concat128 _ (Ls := [L, M]) (hw_.rowSlA (k := 0) rfl (rdl_two (hw_.rowFSl (k := 2) rfl (by unfold lenB; omega)) (hM.mono hw_.leAll)) (by simp [lenB])) (by simp) (two_len (by omega) (by omega)))) (by decide) (fun m3 Es4 v5 hle6 hR_ => ?_)
 obtain ⟨rfl, ho7⟩ := hR_
 replace hM := hM.mono hle6
 refine WL.ag rfl ?_
 refine WL.nil ?_
 have he8 : (catN [L, M] 2) = (L ++ M) := catN_two L M
 rw [he8]
 refine WK.nThen ?_
 refine WC.r ?_
 refine WL.mv rfl ?_
 refine WL.tM (T.callP (A := [rowF (v1) 28 ([RawV.mk v ho2, RawV.mk vl hM.one]), row (V) e sz (n) (xs), rowF (v) 23 (L)]) Tryz.call148 rfl (.refl _) (sort148 _ (L := L ++ M) (by rw [List.length_append]; omega) (bdS_spB (spB_app hL.bd hMp.bd)) cmpOk149)) (by decide) (fun m9 Es_ u_ hle10 hR_ => ?_)
 obtain ⟨rfl, R11, rfl, hR12⟩ := hR_
 replace hM := hM.mono hle10
 refine WL.nil ?_
 have hRl_ : R11.length = L.length + M.length := (by rw [hR12.1.length_eq, List.length_append])
 have hRb_ : spB R11 := spB_perm (spB_app hL.bd hMp.bd) hR12.1
 refine WK.nThen ?_
 refine WC.r ?_
 refine WL.mv rfl ?_
 refine WL.y (X.nilCheck rfl) ?_
 refine WL.y (X.field Tryz.runUnderlying184 rfl Tryz.sizeOf28 rfl) ?_
 refine WL.ts (T.storeC (k := 2) Tryz.sizeOf28 rfl rfl rfl rfl hoff) ?_
 refine WL.nil ?_
 refine WK.ownF Span 23 ?_
 have he13 : (([] : List Span)) = (mrgL (R11.take 0)) := rfl
 rw [he13]
 refine WK.nThen ?_
 refine WC.r ?_
 refine WL.mv rfl ?_
 refine WL.y (X.lenF (k := 1) Tryz.runUnderlying28 rfl rfl) ?_
 refine WL.mv rfl ?_
 refine WL.z ?_
 refine WC.block ?_
 refine WC.loop (G := Nat × Value) (fun (k, vq) => R11.length - k) (fun (k, vq) => m9) (fun (k, vq) => [rowF (vq) 23 (mrgL (R11.take k)), rowF (v5) 23 (R11), rowF (v1) 28 ([RawV.mk v ho2, RawV.mk vl hM.one]), row (V) e sz (n) (xs.set off vq), rowF (v) 23 (L)]) (fun (k, vq) => [(0, .pointer (some (rp V off))), (20, v5), (21, .int .i64 (↑R11.length)), (22, .int .i64 (↑k))]) (fun (k, vq) => k ≤ R11.length) ((0, Value.slice none 0 0)) rfl (.refl _) (.cons rfl (.cons rfl (.cons rfl (.cons rfl .nil)))) ?_ ?_
 ·exact Nat.zero_le _
 ·rintro ⟨k, vq⟩ hF14
  show WK _ _ m9 [rowF (vq) 23 (mrgL (R11.take k)), rowF (v5) 23 (R11), rowF (v1) 28 ([RawV.mk v ho2, RawV.mk vl hM.one]), row (V) e sz (n) (xs.set off vq), rowF (v) 23 (L)] [(0, .pointer (some (rp V off))), (20, v5), (21, .int .i64 (↑R11.length)), (22, .int .i64 (↑k))] _
  replace hF14 : k ≤ R11.length := hF14
  have hk := hF14
  have hmb_ := spB_mrgL (l := R11.take k) (fun s hs => hRb_ s (List.mem_of_mem_take hs))
  have hml2_ := hmb_.2
  rw [List.length_take] at hml2_
  have hml3_ : (mrgL (R11.take k)).length ≤ k := (by omega)
  have hlast_ : 0 < (mrgL (R11.take k)).length → 0 ≤ (gt (mrgL (R11.take k)) ((mrgL (R11.take k)).length - 1)).Hi ∧ (gt (mrgL (R11.take k)) ((mrgL (R11.take k)).length - 1)).Hi ≤ 12000 := fun h_ => (spB_at hmb_.1 (by omega)).2
  refine WC.r ?_
  refine WL.cond (X.lss rfl rfl) (by decide) (fun h15 => ?_) (fun h15 => ?_)
  ·refine WL.z ?_
   refine WC.seq ?_
   refine WC.condT rfl ?_
   refine WC.skip ?_
   refine WK.nThen ?_
   refine WC.seq ?_
   refine WC.block ?_
   refine WC.r ?_
   refine WL.y (X.idxRowE (k := 1) k Tryz.runUnderlying28 Tryz.sizeOf23 rfl rfl rfl (by omega) (by first | omega | (simp; omega) | simp)) ?_
   refine WL.y (X.loadFs (k := 1) (i := k) (off := 0) (us := [.int .i64 (((gt R11 k)).Lo), .int .i64 (((gt R11 k)).Hi)]) Tryz.isAgg23 Tryz.sizeOf23 rfl rfl (by first | omega | (simp; omega) | simp) rfl rfl) ?_
   refine WL.tn (T.alloc Tryz.zeroValue23 rfl) (by decide) fun b16 => ?_
   refine WL.ts (T.storeBA (k := 0) Tryz.sizeOf23 rfl rfl rfl (one_cons rfl (one_cons rfl one_nil)) rfl rfl) ?_
   refine WL.z ?_
   refine WC.r ?_
   refine WL.mv rfl ?_
   refine WL.y (X.nilCheck rfl) ?_
   refine WL.y (X.field Tryz.runUnderlying184 rfl Tryz.sizeOf28 rfl) ?_
   refine WL.y (X.loadRow (k := 4) Tryz.isAgg28 rfl rfl (set_at hoff)) ?_
   refine WL.y (X.lenF (k := 1) Tryz.runUnderlying28 rfl rfl) ?_
   refine WL.ag rfl ?_
   refine WL.z ?_
   refine WC.seq ?_
   refine WC.seq ?_
   refine WC.draw (π := (.cons 0 (.cons 1 (.cons 2 (.cons 3 (.cons 4 (.cons 5 (.cons 6 (.cons 7 (.cons 8 (.cons 9 (.cons 10 (.cons 11 (.cons 12 (.cons 13 (.cons 14 (.cons 15 (.cons 16 .done)))))))))))))))))) [] [] rfl (by kernel_rfl) ?_
   refine DW.y rfl rfl (X.move rfl) ?_
   refine DW.cond rfl rfl (X.gtr rfl rfl) (by decide) (fun h17 => ?_) (fun h17 => ?_)
   ·refine DW.y rfl rfl (X.move rfl) ?_
    refine DW.y rfl rfl (X.field Tryz.runUnderlying23 rfl Tryz.sizeOf3 rfl) ?_
    refine DW.y rfl rfl (X.loadB (k := 0) Tryz.isAgg3 rfl rfl rfl) ?_
    refine DW.y rfl rfl (X.move rfl) ?_
    refine DW.y rfl rfl (X.nilCheck rfl) ?_
    refine DW.y rfl rfl (X.field Tryz.runUnderlying184 rfl Tryz.sizeOf28 rfl) ?_
    refine DW.y rfl rfl (X.loadRow (k := 4) Tryz.isAgg28 rfl rfl (set_at hoff)) ?_
    refine DW.y rfl rfl (X.move rfl) ?_
    refine DW.y rfl rfl (X.sub rfl rfl (by omega) (by omega)) ?_
    refine DW.y rfl rfl (X.idxRowE (k := 1) ((mrgL (R11.take k)).length - 1) Tryz.runUnderlying28 Tryz.sizeOf23 rfl rfl rfl (by omega) (by first | omega | (simp; omega) | simp)) ?_
    refine DW.y rfl rfl (X.field Tryz.runUnderlying23 rfl Tryz.sizeOf3 rfl) ?_
    refine DW.y rfl rfl (X.loadFp (k := 1) (i := (mrgL (R11.take k)).length - 1) (off := 1) (u := .int .i64 (((gt (mrgL (R11.take k)) ((mrgL (R11.take k)).length - 1))).Hi)) Tryz.isAgg3 rfl rfl (by first | omega | (simp; omega) | simp) rfl) ?_
    refine DW.y rfl rfl (X.add rfl rfl (by omega) (by omega)) ?_
    refine DW.cond rfl rfl (X.leq rfl rfl) (by decide) (fun h18 => ?_) (fun h18 => ?_)
    ·refine DW.y rfl rfl (X.pickT rfl rfl rfl) ?_
     refine DW.nil ?_
     refine WK.nThen ?_
     refine WC.condT rfl ?_
     refine WC.seq ?_
     refine WC.draw (π := (.cons 0 (.cons 1 (.cons 2 (.cons 3 (.cons 4 (.cons 5 (.cons 6 (.cons 7 (.cons 8 (.cons 9 (.cons 10 (.cons 11 (.cons 12 (.cons 13 (.cons 14 (.cons 15 (.cons 16 (.cons 17 (.cons 18 (.cons 19 (.cons 20 .done)))))))))))))))))))))) [20] [20] rfl (by kernel_rfl) ?_
     refine DW.y rfl rfl (X.move rfl) ?_
     refine DW.y rfl rfl (X.nilCheck rfl) ?_
     refine DW.y rfl rfl (X.field Tryz.runUnderlying184 rfl Tryz.sizeOf28 rfl) ?_
     refine DW.y rfl rfl (X.loadRow (k := 4) Tryz.isAgg28 rfl rfl (set_at hoff)) ?_
     refine DW.y rfl rfl (X.move rfl) ?_
     refine DW.y rfl rfl (X.sub rfl rfl (by omega) (by omega)) ?_
     refine DW.y rfl rfl (X.move rfl) ?_
     refine DW.y rfl rfl (X.nilCheck rfl) ?_
     refine DW.y rfl rfl (X.field Tryz.runUnderlying184 rfl Tryz.sizeOf28 rfl) ?_
     refine DW.y rfl rfl (X.loadRow (k := 4) Tryz.isAgg28 rfl rfl (set_at hoff)) ?_
     refine DW.y rfl rfl (X.move rfl) ?_
     refine DW.y rfl rfl (X.sub rfl rfl (by omega) (by omega)) ?_
     refine DW.y rfl rfl (X.idxRowE (k := 1) ((mrgL (R11.take k)).length - 1) Tryz.runUnderlying28 Tryz.sizeOf23 rfl rfl rfl (by omega) (by first | omega | (simp; omega) | simp)) ?_
     refine DW.y rfl rfl (X.field Tryz.runUnderlying23 rfl Tryz.sizeOf3 rfl) ?_
     refine DW.y rfl rfl (X.loadFp (k := 1) (i := (mrgL (R11.take k)).length - 1) (off := 1) (u := .int .i64 (((gt (mrgL (R11.take k)) ((mrgL (R11.take k)).length - 1))).Hi)) Tryz.isAgg3 rfl rfl (by first | omega | (simp; omega) | simp) rfl) ?_
     refine DW.y rfl rfl (X.field Tryz.runUnderlying23 rfl Tryz.sizeOf3 rfl) ?_
     refine DW.y rfl rfl (X.loadB (k := 0) Tryz.isAgg3 rfl rfl rfl) ?_
     refine DW.y rfl rfl (X.mx rfl rfl) ?_
     refine DW.y rfl rfl (X.idxRowE (k := 1) ((mrgL (R11.take k)).length - 1) Tryz.runUnderlying28 Tryz.sizeOf23 rfl rfl rfl (by omega) (by first | omega | (simp; omega) | simp)) ?_
     refine DW.y rfl rfl (X.field Tryz.runUnderlying23 rfl Tryz.sizeOf3 rfl) ?_
     refine DW.ts rfl rfl rfl rfl (T.storeFp (k := 1) (i := (mrgL (R11.take k)).length - 1) (off := 1) (us := [.int .i64 (max (((gt (mrgL (R11.take k)) ((mrgL (R11.take k)).length - 1))).Hi) (((gt R11 k)).Hi))]) ((Span.mk (((gt (mrgL (R11.take k)) ((mrgL (R11.take k)).length - 1))).Lo) (max (((gt (mrgL (R11.take k)) ((mrgL (R11.take k)).length - 1))).Hi) (((gt R11 k)).Hi)))) Tryz.sizeOf3 rfl rfl rfl rfl (Nat.zero_lt_succ _) rfl (by first | omega | (simp; omega) | simp) rfl rfl (one_cons rfl one_nil)) ?_
     refine DW.nil ?_
     refine WK.nThen ?_
     refine WC.exit ?_
     refine WK.eThen ?_
     refine WK.eHit ?_
     refine WK.nThen ?_
     refine WC.region ?_
     refine WL.y (X.add rfl rfl (by omega) (by omega)) ?_
     refine WL.mv rfl ?_
     refine WL.z ?_
     have he19 : ((mrgL (R11.take k)).set ((mrgL (R11.take k)).length - 1) ((Span.mk (((gt (mrgL (R11.take k)) ((mrgL (R11.take k)).length - 1))).Lo) (max (((gt (mrgL (R11.take k)) ((mrgL (R11.take k)).length - 1))).Hi) (((gt R11 k)).Hi))))) = (mrgL (R11.take (k + 1))) := ((mrgL_take (by omega)).trans (mrg1_yes ⟨by omega, by omega⟩)).symm
     rw [he19]
     refine WK.next ((k + 1, vq)) rfl (.cons _ (.cons_cons _ (.cons_cons _ (.cons_cons _ (.cons_cons _ (.cons_cons _ .slnil)))))) (.cons rfl (.cons rfl (.cons rfl (.cons rfl .nil)))) ?_ ?_
     ·omega
     ·(dsimp only; omega)
    ·refine DW.y rfl rfl (X.pickT rfl rfl rfl) ?_
     refine DW.nil ?_
     refine WK.nThen ?_
     refine WC.condF rfl ?_
     refine WC.skip ?_
     refine WK.nThen ?_
     refine WC.draw (π := (.cons 0 (.cons 1 (.cons 2 (.cons 3 (.cons 4 (.cons 5 (.cons 6 (.cons 7 (.cons 8 (.cons 9 (.cons 10 .done)))))))))))) [6, 7, 10] [7, 10] rfl (by kernel_rfl) ?_
     refine DW.y rfl rfl (X.move rfl) ?_
     refine DW.y rfl rfl (X.move rfl) ?_
     refine DW.y rfl rfl (X.nilCheck rfl) ?_
     refine DW.y rfl rfl (X.field Tryz.runUnderlying184 rfl Tryz.sizeOf28 rfl) ?_
     refine DW.y rfl rfl (X.loadRow (k := 4) Tryz.isAgg28 rfl rfl (set_at hoff)) ?_
     refine DW.y rfl rfl (X.loadBA (k := 0) Tryz.isAgg23 Tryz.sizeOf23 rfl rfl rfl) ?_
     refine DW.tl rfl rfl rfl (T.lit1 sl28 rfl rfl rfl (by decide)) (by decide) fun b20 => ?_
     refine DW.ta rfl rfl rfl rfl (T.appendF (k := 1) (a := gt R11 k) sl28 rfl rfl rfl rfl (by first | omega | (simp; done) | (simp; omega)) (by decide)) (by decide) (fun v21 => ?_)
     refine DW.y rfl rfl (X.nilCheck rfl) ?_
     refine DW.y rfl rfl (X.field Tryz.runUnderlying184 rfl Tryz.sizeOf28 rfl) ?_
     refine DW.ts rfl rfl rfl rfl (OpTo.own1 (k := 1) rfl trivial (defd2 rfl rfl rfl) fun ho22 => T.storeC2 (k := 4) Tryz.sizeOf28 rfl rfl rfl ho22 hoff) ?_
     refine DW.nil ?_
     refine WK.nBlock ?_
     refine WK.nThen ?_
     refine WC.region ?_
     refine WL.y (X.add rfl rfl (by omega) (by omega)) ?_
     refine WL.mv rfl ?_
     refine WL.z ?_
     have he23 : ((mrgL (R11.take k)) ++ [gt R11 k]) = (mrgL (R11.take (k + 1))) := ((mrgL_take (by omega)).trans (mrg1_no (fun h_ => by have h1_ := h_.1; have h2_ := h_.2; omega))).symm
     rw [he23]
     refine WK.next ((k + 1, v21)) rfl (.cons _ (.cons_cons _ (.cons_cons _ (.cons_cons _ (.cons_cons _ (.cons_cons _ .slnil)))))) (.cons rfl (.cons rfl (.cons rfl (.cons rfl .nil)))) ?_ ?_
     ·omega
     ·(dsimp only; omega)
   ·refine DW.y rfl rfl (X.move rfl) ?_
    refine DW.no rfl rfl (by decide) ?_
    refine DW.no rfl rfl (by decide) ?_
    refine DW.no rfl rfl (by decide) ?_
    refine DW.no rfl rfl (by decide) ?_
    refine DW.no rfl rfl (by decide) ?_
    refine DW.no rfl rfl (by decide) ?_
    refine DW.no rfl rfl (by decide) ?_
    refine DW.no rfl rfl (by decide) ?_
    refine DW.no rfl rfl (by decide) ?_
    refine DW.no rfl rfl (by decide) ?_
    refine DW.no rfl rfl (by decide) ?_
    refine DW.no rfl rfl (by decide) ?_
    refine DW.no rfl rfl (by decide) ?_
    refine DW.y rfl rfl (X.pickF rfl rfl rfl) ?_
    refine DW.nil ?_
    refine WK.nThen ?_
    refine WC.condF rfl ?_
    refine WC.skip ?_
    refine WK.nThen ?_
    refine WC.draw (π := (.cons 0 (.cons 1 (.cons 2 (.cons 3 (.cons 4 (.cons 5 (.cons 6 (.cons 7 (.cons 8 (.cons 9 (.cons 10 .done)))))))))))) [6, 7, 10] [7, 10] rfl (by kernel_rfl) ?_
    refine DW.y rfl rfl (X.move rfl) ?_
    refine DW.y rfl rfl (X.move rfl) ?_
    refine DW.y rfl rfl (X.nilCheck rfl) ?_
    refine DW.y rfl rfl (X.field Tryz.runUnderlying184 rfl Tryz.sizeOf28 rfl) ?_
    refine DW.y rfl rfl (X.loadRow (k := 4) Tryz.isAgg28 rfl rfl (set_at hoff)) ?_
    refine DW.y rfl rfl (X.loadBA (k := 0) Tryz.isAgg23 Tryz.sizeOf23 rfl rfl rfl) ?_
    refine DW.tl rfl rfl rfl (T.lit1 sl28 rfl rfl rfl (by decide)) (by decide) fun b24 => ?_
    refine DW.ta rfl rfl rfl rfl (T.appendF (k := 1) (a := gt R11 k) sl28 rfl rfl rfl rfl (by first | omega | (simp; done) | (simp; omega)) (by decide)) (by decide) (fun v25 => ?_)
    refine DW.y rfl rfl (X.nilCheck rfl) ?_
    refine DW.y rfl rfl (X.field Tryz.runUnderlying184 rfl Tryz.sizeOf28 rfl) ?_
    refine DW.ts rfl rfl rfl rfl (OpTo.own1 (k := 1) rfl trivial (defd2 rfl rfl rfl) fun ho26 => T.storeC2 (k := 4) Tryz.sizeOf28 rfl rfl rfl ho26 hoff) ?_
    refine DW.nil ?_
    refine WK.nBlock ?_
    refine WK.nThen ?_
    refine WC.region ?_
    refine WL.y (X.add rfl rfl (by omega) (by omega)) ?_
    refine WL.mv rfl ?_
    refine WL.z ?_
    have he27 : ((mrgL (R11.take k)) ++ [gt R11 k]) = (mrgL (R11.take (k + 1))) := ((mrgL_take (by omega)).trans (mrg1_no (fun h_ => by have h1_ := h_.1; have h2_ := h_.2; omega))).symm
    rw [he27]
    refine WK.next ((k + 1, v25)) rfl (.cons _ (.cons_cons _ (.cons_cons _ (.cons_cons _ (.cons_cons _ (.cons_cons _ .slnil)))))) (.cons rfl (.cons rfl (.cons rfl (.cons rfl .nil)))) ?_ ?_
    ·omega
    ·(dsimp only; omega)
  ·refine WL.z ?_
   refine WC.seq ?_
   refine WC.condF rfl ?_
   refine WC.exit ?_
   refine WK.eThen ?_
   refine WK.eThen ?_
   refine WK.eHit ?_
   have hkR_ : k = R11.length := (by omega)
   have he28 : (mrgL (R11.take k)) = (unionC (L ++ M)) := (by rw [hkR_, List.take_length]; exact mrgL_union hR12.1 hR12.2 hv_)
   rw [he28]
   refine WK.perm [rowF (v5) 23 (R11), rowF (v1) 28 ([RawV.mk v ho2, RawV.mk vl hM.one]), rowF (v) 23 (L), row (V) e sz (n) (xs.set off vq), rowF (vq) 23 (unionC (L ++ M))] ((List.Perm.cons _ ((List.Perm.cons _ ((List.Perm.cons _ ((List.Perm.cons _ (.refl _)).trans (List.perm_middle (l₁ := [rowF (vq) 23 (unionC (L ++ M))]) (l₂ := []) (a := row (V) e sz (n) (xs.set off vq))).symm)).trans (List.perm_middle (l₁ := [rowF (vq) 23 (unionC (L ++ M)), row (V) e sz (n) (xs.set off vq)]) (l₂ := []) (a := rowF (v) 23 (L))).symm)).trans (List.perm_middle (l₁ := [rowF (vq) 23 (unionC (L ++ M))]) (l₂ := [row (V) e sz (n) (xs.set off vq), rowF (v) 23 (L)]) (a := rowF (v1) 28 ([RawV.mk v ho2, RawV.mk vl hM.one]))).symm)).trans (List.perm_middle (l₁ := [rowF (vq) 23 (unionC (L ++ M))]) (l₂ := [rowF (v1) 28 ([RawV.mk v ho2, RawV.mk vl hM.one]), row (V) e sz (n) (xs.set off vq), rowF (v) 23 (L)]) (a := rowF (v5) 23 (R11))).symm) ?_
   refine WK.own1 (k := 4) rfl (fun hoq_ => ?_)
   refine WK.end0 rfl (fun w' hw' => Ret.mut (hw'.weaken (.cons _ (.cons _ (.cons _ (.refl _))))) ?_)
   exact ⟨rfl, _, rfl, hoq_⟩

end Go.Proofs.T10
