import Derived.Test.YtooomcigmleneaaGreatKxW
import Derived.Test.YtooomcigmleneaaGreatT10KLaw
import Derived.Test.YtooomcigmleneaaGreatT10W21
/- Top: walks, examples of the document, by program. -/
namespace Go.Proofs.T10
open Go Go.Kx
set_option linter.unusedSimpArgs false
set_option linter.unusedVariables false

theorem within122 (m : Mem) (n : Int) (lo : Int) (hi : Int)   : Exact Tryz.prog 122 #[.int .i64 (n), .int .i64 (lo), .int .i64 (hi)] m (.bool (decide (lo ≤ n ∧ n ≤ hi))) := by
 refine Exact.start Tryz.func122 rfl Tryz.ntmps122 rfl fun wld => ?_
 refine WC.r ?_
 refine WL.ag rfl ?_
 refine WL.z ?_
 refine WC.r ?_
 refine WL.mv rfl ?_
 refine WL.mv rfl ?_
 refine WL.cond (X.geq rfl rfl) (by decide) (fun h1 => ?_) (fun h1 => ?_)
 ·refine WL.mv rfl ?_
  refine WL.yes rfl rfl ?_
  refine WL.mv rfl ?_
  refine WL.yes rfl rfl ?_
  refine WL.mv rfl ?_
  refine WL.yes rfl rfl ?_
  refine WL.y (X.leq rfl rfl) ?_
  refine WL.y (X.pickT rfl rfl rfl) ?_
  refine WL.ag rfl ?_
  refine WL.z ?_
  refine WC.ret ?_
  refine WK.ret1 rfl rfl (fun w' hw' => Ret.exact hw' ?_)
  first | exact bool_true (by omega) | exact bool_false (by omega) | exact dec_eq (by omega)
 ·refine WL.mv rfl ?_
  refine WL.no rfl rfl rfl (by decide) ?_
  refine WL.no rfl rfl rfl (by decide) ?_
  refine WL.no rfl rfl rfl (by decide) ?_
  refine WL.y (X.pickF rfl rfl rfl) ?_
  refine WL.ag rfl ?_
  refine WL.z ?_
  refine WC.ret ?_
  refine WK.ret1 rfl rfl (fun w' hw' => Ret.exact hw' ?_)
  first | exact bool_true (by omega) | exact bool_false (by omega) | exact dec_eq (by omega)

theorem isrec63 (m : Mem) {v : Value} {L : List RawV} (hL : Sl m v L) : Exact Tryz.prog 63 #[v] m (.bool (decide (1 ≤ (L.length : Int) ∧ (L.length : Int) ≤ 30000))) := by
 refine Exact.start Tryz.func63 rfl Tryz.ntmps63 rfl fun wld => ?_
 refine WC.r ?_
 refine WL.ag rfl ?_
 refine WL.z ?_
 refine WC.r ?_
 refine WL.mv rfl ?_
 refine WL.y (X.len Tryz.runUnderlying92 rfl hL) ?_
 refine WL.y (X.call Tryz.call122 rfl (within122 _ _ _ _ )) ?_
 refine WL.ag rfl ?_
 refine WL.z ?_
 refine WC.ret ?_
 refine WK.ret1 rfl rfl (fun w' hw' => Ret.exact hw' ?_)
 first | rfl | (simp [*]; done)

theorem chunk211 (m : Mem) {L : List RawV} {ps pn : Addr} (hps : At m ps L) (hpn : At m pn (62 : Int)) (h1 : 0 < L.length) (h2 : L.length ≤ 62) : Iter Tryz.prog 211 [.pointer (some ps), .pointer (some pn)] m false 1 (fun _ m1 args => ∃ v, args = #[v] ∧ Sl m1 v L) := by
 intro lo S HS I Ix s0 hone hmono hy h0
 refine Mut.start Tryz.func211 rfl Tryz.ntmps211 rfl fun wld => ?_
 refine WC.r ?_
 refine WL.ag rfl ?_
 refine WL.z ?_
 refine WC.block ?_
 have hm0_ : m.le m := Mem.le_refl _
 refine WC.loop (G := Nat × Int × Mem × S) (fun (k, z, mm, ss) => 1 - k) (fun (k, z, mm, ss) => mm) (fun (k, z, mm, ss) => ([] ++ HS ss)) (fun (k, z, mm, ss) => [(0, .func (.yield lo) #[] #[]), (1, .pointer (some (ps))), (2, .pointer (some (pn))), (4, .int .i64 (z))]) (fun (k, z, mm, ss) => m.le mm ∧ I k mm ss ∧ ((k = 0 ∧ z = 0) ∨ (k = 1 ∧ z = 62))) ((0, 0, m, s0)) rfl (.refl _) (.cons rfl (.cons rfl (.cons rfl (.cons rfl .nil)))) ?_ ?_
 ·exact ⟨Mem.le_refl _, h0, .inl ⟨rfl, rfl⟩⟩
 ·rintro ⟨k, z, mm, ss⟩ hF1
  show WK _ _ mm ([] ++ HS ss) [(0, .func (.yield lo) #[] #[]), (1, .pointer (some (ps))), (2, .pointer (some (pn))), (4, .int .i64 (z))] _
  replace hF1 : m.le mm ∧ I k mm ss ∧ ((k = 0 ∧ z = 0) ∨ (k = 1 ∧ z = 62)) := hF1
  obtain ⟨hmm, hI, hk⟩ := hF1
  replace hps := hps.mono hmm
  replace hpn := hpn.mono hmm
  refine WC.seq ?_
  refine WC.r ?_
  refine WL.mv rfl ?_
  refine WL.xe (E.loadSl Tryz.isAgg92 rfl hps) (by decide) (fun v2 hs3 => ?_)
  have hl4 := hs3.le
  refine WL.y (X.len Tryz.runUnderlying92 rfl hs3) ?_
  refine WL.cond (X.lss rfl rfl) (by decide) (fun h5 => ?_) (fun h5 => ?_)
  ·refine WL.z ?_
   refine WC.condT rfl ?_
   refine WC.skip ?_
   refine WK.nThen ?_
   refine WC.seq ?_
   refine WC.block ?_
   refine WC.seq ?_
   have hz_ : z = 0 := (by omega)
   rw [hz_]
   refine WC.draw (π := (.cons 0 (.cons 1 (.cons 2 (.cons 3 (.cons 4 (.cons 5 (.cons 6 .done)))))))) [] [] rfl (by kernel_rfl) ?_
   refine DW.y rfl rfl (X.loadInt Tryz.isAgg3 rfl hpn) ?_
   refine DW.xe rfl rfl (E.loadSl Tryz.isAgg92 rfl hps) (by decide) (fun v6 hs7 => ?_)
   have hl8 := hs7.le
   refine DW.y rfl rfl (X.move rfl) ?_
   refine DW.xe rfl rfl (E.slL 0 Tryz.underlying92 Tryz.sizeOf5 rfl rfl hs7 (by omega) (by omega)) (by decide) (fun v9 hs10 => ?_)
   refine DW.y rfl rfl (X.len Tryz.runUnderlying92 rfl hs10) ?_
   refine DW.y rfl rfl (X.mn rfl rfl) ?_
   refine DW.y rfl rfl (X.assign rfl) ?_
   refine DW.nil ?_
   refine WK.nThen ?_
   refine WC.r ?_
   refine WL.mv rfl ?_
   refine WL.xe (E.loadSl Tryz.isAgg92 rfl hps) (by decide) (fun v11 hs12 => ?_)
   have hl13 := hs12.le
   refine WL.mv rfl ?_
   refine WL.mv rfl ?_
   refine WL.mv rfl ?_
   refine WL.y (X.add rfl rfl (by omega) (by omega)) ?_
   refine WL.mv rfl ?_
   refine WL.mv rfl ?_
   refine WL.y (X.add rfl rfl (by omega) (by omega)) ?_
   refine WL.xe (E.slLHM 0 L.length Tryz.underlying92 Tryz.sizeOf5 rfl rfl rfl rfl hs12 rfl (by rw [List.drop_zero]; omega) (by rw [List.drop_zero]; omega) (by omega) (by omega)) (by decide) (fun v14 hs15 => ?_)
   have hs15b : Sl mm v14 L := (by have h_ := hs15.1; rw [List.drop_zero, Nat.sub_zero, List.take_length] at h_; exact h_)
   refine WL.tY (T.yield (A := []) rfl rfl rfl (hy k _ _ _ (by omega) hmm ⟨_, rfl, hs15b⟩ hI)) (by decide) (fun m2_ H2_ hT_ => ?_) (fun m2_ H2_ hT_ => ?_)
   ·obtain ⟨hle2_, s2_, rfl, hI2_⟩ := hT_
    replace hps := hps.mono hle2_
    replace hpn := hpn.mono hle2_
    replace hs3 := hs3.mono hle2_
    replace hs7 := hs7.mono hle2_
    replace hs10 := hs10.mono hle2_
    replace hs12 := hs12.mono hle2_
    replace hs15b := hs15b.mono hle2_
    refine WL.y (X.not rfl) ?_
    refine WL.z ?_
    refine WC.condF rfl ?_
    refine WC.skip ?_
    refine WK.nBlock ?_
    refine WK.nThen ?_
    refine WC.region ?_
    refine WL.mv rfl ?_
    refine WL.y (X.loadInt Tryz.isAgg3 rfl hpn) ?_
    refine WL.y (X.add rfl rfl (by omega) (by omega)) ?_
    refine WL.ag rfl ?_
    refine WL.z ?_
    refine WK.next ((k + 1, 0 + 62, m2_, s2_)) rfl (.refl _) (.cons rfl (.cons rfl (.cons rfl (.cons rfl .nil)))) ?_ ?_
    ·exact ⟨Mem.le_trans hmm hle2_, hI2_, .inr ⟨by omega, by omega⟩⟩
    ·(dsimp only; omega)
   ·obtain ⟨hle2_, s2_, rfl, hI2_⟩ := hT_
    replace hps := hps.mono hle2_
    replace hpn := hpn.mono hle2_
    replace hs3 := hs3.mono hle2_
    replace hs7 := hs7.mono hle2_
    replace hs10 := hs10.mono hle2_
    replace hs12 := hs12.mono hle2_
    replace hs15b := hs15b.mono hle2_
    refine WL.y (X.not rfl) ?_
    refine WL.z ?_
    refine WC.condT rfl ?_
    refine WC.ret ?_
    refine WK.rBlock ?_
    refine WK.rThen ?_
    refine WK.rThen ?_
    refine WK.rBlock ?_
    refine WK.ret0 rfl (fun w' hw' => Ret.mut (hw'.weaken (.refl _)) ?_)
    exact ⟨s2_, rfl, .inr ⟨k + 1, by omega, hI2_⟩⟩
  ·refine WL.z ?_
   refine WC.condF rfl ?_
   refine WC.exit ?_
   refine WK.eThen ?_
   refine WK.eThen ?_
   refine WK.eHit ?_
   refine WK.end0 rfl (fun w' hw' => Ret.mut (hw'.weaken (.refl _)) ?_)
   obtain rfl : k = 1 := (by omega)
   exact ⟨ss, rfl, .inl hI⟩

theorem chunk123 (m : Mem) {v : Value} {L : List RawV} (hL : Sl m v L) (h1 : 0 < L.length) (h2 : L.length ≤ 62) : Pure Tryz.prog 123 #[v, .int .i64 62] m (fun m' v => ∃ lb, v = .func (.func 211) #[] lb.toArray ∧ Iter Tryz.prog 211 lb m' false 1 (fun _ m1 args => ∃ v, args = #[v] ∧ Sl m1 v L)) := by
 refine Pure.start Tryz.func123 rfl Tryz.ntmps123 rfl fun wld => ?_
 refine WC.r ?_
 refine WL.tn (T.boxB (cs := [v]) rfl (one_cells hL.one)) (by decide) fun b1 => ?_
 refine WL.tn (T.boxB rfl rfl) (by decide) fun b2 => ?_
 refine WL.ag rfl ?_
 refine WL.z ?_
 refine WC.seq ?_
 refine WC.seq ?_
 refine WK.freezeS (α := (List RawV)) (x := L) 1 rfl rfl (show Enc.rd (α := (List RawV)) m [v] L from ⟨_, rfl, hL⟩) (fun m3 hle4 hp5 => ?_)
 replace hL := hL.mono hle4
 refine WK.freezeS (α := Int) (x := 62) 0 rfl rfl (show Enc.rd (α := Int) m3 [.int .i64 (62)] 62 from rfl) (fun m6 hle7 hp8 => ?_)
 replace hL := hL.mono hle7
 replace hp5 := hp5.mono hle7
 refine WC.region ?_
 refine WL.y (X.loadInt Tryz.isAgg3 rfl hp8) ?_
 refine WL.y (X.lss rfl rfl) ?_
 refine WL.z ?_
 refine WC.condF rfl ?_
 refine WC.skip ?_
 refine WK.nThen ?_
 refine WC.r ?_
 refine WL.y (X.makeFunc (by intro x hx; simp at hx; rcases hx with rfl | rfl; all_goals exact ⟨_, rfl⟩) rfl) ?_
 refine WL.ag rfl ?_
 refine WL.z ?_
 refine WC.ret ?_
 refine WK.ret1 rfl rfl (fun w' hw' => Ret.mem hw' ?_)
 exact ⟨_, rfl, chunk211 _ hp5 hp8 h1 h2⟩

set_option maxHeartbeats 2000000 in
theorem blocks64 (m : Mem) {v : Value} {L : List RawV} (hL : Sl m v L) (h1 : 0 < L.length) (h2 : L.length ≤ 62) : Mut Tryz.prog 64 #[v] m [] (fun _ Es u => ∃ ys, Es = [row u 160 64 1 ys] ∧ Bk ys ∧ u.oneCell' = true) := by
 refine Mut.start Tryz.func64 rfl Tryz.ntmps64 rfl fun wld => ?_
 refine WC.r ?_
 refine WL.tn (T.boxB (cs := [v]) rfl (one_cells hL.one)) (by decide) fun b1 => ?_
 refine WL.ag rfl ?_
 refine WL.z ?_
 refine WC.r ?_
 refine WL.tn (T.alloc Tryz.zeroValue157 rfl) (by decide) fun b2 => ?_
 refine WL.z ?_
 refine WC.seq ?_
 refine WC.seq ?_
 refine WK.freezeS (α := (List RawV)) (x := L) 1 rfl rfl (show Enc.rd (α := (List RawV)) m [v] L from ⟨_, rfl, hL⟩) (fun m3 hle4 hp5 => ?_)
 replace hL := hL.mono hle4
 refine WK.own0 160 64 ?_
 refine WC.region ?_
 refine WL.xe (E.loadSl Tryz.isAgg92 rfl hp5) (by decide) (fun v6 hs7 => ?_)
 have hl8 := hs7.le
 refine WL.tm (T.call Tryz.call123 rfl (chunk123 _ hs7 h1 h2)) (by decide) (fun m9 _ hle10 hR_ => ?_)
 obtain ⟨lb11, rfl, hit12⟩ := hR_
 replace hL := hL.mono hle10
 replace hp5 := hp5.mono hle10
 replace hs7 := hs7.mono hle10
 refine WL.z ?_
 refine WC.block ?_
 refine WC.rangeFunc (S := Value × Nat × List Value) (G := Unit) (ps := [8]) (n := 1) (A := (fun _ m1 args => ∃ v, args = #[v] ∧ Sl m1 v L)) rfl Tryz.call211 hit12 (fun q_ : Value × Nat × List Value => [row (q_.1) 160 64 (q_.2.1) (q_.2.2), blk b2 157 [q_.1]]) (fun i _ q_ => OneB i q_) (fun _ _ _ _ => False) (.slice none 0 0, 0, []) rfl oneB_zero (fun h => by cases h) (fun _ _ _ _ _ h => h) (by simp) (fun i m1 args h => by obtain ⟨_, rfl, _⟩ := h; rfl) (fun _ gh => (fun q_ : Value × Nat × List Value => [row (q_.1) 160 64 (q_.2.1) (q_.2.2), blk b2 157 [q_.1]]) gh) (fun _ args => (4, args.headD undef) :: [(0, v), (1, .pointer (some ((⟨b1, 0, none⟩ : Addr)))), (2, .slice none 0 0), (3, .pointer (some ⟨b2, 0, none⟩)), (6, v6), (7, .func (.func 211) #[] lb11.toArray)]) ?_ ?_ ?_ ?_ ?_
 ·intro lo B1 m1 gh args KK hlen hKK
  obtain ⟨x, rfl⟩ := len1 hlen
  refine WC.region ?_
  refine WL.ag rfl ?_
  refine WL.z ?_
  exact WK.keep (.cons rfl (.cons rfl (.cons rfl (.cons rfl (.cons rfl (.cons rfl (.cons rfl .nil))))))) (hKK ())
 ·intro lo B1 i m1 gh args _ hlen hi hm1 hA1 hI1
  obtain ⟨x, rfl⟩ := len1 hlen
  obtain ⟨vp, hvp, hpt⟩ := hA1
  obtain rfl : x = vp := (by simpa using hvp)
  obtain rfl : i = 0 := (by omega)
  obtain rfl : gh = (.slice none 0 0, 0, []) := hI1.elim (fun h => h.2) (fun h => absurd h.1 (by decide))
  replace hL := hL.mono hm1
  replace hp5 := hp5.mono hm1
  replace hs7 := hs7.mono hm1
  show WK _ _ m1 [row (.slice none 0 0) 160 64 (0) ([]), blk b2 157 [.slice none 0 0]] ((4, x) :: [(0, v), (1, .pointer (some ((⟨b1, 0, none⟩ : Addr)))), (2, .slice none 0 0), (3, .pointer (some ⟨b2, 0, none⟩)), (6, v6), (7, .func (.func 211) #[] lb11.toArray)]) _
  refine WC.block ?_
  refine WC.r ?_
  refine WL.tn (T.alloc (cs := List.replicate 64 (.int .u8 0)) Tryz.zeroValue160 rfl) (by decide) fun b13 => ?_
  refine WL.z ?_
  refine WC.r ?_
  refine WL.mv rfl ?_
  refine WL.y (X.len Tryz.runUnderlying92 rfl hpt) ?_
  refine WL.y (X.conv Tryz.runUnderlying3 Tryz.runUnderlying5 rfl (wrap_u8 (by omega) (by omega))) ?_
  refine WL.y (X.idxArB 0 Tryz.underlying160 Tryz.sizeOf5 rfl rfl rfl (by decide)) ?_
  refine WL.ts (T.storeB (k := 0) (off := 0) Tryz.sizeOf5 rfl rfl rfl rfl (by rw [(Bk.zero).1]; decide)) ?_
  refine WL.z ?_
  refine WC.seq ?_
  refine WC.r ?_
  refine WL.y (X.loadB (k := 2) Tryz.isAgg157 rfl rfl rfl) ?_
  refine WL.y (X.lenRow (k := 1) Tryz.runUnderlying157 rfl rfl) ?_
  refine WL.xe (E.loadSl Tryz.isAgg92 rfl hp5) (by decide) (fun v14 hs15 => ?_)
  have hl16 := hs15.le
  refine WL.y (X.len Tryz.runUnderlying92 rfl hs15) ?_
  refine WL.y (X.sub rfl rfl (by omega) (by omega)) ?_
  refine WL.y (X.quo rfl rfl (by omega) (by omega) (by omega)) ?_
  refine WL.y (OpX.t (X.eql rfl rfl) (by omega)) ?_
  refine WL.z ?_
  refine WC.condT rfl ?_
  refine WC.region ?_
  refine WL.y (X.idxArB 1 Tryz.underlying160 Tryz.sizeOf5 rfl rfl rfl (by decide)) ?_
  refine WL.ts (T.storeB (k := 0) (off := 1) Tryz.sizeOf5 rfl rfl rfl rfl (by rw [((Bk.zero).set 0 (v := .int .u8 (↑L.length)) rfl).1]; decide)) ?_
  refine WL.z ?_
  refine WC.seq ?_
  refine WK.blkRow (k := 0) (n := 64) rfl (((Bk.zero).set 0 (v := .int .u8 (↑L.length)) rfl).set 1 (v := .int .u8 (1)) rfl).1 (by decide) ?_
  refine WC.region ?_
  refine WL.y (X.slArL 2 Tryz.underlying160 Tryz.sizeOf5 rfl rfl rfl (by decide)) ?_
  refine WL.mv rfl ?_
  refine WL.to (T.copyB (k := 0) Tryz.underlying92 Tryz.sizeOf5 rfl rfl hpt rfl (((Bk.zero).set 0 (v := .int .u8 (↑L.length)) rfl).set 1 (v := .int .u8 (1)) rfl) (by omega) (by omega) (by omega)) (by decide) (fun _ m_ H_ hz_ => ?_)
  obtain ⟨rfl, ys17, hB18, rfl⟩ := hz_
  refine WL.z ?_
  refine WC.region ?_
  refine WL.y (X.loadB (k := 2) Tryz.isAgg157 rfl rfl rfl) ?_
  refine WL.y (X.loadRowP (k := 0) (off := 0) (us := ys17) Tryz.isAgg160 Tryz.sizeOf160 rfl rfl (hB18).1 Bk.part) ?_
  refine WL.tl (T.lit1 (cs := ys17) sl157 rfl rfl hB18.1 (by decide)) (by decide) fun b19 => ?_
  refine WL.ta (T.appendN (k := 1) (n' := 1) sl157 rfl rfl rfl rfl hB18.1 hB18.2 rfl (by decide) (by decide)) (by decide) (fun v20 => ?_)
  refine WL.own1 (k := 1) rfl (fun ho21 => ?_)
  refine WL.ts (T.storeB (k := 2) Tryz.sizeOf157 rfl rfl rfl ho21 (Nat.le_of_ble_eq_true rfl)) ?_
  refine WL.nil ?_
  refine WK.nBlock ?_
  refine WK.own1 (k := 1) rfl (fun ho_ => ?_)
  exact WK.goOn (v20, 1, [] ++ ys17) (Mem.le_refl _) (.cons _ (.refl _)) (.inr ⟨rfl, rfl, hB18, ho_⟩)
 ·intro m1 gh hm1 hI1
  obtain ⟨vo, n_, ys⟩ := gh
  obtain ⟨hn_, hB_, ho_⟩ : n_ = 1 ∧ Bk ys ∧ vo.oneCell' = true := hI1.elim (fun h => absurd h.1 (by decide)) (fun h => h.2)
  subst hn_
  replace hL := hL.mono hm1
  replace hp5 := hp5.mono hm1
  replace hs7 := hs7.mono hm1
  refine WK.keep (σ' := [(0, v), (1, .pointer (some ((⟨b1, 0, none⟩ : Addr)))), (2, .slice none 0 0), (3, .pointer (some ⟨b2, 0, none⟩)), (6, v6), (7, .func (.func 211) #[] lb11.toArray)]) (.cons rfl (.cons rfl (.cons rfl (.cons rfl (.cons rfl (.cons rfl .nil)))))) ?_
  show WK _ _ m1 [row (vo) 160 64 (1) (ys), blk b2 157 [vo]] [(0, v), (1, .pointer (some ((⟨b1, 0, none⟩ : Addr)))), (2, .slice none 0 0), (3, .pointer (some ⟨b2, 0, none⟩)), (6, v6), (7, .func (.func 211) #[] lb11.toArray)] _
  refine WK.nBlock ?_
  refine WK.nThen ?_
  refine WC.r ?_
  refine WL.y (X.loadB (k := 1) Tryz.isAgg157 rfl rfl rfl) ?_
  refine WL.ag rfl ?_
  refine WL.z ?_
  refine WC.ret ?_
  refine WK.ret1 rfl rfl (fun w' hw' => Ret.mut (hw'.weaken (.cons_cons _ (.cons _ .slnil))) ?_)
  exact ⟨_, rfl, hB_, ho_⟩
 ·intro i m1 gh hm1 hi hI1
  exact hI1.elim
 ·intro id i m1 gh hm1 hi hI1
  exact hI1.elim

set_option maxHeartbeats 2000000 in
theorem blocks21 (m : Mem) {v : Value} {L : List RawV} (hL : Sl m v L) (h1 : 0 < L.length) (h2 : L.length ≤ 1) : Pure Tryz.prog 21 #[v] m (fun m' u => ∃ (r : Value) (M : List RawV), u = .tuple #[r, .int .i64 0] ∧ Sl m' r M ∧ M.length = 1) := by
 refine Pure.start Tryz.func21 rfl Tryz.ntmps21 rfl fun wld => ?_
 refine WC.r ?_
 refine WL.ag rfl ?_
 refine WL.ag rfl ?_
 refine WL.z ?_
 refine WC.seq ?_
 refine WC.r ?_
 refine WL.mv rfl ?_
 refine WL.y (OpX.t (X.call Tryz.call63 rfl (isrec63 _ hL)) ⟨by omega, by omega⟩) ?_
 refine WL.y (X.not rfl) ?_
 refine WL.z ?_
 refine WC.condF rfl ?_
 refine WC.skip ?_
 refine WK.nThen ?_
 refine WC.seq ?_
 refine WK.ownF RawV 92 ?_
 refine WK.own0 92 1 ?_
 refine WC.region ?_
 refine WL.ag rfl ?_
 refine WL.z ?_
 refine WC.seq ?_
 refine WC.r ?_
 refine WL.mv rfl ?_
 refine WL.tM (T.callO Tryz.call64 rfl (blocks64 _ hL h1 (by omega))) (by decide) (fun m1 Es2 v3 hle4 hR_ => ?_)
 obtain ⟨ys5, rfl, hB6, ho7⟩ := hR_
 replace hL := hL.mono hle4
 refine WL.y (X.lenRow (k := 0) Tryz.runUnderlying157 rfl rfl) ?_
 refine WL.mv rfl ?_
 refine WL.z ?_
 refine WC.block ?_
 refine WC.loop (G := Nat × Value × List RawV) (fun (k, vo, M) => 1 - k) (fun (k, vo, M) => m1) (fun (k, vo, M) => [row (v3) 160 64 (1) (ys5), row ((.slice none 0 0)) 92 1 (([] : List (List RawV))).length ([]), rowF (vo) 92 (M)]) (fun (k, vo, M) => [(4, vo), (11, v3), (12, .int .i64 (1)), (13, .int .i64 (↑k))]) (fun (k, vo, M) => k ≤ 1 ∧ M.length = k) ((0, Value.slice none 0 0, [])) rfl (.refl _) (.cons rfl (.cons rfl (.cons rfl (.cons rfl .nil)))) ?_ ?_
 ·exact ⟨by omega, rfl⟩
 ·rintro ⟨k, vo, M⟩ hF8
  show WK _ _ m1 [row (v3) 160 64 (1) (ys5), row ((.slice none 0 0)) 92 1 (([] : List (List RawV))).length ([]), rowF (vo) 92 (M)] [(4, vo), (11, v3), (12, .int .i64 (1)), (13, .int .i64 (↑k))] _
  replace hF8 : k ≤ 1 ∧ M.length = k := hF8
  obtain ⟨hk, hM⟩ := hF8
  refine WC.r ?_
  refine WL.cond (X.lss rfl rfl) (by decide) (fun h9 => ?_) (fun h9 => ?_)
  ·refine WL.z ?_
   refine WC.seq ?_
   refine WC.condT rfl ?_
   refine WC.skip ?_
   refine WK.nThen ?_
   refine WC.seq ?_
   refine WC.block ?_
   refine WC.r ?_
   refine WL.y (X.idxRowE (k := 0) k Tryz.runUnderlying157 Tryz.sizeOf160 rfl rfl rfl (by omega) (by omega)) ?_
   refine WL.y (X.loadRowP (k := 0) (us := ys5) Tryz.isAgg160 Tryz.sizeOf160 rfl rfl hB6.1 (bk_at0 (by omega))) ?_
   refine WL.tn (T.alloc (cs := List.replicate 64 (.int .u8 0)) Tryz.zeroValue160 rfl) (by decide) fun b10 => ?_
   refine WL.ts (T.storeBA (k := 0) (vs := ys5) Tryz.sizeOf160 rfl rfl rfl hB6.2 hB6.1 (by simp)) ?_
   refine WL.z ?_
   refine WC.region ?_
   refine WL.mv rfl ?_
   refine WL.y (X.slArA Tryz.underlying160 Tryz.sizeOf5 rfl) ?_
   refine WL.tl (T.lit1 sl89 rfl rfl rfl (by decide)) (by decide) fun b11 => ?_
   refine WL.ta (T.appendF (k := 3) (a := RawV.mk (.slice (some ⟨b10, 0, none⟩) 64 64) rfl) sl89 rfl rfl rfl rfl (by omega) (by decide)) (by decide) (fun v12 => ?_)
   refine WL.ag rfl ?_
   refine WL.nil ?_
   refine WK.nBlock ?_
   refine WK.nThen ?_
   refine WC.region ?_
   refine WL.y (X.add rfl rfl (by omega) (by omega)) ?_
   refine WL.mv rfl ?_
   refine WL.z ?_
   refine WK.next ((k + 1, v12, M ++ [RawV.mk (.slice (some ⟨b10, 0, none⟩) 64 64) rfl])) rfl (.cons _ (.refl _)) (.cons rfl (.cons rfl (.cons rfl (.cons rfl .nil)))) ?_ ?_
   ·exact ⟨by omega, by rw [List.length_append, hM]; rfl⟩
   ·(dsimp only; omega)
  ·refine WL.z ?_
   refine WC.seq ?_
   refine WC.condF rfl ?_
   refine WC.exit ?_
   refine WK.eThen ?_
   refine WK.eThen ?_
   refine WK.eHit ?_
   refine WK.nThen ?_
   refine WC.r ?_
   refine WL.mv rfl ?_
   refine WL.ag rfl ?_
   refine WL.ag rfl ?_
   refine WL.z ?_
   refine WC.ret ?_
   refine WK.freezeF 2 rfl rfl (by unfold lenB; omega) (fun m13 hle14 hs15 => ?_)
   replace hL := hL.mono hle14
   refine WK.ret2 rfl rfl rfl (fun w' hw' => Ret.mem hw' ?_)
   exact ⟨_, _, rfl, hs15, by omega⟩

theorem hash25 (m : Mem)  : Exact Tryz.prog 25 #[.slice none 0 0] m (.int .i64 23) := by
 refine Exact.start Tryz.func25 rfl Tryz.ntmps25 rfl fun wld => ?_
 refine WC.r ?_
 refine WL.ag rfl ?_
 refine WL.z ?_
 refine WC.r ?_
 refine WL.ag rfl ?_
 refine WL.z ?_
 refine WC.seq ?_
 refine WC.r ?_
 refine WL.mv rfl ?_
 refine WL.y (X.len (α := Int) Tryz.runUnderlying92 rfl .nil) ?_
 refine WL.mv rfl ?_
 refine WL.z ?_
 refine WC.block ?_
 refine WC.loop (G := Unit) (fun u_ => 0) (fun u_ => m) (fun u_ => []) (fun u_ => [(3, .int .i64 (23)), (6, .slice none 0 0), (7, .int .i64 (0)), (8, .int .i64 (0))]) (fun u_ => True) (()) rfl (.refl _) (.cons rfl (.cons rfl (.cons rfl (.cons rfl .nil)))) ?_ ?_
 ·trivial
 ·rintro u_ hF1
  show WK _ _ m [] [(3, .int .i64 (23)), (6, .slice none 0 0), (7, .int .i64 (0)), (8, .int .i64 (0))] _
  replace hF1 : True := hF1
  refine WC.r ?_
  refine WL.y (X.lss rfl rfl) ?_
  refine WL.z ?_
  refine WC.seq ?_
  refine WC.condF rfl ?_
  refine WC.exit ?_
  refine WK.eThen ?_
  refine WK.eThen ?_
  refine WK.eHit ?_
  refine WK.nThen ?_
  refine WC.r ?_
  refine WL.mv rfl ?_
  refine WL.ag rfl ?_
  refine WL.z ?_
  refine WC.ret ?_
  refine WK.ret1 rfl rfl (fun w' hw' => Ret.exact hw' ?_)
  first | rfl | (simp [*]; done)

theorem awake7 (m : Mem)    : Exact Tryz.prog 7 #[] m (.bool true) := by
 refine Exact.start Tryz.func7 rfl Tryz.ntmps7 rfl fun wld => ?_
 refine WC.r ?_
 refine WL.ag rfl ?_
 refine WL.z ?_
 refine WC.r ?_
 refine WL.tm (T.litM (α := RawV) (vals := [.int .u8 7]) (L := [RawV.mk (.int .u8 7) rfl]) sl92 rfl (.cons rfl rfl .nil) rfl rfl) (by decide) (fun m1 v2 hle3 hs4 => ?_)
 refine WL.tm (T.call Tryz.call21 rfl (blocks21 _ hs4 (by decide) (by decide))) (by decide) (fun m5 _ hle6 hR_ => ?_)
 obtain ⟨v7, M8, rfl, hs9, hM10⟩ := hR_
 replace hs4 := hs4.mono hle6
 refine WL.mv rfl ?_
 refine WL.y (X.extract rfl rfl) ?_
 refine WL.y (X.extract rfl rfl) ?_
 refine WL.ag rfl ?_
 refine WL.ag rfl ?_
 refine WL.z ?_
 refine WC.r ?_
 refine WL.y (V := Value.agg [.int .i64 (0), .int .i64 (2)].toArray) (X.build Tryz.zeroValue23 Tryz.runUnderlying23 (places23 _ Tryz.underlying23) rfl rfl) ?_
 refine WL.y (V := Value.agg [.int .i64 (5), .int .i64 (5)].toArray) (X.build Tryz.zeroValue23 Tryz.runUnderlying23 (places23 _ Tryz.underlying23) rfl rfl) ?_
 refine WL.tm (T.litM (α := Span) (vals := [.agg [.int .i64 (0), .int .i64 (2)].toArray, .agg [.int .i64 (5), .int .i64 (5)].toArray]) (L := [(Span.mk (0) (2)), (Span.mk (5) (5))]) sl28 rfl (.cons rfl rfl (.cons rfl rfl .nil)) rfl rfl) (by decide) (fun m11 v12 hle13 hs14 => ?_)
 replace hs4 := hs4.mono hle13
 replace hs9 := hs9.mono hle13
 refine WL.y (V := Value.agg [.int .i64 (2), .int .i64 (4)].toArray) (X.build Tryz.zeroValue23 Tryz.runUnderlying23 (places23 _ Tryz.underlying23) rfl rfl) ?_
 refine WL.tm (T.litM (α := Span) (vals := [.agg [.int .i64 (2), .int .i64 (4)].toArray]) (L := [(Span.mk (2) (4))]) sl28 rfl (.cons rfl rfl .nil) rfl rfl) (by decide) (fun m15 v16 hle17 hs18 => ?_)
 replace hs4 := hs4.mono hle17
 replace hs9 := hs9.mono hle17
 replace hs14 := hs14.mono hle17
 refine WL.tm (T.call Tryz.call22 rfl (union22 _ _ _ hs14 _ _ hs18 )) (by decide) fun m19 r20 hle21 hR22 => ?_
 obtain ⟨v23, rfl, hs24⟩ := hR22
 replace hs4 := hs4.mono hle21
 replace hs9 := hs9.mono hle21
 replace hs14 := hs14.mono hle21
 replace hs18 := hs18.mono hle21
 have hl25 := hs24.le
 refine WL.mv rfl ?_
 refine WL.y (X.extract rfl rfl) ?_
 refine WL.y (X.extract rfl rfl) ?_
 refine WL.ag rfl ?_
 refine WL.ag rfl ?_
 refine WL.z ?_
 refine WC.r ?_
 refine WL.y (V := Value.agg [.int .i64 (1), .int .i64 (0), .int .i64 (0), .int .i64 (9)].toArray) (X.build Tryz.zeroValue33 Tryz.runUnderlying33 (places33 _ Tryz.underlying33) rfl rfl) ?_
 refine WL.tm (T.litM (α := Int) (vals := [.int .i64 (5), .int .i64 (7), .int .i64 (4)]) (L := [5, 7, 4]) sl27 rfl (.cons rfl rfl (.cons rfl rfl (.cons rfl rfl .nil))) rfl rfl) (by decide) (fun m26 v27 hle28 hs29 => ?_)
 replace hs4 := hs4.mono hle28
 replace hs9 := hs9.mono hle28
 replace hs14 := hs14.mono hle28
 replace hs18 := hs18.mono hle28
 replace hs24 := hs24.mono hle28
 refine WL.tm (T.call Tryz.call23 rfl (follow23 _ _ ((Pen.mk (1) ((Span.mk (0) (0))) (9))) rfl _ _ _ hs29 )) (by decide) fun m30 r31 hle32 hR33 => ?_
 obtain ⟨v34, rfl, hs35⟩ := hR33
 replace hs4 := hs4.mono hle32
 replace hs9 := hs9.mono hle32
 replace hs14 := hs14.mono hle32
 replace hs18 := hs18.mono hle32
 replace hs24 := hs24.mono hle32
 replace hs29 := hs29.mono hle32
 have hl36 := hs35.le
 refine WL.mv rfl ?_
 refine WL.y (X.extract rfl rfl) ?_
 refine WL.y (X.extract rfl rfl) ?_
 refine WL.ag rfl ?_
 refine WL.ag rfl ?_
 refine WL.z ?_
 refine WC.r ?_
 refine WL.y (V := Value.agg [.int .i64 (2), .int .i64 (3)].toArray) (X.build Tryz.zeroValue23 Tryz.runUnderlying23 (places23 _ Tryz.underlying23) rfl rfl) ?_
 refine WL.tm (T.litM (α := Span) (vals := [.agg [.int .i64 (2), .int .i64 (3)].toArray]) (L := [(Span.mk (2) (3))]) sl28 rfl (.cons rfl rfl .nil) rfl rfl) (by decide) (fun m37 v38 hle39 hs40 => ?_)
 replace hs4 := hs4.mono hle39
 replace hs9 := hs9.mono hle39
 replace hs14 := hs14.mono hle39
 replace hs18 := hs18.mono hle39
 replace hs24 := hs24.mono hle39
 replace hs29 := hs29.mono hle39
 replace hs35 := hs35.mono hle39
 refine WL.y (V := Value.agg [v38, .slice none 0 0].toArray) (X.build Tryz.zeroValue31 Tryz.runUnderlying31 (places31 _ Tryz.underlying31) rfl (by simp only [Instr.fill, one_cells hs40.one]; rfl)) ?_
 refine WL.y (V := Value.agg [.int .i64 (5), .int .i64 (5)].toArray) (X.build Tryz.zeroValue23 Tryz.runUnderlying23 (places23 _ Tryz.underlying23) rfl rfl) ?_
 refine WL.y (V := Value.agg [.int .i64 (1), .int .i64 (5), .int .i64 (5)].toArray) (X.build Tryz.zeroValue98 Tryz.runUnderlying98 (places98 _ Tryz.underlying98) rfl rfl) ?_
 refine WL.tm (T.litM (α := Mark) (vals := [.agg [.int .i64 (1), .int .i64 (5), .int .i64 (5)].toArray]) (L := [(Mark.mk (1) ((Span.mk (5) (5))))]) sl74 rfl (.cons rfl rfl .nil) rfl rfl) (by decide) (fun m41 v42 hle43 hs44 => ?_)
 replace hs4 := hs4.mono hle43
 replace hs9 := hs9.mono hle43
 replace hs14 := hs14.mono hle43
 replace hs18 := hs18.mono hle43
 replace hs24 := hs24.mono hle43
 replace hs29 := hs29.mono hle43
 replace hs35 := hs35.mono hle43
 replace hs40 := hs40.mono hle43
 refine WL.tm (T.call Tryz.call24 rfl (earliest24 _ _ ((Drum.mk ([(Span.mk (2) (3))]) ([]))) ⟨_, _, rfl, hs40, .nil⟩ _ _ hs44 )) (by decide) fun m45 r46 hle47 hR48 => ?_
 obtain ⟨v49, rfl, hs50⟩ := hR48
 replace hs4 := hs4.mono hle47
 replace hs9 := hs9.mono hle47
 replace hs14 := hs14.mono hle47
 replace hs18 := hs18.mono hle47
 replace hs24 := hs24.mono hle47
 replace hs29 := hs29.mono hle47
 replace hs35 := hs35.mono hle47
 replace hs40 := hs40.mono hle47
 replace hs44 := hs44.mono hle47
 have hl51 := hs50.le
 refine WL.mv rfl ?_
 refine WL.y (X.extract rfl rfl) ?_
 refine WL.y (X.extract rfl rfl) ?_
 refine WL.ag rfl ?_
 refine WL.ag rfl ?_
 refine WL.z ?_
 refine WC.seq ?_
 rw [show uniR (([(Span.mk (0) (2)), (Span.mk (5) (5))])) (([(Span.mk (2) (4))])) = [⟨0, 5⟩] from aw_uni] at hs24
 rw [show uniE (([(Span.mk (0) (2)), (Span.mk (5) (5))])) (([(Span.mk (2) (4))])) = 0 from aw_uniE]
 rw [show folR (((Pen.mk (1) ((Span.mk (0) (0))) (9)))) 5 (([5, 7, 4])) = [5, 6, 5] from aw_fol] at hs35
 rw [show folE (((Pen.mk (1) ((Span.mk (0) (0))) (9)))) 5 (([5, 7, 4])) = 0 from aw_folE]
 rw [show (earR (((Drum.mk ([(Span.mk (2) (3))]) ([])))) (([(Mark.mk (1) ((Span.mk (5) (5))))]))).1 = [2, 5] from aw_ear] at hs50
 rw [show (earR (((Drum.mk ([(Span.mk (2) (3))]) ([])))) (([(Mark.mk (1) ((Span.mk (5) (5))))]))).2 = 0 from aw_earE]
 refine WC.region ?_
 refine WL.mv rfl ?_
 refine WL.y (X.eql rfl rfl) ?_
 refine WL.mv rfl ?_
 refine WL.yes rfl rfl ?_
 refine WL.mv rfl ?_
 refine WL.yes rfl rfl ?_
 refine WL.y (X.len Tryz.runUnderlying89 rfl hs9) ?_
 refine WL.yes rfl rfl ?_
 refine WL.y (OpX.t (X.eql rfl rfl) (by omega)) ?_
 refine WL.y (X.pickT rfl rfl rfl) ?_
 refine WL.mv rfl ?_
 refine WL.yes rfl rfl ?_
 refine WL.mv rfl ?_
 refine WL.yes rfl rfl ?_
 refine WL.y (X.eql rfl rfl) ?_
 refine WL.y (X.pickT rfl rfl rfl) ?_
 refine WL.mv rfl ?_
 refine WL.yes rfl rfl ?_
 refine WL.mv rfl ?_
 refine WL.yes rfl rfl ?_
 refine WL.y (X.len Tryz.runUnderlying28 rfl hs24) ?_
 refine WL.yes rfl rfl ?_
 refine WL.y (OpX.t (X.eql rfl rfl) (by decide)) ?_
 refine WL.y (X.pickT rfl rfl rfl) ?_
 refine WL.mv rfl ?_
 refine WL.yes rfl rfl ?_
 refine WL.mv rfl ?_
 refine WL.yes rfl rfl ?_
 refine WL.xe (E.idxN 0 Tryz.runUnderlying28 Tryz.sizeOf23 rfl rfl hs24 (by decide)) (by decide) (fun p52 hp53 => ?_)
 refine WL.yes rfl rfl ?_
 refine WL.xe (E.loadAgg Tryz.isAgg23 Tryz.sizeOf23 rfl hp53) (by decide) (fun c54 hc55 => ?_)
 obtain rfl := hc55
 refine WL.yes rfl rfl ?_
 refine WL.y (V := Value.agg [.int .i64 (0), .int .i64 (5)].toArray) (X.build Tryz.zeroValue23 Tryz.runUnderlying23 (places23 _ Tryz.underlying23) rfl rfl) ?_
 refine WL.yes rfl rfl ?_
 refine WL.y (OpX.t (X.eqlS (a := gt ([⟨0, 5⟩]) 0) (b := (Span.mk (0) (5))) gd23 (fun w => eqS23 9998 _ _ w) rfl rfl) (by decide)) ?_
 refine WL.y (X.pickT rfl rfl rfl) ?_
 refine WL.mv rfl ?_
 refine WL.yes rfl rfl ?_
 refine WL.mv rfl ?_
 refine WL.yes rfl rfl ?_
 refine WL.y (X.eql rfl rfl) ?_
 refine WL.y (X.pickT rfl rfl rfl) ?_
 refine WL.mv rfl ?_
 refine WL.yes rfl rfl ?_
 refine WL.mv rfl ?_
 refine WL.yes rfl rfl ?_
 refine WL.tm (T.litM (α := Int) (vals := [.int .i64 (5), .int .i64 (6), .int .i64 (5)]) (L := [5, 6, 5]) sl27 rfl (.cons rfl rfl (.cons rfl rfl (.cons rfl rfl .nil))) rfl rfl) (by decide) (fun m56 v57 hle58 hs59 => ?_)
 replace hs4 := hs4.mono hle58
 replace hs9 := hs9.mono hle58
 replace hs14 := hs14.mono hle58
 replace hs18 := hs18.mono hle58
 replace hs24 := hs24.mono hle58
 replace hs29 := hs29.mono hle58
 replace hs35 := hs35.mono hle58
 replace hs40 := hs40.mono hle58
 replace hs44 := hs44.mono hle58
 replace hs50 := hs50.mono hle58
 replace hp53 := hp53.mono hle58
 refine WL.yes rfl rfl ?_
 refine WL.y (OpX.t (X.call Tryz.call9 rfl (same9 _ _ _ hs35 _ _ hs59 )) rfl) ?_
 refine WL.y (X.pickT rfl rfl rfl) ?_
 refine WL.mv rfl ?_
 refine WL.yes rfl rfl ?_
 refine WL.mv rfl ?_
 refine WL.yes rfl rfl ?_
 refine WL.y (X.eql rfl rfl) ?_
 refine WL.y (X.pickT rfl rfl rfl) ?_
 refine WL.mv rfl ?_
 refine WL.yes rfl rfl ?_
 refine WL.mv rfl ?_
 refine WL.yes rfl rfl ?_
 refine WL.tm (T.litM (α := Int) (vals := [.int .i64 (2), .int .i64 (5)]) (L := [2, 5]) sl27 rfl (.cons rfl rfl (.cons rfl rfl .nil)) rfl rfl) (by decide) (fun m60 v61 hle62 hs63 => ?_)
 replace hs4 := hs4.mono hle62
 replace hs9 := hs9.mono hle62
 replace hs14 := hs14.mono hle62
 replace hs18 := hs18.mono hle62
 replace hs24 := hs24.mono hle62
 replace hs29 := hs29.mono hle62
 replace hs35 := hs35.mono hle62
 replace hs40 := hs40.mono hle62
 replace hs44 := hs44.mono hle62
 replace hs50 := hs50.mono hle62
 replace hp53 := hp53.mono hle62
 replace hs59 := hs59.mono hle62
 refine WL.yes rfl rfl ?_
 refine WL.y (OpX.t (X.call Tryz.call9 rfl (same9 _ _ _ hs50 _ _ hs63 )) rfl) ?_
 refine WL.y (X.pickT rfl rfl rfl) ?_
 refine WL.mv rfl ?_
 refine WL.yes rfl rfl ?_
 refine WL.y (X.call Tryz.call25 rfl (hash25 _)) ?_
 refine WL.yes rfl rfl ?_
 refine WL.y (X.eql rfl rfl) ?_
 refine WL.y (X.pickT rfl rfl rfl) ?_
 refine WL.ag rfl ?_
 refine WL.z ?_
 refine WC.ret ?_
 refine WK.ret1 rfl rfl (fun w' hw' => Ret.exact hw' ?_)
 first | rfl | (simp [*]; done)

end Go.Proofs.T10
