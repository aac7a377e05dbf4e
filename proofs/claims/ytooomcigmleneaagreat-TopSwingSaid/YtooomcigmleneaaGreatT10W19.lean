import Derived.Test.YtooomcigmleneaaGreatKxW
import Derived.Test.YtooomcigmleneaaGreatT10Forg
import Derived.Test.YtooomcigmleneaaGreatT10W18
/- Top: walks, nineteenth part, by program. -/
namespace Go.Proofs.T10
open Go Go.Kx
set_option linter.unusedSimpArgs false
set_option linter.unusedVariables false

theorem right133 (m : Mem) (cp : List Value) (p : Pen) (hp : Enc.rd m cp p) (cmo : List Value) (mo : Moment) (hmo : Enc.rd m cmo mo)  (hms : -100000 ≤ mo.Shown ∧ mo.Shown ≤ 100000) (hmr : -100000 ≤ mo.Real ∧ mo.Real ≤ 100000) : Exact Tryz.prog 133 #[.agg cp.toArray, .agg cmo.toArray] m (.bool (decide (rightP p mo))) := by
 obtain rfl := hp
 obtain rfl := hmo
 refine Exact.start Tryz.func133 rfl Tryz.ntmps133 rfl fun wld => ?_
 refine WC.r ?_
 refine WL.tn (T.boxB rfl rfl) (by decide) fun b1 => ?_
 refine WL.tn (T.boxB rfl rfl) (by decide) fun b2 => ?_
 refine WL.ag rfl ?_
 refine WL.z ?_
 refine WC.seq ?_
 refine WC.draw (π := (.cons 0 (.cons 1 (.cons 2 (.cons 3 (.cons 4 (.cons 5 (.cons 6 (.cons 7 (.cons 8 (.cons 9 .done))))))))))) [] [] rfl (by kernel_rfl) ?_
 refine DW.y rfl rfl (X.field Tryz.runUnderlying172 rfl Tryz.sizeOf3 rfl) ?_
 refine DW.y rfl rfl (X.loadB (k := 0) Tryz.isAgg3 rfl rfl rfl) ?_
 refine DW.y rfl rfl (X.field Tryz.runUnderlying172 rfl Tryz.sizeOf3 rfl) ?_
 refine DW.y rfl rfl (X.loadB (k := 0) Tryz.isAgg3 rfl rfl rfl) ?_
 refine DW.y rfl rfl (X.call Tryz.call32 rfl (apart32 _ _ _ (by omega) (by omega))) ?_
 refine DW.y rfl rfl (X.field Tryz.runUnderlying113 rfl Tryz.sizeOf33 rfl) ?_
 refine DW.y rfl rfl (X.field Tryz.runUnderlying33 rfl Tryz.sizeOf3 rfl) ?_
 refine DW.y rfl rfl (X.loadB (k := 1) Tryz.isAgg3 rfl rfl rfl) ?_
 refine DW.y rfl rfl (X.leq rfl rfl) ?_
 refine DW.y rfl rfl (X.assign rfl) ?_
 refine DW.nil ?_
 refine WK.nThen ?_
 refine WC.ret ?_
 refine WK.ret1 rfl rfl (fun w' hw' => Ret.exact hw' ?_)
 first | rfl | (simp [*]; done)

theorem step134 (m : Mem) (cp : List Value) (p : Pen) (hp : Enc.rd m cp p) (cmo : List Value) (mo : Moment) (hmo : Enc.rd m cmo mo) (r : Int)  (hms : -100000 ≤ mo.Shown ∧ mo.Shown ≤ 100000) (hmr : -100000 ≤ mo.Real ∧ mo.Real ≤ 100000) (hr : -100000 ≤ r ∧ r ≤ 100000) (hpp : penP p) : Exact Tryz.prog 134 #[.agg cp.toArray, .agg cmo.toArray, .int .i64 (r)] m (.tuple #[.agg [.int .i64 ((stepM p mo r).Shown), .int .i64 ((stepM p mo r).Real)].toArray, .bool (decide (stepP p mo r))]) := by
 obtain rfl := hp
 obtain rfl := hmo
 have hp_ := hpp.1
 refine Exact.start Tryz.func134 rfl Tryz.ntmps134 rfl fun wld => ?_
 refine WC.r ?_
 refine WL.tn (T.boxB rfl rfl) (by decide) fun b1 => ?_
 refine WL.tn (T.boxB rfl rfl) (by decide) fun b2 => ?_
 refine WL.tn (T.alloc Tryz.zeroValue172 rfl) (by decide) fun b3 => ?_
 refine WL.ag rfl ?_
 refine WL.z ?_
 refine WC.seq ?_
 refine WC.seq ?_
 refine WC.draw (π := (.cons 0 (.cons 1 (.cons 2 (.cons 3 (.cons 4 (.cons 5 (.cons 6 (.cons 7 (.cons 8 (.cons 9 (.cons 10 (.cons 11 (.cons 12 (.cons 13 .done))))))))))))))) [] [] rfl (by kernel_rfl) ?_
 refine DW.y rfl rfl (X.loadBA (k := 2) Tryz.isAgg113 Tryz.sizeOf113 rfl rfl rfl) ?_
 refine DW.y rfl rfl (X.loadBA (k := 1) Tryz.isAgg172 Tryz.sizeOf172 rfl rfl rfl) ?_
 refine DW.cond rfl rfl (X.call Tryz.call133 rfl (right133 _ _ p rfl _ mo rfl (by omega) (by omega))) (by decide) (fun h4 => ?_) (fun h4 => ?_)
 ·refine DW.y rfl rfl (X.not rfl) ?_
  refine DW.y rfl rfl (X.move rfl) ?_
  refine DW.y rfl rfl (X.move rfl) ?_
  refine DW.y rfl rfl (X.field Tryz.runUnderlying172 rfl Tryz.sizeOf3 rfl) ?_
  refine DW.y rfl rfl (X.loadB (k := 1) Tryz.isAgg3 rfl rfl rfl) ?_
  refine DW.y rfl rfl (X.call Tryz.call32 rfl (apart32 _ _ _ (by omega) (by omega))) ?_
  refine DW.y rfl rfl (X.field Tryz.runUnderlying113 rfl Tryz.sizeOf33 rfl) ?_
  refine DW.y rfl rfl (X.field Tryz.runUnderlying33 rfl Tryz.sizeOf3 rfl) ?_
  refine DW.y rfl rfl (X.loadB (k := 2) Tryz.isAgg3 rfl rfl rfl) ?_
  refine DW.cond rfl rfl (X.gtr rfl rfl) (by decide) (fun h5 => ?_) (fun h5 => ?_)
  ·refine DW.y rfl rfl (X.pickF rfl rfl rfl) ?_
   refine DW.nil ?_
   refine WK.nThen ?_
   refine WC.condT rfl ?_
   refine WC.r ?_
   refine WL.y (V := Value.agg [.int .i64 (0), .int .i64 (0)].toArray) (X.build Tryz.zeroValue172 Tryz.runUnderlying172 (places172 _ Tryz.underlying172) rfl rfl) ?_
   refine WL.ts (T.storeBA (k := 0) Tryz.sizeOf172 rfl rfl rfl (one_cons rfl (one_cons rfl one_nil)) rfl rfl) ?_
   refine WL.ag rfl ?_
   refine WL.z ?_
   refine WC.ret ?_
   refine WK.rThen ?_
   refine WK.retC2 0 rfl rfl rfl rfl Tryz.isAgg172 Tryz.sizeOf172 (fun w' hw' => Ret.exact hw' ?_)
   first | exact tup2 (agg2i (by rw [stepM_yes ⟨by assumption, by omega⟩]) (by rw [stepM_yes ⟨by assumption, by omega⟩])) (bool_true ⟨by assumption, by omega⟩) | (have hn_ : ¬ stepP p mo r := (fun h_ => by have h1_ := h_.1; have h2_ := h_.2; first | contradiction | omega); exact tup2 (agg2i (by rw [stepM_no hn_]) (by rw [stepM_no hn_])) (bool_false hn_))
  ·refine DW.y rfl rfl (X.pickF rfl rfl rfl) ?_
   refine DW.nil ?_
   refine WK.nThen ?_
   refine WC.condF rfl ?_
   refine WC.skip ?_
   refine WK.nThen ?_
   refine WC.r ?_
   refine WL.y (X.loadBA (k := 2) Tryz.isAgg113 Tryz.sizeOf113 rfl rfl rfl) ?_
   refine WL.y (X.field Tryz.runUnderlying172 rfl Tryz.sizeOf3 rfl) ?_
   refine WL.y (X.loadB (k := 1) Tryz.isAgg3 rfl rfl rfl) ?_
   refine WL.mv rfl ?_
   refine WL.y (X.call Tryz.call33 rfl (next33 _ _ p rfl _ _ (by omega) (by omega))) ?_
   refine WL.mv rfl ?_
   refine WL.y (V := Value.agg [.int .i64 (clampN p.Band mo.Shown r), .int .i64 (r)].toArray) (X.build Tryz.zeroValue172 Tryz.runUnderlying172 (places172 _ Tryz.underlying172) rfl rfl) ?_
   refine WL.ts (T.storeBA (k := 0) Tryz.sizeOf172 rfl rfl rfl (one_cons rfl (one_cons rfl one_nil)) rfl rfl) ?_
   refine WL.ag rfl ?_
   refine WL.z ?_
   refine WC.ret ?_
   refine WK.retC2 0 rfl rfl rfl rfl Tryz.isAgg172 Tryz.sizeOf172 (fun w' hw' => Ret.exact hw' ?_)
   first | exact tup2 (agg2i (by rw [stepM_yes ⟨by assumption, by omega⟩]) (by rw [stepM_yes ⟨by assumption, by omega⟩])) (bool_true ⟨by assumption, by omega⟩) | (have hn_ : ¬ stepP p mo r := (fun h_ => by have h1_ := h_.1; have h2_ := h_.2; first | contradiction | omega); exact tup2 (agg2i (by rw [stepM_no hn_]) (by rw [stepM_no hn_])) (bool_false hn_))
 ·refine DW.y rfl rfl (X.not rfl) ?_
  refine DW.y rfl rfl (X.move rfl) ?_
  refine DW.no rfl rfl (by decide) ?_
  refine DW.no rfl rfl (by decide) ?_
  refine DW.no rfl rfl (by decide) ?_
  refine DW.no rfl rfl (by decide) ?_
  refine DW.no rfl rfl (by decide) ?_
  refine DW.no rfl rfl (by decide) ?_
  refine DW.no rfl rfl (by decide) ?_
  refine DW.no rfl rfl (by decide) ?_
  refine DW.y rfl rfl (X.pickT rfl rfl rfl) ?_
  refine DW.nil ?_
  refine WK.nThen ?_
  refine WC.condT rfl ?_
  refine WC.r ?_
  refine WL.y (V := Value.agg [.int .i64 (0), .int .i64 (0)].toArray) (X.build Tryz.zeroValue172 Tryz.runUnderlying172 (places172 _ Tryz.underlying172) rfl rfl) ?_
  refine WL.ts (T.storeBA (k := 0) Tryz.sizeOf172 rfl rfl rfl (one_cons rfl (one_cons rfl one_nil)) rfl rfl) ?_
  refine WL.ag rfl ?_
  refine WL.z ?_
  refine WC.ret ?_
  refine WK.rThen ?_
  refine WK.retC2 0 rfl rfl rfl rfl Tryz.isAgg172 Tryz.sizeOf172 (fun w' hw' => Ret.exact hw' ?_)
  first | exact tup2 (agg2i (by rw [stepM_yes ⟨by assumption, by omega⟩]) (by rw [stepM_yes ⟨by assumption, by omega⟩])) (bool_true ⟨by assumption, by omega⟩) | (have hn_ : ¬ stepP p mo r := (fun h_ => by have h1_ := h_.1; have h2_ := h_.2; first | contradiction | omega); exact tup2 (agg2i (by rw [stepM_no hn_]) (by rw [stepM_no hn_])) (bool_false hn_))

set_option maxHeartbeats 1000000 in
theorem follow132 (m : Mem) {p : Pen} {first : Int} {L : List Int} {pf pl pp : Addr} (hpf : At m pf first) (hpl : At m pl L) (hpp : At m pp p) (hpn : penP p) (hfb : -50000 ≤ first ∧ first ≤ 50000) (hlv : lvlP L) (hlen_ : 0 < L.length) : Iter Tryz.prog 132 [.pointer (some pf), .pointer (some pl), .pointer (some pp)] m false (folC p first L L.length) (folA p first L) := by
 intro lo S HS I Ix s0 hone hmono hy h0
 have hl0_ := hlv 0 hlen_
 have hpb_ := hpn.1
 refine Mut.start Tryz.func132 rfl Tryz.ntmps132 rfl fun wld => ?_
 refine WC.seq ?_
 refine WC.draw (π := (.cons 0 (.cons 1 (.cons 2 (.cons 3 (.cons 4 (.cons 5 (.cons 6 .done)))))))) [5, 6] [6] rfl (by kernel_rfl) ?_
 refine DW.y rfl rfl (X.loadInt Tryz.isAgg3 rfl hpf) ?_
 refine DW.xe rfl rfl (E.loadSl Tryz.isAgg27 rfl hpl) (by decide) (fun v1 hs2 => ?_)
 have hl3 := hs2.le
 refine DW.xe rfl rfl (E.idxN 0 Tryz.runUnderlying27 Tryz.sizeOf3 rfl rfl hs2 (by omega)) (by decide) (fun p4 hp5 => ?_)
 refine DW.y rfl rfl (X.loadInt Tryz.isAgg3 rfl hp5) ?_
 refine DW.y (V := Value.agg [.int .i64 (first), .int .i64 (gt L 0)].toArray) rfl rfl (X.build Tryz.zeroValue172 Tryz.runUnderlying172 (places172 _ Tryz.underlying172) rfl rfl) ?_
 refine DW.tn rfl rfl rfl (T.alloc Tryz.zeroValue172 rfl) (by decide) fun b6 => ?_
 refine DW.ts rfl rfl rfl rfl (T.storeBA (k := 0) Tryz.sizeOf172 rfl rfl rfl (one_cons rfl (one_cons rfl one_nil)) rfl rfl) ?_
 refine DW.nil ?_
 refine WK.nThen ?_
 refine WC.cut (G := Bool) (fun o0 => m) (fun o0 => ([blk b6 172 [.int .i64 (first), .int .i64 (gt L 0)]] ++ HS s0)) (fun o0 => [(0, .func (.yield lo) #[] #[]), (2, .pointer (some (pl))), (3, .pointer (some (pp))), (5, .pointer (some ⟨b6, 0, none⟩)), (6, .bool (o0))]) (fun o0 => o0 = okM p first L 0) ?_ ?_
 ·refine WC.region ?_
  refine WL.xe (E.loadAgg Tryz.isAgg113 Tryz.sizeOf113 rfl hpp) (by decide) (fun c7 hc8 => ?_)
  obtain rfl := hc8
  refine WL.y (X.loadBA (k := 0) Tryz.isAgg172 Tryz.sizeOf172 rfl rfl rfl) ?_
  refine WL.cond (X.call Tryz.call133 rfl (right133 _ _ p rfl _ ((Moment.mk (first) (gt L 0))) rfl (by dsimp only; omega) (by dsimp only; omega))) (by decide) (fun h9 => ?_) (fun h9 => ?_)
  ·refine WL.ag rfl ?_
   refine WL.z ?_
   refine WK.meet true rfl (.refl _) (.cons rfl (.cons rfl (.cons rfl (.cons rfl (.cons rfl .nil))))) ?_
   first | exact (decide_eq_true (by assumption)).symm | exact (decide_eq_false (by assumption)).symm | rfl
  ·refine WL.ag rfl ?_
   refine WL.z ?_
   refine WK.meet false rfl (.refl _) (.cons rfl (.cons rfl (.cons rfl (.cons rfl (.cons rfl .nil))))) ?_
   first | exact (decide_eq_true (by assumption)).symm | exact (decide_eq_false (by assumption)).symm | rfl
 ·rintro o0 hF10
  show WK _ _ m ([blk b6 172 [.int .i64 (first), .int .i64 (gt L 0)]] ++ HS s0) [(0, .func (.yield lo) #[] #[]), (2, .pointer (some (pl))), (3, .pointer (some (pp))), (5, .pointer (some ⟨b6, 0, none⟩)), (6, .bool (o0))] _
  replace hF10 : o0 = okM p first L 0 := hF10
  have ho0_ := hF10
  refine WC.r ?_
  refine WL.xe (E.loadAgg Tryz.isAgg113 Tryz.sizeOf113 rfl hpp) (by decide) (fun c11 hc12 => ?_)
  obtain rfl := hc12
  refine WL.y (X.makeFuncB (by intro x hx; simp at hx; subst hx; all_goals exact ⟨_, rfl⟩) rfl) ?_
  refine WL.ag rfl ?_
  refine WL.z ?_
  refine WC.r ?_
  refine WL.ag rfl ?_
  refine WL.z ?_
  refine WC.block ?_
  have hm0_ : m.le m := Mem.le_refl _
  refine WC.loop (G := Nat × Bool × Int × Int × Mem × S) (fun (i, ob, ms, mr, mm, ss) => L.length - i) (fun (i, ob, ms, mr, mm, ss) => mm) (fun (i, ob, ms, mr, mm, ss) => ([blk b6 172 [.int .i64 (ms), .int .i64 (mr)]] ++ HS ss)) (fun (i, ob, ms, mr, mm, ss) => [(0, .func (.yield lo) #[] #[]), (2, .pointer (some (pl))), (5, .pointer (some ⟨b6, 0, none⟩)), (6, .bool (ob)), (7, .func (.func 134) [.agg [.int .i64 (p.Band), .int .i64 (p.Zero.Lo), .int .i64 (p.Zero.Hi), .int .i64 (p.Rate)].toArray].toArray #[]), (8, .int .i64 (↑i))]) (fun (i, ob, ms, mr, mm, ss) => m.le mm ∧ I i mm ss ∧ i < L.length ∧ (ob = true → okM p first L i = true) ∧ (ob = false → okM p first L i = false) ∧ (ob = true → ms = shN p.Band first L i ∧ mr = gt L i) ∧ ∀ j, j < i → okM p first L j = true) ((0, o0, first, gt L 0, m, s0)) rfl (.refl _) (.cons rfl (.cons rfl (.cons rfl (.cons rfl (.cons rfl (.cons rfl .nil)))))) ?_ ?_
  ·exact ⟨Mem.le_refl _, h0, hlen_, fun h_ => ho0_ ▸ h_, fun h_ => ho0_ ▸ h_, fun _ => ⟨rfl, rfl⟩, fun j hj => absurd hj (Nat.not_lt_zero _)⟩
  ·rintro ⟨i, ob, ms, mr, mm, ss⟩ hF13
   show WK _ _ mm ([blk b6 172 [.int .i64 (ms), .int .i64 (mr)]] ++ HS ss) [(0, .func (.yield lo) #[] #[]), (2, .pointer (some (pl))), (5, .pointer (some ⟨b6, 0, none⟩)), (6, .bool (ob)), (7, .func (.func 134) [.agg [.int .i64 (p.Band), .int .i64 (p.Zero.Lo), .int .i64 (p.Zero.Hi), .int .i64 (p.Rate)].toArray].toArray #[]), (8, .int .i64 (↑i))] _
   replace hF13 : m.le mm ∧ I i mm ss ∧ i < L.length ∧ (ob = true → okM p first L i = true) ∧ (ob = false → okM p first L i = false) ∧ (ob = true → ms = shN p.Band first L i ∧ mr = gt L i) ∧ ∀ j, j < i → okM p first L j = true := hF13
   obtain ⟨hmm, hI, hi, hko_, hkn_, hmo_, hall⟩ := hF13
   replace hpf := hpf.mono hmm
   replace hpl := hpl.mono hmm
   replace hpp := hpp.mono hmm
   replace hs2 := hs2.mono hmm
   replace hp5 := hp5.mono hmm
   have hsb_ := shN_bd hpn hfb hlv i hi
   have hlb_ := hlv i hi
   refine WC.seq ?_
   refine WC.r ?_
   refine WL.mv rfl ?_
   refine WL.condb (X.move rfl) (by decide) (fun h14 => ?_) (fun h14 => ?_)
   ·refine WL.yes rfl rfl ?_
    refine WL.mv rfl ?_
    refine WL.yes rfl rfl ?_
    refine WL.y (X.loadBA (k := 0) Tryz.isAgg172 Tryz.sizeOf172 rfl rfl rfl) ?_
    refine WL.yes rfl rfl ?_
    have hki_ := hko_ (by assumption)
    have hmv_ := hmo_ (by assumption)
    obtain ⟨rfl, rfl⟩ := hmv_
    refine WL.tY (T.yield (A := [blk b6 172 [.int .i64 (shN p.Band first L i), .int .i64 (gt L i)]]) rfl rfl rfl (hy i _ _ _ (folC_ge hki_ hi) hmm (by rfl) hI)) (by decide) (fun m2_ H2_ hT_ => ?_) (fun m2_ H2_ hT_ => ?_)
    ·obtain ⟨hle2_, s2_, rfl, hI2_⟩ := hT_
     replace hpf := hpf.mono hle2_
     replace hpl := hpl.mono hle2_
     replace hpp := hpp.mono hle2_
     replace hs2 := hs2.mono hle2_
     replace hp5 := hp5.mono hle2_
     refine WL.y (X.pickT rfl rfl rfl) ?_
     refine WL.mv rfl ?_
     refine WL.yes rfl rfl ?_
     refine WL.mv rfl ?_
     refine WL.yes rfl rfl ?_
     refine WL.y (X.add rfl rfl (by omega) (by omega)) ?_
     refine WL.yes rfl rfl ?_
     refine WL.xe (E.loadSl Tryz.isAgg27 rfl hpl) (by decide) (fun v15 hs16 => ?_)
     have hl17 := hs16.le
     refine WL.yes rfl rfl ?_
     refine WL.y (X.len Tryz.runUnderlying27 rfl hs16) ?_
     refine WL.yes rfl rfl ?_
     refine WL.cond (X.lss rfl rfl) (by decide) (fun h18 => ?_) (fun h18 => ?_)
     ·refine WL.y (X.pickT rfl rfl rfl) ?_
      refine WL.z ?_
      refine WC.condT rfl ?_
      refine WC.skip ?_
      refine WK.nThen ?_
      refine WC.seq ?_
      refine WC.block ?_
      have hl1_ := hlv (i + 1) (by omega)
      refine WC.draw (π := (.cons 0 (.cons 1 (.cons 2 (.cons 3 (.cons 4 (.cons 5 (.cons 6 (.cons 7 (.cons 8 (.cons 9 (.cons 10 (.cons 11 (.cons 12 .done)))))))))))))) [11] [11] rfl (by kernel_rfl) ?_
      refine DW.y rfl rfl (X.move rfl) ?_
      refine DW.y rfl rfl (X.loadBA (k := 0) Tryz.isAgg172 Tryz.sizeOf172 rfl rfl rfl) ?_
      refine DW.xe rfl rfl (E.loadSl Tryz.isAgg27 rfl hpl) (by decide) (fun v19 hs20 => ?_)
      have hl21 := hs20.le
      refine DW.y rfl rfl (X.move rfl) ?_
      refine DW.y rfl rfl (X.add rfl rfl (by omega) (by omega)) ?_
      refine DW.xe rfl rfl (E.idxE (i + 1) Tryz.runUnderlying27 Tryz.sizeOf3 rfl rfl hs20 (by omega) (by omega)) (by decide) (fun p22 hp23 => ?_)
      refine DW.y rfl rfl (X.loadInt Tryz.isAgg3 rfl hp23) ?_
      refine DW.y rfl rfl (X.callb Tryz.call134 rfl rfl (step134 _ _ p rfl _ ((Moment.mk (shN p.Band first L i) (gt L i))) rfl (gt L (i + 1)) (by dsimp only; omega) (by dsimp only; omega) (by omega) hpn)) ?_
      refine DW.y rfl rfl (X.move rfl) ?_
      refine DW.y rfl rfl (X.extract rfl rfl) ?_
      refine DW.y rfl rfl (X.extract rfl rfl) ?_
      refine DW.ts rfl rfl rfl rfl (T.storeBA (k := 0) Tryz.sizeOf172 rfl rfl rfl (one_cons rfl (one_cons rfl one_nil)) rfl rfl) ?_
      refine DW.y rfl rfl (X.assign rfl) ?_
      refine DW.nil ?_
      refine WK.nBlock ?_
      refine WK.nThen ?_
      refine WC.region ?_
      refine WL.mv rfl ?_
      refine WL.y (X.add rfl rfl (by omega) (by omega)) ?_
      refine WL.ag rfl ?_
      refine WL.z ?_
      refine WK.next ((i + 1, decide (stepP p (((Moment.mk (shN p.Band first L i) (gt L i)))) ((gt L (i + 1)))), (stepM p (((Moment.mk (shN p.Band first L i) (gt L i)))) ((gt L (i + 1)))).Shown, (stepM p (((Moment.mk (shN p.Band first L i) (gt L i)))) ((gt L (i + 1)))).Real, m2_, s2_)) rfl (.refl _) (.cons rfl (.cons rfl (.cons rfl (.cons rfl (.cons rfl (.cons rfl .nil)))))) ?_ ?_
      ·exact ⟨Mem.le_trans hmm hle2_, hI2_, by omega, fun h_ => by rw [okM, hki_]; exact h_, fun h_ => by rw [okM, hki_]; exact h_, fun h_ => by have h1_ := of_decide_eq_true h_; rw [stepM_yes h1_]; exact ⟨rfl, rfl⟩, fun j hj => okM_le (by omega) hki_⟩
      ·(dsimp only; omega)
     ·refine WL.y (X.pickT rfl rfl rfl) ?_
      refine WL.z ?_
      refine WC.condF rfl ?_
      refine WC.exit ?_
      refine WK.eThen ?_
      refine WK.eThen ?_
      refine WK.eHit ?_
      refine WK.end0 rfl (fun w' hw' => Ret.mut (hw'.weaken (.cons _ (.refl _))) ?_)
      first | exact ⟨s2_, rfl, .inl (by obtain ⟨n_, hn_⟩ : ∃ n_, L.length = n_ + 1 := ⟨i, by omega⟩; have hin_ : n_ = i := (by omega); rw [hn_, hin_, folC_full hki_]; exact hI2_)⟩ | exact ⟨s2_, rfl, .inr ⟨i + 1, folC_ge hki_ hi, hI2_⟩⟩
    ·obtain ⟨hle2_, s2_, rfl, hI2_⟩ := hT_
     replace hpf := hpf.mono hle2_
     replace hpl := hpl.mono hle2_
     replace hpp := hpp.mono hle2_
     replace hs2 := hs2.mono hle2_
     replace hp5 := hp5.mono hle2_
     refine WL.y (X.pickT rfl rfl rfl) ?_
     refine WL.mv rfl ?_
     refine WL.no rfl rfl rfl (by decide) ?_
     refine WL.no rfl rfl rfl (by decide) ?_
     refine WL.no rfl rfl rfl (by decide) ?_
     refine WL.no rfl rfl rfl (by decide) ?_
     refine WL.no rfl rfl rfl (by decide) ?_
     refine WL.y (X.pickF rfl rfl rfl) ?_
     refine WL.z ?_
     refine WC.condF rfl ?_
     refine WC.exit ?_
     refine WK.eThen ?_
     refine WK.eThen ?_
     refine WK.eHit ?_
     refine WK.end0 rfl (fun w' hw' => Ret.mut (hw'.weaken (.cons _ (.refl _))) ?_)
     first | exact ⟨s2_, rfl, .inl (by obtain ⟨n_, hn_⟩ : ∃ n_, L.length = n_ + 1 := ⟨i, by omega⟩; have hin_ : n_ = i := (by omega); rw [hn_, hin_, folC_full hki_]; exact hI2_)⟩ | exact ⟨s2_, rfl, .inr ⟨i + 1, folC_ge hki_ hi, hI2_⟩⟩
   ·refine WL.no rfl rfl rfl (by decide) ?_
    refine WL.no rfl rfl rfl (by decide) ?_
    refine WL.no rfl rfl rfl (by decide) ?_
    refine WL.y (X.pickF rfl rfl rfl) ?_
    refine WL.mv rfl ?_
    refine WL.no rfl rfl rfl (by decide) ?_
    refine WL.no rfl rfl rfl (by decide) ?_
    refine WL.no rfl rfl rfl (by decide) ?_
    refine WL.no rfl rfl rfl (by decide) ?_
    refine WL.no rfl rfl rfl (by decide) ?_
    refine WL.y (X.pickF rfl rfl rfl) ?_
    refine WL.z ?_
    refine WC.condF rfl ?_
    refine WC.exit ?_
    refine WK.eThen ?_
    refine WK.eThen ?_
    refine WK.eHit ?_
    refine WK.end0 rfl (fun w' hw' => Ret.mut (hw'.weaken (.cons _ (.refl _))) ?_)
    exact ⟨ss, rfl, .inl (by rw [folC_stop (hkn_ (by first | assumption | (simpa using by assumption))) hall L.length (by omega)]; exact hI)⟩

theorem follow70 (m : Mem) {p : Pen} {first : Int} {v : Value} {L : List Int} (hL : Sl m v L) (hpn : penP p) (hfb : -50000 ≤ first ∧ first ≤ 50000) (hlv : lvlP L) (hlen_ : 0 < L.length) : Pure Tryz.prog 70 #[.agg [.int .i64 (p.Band), .int .i64 (p.Zero.Lo), .int .i64 (p.Zero.Hi), .int .i64 (p.Rate)].toArray, .int .i64 first, v] m (fun m' v => ∃ lb, v = .func (.func 132) #[] lb.toArray ∧ Iter Tryz.prog 132 lb m' false (folC p first L L.length) (folA p first L)) := by
 refine Pure.start Tryz.func70 rfl Tryz.ntmps70 rfl fun wld => ?_
 refine WC.r ?_
 refine WL.tn (T.boxB rfl rfl) (by decide) fun b1 => ?_
 refine WL.tn (T.boxB rfl rfl) (by decide) fun b2 => ?_
 refine WL.tn (T.boxB (cs := [v]) rfl (one_cells hL.one)) (by decide) fun b3 => ?_
 refine WL.ag rfl ?_
 refine WL.z ?_
 refine WC.seq ?_
 refine WK.freezeS (α := Int) (x := first) 1 rfl rfl (show Enc.rd (α := Int) m [.int .i64 (first)] first from rfl) (fun m4 hle5 hp6 => ?_)
 replace hL := hL.mono hle5
 refine WK.freezeS (α := (List Int)) (x := L) 0 rfl rfl (show Enc.rd (α := (List Int)) m4 [v] L from ⟨_, rfl, hL⟩) (fun m7 hle8 hp9 => ?_)
 replace hL := hL.mono hle8
 replace hp6 := hp6.mono hle8
 refine WK.freezeS (α := Pen) (x := p) 0 rfl rfl (show Enc.rd (α := Pen) m7 [.int .i64 (p.Band), .int .i64 (p.Zero.Lo), .int .i64 (p.Zero.Hi), .int .i64 (p.Rate)] p from rfl) (fun m10 hle11 hp12 => ?_)
 replace hL := hL.mono hle11
 replace hp6 := hp6.mono hle11
 replace hp9 := hp9.mono hle11
 refine WC.region ?_
 refine WL.y (X.makeFunc (by intro x hx; simp at hx; rcases hx with rfl | rfl | rfl; all_goals exact ⟨_, rfl⟩) rfl) ?_
 refine WL.ag rfl ?_
 refine WL.z ?_
 refine WC.ret ?_
 refine WK.ret1 rfl rfl (fun w' hw' => Ret.mem hw' ?_)
 exact ⟨_, rfl, follow132 _ hp6 hp9 hp12 hpn hfb hlv hlen_⟩

set_option maxHeartbeats 1000000 in
theorem follow23 (m : Mem) (cp : List Value) (p : Pen) (hp : Enc.rd m cp p) (first : Int) (vreal : Value) (real : List Int) (hreal : Sl m vreal real)   : Pure Tryz.prog 23 #[.agg cp.toArray, .int .i64 (first), vreal] m (fun m' v => ∃ r0, v = .tuple #[r0, .int .i64 (folE p first real)] ∧ Sl m' r0 (folR p first real)) := by
 obtain rfl := hp
 have lreal := hreal.le
 refine Pure.start Tryz.func23 rfl Tryz.ntmps23 rfl fun wld => ?_
 refine WC.r ?_
 refine WL.tn (T.boxB rfl rfl) (by decide) fun b1 => ?_
 refine WL.ag rfl ?_
 refine WL.ag rfl ?_
 refine WL.z ?_
 refine WC.seq ?_
 refine WC.r ?_
 refine WL.y (X.loadBA (k := 0) Tryz.isAgg33 Tryz.sizeOf33 rfl rfl rfl) ?_
 refine WL.mv rfl ?_
 refine WL.tm (T.litM (α := Int) (vals := [.int .i64 (first)]) (L := [first]) sl27 rfl (.cons rfl rfl .nil) rfl rfl) (by decide) (fun m2 v3 hle4 hs5 => ?_)
 replace hreal := hreal.mono hle4
 refine WL.y (X.call Tryz.call68 rfl (asked68 _ _ p rfl _ _ hs5 )) ?_
 refine WL.ag rfl ?_
 refine WL.z ?_
 refine WC.r ?_
 refine WL.mv rfl ?_
 refine WL.condn (X.neq rfl rfl) (by decide) (fun h6 => ?_) (fun h6 => ?_)
 ·refine WL.z ?_
  refine WC.condT rfl ?_
  refine WC.r ?_
  refine WL.mv rfl ?_
  refine WL.ag rfl ?_
  refine WL.ag rfl ?_
  refine WL.z ?_
  refine WC.ret ?_
  refine WK.rThen ?_
  refine WK.ret2 rfl rfl rfl (fun w' hw' => Ret.mem hw' ?_)
  first | exact ⟨_, tup2 rfl (int_eq (by rw [folE_ask (by omega)])), by rw [folR_bad (by rw [folE_ask (by omega)]; omega)]; exact .nil⟩ | exact ⟨_, tup2 rfl (int_eq (by rw [folE_list (by omega) (by omega)])), by rw [folR_bad (by rw [folE_list (by omega) (by omega)]; omega)]; exact .nil⟩ | exact ⟨_, tup2 rfl (int_eq (by rw [folE_short (by omega) (by omega) (by omega)])), by rw [folR_bad (by rw [folE_short (by omega) (by omega) (by omega)]; omega)]; exact .nil⟩
 ·refine WL.z ?_
  refine WC.condF rfl ?_
  refine WC.skip ?_
  refine WK.nThen ?_
  refine WC.seq ?_
  refine WC.r ?_
  refine WL.mv rfl ?_
  refine WL.y (X.call Tryz.call69 rfl (list69 _ _ _ hreal )) ?_
  refine WL.ag rfl ?_
  refine WL.z ?_
  refine WC.r ?_
  refine WL.mv rfl ?_
  refine WL.condn (X.neq rfl rfl) (by decide) (fun h7 => ?_) (fun h7 => ?_)
  ·refine WL.z ?_
   refine WC.condT rfl ?_
   refine WC.r ?_
   refine WL.mv rfl ?_
   refine WL.ag rfl ?_
   refine WL.ag rfl ?_
   refine WL.z ?_
   refine WC.ret ?_
   refine WK.rThen ?_
   refine WK.ret2 rfl rfl rfl (fun w' hw' => Ret.mem hw' ?_)
   first | exact ⟨_, tup2 rfl (int_eq (by rw [folE_ask (by omega)])), by rw [folR_bad (by rw [folE_ask (by omega)]; omega)]; exact .nil⟩ | exact ⟨_, tup2 rfl (int_eq (by rw [folE_list (by omega) (by omega)])), by rw [folR_bad (by rw [folE_list (by omega) (by omega)]; omega)]; exact .nil⟩ | exact ⟨_, tup2 rfl (int_eq (by rw [folE_short (by omega) (by omega) (by omega)])), by rw [folR_bad (by rw [folE_short (by omega) (by omega) (by omega)]; omega)]; exact .nil⟩
  ·refine WL.z ?_
   refine WC.condF rfl ?_
   refine WC.skip ?_
   refine WK.nThen ?_
   refine WC.r ?_
   refine WL.tn (T.alloc Tryz.zeroValue27 rfl) (by decide) fun b8 => ?_
   refine WL.z ?_
   refine WC.seq ?_
   refine WC.seq ?_
   have haf_ := askE_of (p := p) (first := first) (by omega)
   have hle_ := listE_of (l := real) (by omega)
   refine WK.ownF Int 3 ?_
   refine WC.region ?_
   refine WL.y (X.loadBA (k := 2) Tryz.isAgg33 Tryz.sizeOf33 rfl rfl rfl) ?_
   refine WL.y (V := Value.agg [.int .i64 (p.Band), .int .i64 (p.Zero.Lo), .int .i64 (p.Zero.Hi), .int .i64 (p.Rate)].toArray) (X.build Tryz.zeroValue113 Tryz.runUnderlying113 (places113 _ Tryz.underlying113) rfl rfl) ?_
   refine WL.mv rfl ?_
   refine WL.mv rfl ?_
   refine WL.tm (T.call Tryz.call70 rfl (follow70 _ (p := p) (first := first) hreal haf_.1 haf_.2 hle_.2 (by omega))) (by decide) (fun m9 _ hle10 hR_ => ?_)
   obtain ⟨lb11, rfl, hit12⟩ := hR_
   replace hreal := hreal.mono hle10
   replace hs5 := hs5.mono hle10
   refine WL.z ?_
   refine WC.block ?_
   refine WK.perm [blk b8 27 [.slice none 0 0], rowF (.slice none 0 0) 3 (([] : List Int)), blk b1 33 [.int .i64 (p.Band), .int .i64 (p.Zero.Lo), .int .i64 (p.Zero.Hi), .int .i64 (p.Rate)]] ((List.Perm.cons _ (.refl _)).trans (List.perm_middle (l₁ := [rowF (.slice none 0 0) 3 (([] : List Int))]) (l₂ := [blk b1 33 [.int .i64 (p.Band), .int .i64 (p.Zero.Lo), .int .i64 (p.Zero.Hi), .int .i64 (p.Rate)]]) (a := blk b8 27 [.slice none 0 0])).symm) ?_
   refine WC.rangeFuncA (S := Value × List Int) (G := Nat) (ps := [29]) (n := folC p first real real.length) (A := folA p first real) rfl Tryz.call132 hit12 (fun x_ : Value × List Int => [blk b8 27 [x_.1], rowF (x_.1) 3 (x_.2), blk b1 33 [.int .i64 (p.Band), .int .i64 (p.Zero.Lo), .int .i64 (p.Zero.Hi), .int .i64 (p.Rate)]]) (fun i _ x_ => x_.2 = ovr i (shN p.Band first real)) (fun _ _ _ _ => False) (Value.slice none 0 0, ([] : List Int)) rfl rfl (fun h => by cases h) (fun _ _ _ _ _ h => h) (by simp) (fun i m1 args h => by rw [show args = _ from h]; rfl) (fun b_ args gh => blk b_ 172 ((args.getD 0 undef).cells.toList) :: (fun x_ : Value × List Int => [blk b8 27 [x_.1], rowF (x_.1) 3 (x_.2), blk b1 33 [.int .i64 (p.Band), .int .i64 (p.Zero.Lo), .int .i64 (p.Zero.Hi), .int .i64 (p.Rate)]]) gh) (fun b_ args => (11, .pointer (some ⟨b_, 0, none⟩)) :: [(0, .agg [.int .i64 (p.Band), .int .i64 (p.Zero.Lo), .int .i64 (p.Zero.Hi), .int .i64 (p.Rate)].toArray), (1, .int .i64 (first)), (2, vreal), (3, .pointer (some ⟨b1, 0, none⟩)), (6, .slice none 0 0), (7, .int .i64 (0)), (12, .agg [.int .i64 (p.Band), .int .i64 (p.Zero.Lo), .int .i64 (p.Zero.Hi), .int .i64 (p.Rate)].toArray), (13, .int .i64 (first)), (14, v3), (15, .int .i64 (askE p (([first])))), (8, .int .i64 (askE p (([first])))), (16, .int .i64 (askE p (([first])))), (17, .bool false), (19, vreal), (20, .int .i64 (listE real)), (9, .int .i64 (listE real)), (21, .int .i64 (listE real)), (22, .bool false), (10, .pointer (some ⟨b8, 0, none⟩)), (24, .agg [.int .i64 (p.Band), .int .i64 (p.Zero.Lo), .int .i64 (p.Zero.Hi), .int .i64 (p.Rate)].toArray), (25, .agg [.int .i64 (p.Band), .int .i64 (p.Zero.Lo), .int .i64 (p.Zero.Hi), .int .i64 (p.Rate)].toArray), (26, .int .i64 (first)), (27, vreal), (28, .func (.func 132) #[] lb11.toArray)]) ?_ ?_ ?_ ?_ ?_
   ·intro lo B1 i m1_0 gh args KK hlen hA1 hm1_0 hKK
    have hA2 : args = [.agg [.int .i64 (shN p.Band first real i), .int .i64 (gt real i)].toArray] := (by have := congrArg Array.toList (show args.toArray = #[.agg [.int .i64 (shN p.Band first real i), .int .i64 (gt real i)].toArray] from hA1); simpa using this)
    subst hA2
    refine WC.region ?_
    refine WL.tn (T.alloc Tryz.zeroValue172 rfl) (by decide) fun b13 => ?_
    refine WL.ts (T.storeBA (k := 0) Tryz.sizeOf172 rfl rfl rfl (one_cons rfl (one_cons rfl one_nil)) rfl rfl) ?_
    refine WL.nil ?_
    exact WK.keep (.cons rfl (.cons rfl (.cons rfl (.cons rfl (.cons rfl (.cons rfl (.cons rfl (.cons rfl (.cons rfl (.cons rfl (.cons rfl (.cons rfl (.cons rfl (.cons rfl (.cons rfl (.cons rfl (.cons rfl (.cons rfl (.cons rfl (.cons rfl (.cons rfl (.cons rfl (.cons rfl (.cons rfl (.cons rfl .nil))))))))))))))))))))))))) (hKK b13)
   ·intro lo B1 i m1_0 gh args b_ hlen hi hm1_0 hA1 hI1
    have hA2 : args = [.agg [.int .i64 (shN p.Band first real i), .int .i64 (gt real i)].toArray] := (by have := congrArg Array.toList (show args.toArray = #[.agg [.int .i64 (shN p.Band first real i), .int .i64 (gt real i)].toArray] from hA1); simpa using this)
    subst hA2
    obtain ⟨vo, M_⟩ := gh
    replace hI1 : M_ = ovr i (shN p.Band first real) := hI1
    subst hI1
    have hfl_ := folC_le (p := p) (first := first) (L := real) real.length
    replace hreal := hreal.mono hm1_0
    replace hs5 := hs5.mono hm1_0
    have hol_ : (ovr i (shN p.Band first real)).length = i := ovr_len _ _
    show WK _ _ m1_0 [blk b_ 172 [.int .i64 (shN p.Band first real i), .int .i64 (gt real i)], blk b8 27 [vo], rowF (vo) 3 (ovr i (shN p.Band first real)), blk b1 33 [.int .i64 (p.Band), .int .i64 (p.Zero.Lo), .int .i64 (p.Zero.Hi), .int .i64 (p.Rate)]] [(11, .pointer (some ⟨b_, 0, none⟩)), (0, .agg [.int .i64 (p.Band), .int .i64 (p.Zero.Lo), .int .i64 (p.Zero.Hi), .int .i64 (p.Rate)].toArray), (1, .int .i64 (first)), (2, vreal), (3, .pointer (some ⟨b1, 0, none⟩)), (6, .slice none 0 0), (7, .int .i64 (0)), (12, .agg [.int .i64 (p.Band), .int .i64 (p.Zero.Lo), .int .i64 (p.Zero.Hi), .int .i64 (p.Rate)].toArray), (13, .int .i64 (first)), (14, v3), (15, .int .i64 (askE p (([first])))), (8, .int .i64 (askE p (([first])))), (16, .int .i64 (askE p (([first])))), (17, .bool false), (19, vreal), (20, .int .i64 (listE real)), (9, .int .i64 (listE real)), (21, .int .i64 (listE real)), (22, .bool false), (10, .pointer (some ⟨b8, 0, none⟩)), (24, .agg [.int .i64 (p.Band), .int .i64 (p.Zero.Lo), .int .i64 (p.Zero.Hi), .int .i64 (p.Rate)].toArray), (25, .agg [.int .i64 (p.Band), .int .i64 (p.Zero.Lo), .int .i64 (p.Zero.Hi), .int .i64 (p.Rate)].toArray), (26, .int .i64 (first)), (27, vreal), (28, .func (.func 132) #[] lb11.toArray)] _
    refine WC.block ?_
    refine WC.region ?_
    refine WL.y (X.loadB (k := 1) Tryz.isAgg27 rfl rfl rfl) ?_
    refine WL.y (X.field Tryz.runUnderlying172 rfl Tryz.sizeOf3 rfl) ?_
    refine WL.y (X.loadB (k := 0) Tryz.isAgg3 rfl rfl rfl) ?_
    refine WL.tl (T.lit1 sl27 rfl rfl rfl (by decide)) (by decide) fun b14 => ?_
    refine WL.ta (T.appendF (k := 2) (a := shN p.Band first real i) sl27 rfl rfl rfl rfl (by first | omega | (simp; done) | (simp; omega)) (by decide)) (by decide) (fun v15 => ?_)
    refine WL.own1 (k := 2) rfl (fun ho16 => ?_)
    refine WL.ts (T.storeB (k := 1) Tryz.sizeOf27 rfl rfl rfl ho16 (Nat.le_of_ble_eq_true rfl)) ?_
    refine WL.nil ?_
    refine WK.nBlock ?_
    have he17 : ((ovr i (shN p.Band first real)) ++ [shN p.Band first real i]) = (ovr (i + 1) (shN p.Band first real)) := (ovr_snoc _ _).symm
    rw [he17]
    exact WK.goOn (v15, ovr (i + 1) (shN p.Band first real)) (Mem.le_refl _) (.cons _ (.refl _)) rfl
   ·intro m1_0 gh hm1_0 hI1
    obtain ⟨vo, M_⟩ := gh
    replace hI1 : M_ = ovr (folC p first real real.length) (shN p.Band first real) := hI1
    subst hI1
    replace hreal := hreal.mono hm1_0
    replace hs5 := hs5.mono hm1_0
    have hol_ : (ovr (folC p first real real.length) (shN p.Band first real)).length = folC p first real real.length := ovr_len _ _
    have hfl_ := folC_le (p := p) (first := first) (L := real) real.length
    refine WK.keep (σ' := [(0, .agg [.int .i64 (p.Band), .int .i64 (p.Zero.Lo), .int .i64 (p.Zero.Hi), .int .i64 (p.Rate)].toArray), (1, .int .i64 (first)), (2, vreal), (3, .pointer (some ⟨b1, 0, none⟩)), (6, .slice none 0 0), (7, .int .i64 (0)), (12, .agg [.int .i64 (p.Band), .int .i64 (p.Zero.Lo), .int .i64 (p.Zero.Hi), .int .i64 (p.Rate)].toArray), (13, .int .i64 (first)), (14, v3), (15, .int .i64 (askE p (([first])))), (8, .int .i64 (askE p (([first])))), (16, .int .i64 (askE p (([first])))), (17, .bool false), (19, vreal), (20, .int .i64 (listE real)), (9, .int .i64 (listE real)), (21, .int .i64 (listE real)), (22, .bool false), (10, .pointer (some ⟨b8, 0, none⟩)), (24, .agg [.int .i64 (p.Band), .int .i64 (p.Zero.Lo), .int .i64 (p.Zero.Hi), .int .i64 (p.Rate)].toArray), (25, .agg [.int .i64 (p.Band), .int .i64 (p.Zero.Lo), .int .i64 (p.Zero.Hi), .int .i64 (p.Rate)].toArray), (26, .int .i64 (first)), (27, vreal), (28, .func (.func 132) #[] lb11.toArray)]) (.cons rfl (.cons rfl (.cons rfl (.cons rfl (.cons rfl (.cons rfl (.cons rfl (.cons rfl (.cons rfl (.cons rfl (.cons rfl (.cons rfl (.cons rfl (.cons rfl (.cons rfl (.cons rfl (.cons rfl (.cons rfl (.cons rfl (.cons rfl (.cons rfl (.cons rfl (.cons rfl (.cons rfl .nil)))))))))))))))))))))))) ?_
    show WK _ _ m1_0 [blk b8 27 [vo], rowF (vo) 3 (ovr (folC p first real real.length) (shN p.Band first real)), blk b1 33 [.int .i64 (p.Band), .int .i64 (p.Zero.Lo), .int .i64 (p.Zero.Hi), .int .i64 (p.Rate)]] [(0, .agg [.int .i64 (p.Band), .int .i64 (p.Zero.Lo), .int .i64 (p.Zero.Hi), .int .i64 (p.Rate)].toArray), (1, .int .i64 (first)), (2, vreal), (3, .pointer (some ⟨b1, 0, none⟩)), (6, .slice none 0 0), (7, .int .i64 (0)), (12, .agg [.int .i64 (p.Band), .int .i64 (p.Zero.Lo), .int .i64 (p.Zero.Hi), .int .i64 (p.Rate)].toArray), (13, .int .i64 (first)), (14, v3), (15, .int .i64 (askE p (([first])))), (8, .int .i64 (askE p (([first])))), (16, .int .i64 (askE p (([first])))), (17, .bool false), (19, vreal), (20, .int .i64 (listE real)), (9, .int .i64 (listE real)), (21, .int .i64 (listE real)), (22, .bool false), (10, .pointer (some ⟨b8, 0, none⟩)), (24, .agg [.int .i64 (p.Band), .int .i64 (p.Zero.Lo), .int .i64 (p.Zero.Hi), .int .i64 (p.Rate)].toArray), (25, .agg [.int .i64 (p.Band), .int .i64 (p.Zero.Lo), .int .i64 (p.Zero.Hi), .int .i64 (p.Rate)].toArray), (26, .int .i64 (first)), (27, vreal), (28, .func (.func 132) #[] lb11.toArray)] _
    refine WK.nBlock ?_
    refine WK.nThen ?_
    refine WC.seq ?_
    refine WC.r ?_
    refine WL.y (X.loadB (k := 0) Tryz.isAgg27 rfl rfl rfl) ?_
    refine WL.y (X.lenF (k := 1) Tryz.runUnderlying27 rfl rfl) ?_
    refine WL.mv rfl ?_
    refine WL.y (X.len Tryz.runUnderlying27 rfl hreal) ?_
    refine WL.cond (X.lss rfl rfl) (by decide) (fun h18 => ?_) (fun h18 => ?_)
    ·refine WL.z ?_
     refine WC.condT rfl ?_
     refine WC.r ?_
     refine WL.ag rfl ?_
     refine WL.ag rfl ?_
     refine WL.z ?_
     refine WC.ret ?_
     refine WK.rThen ?_
     refine WK.ret2 rfl rfl rfl (fun w' hw' => Ret.mem hw' ?_)
     first | exact ⟨_, tup2 rfl (int_eq (by rw [folE_ask (by omega)])), by rw [folR_bad (by rw [folE_ask (by omega)]; omega)]; exact .nil⟩ | exact ⟨_, tup2 rfl (int_eq (by rw [folE_list (by omega) (by omega)])), by rw [folR_bad (by rw [folE_list (by omega) (by omega)]; omega)]; exact .nil⟩ | exact ⟨_, tup2 rfl (int_eq (by rw [folE_short (by omega) (by omega) (by omega)])), by rw [folR_bad (by rw [folE_short (by omega) (by omega) (by omega)]; omega)]; exact .nil⟩
    ·refine WL.z ?_
     refine WC.condF rfl ?_
     refine WC.skip ?_
     refine WK.nThen ?_
     refine WC.r ?_
     refine WL.y (X.loadB (k := 0) Tryz.isAgg27 rfl rfl rfl) ?_
     refine WL.ag rfl ?_
     refine WL.ag rfl ?_
     refine WL.z ?_
     refine WC.ret ?_
     refine WK.freezeF 1 rfl rfl (by rw [hol_]; unfold lenB; omega) (fun m19 hle20 hs21 => ?_)
     replace hreal := hreal.mono hle20
     replace hs5 := hs5.mono hle20
     refine WK.ret2 rfl rfl rfl (fun w' hw' => Ret.mem hw' ?_)
     have hfe_ := folE_ok (p := p) (first := first) (L := real) (by omega) (by omega) (by omega)
     have hfn_ : folC p first real real.length = real.length := (by omega)
     exact ⟨_, tup2 rfl (int_eq hfe_.symm), by rw [folR_ok hfe_]; have h_ := hs21; rw [hfn_] at h_; exact h_⟩
   ·intro i m1 gh hm1 hi hI1
    exact hI1.elim
   ·intro id i m1 gh hm1 hi hI1
    exact hI1.elim

end Go.Proofs.T10
