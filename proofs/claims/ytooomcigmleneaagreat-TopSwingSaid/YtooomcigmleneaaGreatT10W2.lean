import Derived.Test.YtooomcigmleneaaGreatKxW
import Derived.Test.YtooomcigmleneaaGreatT10W
import Derived.Test.YtooomcigmleneaaGreatKxY
import Derived.KernelRfl
/- Top: walks, second part, by program. -/
namespace Go.Proofs.T10
open Go Go.Kx
set_option linter.unusedSimpArgs false
set_option linter.unusedVariables false

theorem len273 (m : Mem) {z : Int} (hz : 0 ≤ z ∧ z ≤ 255) : Pure Tryz.prog 273 #[.int .u64 z] m (fun _ u => ∃ r : Int, (0 ≤ r ∧ r ≤ 255) ∧ u = .int .i64 r) := by
 refine Pure.start Tryz.func273 rfl Tryz.ntmps273 rfl fun wld => ?_
 refine WC.r ?_
 refine WL.ag rfl ?_
 refine WL.z ?_
 refine WC.seq ?_
 refine WC.r ?_
 refine WL.mv rfl ?_
 refine WL.y (OpX.f (X.geq rfl rfl) (by omega)) ?_
 refine WL.z ?_
 refine WC.condF rfl ?_
 refine WC.skip ?_
 refine WK.nThen ?_
 refine WC.seq ?_
 refine WC.r ?_
 refine WL.mv rfl ?_
 refine WL.y (OpX.f (X.geq rfl rfl) (by omega)) ?_
 refine WL.z ?_
 refine WC.condF rfl ?_
 refine WC.skip ?_
 refine WK.nThen ?_
 refine WC.seq ?_
 refine WC.r ?_
 refine WL.mv rfl ?_
 refine WL.y (OpX.f (X.geq rfl rfl) (by omega)) ?_
 refine WL.z ?_
 refine WC.condF rfl ?_
 refine WC.skip ?_
 refine WK.nThen ?_
 refine WC.r ?_
 refine WL.mv rfl ?_
 refine WL.mv rfl ?_
 refine WL.y (X.conv Tryz.runUnderlying410 Tryz.runUnderlying5 rfl (wrap_u8 (by omega) (by omega))) ?_
 refine WL.xe (E.idxStr 256 Tryz.runUnderlying9 rfl rfl (by kernel_rfl) (by omega) (by omega)) (by decide) (fun z1 h2 => ?_)
 refine WL.y (X.conv Tryz.runUnderlying5 Tryz.runUnderlying3 rfl (wrap_in (by omega) (by omega))) ?_
 refine WL.y (X.add rfl rfl (by omega) (by omega)) ?_
 refine WL.ag rfl ?_
 refine WL.z ?_
 refine WC.ret ?_
 refine WK.ret1 rfl rfl (fun w' hw' => Ret.mem hw' ?_)
 exact ⟨_, by omega, rfl⟩

theorem len225 (m : Mem) {z : Int} (hz : 0 ≤ z ∧ z ≤ 255) : Pure Tryz.prog 225 #[.int .u64 z] m (fun _ u => ∃ r : Int, (0 ≤ r ∧ r ≤ 255) ∧ u = .int .i64 r) := by
 refine Pure.start Tryz.func225 rfl Tryz.ntmps225 rfl fun wld => ?_
 refine WC.r ?_
 refine WL.ag rfl ?_
 refine WL.z ?_
 refine WC.seq ?_
 refine WC.condF rfl ?_
 refine WC.skip ?_
 refine WK.nThen ?_
 refine WC.r ?_
 refine WL.mv rfl ?_
 refine WL.tm (T.call Tryz.call273 rfl (len273 _ (z := z) (by omega))) (by decide) (fun m1 _ hle2 hR_ => ?_)
 obtain ⟨z3, h4, rfl⟩ := hR_
 refine WL.ag rfl ?_
 refine WL.z ?_
 refine WC.ret ?_
 refine WK.ret1 rfl rfl (fun w' hw' => Ret.mem hw' ?_)
 exact ⟨_, by omega, rfl⟩

set_option maxHeartbeats 1000000 in
theorem ins274 (m : Mem) {v : Value} {L : List Int} (hL : L.length ≤ 12) {z0 zb : Int} (hz0 : z0 = 0) (hz : zb = L.length) : Mut Tryz.prog 274 #[v, .int .i64 z0, .int .i64 zb] m [rowF v 3 L] (fun _ Es u => u = .tuple #[] ∧ ∃ R, Es = [rowF v 3 R] ∧ R.Perm L ∧ Srt id R 0 L.length) := by
 subst hz0 hz
 refine Mut.start Tryz.func274 rfl Tryz.ntmps274 rfl fun wld => ?_
 refine WC.r ?_
 refine WL.mv rfl ?_
 refine WL.y (X.add rfl rfl (by omega) (by omega)) ?_
 refine WL.ag rfl ?_
 refine WL.z ?_
 refine WC.block ?_
 refine WC.loop (G := Nat × List Int) (fun (i, R) => L.length - i) (fun (i, R) => m) (fun (i, R) => [rowF (v) 3 (R)]) (fun (i, R) => [(0, v), (1, .int .i64 (0)), (2, .int .i64 (↑L.length)), (6, .int .i64 (↑i))]) (fun (i, R) => 1 ≤ i ∧ R.Perm L ∧ Srt id R 0 i) ((1, L)) rfl (.refl _) (.cons rfl (.cons rfl (.cons rfl (.cons rfl .nil)))) ?_ ?_
 ·exact ⟨Nat.le_refl _, .refl _, .one id _ 0⟩
 ·rintro ⟨i, R⟩ hF1
  show WK _ _ m [rowF (v) 3 (R)] [(0, v), (1, .int .i64 (0)), (2, .int .i64 (↑L.length)), (6, .int .i64 (↑i))] _
  replace hF1 : 1 ≤ i ∧ R.Perm L ∧ Srt id R 0 i := hF1
  obtain ⟨hi, hP, hT⟩ := hF1
  have hPl := hP.length_eq
  refine WC.seq ?_
  refine WC.r ?_
  refine WL.mv rfl ?_
  refine WL.mv rfl ?_
  refine WL.cond (X.lss rfl rfl) (by decide) (fun h2 => ?_) (fun h2 => ?_)
  ·refine WL.z ?_
   refine WC.condT rfl ?_
   refine WC.skip ?_
   refine WK.nThen ?_
   refine WC.seq ?_
   refine WC.block ?_
   refine WC.r ?_
   refine WL.mv rfl ?_
   refine WL.ag rfl ?_
   refine WL.z ?_
   refine WC.block ?_
   refine WC.loop (G := Nat × List Int) (fun (j, R) => j) (fun (j, R) => m) (fun (j, R) => [rowF (v) 3 (R)]) (fun (j, R) => [(0, v), (1, .int .i64 (0)), (2, .int .i64 (↑L.length)), (6, .int .i64 (↑i)), (7, .int .i64 (↑j))]) (fun (j, R) => InsI id L R 0 i j) ((i, R)) rfl (.refl _) (.cons rfl (.cons rfl (.cons rfl (.cons rfl (.cons rfl .nil))))) ?_ ?_
   ·exact ins_start hP hT (by omega)
   ·rintro ⟨j, R⟩ hF3
    show WK _ _ m [rowF (v) 3 (R)] [(0, v), (1, .int .i64 (0)), (2, .int .i64 (↑L.length)), (6, .int .i64 (↑i)), (7, .int .i64 (↑j))] _
    replace hF3 : InsI id L R 0 i j := hF3
    have hI := hF3
    have hIl := hI.perm.length_eq
    have hIb := hI.bd
    refine WC.seq ?_
    refine WC.seq ?_
    refine WC.draw (π := (.cons 0 (.cons 1 (.cons 2 (.cons 3 (.cons 4 (.cons 5 (.cons 6 (.cons 7 (.cons 8 (.cons 9 (.cons 10 (.cons 11 (.cons 12 (.cons 13 (.cons 14 .done)))))))))))))))) [] [] rfl (by kernel_rfl) ?_
    refine DW.y rfl rfl (X.move rfl) ?_
    refine DW.y rfl rfl (X.move rfl) ?_
    refine DW.cond rfl rfl (X.gtr rfl rfl) (by decide) (fun h4 => ?_) (fun h4 => ?_)
    ·refine DW.y rfl rfl (X.move rfl) ?_
     refine DW.y rfl rfl (X.move rfl) ?_
     refine DW.y rfl rfl (X.move rfl) ?_
     refine DW.y rfl rfl (X.idxIE (k := 0) j Tryz.runUnderlying27 Tryz.sizeOf3 rfl rfl rfl (by omega) (by first | omega | (simp; omega) | simp)) ?_
     refine DW.y rfl rfl (X.loadI (k := 0) (i := j) Tryz.isAgg3 rfl rfl (by first | omega | (simp; omega) | simp)) ?_
     refine DW.y rfl rfl (X.move rfl) ?_
     refine DW.y rfl rfl (X.move rfl) ?_
     refine DW.y rfl rfl (X.sub rfl rfl (by omega) (by omega)) ?_
     refine DW.y rfl rfl (X.idxIE (k := 0) (j - 1) Tryz.runUnderlying27 Tryz.sizeOf3 rfl rfl rfl (by omega) (by first | omega | (simp; omega) | simp)) ?_
     refine DW.y rfl rfl (X.loadI (k := 0) (i := (j - 1)) Tryz.isAgg3 rfl rfl (by first | omega | (simp; omega) | simp)) ?_
     refine DW.cond rfl rfl (X.call Tryz.call280 rfl (less280 _ _ _ )) (by decide) (fun h5 => ?_) (fun h5 => ?_)
     ·refine DW.y rfl rfl (X.pickT rfl rfl rfl) ?_
      refine DW.nil ?_
      refine WK.nThen ?_
      refine WC.condT rfl ?_
      refine WC.skip ?_
      refine WK.nThen ?_
      refine WC.seq ?_
      refine WC.block ?_
      refine WC.draw (π := (.cons 0 (.cons 1 (.cons 2 (.cons 3 (.cons 4 (.cons 5 (.cons 6 (.cons 7 (.cons 8 (.cons 9 (.cons 10 (.cons 11 (.cons 12 (.cons 13 (.cons 14 (.cons 15 (.cons 16 (.cons 17 .done))))))))))))))))))) [15, 17] [15, 17, 100004] rfl (by kernel_rfl) ?_
      refine DW.y rfl rfl (X.move rfl) ?_
      refine DW.y rfl rfl (X.move rfl) ?_
      refine DW.y rfl rfl (X.move rfl) ?_
      refine DW.y rfl rfl (X.move rfl) ?_
      refine DW.xf rfl rfl rfl (fun _ _ hle_ => (X.sub rfl rfl (by omega) (by omega))) (by decide) ?_
      refine DW.y rfl rfl (X.move rfl) ?_
      refine DW.y rfl rfl (X.move rfl) ?_
      refine DW.y rfl rfl (X.sub rfl rfl (by omega) (by omega)) ?_
      refine DW.y rfl rfl (X.idxIE (k := 0) (j - 1) Tryz.runUnderlying27 Tryz.sizeOf3 rfl rfl rfl (by omega) (by first | omega | (simp; omega) | simp)) ?_
      refine DW.y rfl rfl (X.loadI (k := 0) (i := (j - 1)) Tryz.isAgg3 rfl rfl (by first | omega | (simp; omega) | simp)) ?_
      refine DW.y rfl rfl (X.move rfl) ?_
      refine DW.y rfl rfl (X.move rfl) ?_
      refine DW.y rfl rfl (X.idxIE (k := 0) j Tryz.runUnderlying27 Tryz.sizeOf3 rfl rfl rfl (by omega) (by first | omega | (simp; omega) | simp)) ?_
      refine DW.y rfl rfl (X.loadI (k := 0) (i := j) Tryz.isAgg3 rfl rfl (by first | omega | (simp; omega) | simp)) ?_
      refine DW.y rfl rfl (X.idxIE (k := 0) j Tryz.runUnderlying27 Tryz.sizeOf3 rfl rfl rfl (by omega) (by first | omega | (simp; omega) | simp)) ?_
      refine DW.ts rfl rfl rfl rfl (T.storeI (k := 0) (i := j) Tryz.sizeOf3 rfl rfl rfl (by first | omega | (simp; omega) | simp)) ?_
      refine DW.y rfl rfl (X.idxIE (k := 0) (j - 1) Tryz.runUnderlying27 Tryz.sizeOf3 rfl rfl rfl (by omega) (by first | omega | (simp; omega) | simp)) ?_
      refine DW.ts rfl rfl rfl rfl (T.storeI (k := 0) (i := (j - 1)) Tryz.sizeOf3 rfl rfl rfl (by first | omega | (simp; omega) | simp)) ?_
      refine DW.nil ?_
      refine WK.nBlock ?_
      refine WK.nThen ?_
      refine WC.region ?_
      refine WL.mv rfl ?_
      refine WL.y (X.sub rfl rfl (by omega) (by omega)) ?_
      refine WL.ag rfl ?_
      refine WL.z ?_
      obtain ⟨j1_, hj1_⟩ : ∃ qq__ : Nat, (↑j - 1 : Int) = (qq__ : Int) := ⟨(↑j - 1 : Int).toNat, (by omega)⟩
      rw [hj1_]
      obtain rfl : j1_ = j - 1 := (by omega)
      refine WK.next ((j - 1, (R.set j (gt R ((j - 1)))).set ((j - 1)) (gt R j))) rfl (.refl _) (.cons rfl (.cons rfl (.cons rfl (.cons rfl (.cons rfl .nil))))) ?_ ?_
      ·exact ins_step hI (by omega) (by assumption)
      ·(dsimp only; omega)
     ·refine DW.y rfl rfl (X.pickT rfl rfl rfl) ?_
      refine DW.nil ?_
      refine WK.nThen ?_
      refine WC.condF rfl ?_
      refine WC.exit ?_
      refine WK.eThen ?_
      refine WK.eThen ?_
      refine WK.eHit ?_
      refine WK.nBlock ?_
      refine WK.nThen ?_
      have hfin := ins_end hI (fun h_ hc_ => by first | omega | contradiction)
      refine WC.region ?_
      refine WL.mv rfl ?_
      refine WL.y (X.add rfl rfl (by omega) (by omega)) ?_
      refine WL.ag rfl ?_
      refine WL.z ?_
      refine WK.next ((i + 1, R)) rfl (.refl _) (.cons rfl (.cons rfl (.cons rfl (.cons rfl .nil)))) ?_ ?_
      ·exact ⟨by omega, hfin.1, hfin.2⟩
      ·(dsimp only; omega)
    ·refine DW.y rfl rfl (X.move rfl) ?_
     refine DW.no rfl rfl (by decide) ?_
     refine DW.no rfl rfl (by decide) ?_
     refine DW.no rfl rfl (by decide) ?_
     refine DW.no rfl rfl (by decide) ?_
     refine DW.no rfl rfl (by decide) ?_
     refine DW.no rfl rfl (by decide) ?_
     refine DW.no rfl rfl (by decide) ?_
     refine DW.no rfl rfl (by decide) ?_
     refine DW.no rfl rfl (by decide) ?_
     refine DW.no rfl rfl (by decide) ?_
     refine DW.y rfl rfl (X.pickF rfl rfl rfl) ?_
     refine DW.nil ?_
     refine WK.nThen ?_
     refine WC.condF rfl ?_
     refine WC.exit ?_
     refine WK.eThen ?_
     refine WK.eThen ?_
     refine WK.eHit ?_
     refine WK.nBlock ?_
     refine WK.nThen ?_
     have hfin := ins_end hI (fun h_ hc_ => by first | omega | contradiction)
     refine WC.region ?_
     refine WL.mv rfl ?_
     refine WL.y (X.add rfl rfl (by omega) (by omega)) ?_
     refine WL.ag rfl ?_
     refine WL.z ?_
     refine WK.next ((i + 1, R)) rfl (.refl _) (.cons rfl (.cons rfl (.cons rfl (.cons rfl .nil)))) ?_ ?_
     ·exact ⟨by omega, hfin.1, hfin.2⟩
     ·(dsimp only; omega)
  ·refine WL.z ?_
   refine WC.condF rfl ?_
   refine WC.exit ?_
   refine WK.eThen ?_
   refine WK.eThen ?_
   refine WK.eHit ?_
   refine WK.end0 rfl (fun w' hw' => Ret.mut hw' ?_)
   refine ⟨rfl, R, rfl, hP, ?_⟩
   intro p q h1_ h2_ h3_
   exact hT p q h1_ h2_ (by omega)

theorem pdq226 (m : Mem) {v : Value} {L : List Int} (hL : L.length ≤ 12) {z0 zb zl : Int} (hz0 : z0 = 0) (hz : zb = L.length) : Mut Tryz.prog 226 #[v, .int .i64 z0, .int .i64 zb, .int .i64 zl] m [rowF v 3 L] (fun _ Es u => u = .tuple #[] ∧ ∃ R, Es = [rowF v 3 R] ∧ R.Perm L ∧ Srt id R 0 L.length) := by
 subst hz0 hz
 refine Mut.start Tryz.func226 rfl Tryz.ntmps226 rfl fun wld => ?_
 refine WC.r ?_
 refine WL.ag rfl ?_
 refine WL.z ?_
 refine WC.r ?_
 refine WL.ag rfl ?_
 refine WL.z ?_
 refine WC.block ?_
 refine WC.loop (G := Unit) (fun u_ => 0) (fun u_ => m) (fun u_ => [rowF (v) 3 (L)]) (fun u_ => [(0, v), (1, .int .i64 (0)), (2, .int .i64 (↑L.length)), (3, .int .i64 (zl)), (8, .bool true), (9, .bool true)]) (fun u_ => True) (()) rfl (.refl _) (.cons rfl (.cons rfl (.cons rfl (.cons rfl (.cons rfl (.cons rfl .nil)))))) ?_ ?_
 ·trivial
 ·rintro u_ hF1
  show WK _ _ m [rowF (v) 3 (L)] [(0, v), (1, .int .i64 (0)), (2, .int .i64 (↑L.length)), (3, .int .i64 (zl)), (8, .bool true), (9, .bool true)] _
  replace hF1 : True := hF1
  have hT_ := hF1
  refine WC.block ?_
  refine WC.r ?_
  refine WL.mv rfl ?_
  refine WL.mv rfl ?_
  refine WL.y (X.sub rfl rfl (by omega) (by omega)) ?_
  refine WL.ag rfl ?_
  refine WL.z ?_
  refine WC.seq ?_
  refine WC.r ?_
  refine WL.mv rfl ?_
  refine WL.y (OpX.t (X.leq rfl rfl) (by omega)) ?_
  refine WL.z ?_
  refine WC.condT rfl ?_
  refine WC.r ?_
  refine WL.mv rfl ?_
  refine WL.mv rfl ?_
  refine WL.mv rfl ?_
  refine WL.tM (T.callP (A := []) Tryz.call274 rfl (.refl _) (ins274 _ (L := L) (by omega) (by omega) (by omega))) (by decide) (fun m2 Es_ _ hle3 hR_ => ?_)
  obtain ⟨rfl, R4, rfl, hR5⟩ := hR_
  refine WL.z ?_
  refine WC.ret ?_
  refine WK.rThen ?_
  refine WK.rBlock ?_
  refine WK.rThen ?_
  refine WK.rBlock ?_
  refine WK.ret0 rfl (fun w' hw' => Ret.mut hw' ?_)
  exact ⟨rfl, _, rfl, hR5⟩

theorem sort150 (m : Mem) {v : Value} {L : List Int} (hL : L.length ≤ 12) : Mut Tryz.prog 150 #[v] m [rowF v 3 L] (fun _ Es u => u = .tuple #[] ∧ ∃ R, Es = [rowF v 3 R] ∧ R.Perm L ∧ Srt id R 0 L.length) := by
 refine Mut.start Tryz.func150 rfl Tryz.ntmps150 rfl fun wld => ?_
 refine WC.r ?_
 refine WL.mv rfl ?_
 refine WL.y (X.lenF (k := 0) Tryz.runUnderlying27 rfl rfl) ?_
 refine WL.ag rfl ?_
 refine WL.z ?_
 refine WC.region ?_
 refine WL.mv rfl ?_
 refine WL.mv rfl ?_
 refine WL.mv rfl ?_
 refine WL.y (X.conv Tryz.runUnderlying3 Tryz.runUnderlying358 rfl (wrap_u64 (by omega) (by omega))) ?_
 refine WL.tm (T.call Tryz.call225 rfl (len225 _ (z := ↑L.length) (by omega))) (by decide) (fun m1 _ hle2 hR_ => ?_)
 obtain ⟨z3, h4, rfl⟩ := hR_
 refine WL.tM (T.callP (A := []) Tryz.call226 rfl (.refl _) (pdq226 _ (L := L) (by omega) (by omega) (by omega))) (by decide) (fun m5 Es_ _ hle6 hR_ => ?_)
 obtain ⟨rfl, R7, rfl, hR8⟩ := hR_
 refine WL.nil ?_
 refine WK.end0 rfl (fun w' hw' => Ret.mut hw' ?_)
 exact ⟨rfl, _, rfl, hR8⟩

theorem middle79 (m : Mem) {v : Value} {x y z : Int} : Mut Tryz.prog 79 #[v] m [rowF v 3 [x, y, z]] (fun _ Es u => Es = [] ∧ u = .int .i64 (max (min x y) (min (max x y) z))) := by
 refine Mut.start Tryz.func79 rfl Tryz.ntmps79 rfl fun wld => ?_
 refine WC.r ?_
 refine WL.ag rfl ?_
 refine WL.z ?_
 refine WC.r ?_
 refine WL.mv rfl ?_
 refine WL.tM (T.callP (A := []) Tryz.call150 rfl (.refl _) (sort150 _ (L := [x, y, z]) (by first | omega | (simp; done) | decide))) (by decide) (fun m1 Es_ _ hle2 hR_ => ?_)
 obtain ⟨rfl, R3, rfl, hR4⟩ := hR_
 refine WL.z ?_
 refine WC.seq ?_
 have hl3_ : R3.length = 3 := hR4.1.length_eq
 have hmd_ := mid_three hR4.1 hR4.2
 refine WC.region ?_
 refine WL.mv rfl ?_
 refine WL.mv rfl ?_
 refine WL.y (X.lenF (k := 0) Tryz.runUnderlying27 rfl rfl) ?_
 refine WL.y (X.quo rfl rfl (by omega) (by omega) (by omega)) ?_
 refine WL.y (X.idxI (k := 0) Tryz.runUnderlying27 Tryz.sizeOf3 rfl rfl rfl (by first | omega | (simp; omega) | simp) (by first | omega | (simp; omega) | simp)) ?_
 refine WL.y (X.loadI (k := 0) (i := (↑R3.length / 2 : Int).toNat) Tryz.isAgg3 rfl rfl (by first | omega | (simp; omega) | simp)) ?_
 refine WL.ag rfl ?_
 refine WL.z ?_
 refine WC.ret ?_
 refine WK.ret1 rfl rfl (fun w' hw' => Ret.mut (hw'.weaken (.cons _ .slnil)) ?_)
 refine ⟨rfl, int_eq ?_⟩
 rw [← hmd_]
 congr 1
 omega

theorem next33 (m : Mem) (cp : List Value) (p : Pen) (hp : Enc.rd m cp p) (s : Int) (r : Int)  (hb : 0 ≤ p.Band ∧ p.Band ≤ 8) (hr : -200000 ≤ r ∧ r ≤ 200000) : Exact Tryz.prog 33 #[.agg cp.toArray, .int .i64 (s), .int .i64 (r)] m (.int .i64 (clampN p.Band s r)) := by
 obtain rfl := hp
 refine Exact.start Tryz.func33 rfl Tryz.ntmps33 rfl fun wld => ?_
 refine WC.r ?_
 refine WL.tn (T.boxB rfl rfl) (by decide) fun b1 => ?_
 refine WL.ag rfl ?_
 refine WL.z ?_
 refine WC.r ?_
 refine WL.mv rfl ?_
 refine WL.mv rfl ?_
 refine WL.y (X.field Tryz.runUnderlying113 rfl Tryz.sizeOf33 rfl) ?_
 refine WL.y (X.field Tryz.runUnderlying33 rfl Tryz.sizeOf3 rfl) ?_
 refine WL.y (X.loadB (k := 0) Tryz.isAgg3 rfl rfl rfl) ?_
 refine WL.y (X.sub rfl rfl (by omega) (by omega)) ?_
 refine WL.mv rfl ?_
 refine WL.y (X.field Tryz.runUnderlying113 rfl Tryz.sizeOf33 rfl) ?_
 refine WL.y (X.field Tryz.runUnderlying33 rfl Tryz.sizeOf3 rfl) ?_
 refine WL.y (X.loadB (k := 0) Tryz.isAgg3 rfl rfl rfl) ?_
 refine WL.y (X.add rfl rfl (by omega) (by omega)) ?_
 refine WL.ta (T.litF (vals := [.int .i64 (s), .int .i64 (r - p.Band), .int .i64 (r + p.Band)]) (L := [s, r - p.Band, r + p.Band]) sl27 rfl rfl (by intro v hv; simp at hv; rcases hv with rfl | rfl | rfl <;> rfl) rfl rfl rfl) (by decide) (fun v2 => ?_)
 refine WL.tM (T.callP (A := [blk b1 113 [.int .i64 (p.Band), .int .i64 (p.Zero.Lo), .int .i64 (p.Zero.Hi), .int .i64 (p.Rate)]]) Tryz.call79 rfl (.refl _) (middle79 _)) (by decide) (fun m3 Es_ _ hle4 hR_ => ?_)
 obtain ⟨rfl, rfl⟩ := hR_
 refine WL.ag rfl ?_
 refine WL.z ?_
 refine WC.ret ?_
 refine WK.ret1 rfl rfl (fun w' hw' => Ret.exact hw' ?_)
 exact int_eq (by unfold clampN; omega)

end Go.Proofs.T10
