import Derived.Test.YtednficclnjmjaaC8Sort
import Derived.Test.YtednficclnjmjaaC8W18
/- Century: walks, nineteenth part, by program. -/
namespace Go.Proofs.C8
open Go Go.Kx
set_option linter.unusedSimpArgs false
set_option linter.unusedVariables false

theorem cmp138 (m : Mem) (ca : List Value) (a : Val) (ha : Enc.rd m ca a) (cb : List Value) (b : Val) (hb : Enc.rd m cb b)   : Exact Try.prog 138 #[.agg ca.toArray, .agg cb.toArray] m (.int .i64 (cmpR a.Time b.Time)) := by
 obtain rfl := ha
 obtain rfl := hb
 refine Exact.start Try.func138 rfl Try.ntmps138 rfl fun wld => ?_
 refine WC.seq ?_
 refine WC.region ?_
 refine WL.tn (T.boxB rfl rfl) (by decide) fun b1 => ?_
 refine WL.tn (T.boxB rfl rfl) (by decide) fun b2 => ?_
 refine WL.x (X.assign rfl) (by decide) ?_
 refine WL.nil ?_
 refine WK.nThen ?_
 refine WC.seq ?_
 refine WC.region ?_
 refine WL.x (X.field Try.runUnderlying62 rfl Try.sizeOf3 rfl) (by decide) ?_
 refine WL.x (X.loadB (k := 1) Try.isAgg3 rfl rfl rfl) (by decide) ?_
 refine WL.x (X.field Try.runUnderlying62 rfl Try.sizeOf3 rfl) (by decide) ?_
 refine WL.x (X.loadB (k := 0) Try.isAgg3 rfl rfl rfl) (by decide) ?_
 refine WL.x (X.call Try.call139 rfl (cmp139 _ _ _ )) (by decide) ?_
 refine WL.x (X.assign rfl) (by decide) ?_
 refine WL.nil ?_
 refine WK.nThen ?_
 refine WC.ret ?_
 refine WK.ret1 rfl rfl (fun w' hw' => Ret.exact hw' ?_)
 first | rfl | (simp [*]; done)

set_option maxHeartbeats 1000000 in
theorem insSort157 (m : Mem) {v : Value} {L : List Val} (hL : L.length ≤ 1000) {a b : Nat} {za zb : Int} (hza : za = a) (hzb : zb = b) (hab : a ≤ b) (hbl : b ≤ L.length) : Mut Try.prog 157 #[v, .int .i64 za, .int .i64 zb, .func (.func 138) #[] #[]] m [rowF v 62 L] (fun _ Es u => u = .tuple #[] ∧ ∃ R, Es = [rowF v 62 R] ∧ Seg L R a b ∧ Srt R a b) := by
 subst hza
 subst hzb
 refine Mut.start Try.func157 rfl Try.ntmps157 rfl fun wld => ?_
 refine WC.seq ?_
 refine WC.region ?_
 refine WL.x (X.move rfl) (by decide) ?_
 refine WL.x (X.add rfl rfl (by omega) (by omega)) (by decide) ?_
 refine WL.x (X.assign rfl) (by decide) ?_
 refine WL.nil ?_
 refine WK.nThen ?_
 refine WC.block ?_
 refine WC.loop (G := Nat × List Val) (fun (i, R) => b - i) (fun (i, R) => m) (fun (i, R) => [rowF (v) 62 (R)]) (fun (i, R) => [(0, v), (1, .int .i64 (↑a)), (2, .int .i64 (↑b)), (3, .func (.func 138) #[] [].toArray), (8, .int .i64 (↑i))]) (fun (i, R) => a + 1 ≤ i ∧ (b ≤ i → i ≤ a + 1 ∨ i = b) ∧ Seg L R a b ∧ Srt R a i) ((a + 1, L)) rfl (.refl _) (.cons rfl (.cons rfl (.cons rfl (.cons rfl (.cons rfl .nil))))) ?_ ?_
 ·exact ⟨by omega, fun _ => by omega, .refl _ _ _, .one _ _⟩
 ·rintro ⟨i, R⟩ hF1
  show WK _ _ m [rowF (v) 62 (R)] [(0, v), (1, .int .i64 (↑a)), (2, .int .i64 (↑b)), (3, .func (.func 138) #[] [].toArray), (8, .int .i64 (↑i))] _
  replace hF1 : a + 1 ≤ i ∧ (b ≤ i → i ≤ a + 1 ∨ i = b) ∧ Seg L R a b ∧ Srt R a i := hF1
  obtain ⟨hi, hib, hS, hT⟩ := hF1
  have hSl := hS.len
  refine WC.seq ?_
  refine WC.seq ?_
  refine WC.region ?_
  refine WL.x (X.move rfl) (by decide) ?_
  refine WL.x (X.move rfl) (by decide) ?_
  refine WL.cond (X.lss rfl rfl) (by decide) (fun h2 => ?_) (fun h2 => ?_)
  ·refine WL.nil ?_
   refine WK.nThen ?_
   refine WC.condT rfl ?_
   refine WC.skip ?_
   refine WK.nThen ?_
   refine WC.seq ?_
   refine WC.block ?_
   refine WC.seq ?_
   refine WC.region ?_
   refine WL.x (X.move rfl) (by decide) ?_
   refine WL.x (X.assign rfl) (by decide) ?_
   refine WL.nil ?_
   refine WK.nThen ?_
   refine WC.block ?_
   refine WC.loop (G := Nat × List Val) (fun (j, R) => j) (fun (j, R) => m) (fun (j, R) => [rowF (v) 62 (R)]) (fun (j, R) => [(0, v), (1, .int .i64 (↑a)), (2, .int .i64 (↑b)), (3, .func (.func 138) #[] [].toArray), (8, .int .i64 (↑i)), (9, .int .i64 (↑j))]) (fun (j, R) => InsI L R a b i j) ((i, R)) rfl (.refl _) (.cons rfl (.cons rfl (.cons rfl (.cons rfl (.cons rfl (.cons rfl .nil)))))) ?_ ?_
   ·exact ins_start hS hT (by omega)
   ·rintro ⟨j, R⟩ hF3
    show WK _ _ m [rowF (v) 62 (R)] [(0, v), (1, .int .i64 (↑a)), (2, .int .i64 (↑b)), (3, .func (.func 138) #[] [].toArray), (8, .int .i64 (↑i)), (9, .int .i64 (↑j))] _
    replace hF3 : InsI L R a b i j := hF3
    have hI := hF3
    have hIl := hI.seg.len
    have hIb := hI.bd
    refine WC.seq ?_
    refine WC.seq ?_
    refine WC.draw (π := (.cons 0 (.cons 1 (.cons 2 (.cons 3 (.cons 4 (.cons 5 (.cons 6 (.cons 7 (.cons 8 (.cons 9 (.cons 10 (.cons 11 (.cons 12 (.cons 13 (.cons 14 (.cons 15 (.cons 16 .done)))))))))))))))))) [] [] rfl (by kernel_rfl) ?_
    refine DW.x rfl rfl (X.move rfl) (by decide) ?_
    refine DW.x rfl rfl (X.move rfl) (by decide) ?_
    refine DW.cond rfl rfl (X.gtr rfl rfl) (by decide) (fun h4 => ?_) (fun h4 => ?_)
    ·refine DW.x rfl rfl (X.move rfl) (by decide) ?_
     refine DW.x rfl rfl (X.move rfl) (by decide) ?_
     refine DW.x rfl rfl (X.move rfl) (by decide) ?_
     refine DW.x rfl rfl (X.move rfl) (by decide) ?_
     refine DW.x rfl rfl (X.idxRowE (k := 0) j Try.runUnderlying22 Try.sizeOf62 rfl rfl rfl (by omega) (by first | omega | (simp; omega) | simp)) (by decide) ?_
     refine DW.x rfl rfl (X.loadFs (k := 0) (i := j) (off := 0) (us := [.int .i64 (((gt R j)).Time), .int .i64 ((((gt R j)).Levels).Lo), .int .i64 ((((gt R j)).Levels).Hi)]) Try.isAgg62 Try.sizeOf62 rfl rfl (by first | omega | (simp; omega) | simp) rfl rfl) (by decide) ?_
     refine DW.x rfl rfl (X.move rfl) (by decide) ?_
     refine DW.x rfl rfl (X.move rfl) (by decide) ?_
     refine DW.x rfl rfl (X.sub rfl rfl (by omega) (by omega)) (by decide) ?_
     refine DW.x rfl rfl (X.idxRowE (k := 0) (j - 1) Try.runUnderlying22 Try.sizeOf62 rfl rfl rfl (by omega) (by first | omega | (simp; omega) | simp)) (by decide) ?_
     refine DW.x rfl rfl (X.loadFs (k := 0) (i := j - 1) (off := 0) (us := [.int .i64 (((gt R (j - 1))).Time), .int .i64 ((((gt R (j - 1))).Levels).Lo), .int .i64 ((((gt R (j - 1))).Levels).Hi)]) Try.isAgg62 Try.sizeOf62 rfl rfl (by first | omega | (simp; omega) | simp) rfl rfl) (by decide) ?_
     refine DW.x rfl rfl (X.callc Try.call138 rfl rfl (cmp138 _ _ (gt R j) rfl _ (gt R (j - 1)) rfl)) (by decide) ?_
     refine DW.cond rfl rfl (X.lss rfl rfl) (by decide) (fun h5 => ?_) (fun h5 => ?_)
     ·refine DW.x rfl rfl (X.pickT rfl rfl rfl) (by decide) ?_
      refine DW.nil ?_
      refine WK.nThen ?_
      refine WC.condT rfl ?_
      refine WC.skip ?_
      refine WK.nThen ?_
      refine WC.seq ?_
      refine WC.block ?_
      refine WC.draw (π := (.cons 0 (.cons 1 (.cons 2 (.cons 3 (.cons 4 (.cons 5 (.cons 6 (.cons 7 (.cons 8 (.cons 9 (.cons 10 (.cons 11 (.cons 12 (.cons 13 (.cons 14 (.cons 15 (.cons 16 (.cons 17 .done))))))))))))))))))) [15, 17] [15, 17, 100004] rfl (by kernel_rfl) ?_
      refine DW.x rfl rfl (X.move rfl) (by decide) ?_
      refine DW.x rfl rfl (X.move rfl) (by decide) ?_
      refine DW.x rfl rfl (X.move rfl) (by decide) ?_
      refine DW.x rfl rfl (X.move rfl) (by decide) ?_
      refine DW.xf rfl rfl rfl (fun _ _ hle_ => (X.sub rfl rfl (by omega) (by omega))) (by decide) ?_
      refine DW.x rfl rfl (X.move rfl) (by decide) ?_
      refine DW.x rfl rfl (X.move rfl) (by decide) ?_
      refine DW.x rfl rfl (X.sub rfl rfl (by omega) (by omega)) (by decide) ?_
      refine DW.x rfl rfl (X.idxRowE (k := 0) (j - 1) Try.runUnderlying22 Try.sizeOf62 rfl rfl rfl (by omega) (by first | omega | (simp; omega) | simp)) (by decide) ?_
      refine DW.x rfl rfl (X.loadFs (k := 0) (i := j - 1) (off := 0) (us := [.int .i64 (((gt R (j - 1))).Time), .int .i64 ((((gt R (j - 1))).Levels).Lo), .int .i64 ((((gt R (j - 1))).Levels).Hi)]) Try.isAgg62 Try.sizeOf62 rfl rfl (by first | omega | (simp; omega) | simp) rfl rfl) (by decide) ?_
      refine DW.x rfl rfl (X.move rfl) (by decide) ?_
      refine DW.x rfl rfl (X.move rfl) (by decide) ?_
      refine DW.x rfl rfl (X.idxRowE (k := 0) j Try.runUnderlying22 Try.sizeOf62 rfl rfl rfl (by omega) (by first | omega | (simp; omega) | simp)) (by decide) ?_
      refine DW.x rfl rfl (X.loadFs (k := 0) (i := j) (off := 0) (us := [.int .i64 (((gt R j)).Time), .int .i64 ((((gt R j)).Levels).Lo), .int .i64 ((((gt R j)).Levels).Hi)]) Try.isAgg62 Try.sizeOf62 rfl rfl (by first | omega | (simp; omega) | simp) rfl rfl) (by decide) ?_
      refine DW.x rfl rfl (X.idxRowE (k := 0) j Try.runUnderlying22 Try.sizeOf62 rfl rfl rfl (by omega) (by first | omega | (simp; omega) | simp)) (by decide) ?_
      refine DW.ts rfl rfl rfl rfl (T.storeFp (k := 0) (i := j) (off := 0) (us := [.int .i64 (((gt R (j - 1))).Time), .int .i64 ((((gt R (j - 1))).Levels).Lo), .int .i64 ((((gt R (j - 1))).Levels).Hi)]) (gt R (j - 1)) Try.sizeOf62 rfl rfl rfl rfl (Nat.zero_lt_succ _) rfl (by first | omega | (simp; omega) | simp) rfl rfl (one_cons rfl (one_cons rfl (one_cons rfl one_nil)))) ?_
      refine DW.x rfl rfl (X.idxRowE (k := 0) (j - 1) Try.runUnderlying22 Try.sizeOf62 rfl rfl rfl (by omega) (by first | omega | (simp; omega) | simp)) (by decide) ?_
      refine DW.ts rfl rfl rfl rfl (T.storeFp (k := 0) (i := j - 1) (off := 0) (us := [.int .i64 (((gt R j)).Time), .int .i64 ((((gt R j)).Levels).Lo), .int .i64 ((((gt R j)).Levels).Hi)]) (gt R j) Try.sizeOf62 rfl rfl rfl rfl (Nat.zero_lt_succ _) rfl (by first | omega | (simp; omega) | simp) rfl rfl (one_cons rfl (one_cons rfl (one_cons rfl one_nil)))) ?_
      refine DW.nil ?_
      refine WK.nBlock ?_
      refine WK.nThen ?_
      refine WC.region ?_
      refine WL.x (X.move rfl) (by decide) ?_
      refine WL.x (X.sub rfl rfl (by omega) (by omega)) (by decide) ?_
      refine WL.x (X.assign rfl) (by decide) ?_
      refine WL.nil ?_
      refine WK.nThen ?_
      obtain ⟨j1_, hj1_⟩ : ∃ qq__ : Nat, (↑j - 1 : Int) = (qq__ : Int) := ⟨(↑j - 1 : Int).toNat, (by omega)⟩
      rw [hj1_]
      obtain rfl : j1_ = j - 1 := (by omega)
      refine WK.next ((j - 1, (R.set j (gt R (j - 1))).set (j - 1) (gt R j))) rfl (.refl _) (.cons rfl (.cons rfl (.cons rfl (.cons rfl (.cons rfl (.cons rfl .nil)))))) ?_ ?_
      ·exact ins_step hI hbl (by omega) (cmpR_neg.1 (by assumption))
      ·(dsimp only; omega)
     ·refine DW.x rfl rfl (X.pickT rfl rfl rfl) (by decide) ?_
      refine DW.nil ?_
      refine WK.nThen ?_
      refine WC.condF rfl ?_
      refine WC.exit ?_
      refine WK.eThen ?_
      refine WK.eThen ?_
      refine WK.eHit ?_
      refine WK.nBlock ?_
      refine WK.nThen ?_
      have hfin := ins_end hI (fun h_ hc_ => by first | omega | (have hc2_ := cmpR_neg.2 hc_; contradiction))
      refine WC.region ?_
      refine WL.x (X.move rfl) (by decide) ?_
      refine WL.x (X.add rfl rfl (by omega) (by omega)) (by decide) ?_
      refine WL.x (X.assign rfl) (by decide) ?_
      refine WL.nil ?_
      refine WK.nThen ?_
      refine WK.next ((i + 1, R)) rfl (.refl _) (.cons rfl (.cons rfl (.cons rfl (.cons rfl (.cons rfl .nil))))) ?_ ?_
      ·exact ⟨by omega, fun _ => by omega, hfin.1, hfin.2⟩
      ·(dsimp only; omega)
    ·refine DW.x rfl rfl (X.move rfl) (by decide) ?_
     refine DW.no rfl rfl (by decide) ?_
     refine DW.no rfl rfl (by decide) ?_
     refine DW.no rfl rfl (by decide) ?_
     refine DW.no rfl rfl (by decide) ?_
     refine DW.no rfl rfl (by decide) ?_
     refine DW.no rfl rfl (by decide) ?_
     refine DW.no rfl rfl (by decide) ?_
     refine DW.no rfl rfl (by decide) ?_
     refine DW.no rfl rfl (by decide) ?_
     refine DW.no rfl rfl (by decide) ?_
     refine DW.no rfl rfl (by decide) ?_
     refine DW.no rfl rfl (by decide) ?_
     refine DW.x rfl rfl (X.pickF rfl rfl rfl) (by decide) ?_
     refine DW.nil ?_
     refine WK.nThen ?_
     refine WC.condF rfl ?_
     refine WC.exit ?_
     refine WK.eThen ?_
     refine WK.eThen ?_
     refine WK.eHit ?_
     refine WK.nBlock ?_
     refine WK.nThen ?_
     have hfin := ins_end hI (fun h_ hc_ => by first | omega | (have hc2_ := cmpR_neg.2 hc_; contradiction))
     refine WC.region ?_
     refine WL.x (X.move rfl) (by decide) ?_
     refine WL.x (X.add rfl rfl (by omega) (by omega)) (by decide) ?_
     refine WL.x (X.assign rfl) (by decide) ?_
     refine WL.nil ?_
     refine WK.nThen ?_
     refine WK.next ((i + 1, R)) rfl (.refl _) (.cons rfl (.cons rfl (.cons rfl (.cons rfl (.cons rfl .nil))))) ?_ ?_
     ·exact ⟨by omega, fun _ => by omega, hfin.1, hfin.2⟩
     ·(dsimp only; omega)
  ·refine WL.nil ?_
   refine WK.nThen ?_
   refine WC.condF rfl ?_
   refine WC.exit ?_
   refine WK.eThen ?_
   refine WK.eThen ?_
   refine WK.eHit ?_
   refine WK.end0 rfl (fun w' hw' => Ret.mut hw' ?_)
   refine ⟨rfl, R, rfl, hS, ?_⟩
   intro p q h1_ h2_ h3_
   exact hT p q h1_ h2_ (by omega)

set_option maxHeartbeats 1000000 in
theorem swapRange160 (m : Mem) {v : Value} {L : List Val} (hL : L.length ≤ 1000) {a b n : Nat} {za zb zn : Int} (hza : za = a) (hzb : zb = b) (hzn : zn = n) (hab : a + n ≤ b) (hbl : b + n ≤ L.length) : Mut Try.prog 160 #[v, .int .i64 za, .int .i64 zb, .int .i64 zn, .func (.func 138) #[] #[]] m [rowF v 62 L] (fun _ Es u => u = .tuple #[] ∧ ∃ R, Es = [rowF v 62 R] ∧ SwI L R a b n) := by
 subst hza
 subst hzb
 subst hzn
 refine Mut.start Try.func160 rfl Try.ntmps160 rfl fun wld => ?_
 refine WC.seq ?_
 refine WC.region ?_
 refine WL.x (X.assign rfl) (by decide) ?_
 refine WL.nil ?_
 refine WK.nThen ?_
 refine WC.block ?_
 refine WC.loop (G := Nat × List Val) (fun (i, R) => n - i) (fun (i, R) => m) (fun (i, R) => [rowF (v) 62 (R)]) (fun (i, R) => [(0, v), (1, .int .i64 (↑a)), (2, .int .i64 (↑b)), (3, .int .i64 (↑n)), (10, .int .i64 (↑i))]) (fun (i, R) => i ≤ n ∧ SwI L R a b i) ((0, L)) rfl (.refl _) (.cons rfl (.cons rfl (.cons rfl (.cons rfl (.cons rfl .nil))))) ?_ ?_
 ·exact ⟨Nat.zero_le _, sw_start _ _ _⟩
 ·rintro ⟨i, R⟩ hF1
  show WK _ _ m [rowF (v) 62 (R)] [(0, v), (1, .int .i64 (↑a)), (2, .int .i64 (↑b)), (3, .int .i64 (↑n)), (10, .int .i64 (↑i))] _
  replace hF1 : i ≤ n ∧ SwI L R a b i := hF1
  obtain ⟨hi, hS⟩ := hF1
  have hSl := hS.len
  refine WC.seq ?_
  refine WC.seq ?_
  refine WC.region ?_
  refine WL.x (X.move rfl) (by decide) ?_
  refine WL.x (X.move rfl) (by decide) ?_
  refine WL.cond (X.lss rfl rfl) (by decide) (fun h2 => ?_) (fun h2 => ?_)
  ·refine WL.nil ?_
   refine WK.nThen ?_
   refine WC.condT rfl ?_
   refine WC.skip ?_
   refine WK.nThen ?_
   refine WC.seq ?_
   refine WC.block ?_
   refine WC.draw (π := (.cons 0 (.cons 1 (.cons 2 (.cons 3 (.cons 4 (.cons 5 (.cons 6 (.cons 7 (.cons 8 (.cons 9 (.cons 10 (.cons 11 (.cons 12 (.cons 13 (.cons 14 (.cons 15 (.cons 16 (.cons 17 (.cons 18 (.cons 19 (.cons 20 (.cons 21 (.cons 22 (.cons 23 .done))))))))))))))))))))))))) [21, 23] [21, 23, 100007] rfl (by kernel_rfl) ?_
   refine DW.x rfl rfl (X.move rfl) (by decide) ?_
   refine DW.x rfl rfl (X.move rfl) (by decide) ?_
   refine DW.x rfl rfl (X.move rfl) (by decide) ?_
   refine DW.x rfl rfl (X.add rfl rfl (by omega) (by omega)) (by decide) ?_
   refine DW.x rfl rfl (X.move rfl) (by decide) ?_
   refine DW.x rfl rfl (X.move rfl) (by decide) ?_
   refine DW.x rfl rfl (X.move rfl) (by decide) ?_
   refine DW.xf rfl rfl rfl (fun _ _ hle_ => (X.add rfl rfl (by omega) (by omega))) (by decide) ?_
   refine DW.x rfl rfl (X.move rfl) (by decide) ?_
   refine DW.x rfl rfl (X.move rfl) (by decide) ?_
   refine DW.x rfl rfl (X.move rfl) (by decide) ?_
   refine DW.x rfl rfl (X.add rfl rfl (by omega) (by omega)) (by decide) ?_
   refine DW.x rfl rfl (X.idxRowE (k := 0) (b + i) Try.runUnderlying22 Try.sizeOf62 rfl rfl rfl (by omega) (by first | omega | (simp; omega) | simp)) (by decide) ?_
   refine DW.x rfl rfl (X.loadFs (k := 0) (i := b + i) (off := 0) (us := [.int .i64 (((gt R (b + i))).Time), .int .i64 ((((gt R (b + i))).Levels).Lo), .int .i64 ((((gt R (b + i))).Levels).Hi)]) Try.isAgg62 Try.sizeOf62 rfl rfl (by first | omega | (simp; omega) | simp) rfl rfl) (by decide) ?_
   refine DW.x rfl rfl (X.move rfl) (by decide) ?_
   refine DW.x rfl rfl (X.move rfl) (by decide) ?_
   refine DW.x rfl rfl (X.move rfl) (by decide) ?_
   refine DW.x rfl rfl (X.add rfl rfl (by omega) (by omega)) (by decide) ?_
   refine DW.x rfl rfl (X.idxRowE (k := 0) (a + i) Try.runUnderlying22 Try.sizeOf62 rfl rfl rfl (by omega) (by first | omega | (simp; omega) | simp)) (by decide) ?_
   refine DW.x rfl rfl (X.loadFs (k := 0) (i := a + i) (off := 0) (us := [.int .i64 (((gt R (a + i))).Time), .int .i64 ((((gt R (a + i))).Levels).Lo), .int .i64 ((((gt R (a + i))).Levels).Hi)]) Try.isAgg62 Try.sizeOf62 rfl rfl (by first | omega | (simp; omega) | simp) rfl rfl) (by decide) ?_
   refine DW.x rfl rfl (X.idxRowE (k := 0) (a + i) Try.runUnderlying22 Try.sizeOf62 rfl rfl rfl (by omega) (by first | omega | (simp; omega) | simp)) (by decide) ?_
   refine DW.ts rfl rfl rfl rfl (T.storeFp (k := 0) (i := a + i) (off := 0) (us := [.int .i64 (((gt R (b + i))).Time), .int .i64 ((((gt R (b + i))).Levels).Lo), .int .i64 ((((gt R (b + i))).Levels).Hi)]) (gt R (b + i)) Try.sizeOf62 rfl rfl rfl rfl (Nat.zero_lt_succ _) rfl (by first | omega | (simp; omega) | simp) rfl rfl (one_cons rfl (one_cons rfl (one_cons rfl one_nil)))) ?_
   refine DW.x rfl rfl (X.idxRowE (k := 0) (b + i) Try.runUnderlying22 Try.sizeOf62 rfl rfl rfl (by omega) (by first | omega | (simp; omega) | simp)) (by decide) ?_
   refine DW.ts rfl rfl rfl rfl (T.storeFp (k := 0) (i := b + i) (off := 0) (us := [.int .i64 (((gt R (a + i))).Time), .int .i64 ((((gt R (a + i))).Levels).Lo), .int .i64 ((((gt R (a + i))).Levels).Hi)]) (gt R (a + i)) Try.sizeOf62 rfl rfl rfl rfl (Nat.zero_lt_succ _) rfl (by first | omega | (simp; omega) | simp) rfl rfl (one_cons rfl (one_cons rfl (one_cons rfl one_nil)))) ?_
   refine DW.nil ?_
   refine WK.nBlock ?_
   refine WK.nThen ?_
   refine WC.region ?_
   refine WL.x (X.move rfl) (by decide) ?_
   refine WL.x (X.add rfl rfl (by omega) (by omega)) (by decide) ?_
   refine WL.x (X.assign rfl) (by decide) ?_
   refine WL.nil ?_
   refine WK.nThen ?_
   refine WK.next ((i + 1, (R.set (a + i) (gt R (b + i))).set (b + i) (gt R (a + i)))) rfl (.refl _) (.cons rfl (.cons rfl (.cons rfl (.cons rfl (.cons rfl .nil))))) ?_ ?_
   ·exact ⟨by omega, sw_step hS (by omega) hab hbl⟩
   ·(dsimp only; omega)
  ·refine WL.nil ?_
   refine WK.nThen ?_
   refine WC.condF rfl ?_
   refine WC.exit ?_
   refine WK.eThen ?_
   refine WK.eThen ?_
   refine WK.eHit ?_
   refine WK.end0 rfl (fun w' hw' => Ret.mut hw' ?_)
   obtain rfl : i = n := (by omega)
   exact ⟨rfl, R, rfl, hS⟩

set_option maxHeartbeats 1000000 in
theorem rotate159 (m : Mem) {v : Value} {L : List Val} (hL : L.length ≤ 1000) {a mm b : Nat} {za zmm zb : Int} (hza : za = a) (hzmm : zmm = mm) (hzb : zb = b) (ham : a < mm) (hmb : mm < b) (hbl : b ≤ L.length) : Mut Try.prog 159 #[v, .int .i64 za, .int .i64 zmm, .int .i64 zb, .func (.func 138) #[] #[]] m [rowF v 62 L] (fun _ Es u => u = .tuple #[] ∧ ∃ R, Es = [rowF v 62 R] ∧ RotR L R a mm b) := by
 subst hza
 subst hzmm
 subst hzb
 refine Mut.start Try.func159 rfl Try.ntmps159 rfl fun wld => ?_
 refine WC.seq ?_
 refine WC.region ?_
 refine WL.x (X.move rfl) (by decide) ?_
 refine WL.x (X.move rfl) (by decide) ?_
 refine WL.x (X.sub rfl rfl (by omega) (by omega)) (by decide) ?_
 refine WL.x (X.assign rfl) (by decide) ?_
 refine WL.nil ?_
 refine WK.nThen ?_
 refine WC.seq ?_
 refine WC.region ?_
 refine WL.x (X.move rfl) (by decide) ?_
 refine WL.x (X.move rfl) (by decide) ?_
 refine WL.x (X.sub rfl rfl (by omega) (by omega)) (by decide) ?_
 refine WL.x (X.assign rfl) (by decide) ?_
 refine WL.nil ?_
 refine WK.nThen ?_
 refine WC.seq ?_
 refine WC.block ?_
 have hs1_ : ((↑mm : Int) - ↑a) = ((mm - a : Nat) : Int) := (by omega)
 have hs2_ : ((↑b : Int) - ↑mm) = ((b - mm : Nat) : Int) := (by omega)
 rw [hs1_, hs2_]
 refine WC.loop (G := Nat × Nat × List Val) (fun (i, j, R) => i + j) (fun (i, j, R) => m) (fun (i, j, R) => [rowF (v) 62 (R)]) (fun (i, j, R) => [(0, v), (2, .int .i64 (↑mm)), (4, .func (.func 138) #[] [].toArray), (10, .int .i64 (↑i)), (11, .int .i64 (↑j))]) (fun (i, j, R) => RoI L R a mm b i j) ((mm - a, b - mm, L)) rfl (.refl _) (.cons rfl (.cons rfl (.cons rfl (.cons rfl (.cons rfl .nil))))) ?_ ?_
 ·exact ro_start L ham hmb
 ·rintro ⟨i, j, R⟩ hF1
  show WK _ _ m [rowF (v) 62 (R)] [(0, v), (2, .int .i64 (↑mm)), (4, .func (.func 138) #[] [].toArray), (10, .int .i64 (↑i)), (11, .int .i64 (↑j))] _
  replace hF1 : RoI L R a mm b i j := hF1
  have hI := hF1
  refine WK.good (fun hgood0 => ?_)
  have hIl := hI.len
  have hIb := hI.bd
  refine WC.seq ?_
  refine WC.seq ?_
  refine WC.region ?_
  refine WL.x (X.move rfl) (by decide) ?_
  refine WL.x (X.move rfl) (by decide) ?_
  refine WL.condn (X.neq rfl rfl) (by decide) (fun h2 => ?_) (fun h2 => ?_)
  ·refine WL.nil ?_
   refine WK.nThen ?_
   refine WC.condT rfl ?_
   refine WC.skip ?_
   refine WK.nThen ?_
   refine WC.block ?_
   refine WC.seq ?_
   refine WC.region ?_
   refine WL.x (X.move rfl) (by decide) ?_
   refine WL.x (X.move rfl) (by decide) ?_
   refine WL.cond (X.gtr rfl rfl) (by decide) (fun h3 => ?_) (fun h3 => ?_)
   ·refine WL.nil ?_
    refine WK.nThen ?_
    refine WC.condT rfl ?_
    refine WC.seq ?_
    refine WC.region ?_
    refine WL.x (X.move rfl) (by decide) ?_
    refine WL.x (X.move rfl) (by decide) ?_
    refine WL.x (X.move rfl) (by decide) ?_
    refine WL.x (X.sub rfl rfl (by omega) (by omega)) (by decide) ?_
    refine WL.x (X.move rfl) (by decide) ?_
    refine WL.x (X.move rfl) (by decide) ?_
    refine WL.x (X.move rfl) (by decide) ?_
    refine WL.tM (T.callP (A := []) Try.call160 rfl (.refl _) (swapRange160 _ (L := R) (by omega) (a := mm - i) (b := mm) (n := j) (by omega) (by omega) (by omega) (by omega) (by omega))) (by decide) (fun m4 Es_ _ hle5 hR_ => ?_)
    obtain ⟨rfl, R6, rfl, hR7⟩ := hR_
    refine WL.nil ?_
    refine WK.nThen ?_
    refine WC.region ?_
    refine WL.x (X.move rfl) (by decide) ?_
    refine WL.x (X.move rfl) (by decide) ?_
    refine WL.x (X.sub rfl rfl (by omega) (by omega)) (by decide) ?_
    refine WL.x (X.assign rfl) (by decide) ?_
    refine WL.nil ?_
    refine WK.nBlock ?_
    refine WK.nThen ?_
    have hsub_ : (↑i - ↑j : Int) = ((i - j : Nat) : Int) := (by omega)
    rw [hsub_]
    refine WK.back hgood0 hle5 ?_
    refine WK.next (((i - j), j, R6)) rfl (.refl _) (.cons rfl (.cons rfl (.cons rfl (.cons rfl (.cons rfl .nil))))) ?_ ?_
    ·exact ro_left hI hbl (by omega) hR7
    ·(dsimp only; omega)
   ·refine WL.nil ?_
    refine WK.nThen ?_
    refine WC.condF rfl ?_
    refine WC.seq ?_
    refine WC.region ?_
    refine WL.x (X.move rfl) (by decide) ?_
    refine WL.x (X.move rfl) (by decide) ?_
    refine WL.x (X.move rfl) (by decide) ?_
    refine WL.x (X.sub rfl rfl (by omega) (by omega)) (by decide) ?_
    refine WL.x (X.move rfl) (by decide) ?_
    refine WL.x (X.move rfl) (by decide) ?_
    refine WL.x (X.add rfl rfl (by omega) (by omega)) (by decide) ?_
    refine WL.x (X.move rfl) (by decide) ?_
    refine WL.x (X.sub rfl rfl (by omega) (by omega)) (by decide) ?_
    refine WL.x (X.move rfl) (by decide) ?_
    refine WL.x (X.move rfl) (by decide) ?_
    refine WL.tM (T.callP (A := []) Try.call160 rfl (.refl _) (swapRange160 _ (L := R) (by omega) (a := mm - i) (b := ((↑mm + ↑j) - ↑i : Int).toNat) (n := i) (by omega) (by omega) (by omega) (by omega) (by omega))) (by decide) (fun m8 Es_ _ hle9 hR_ => ?_)
    obtain ⟨rfl, R10, rfl, hR11⟩ := hR_
    refine WL.nil ?_
    refine WK.nThen ?_
    refine WC.region ?_
    refine WL.x (X.move rfl) (by decide) ?_
    refine WL.x (X.move rfl) (by decide) ?_
    refine WL.x (X.sub rfl rfl (by omega) (by omega)) (by decide) ?_
    refine WL.x (X.assign rfl) (by decide) ?_
    refine WL.nil ?_
    refine WK.nBlock ?_
    refine WK.nThen ?_
    have hsub_ : (↑j - ↑i : Int) = ((j - i : Nat) : Int) := (by omega)
    rw [hsub_]
    refine WK.back hgood0 hle9 ?_
    refine WK.next ((i, (j - i), R10)) rfl (.refl _) (.cons rfl (.cons rfl (.cons rfl (.cons rfl (.cons rfl .nil))))) ?_ ?_
    ·rw [show (↑mm + ↑j - ↑i : Int).toNat = mm + j - i by omega] at hR11
     exact ro_right hI hbl (by omega) hR11
    ·(dsimp only; omega)
  ·refine WL.nil ?_
   refine WK.nThen ?_
   refine WC.condF rfl ?_
   refine WC.exit ?_
   refine WK.eThen ?_
   refine WK.eThen ?_
   refine WK.eHit ?_
   refine WK.nThen ?_
   obtain rfl : i = j := (by omega)
   refine WC.region ?_
   refine WL.x (X.move rfl) (by decide) ?_
   refine WL.x (X.move rfl) (by decide) ?_
   refine WL.x (X.move rfl) (by decide) ?_
   refine WL.x (X.sub rfl rfl (by omega) (by omega)) (by decide) ?_
   refine WL.x (X.move rfl) (by decide) ?_
   refine WL.x (X.move rfl) (by decide) ?_
   refine WL.x (X.move rfl) (by decide) ?_
   refine WL.tM (T.callP (A := []) Try.call160 rfl (.refl _) (swapRange160 _ (L := R) (by omega) (a := mm - i) (b := mm) (n := i) (by omega) (by omega) (by omega) (by omega) (by omega))) (by decide) (fun m12 Es_ _ hle13 hR_ => ?_)
   obtain ⟨rfl, R14, rfl, hR15⟩ := hR_
   refine WL.nil ?_
   refine WK.end0 rfl (fun w' hw' => Ret.mut hw' ?_)
   exact ⟨rfl, _, rfl, ro_end hI hbl hR15⟩

/-- what a merge of two sorted segments of together k values leaves -/
def SymM (k : Nat) : Prop := ∀ (m : Mem) {v : Value} {L : List Val} {a mm b : Nat} {ia imm ib : Int} (_ : L.length ≤ 1000) (_ : ia = a) (_ : imm = mm) (_ : ib = b) (_ : b - a = k) (_ : a < mm) (_ : mm < b) (_ : b ≤ L.length) (_ : Srt L a mm) (_ : Srt L mm b),
 Mut Try.prog 158 #[v, .int .i64 ia, .int .i64 imm, .int .i64 ib, .func (.func 138) #[] #[]] m [rowF v 62 L] (fun _ Es u => u = .tuple #[] ∧ ∃ R, Es = [rowF v 62 R] ∧ Seg L R a b ∧ Srt R a b)
set_option maxHeartbeats 4000000 in
theorem sym158_step (k : Nat) (ih : ∀ q, q < k → SymM q) : SymM k := by
 intro m v L a mm b ia imm ib hL hia himm hib hk ham hmb hbl hs1 hs2
 subst hia himm hib
 refine Mut.start Try.func158 rfl Try.ntmps158 rfl fun wld => ?_
 refine WC.seq ?_
 refine WC.seq ?_
 refine WC.region ?_
 refine WL.x (X.move rfl) (by decide) ?_
 refine WL.x (X.move rfl) (by decide) ?_
 refine WL.x (X.sub rfl rfl (by omega) (by omega)) (by decide) ?_
 refine WL.cond (X.eql rfl rfl) (by decide) (fun h1 => ?_) (fun h1 => ?_)
 ·refine WL.nil ?_
  refine WK.nThen ?_
  refine WC.condT rfl ?_
  refine WC.seq ?_
  refine WC.region ?_
  refine WL.x (X.move rfl) (by decide) ?_
  refine WL.x (X.assign rfl) (by decide) ?_
  refine WL.nil ?_
  refine WK.nThen ?_
  refine WC.seq ?_
  refine WC.region ?_
  refine WL.x (X.move rfl) (by decide) ?_
  refine WL.x (X.assign rfl) (by decide) ?_
  refine WL.nil ?_
  refine WK.nThen ?_
  refine WC.seq ?_
  refine WC.block ?_
  refine WC.loop (G := Nat × Nat) (fun (p_, q_) => q_ - p_) (fun (p_, q_) => m) (fun (p_, q_) => [rowF (v) 62 (L)]) (fun (p_, q_) => [(0, v), (1, .int .i64 (↑a)), (4, .func (.func 138) #[] [].toArray), (10, .int .i64 (↑p_)), (11, .int .i64 (↑q_))]) (fun (p_, q_) => (mm ≤ p_ ∧ p_ ≤ q_ ∧ q_ ≤ b) ∧ (∀ z, mm ≤ z → z < p_ → (gt L z).Time < (gt L a).Time) ∧ (∀ z, q_ ≤ z → z < b → ¬ (gt L z).Time < (gt L a).Time)) ((mm, b)) rfl (.refl _) (.cons rfl (.cons rfl (.cons rfl (.cons rfl (.cons rfl .nil))))) ?_ ?_
  ·exact ⟨by omega, fun z h1_ h2_ => by omega, fun z h1_ h2_ => by omega⟩
  ·rintro ⟨p_, q_⟩ hF2
   show WK _ _ m [rowF (v) 62 (L)] [(0, v), (1, .int .i64 (↑a)), (4, .func (.func 138) #[] [].toArray), (10, .int .i64 (↑p_)), (11, .int .i64 (↑q_))] _
   replace hF2 : (mm ≤ p_ ∧ p_ ≤ q_ ∧ q_ ≤ b) ∧ (∀ z, mm ≤ z → z < p_ → (gt L z).Time < (gt L a).Time) ∧ (∀ z, q_ ≤ z → z < b → ¬ (gt L z).Time < (gt L a).Time) := hF2
   obtain ⟨hb_, hlo_, hhi_⟩ := hF2
   refine WC.seq ?_
   refine WC.seq ?_
   refine WC.region ?_
   refine WL.x (X.move rfl) (by decide) ?_
   refine WL.x (X.move rfl) (by decide) ?_
   refine WL.cond (X.lss rfl rfl) (by decide) (fun h3 => ?_) (fun h3 => ?_)
   ·refine WL.nil ?_
    refine WK.nThen ?_
    refine WC.condT rfl ?_
    refine WC.skip ?_
    refine WK.nThen ?_
    refine WC.block ?_
    refine WC.seq ?_
    have hcn_ := fun x_ => @cmpR_neg x_ (gt L a).Time
    refine WC.region ?_
    refine WL.x (X.move rfl) (by decide) ?_
    refine WL.x (X.move rfl) (by decide) ?_
    refine WL.x (X.add rfl rfl (by omega) (by omega)) (by decide) ?_
    refine WL.x (X.conv Try.runUnderlying3 Try.runUnderlying196 rfl (wrap_u64 (by omega) (by omega))) (by decide) ?_
    refine WL.x (X.shr1 rfl rfl (by omega)) (by decide) ?_
    refine WL.x (X.conv Try.runUnderlying196 Try.runUnderlying3 rfl (wrap_in (by omega) (by omega))) (by decide) ?_
    refine WL.x (X.assign rfl) (by decide) ?_
    refine WL.nil ?_
    obtain ⟨h_, hh_⟩ : ∃ qq__ : Nat, ((↑p_ + ↑q_) / 2 : Int) = (qq__ : Int) := ⟨((↑p_ + ↑q_) / 2 : Int).toNat, (by omega)⟩
    rw [hh_]
    refine WK.nThen ?_
    refine WC.seq ?_
    refine WC.draw (π := (.cons 0 (.cons 1 (.cons 2 (.cons 3 (.cons 4 (.cons 5 (.cons 6 (.cons 7 (.cons 8 (.cons 9 (.cons 10 .done)))))))))))) [] [] rfl (by kernel_rfl) ?_
    refine DW.x rfl rfl (X.move rfl) (by decide) ?_
    refine DW.x rfl rfl (X.move rfl) (by decide) ?_
    refine DW.x rfl rfl (X.move rfl) (by decide) ?_
    refine DW.x rfl rfl (X.idxRowE (k := 0) h_ Try.runUnderlying22 Try.sizeOf62 rfl rfl rfl (by omega) (by first | omega | (simp; omega) | simp)) (by decide) ?_
    refine DW.x rfl rfl (X.loadFs (k := 0) (i := h_) (off := 0) (us := [.int .i64 (((gt L h_)).Time), .int .i64 ((((gt L h_)).Levels).Lo), .int .i64 ((((gt L h_)).Levels).Hi)]) Try.isAgg62 Try.sizeOf62 rfl rfl (by first | omega | (simp; omega) | simp) rfl rfl) (by decide) ?_
    refine DW.x rfl rfl (X.move rfl) (by decide) ?_
    refine DW.x rfl rfl (X.move rfl) (by decide) ?_
    refine DW.x rfl rfl (X.idxRowE (k := 0) a Try.runUnderlying22 Try.sizeOf62 rfl rfl rfl (by omega) (by first | omega | (simp; omega) | simp)) (by decide) ?_
    refine DW.x rfl rfl (X.loadFs (k := 0) (i := a) (off := 0) (us := [.int .i64 (((gt L a)).Time), .int .i64 ((((gt L a)).Levels).Lo), .int .i64 ((((gt L a)).Levels).Hi)]) Try.isAgg62 Try.sizeOf62 rfl rfl (by first | omega | (simp; omega) | simp) rfl rfl) (by decide) ?_
    refine DW.x rfl rfl (X.callc Try.call138 rfl rfl (cmp138 _ _ (gt L h_) rfl _ (gt L a) rfl)) (by decide) ?_
    refine DW.cond rfl rfl (X.lss rfl rfl) (by decide) (fun h4 => ?_) (fun h4 => ?_)
    ·refine DW.nil ?_
     refine WK.nThen ?_
     refine WC.condT rfl ?_
     refine WC.region ?_
     refine WL.x (X.move rfl) (by decide) ?_
     refine WL.x (X.add rfl rfl (by omega) (by omega)) (by decide) ?_
     refine WL.x (X.assign rfl) (by decide) ?_
     refine WL.nil ?_
     refine WK.nBlock ?_
     refine WK.nThen ?_
     refine WK.next ((h_ + 1, q_)) rfl (.refl _) (.cons rfl (.cons rfl (.cons rfl (.cons rfl (.cons rfl .nil))))) ?_ ?_
     ·have hx_ := cmpR_neg.1 (by assumption : cmpR (gt L h_).Time (gt L a).Time < 0)
      exact ⟨by omega, fun z h1_ h2_ => by have e_ := hs2.le (p := z) (q := h_) (by omega) (by omega) (by omega); omega, hhi_⟩
     ·(dsimp only; omega)
    ·refine DW.nil ?_
     refine WK.nThen ?_
     refine WC.condF rfl ?_
     refine WC.region ?_
     refine WL.x (X.move rfl) (by decide) ?_
     refine WL.x (X.assign rfl) (by decide) ?_
     refine WL.nil ?_
     refine WK.nBlock ?_
     refine WK.nThen ?_
     refine WK.next ((p_, h_)) rfl (.refl _) (.cons rfl (.cons rfl (.cons rfl (.cons rfl (.cons rfl .nil))))) ?_ ?_
     ·have hx_ : ¬ (gt L h_).Time < (gt L a).Time := fun hc_ => absurd (cmpR_neg.2 hc_) (by assumption)
      exact ⟨by omega, hlo_, fun z h1_ h2_ => by have e_ := hs2.le (p := h_) (q := z) (by omega) (by omega) (by omega); omega⟩
     ·(dsimp only; omega)
   ·refine WL.nil ?_
    refine WK.nThen ?_
    refine WC.condF rfl ?_
    refine WC.exit ?_
    refine WK.eThen ?_
    refine WK.eThen ?_
    refine WK.eHit ?_
    refine WK.nThen ?_
    refine WC.seq ?_
    refine WC.seq ?_
    refine WC.region ?_
    refine WL.x (X.move rfl) (by decide) ?_
    refine WL.x (X.assign rfl) (by decide) ?_
    refine WL.nil ?_
    refine WK.nThen ?_
    refine WC.block ?_
    obtain rfl : p_ = q_ := (by omega)
    refine WC.loop (G := Nat × List Val) (fun (k_, R) => p_ - k_) (fun (k_, R) => m) (fun (k_, R) => [rowF (v) 62 (R)]) (fun (k_, R) => [(0, v), (10, .int .i64 (↑p_)), (13, .int .i64 (↑k_))]) (fun (k_, R) => k_ + 1 ≤ p_ ∧ UpI L R a b k_) ((a, L)) rfl (.refl _) (.cons rfl (.cons rfl (.cons rfl .nil))) ?_ ?_
    ·exact ⟨by omega, up_start L (by omega)⟩
    ·rintro ⟨k_, R⟩ hF5
     show WK _ _ m [rowF (v) 62 (R)] [(0, v), (10, .int .i64 (↑p_)), (13, .int .i64 (↑k_))] _
     replace hF5 : k_ + 1 ≤ p_ ∧ UpI L R a b k_ := hF5
     obtain ⟨hkp, hU⟩ := hF5
     have hUl := hU.seg.len
     have hUb := hU.bd
     refine WC.seq ?_
     refine WC.seq ?_
     refine WC.region ?_
     refine WL.x (X.move rfl) (by decide) ?_
     refine WL.x (X.move rfl) (by decide) ?_
     refine WL.x (X.sub rfl rfl (by omega) (by omega)) (by decide) ?_
     refine WL.cond (X.lss rfl rfl) (by decide) (fun h6 => ?_) (fun h6 => ?_)
     ·refine WL.nil ?_
      refine WK.nThen ?_
      refine WC.condT rfl ?_
      refine WC.skip ?_
      refine WK.nThen ?_
      refine WC.seq ?_
      refine WC.block ?_
      refine WC.draw (π := (.cons 0 (.cons 1 (.cons 2 (.cons 3 (.cons 4 (.cons 5 (.cons 6 (.cons 7 (.cons 8 (.cons 9 (.cons 10 (.cons 11 (.cons 12 (.cons 13 (.cons 14 (.cons 15 (.cons 16 (.cons 17 .done))))))))))))))))))) [15, 17] [15, 17, 100004] rfl (by kernel_rfl) ?_
      refine DW.x rfl rfl (X.move rfl) (by decide) ?_
      refine DW.x rfl rfl (X.move rfl) (by decide) ?_
      refine DW.x rfl rfl (X.move rfl) (by decide) ?_
      refine DW.x rfl rfl (X.move rfl) (by decide) ?_
      refine DW.xf rfl rfl rfl (fun _ _ hle_ => (X.add rfl rfl (by omega) (by omega))) (by decide) ?_
      refine DW.x rfl rfl (X.move rfl) (by decide) ?_
      refine DW.x rfl rfl (X.move rfl) (by decide) ?_
      refine DW.x rfl rfl (X.add rfl rfl (by omega) (by omega)) (by decide) ?_
      refine DW.x rfl rfl (X.idxRowE (k := 0) (k_ + 1) Try.runUnderlying22 Try.sizeOf62 rfl rfl rfl (by omega) (by first | omega | (simp; omega) | simp)) (by decide) ?_
      refine DW.x rfl rfl (X.loadFs (k := 0) (i := k_ + 1) (off := 0) (us := [.int .i64 (((gt R (k_ + 1))).Time), .int .i64 ((((gt R (k_ + 1))).Levels).Lo), .int .i64 ((((gt R (k_ + 1))).Levels).Hi)]) Try.isAgg62 Try.sizeOf62 rfl rfl (by first | omega | (simp; omega) | simp) rfl rfl) (by decide) ?_
      refine DW.x rfl rfl (X.move rfl) (by decide) ?_
      refine DW.x rfl rfl (X.move rfl) (by decide) ?_
      refine DW.x rfl rfl (X.idxRowE (k := 0) k_ Try.runUnderlying22 Try.sizeOf62 rfl rfl rfl (by omega) (by first | omega | (simp; omega) | simp)) (by decide) ?_
      refine DW.x rfl rfl (X.loadFs (k := 0) (i := k_) (off := 0) (us := [.int .i64 (((gt R k_)).Time), .int .i64 ((((gt R k_)).Levels).Lo), .int .i64 ((((gt R k_)).Levels).Hi)]) Try.isAgg62 Try.sizeOf62 rfl rfl (by first | omega | (simp; omega) | simp) rfl rfl) (by decide) ?_
      refine DW.x rfl rfl (X.idxRowE (k := 0) k_ Try.runUnderlying22 Try.sizeOf62 rfl rfl rfl (by omega) (by first | omega | (simp; omega) | simp)) (by decide) ?_
      refine DW.ts rfl rfl rfl rfl (T.storeFp (k := 0) (i := k_) (off := 0) (us := [.int .i64 (((gt R (k_ + 1))).Time), .int .i64 ((((gt R (k_ + 1))).Levels).Lo), .int .i64 ((((gt R (k_ + 1))).Levels).Hi)]) (gt R (k_ + 1)) Try.sizeOf62 rfl rfl rfl rfl (Nat.zero_lt_succ _) rfl (by first | omega | (simp; omega) | simp) rfl rfl (one_cons rfl (one_cons rfl (one_cons rfl one_nil)))) ?_
      refine DW.x rfl rfl (X.idxRowE (k := 0) (k_ + 1) Try.runUnderlying22 Try.sizeOf62 rfl rfl rfl (by omega) (by first | omega | (simp; omega) | simp)) (by decide) ?_
      refine DW.ts rfl rfl rfl rfl (T.storeFp (k := 0) (i := k_ + 1) (off := 0) (us := [.int .i64 (((gt R k_)).Time), .int .i64 ((((gt R k_)).Levels).Lo), .int .i64 ((((gt R k_)).Levels).Hi)]) (gt R k_) Try.sizeOf62 rfl rfl rfl rfl (Nat.zero_lt_succ _) rfl (by first | omega | (simp; omega) | simp) rfl rfl (one_cons rfl (one_cons rfl (one_cons rfl one_nil)))) ?_
      refine DW.nil ?_
      refine WK.nBlock ?_
      refine WK.nThen ?_
      refine WC.region ?_
      refine WL.x (X.move rfl) (by decide) ?_
      refine WL.x (X.add rfl rfl (by omega) (by omega)) (by decide) ?_
      refine WL.x (X.assign rfl) (by decide) ?_
      refine WL.nil ?_
      refine WK.nThen ?_
      refine WK.next ((k_ + 1, (R.set k_ (gt R (k_ + 1))).set (k_ + 1) (gt R k_))) rfl (.refl _) (.cons rfl (.cons rfl (.cons rfl .nil))) ?_ ?_
      ·exact ⟨by omega, up_step hU hbl (by omega)⟩
      ·(dsimp only; omega)
     ·refine WL.nil ?_
      refine WK.nThen ?_
      refine WC.condF rfl ?_
      refine WC.exit ?_
      refine WK.eThen ?_
      refine WK.eThen ?_
      refine WK.eHit ?_
      refine WK.nThen ?_
      refine WC.ret ?_
      refine WK.rThen ?_
      refine WK.ret0 rfl (fun w' hw' => Ret.mut hw' ?_)
      obtain rfl : mm = a + 1 := (by omega)
      exact ⟨rfl, R, rfl, hU.seg, up_end hU hs2 (by omega) (by omega) hlo_ (fun z h1_ h2_ => hhi_ z (by omega) h2_)⟩
 ·refine WL.nil ?_
  refine WK.nThen ?_
  refine WC.condF rfl ?_
  refine WC.skip ?_
  refine WK.nThen ?_
  refine WC.seq ?_
  refine WC.seq ?_
  refine WC.region ?_
  refine WL.x (X.move rfl) (by decide) ?_
  refine WL.x (X.move rfl) (by decide) ?_
  refine WL.x (X.sub rfl rfl (by omega) (by omega)) (by decide) ?_
  refine WL.cond (X.eql rfl rfl) (by decide) (fun h7 => ?_) (fun h7 => ?_)
  ·refine WL.nil ?_
   refine WK.nThen ?_
   refine WC.condT rfl ?_
   refine WC.seq ?_
   refine WC.region ?_
   refine WL.x (X.move rfl) (by decide) ?_
   refine WL.x (X.assign rfl) (by decide) ?_
   refine WL.nil ?_
   refine WK.nThen ?_
   refine WC.seq ?_
   refine WC.region ?_
   refine WL.x (X.move rfl) (by decide) ?_
   refine WL.x (X.assign rfl) (by decide) ?_
   refine WL.nil ?_
   refine WK.nThen ?_
   refine WC.seq ?_
   refine WC.block ?_
   refine WC.loop (G := Nat × Nat) (fun (p_, q_) => q_ - p_) (fun (p_, q_) => m) (fun (p_, q_) => [rowF (v) 62 (L)]) (fun (p_, q_) => [(0, v), (2, .int .i64 (↑mm)), (4, .func (.func 138) #[] [].toArray), (14, .int .i64 (↑p_)), (15, .int .i64 (↑q_))]) (fun (p_, q_) => (a ≤ p_ ∧ p_ ≤ q_ ∧ q_ ≤ mm) ∧ (∀ z, a ≤ z → z < p_ → ¬ (gt L mm).Time < (gt L z).Time) ∧ (∀ z, q_ ≤ z → z < mm → (gt L mm).Time < (gt L z).Time)) ((a, mm)) rfl (.refl _) (.cons rfl (.cons rfl (.cons rfl (.cons rfl (.cons rfl .nil))))) ?_ ?_
   ·exact ⟨by omega, fun z h1_ h2_ => by omega, fun z h1_ h2_ => by omega⟩
   ·rintro ⟨p_, q_⟩ hF8
    show WK _ _ m [rowF (v) 62 (L)] [(0, v), (2, .int .i64 (↑mm)), (4, .func (.func 138) #[] [].toArray), (14, .int .i64 (↑p_)), (15, .int .i64 (↑q_))] _
    replace hF8 : (a ≤ p_ ∧ p_ ≤ q_ ∧ q_ ≤ mm) ∧ (∀ z, a ≤ z → z < p_ → ¬ (gt L mm).Time < (gt L z).Time) ∧ (∀ z, q_ ≤ z → z < mm → (gt L mm).Time < (gt L z).Time) := hF8
    obtain ⟨hb_, hlo_, hhi_⟩ := hF8
    refine WC.seq ?_
    refine WC.seq ?_
    refine WC.region ?_
    refine WL.x (X.move rfl) (by decide) ?_
    refine WL.x (X.move rfl) (by decide) ?_
    refine WL.cond (X.lss rfl rfl) (by decide) (fun h9 => ?_) (fun h9 => ?_)
    ·refine WL.nil ?_
     refine WK.nThen ?_
     refine WC.condT rfl ?_
     refine WC.skip ?_
     refine WK.nThen ?_
     refine WC.block ?_
     refine WC.seq ?_
     refine WC.region ?_
     refine WL.x (X.move rfl) (by decide) ?_
     refine WL.x (X.move rfl) (by decide) ?_
     refine WL.x (X.add rfl rfl (by omega) (by omega)) (by decide) ?_
     refine WL.x (X.conv Try.runUnderlying3 Try.runUnderlying196 rfl (wrap_u64 (by omega) (by omega))) (by decide) ?_
     refine WL.x (X.shr1 rfl rfl (by omega)) (by decide) ?_
     refine WL.x (X.conv Try.runUnderlying196 Try.runUnderlying3 rfl (wrap_in (by omega) (by omega))) (by decide) ?_
     refine WL.x (X.assign rfl) (by decide) ?_
     refine WL.nil ?_
     obtain ⟨h_, hh_⟩ : ∃ qq__ : Nat, ((↑p_ + ↑q_) / 2 : Int) = (qq__ : Int) := ⟨((↑p_ + ↑q_) / 2 : Int).toNat, (by omega)⟩
     rw [hh_]
     refine WK.nThen ?_
     refine WC.seq ?_
     refine WC.draw (π := (.cons 0 (.cons 1 (.cons 2 (.cons 3 (.cons 4 (.cons 5 (.cons 6 (.cons 7 (.cons 8 (.cons 9 (.cons 10 (.cons 11 .done))))))))))))) [] [] rfl (by kernel_rfl) ?_
     refine DW.x rfl rfl (X.move rfl) (by decide) ?_
     refine DW.x rfl rfl (X.move rfl) (by decide) ?_
     refine DW.x rfl rfl (X.move rfl) (by decide) ?_
     refine DW.x rfl rfl (X.idxRowE (k := 0) mm Try.runUnderlying22 Try.sizeOf62 rfl rfl rfl (by omega) (by first | omega | (simp; omega) | simp)) (by decide) ?_
     refine DW.x rfl rfl (X.loadFs (k := 0) (i := mm) (off := 0) (us := [.int .i64 (((gt L mm)).Time), .int .i64 ((((gt L mm)).Levels).Lo), .int .i64 ((((gt L mm)).Levels).Hi)]) Try.isAgg62 Try.sizeOf62 rfl rfl (by first | omega | (simp; omega) | simp) rfl rfl) (by decide) ?_
     refine DW.x rfl rfl (X.move rfl) (by decide) ?_
     refine DW.x rfl rfl (X.move rfl) (by decide) ?_
     refine DW.x rfl rfl (X.idxRowE (k := 0) h_ Try.runUnderlying22 Try.sizeOf62 rfl rfl rfl (by omega) (by first | omega | (simp; omega) | simp)) (by decide) ?_
     refine DW.x rfl rfl (X.loadFs (k := 0) (i := h_) (off := 0) (us := [.int .i64 (((gt L h_)).Time), .int .i64 ((((gt L h_)).Levels).Lo), .int .i64 ((((gt L h_)).Levels).Hi)]) Try.isAgg62 Try.sizeOf62 rfl rfl (by first | omega | (simp; omega) | simp) rfl rfl) (by decide) ?_
     refine DW.x rfl rfl (X.callc Try.call138 rfl rfl (cmp138 _ _ (gt L mm) rfl _ (gt L h_) rfl)) (by decide) ?_
     refine DW.cond rfl rfl (X.lss rfl rfl) (by decide) (fun h10 => ?_) (fun h10 => ?_)
     ·refine DW.x rfl rfl (X.not rfl) (by decide) ?_
      refine DW.nil ?_
      refine WK.nThen ?_
      refine WC.condF rfl ?_
      refine WC.region ?_
      refine WL.x (X.move rfl) (by decide) ?_
      refine WL.x (X.assign rfl) (by decide) ?_
      refine WL.nil ?_
      refine WK.nBlock ?_
      refine WK.nThen ?_
      refine WK.next ((p_, h_)) rfl (.refl _) (.cons rfl (.cons rfl (.cons rfl (.cons rfl (.cons rfl .nil))))) ?_ ?_
      ·have hx_ := cmpR_neg.1 (by assumption : cmpR (gt L mm).Time (gt L h_).Time < 0)
       exact ⟨by omega, hlo_, fun z h1_ h2_ => by have e_ := hs1.le (p := h_) (q := z) (by omega) (by omega) (by omega); omega⟩
      ·(dsimp only; omega)
     ·refine DW.x rfl rfl (X.not rfl) (by decide) ?_
      refine DW.nil ?_
      refine WK.nThen ?_
      refine WC.condT rfl ?_
      refine WC.region ?_
      refine WL.x (X.move rfl) (by decide) ?_
      refine WL.x (X.add rfl rfl (by omega) (by omega)) (by decide) ?_
      refine WL.x (X.assign rfl) (by decide) ?_
      refine WL.nil ?_
      refine WK.nBlock ?_
      refine WK.nThen ?_
      refine WK.next ((h_ + 1, q_)) rfl (.refl _) (.cons rfl (.cons rfl (.cons rfl (.cons rfl (.cons rfl .nil))))) ?_ ?_
      ·have hx_ : ¬ (gt L mm).Time < (gt L h_).Time := fun hc_ => absurd (cmpR_neg.2 hc_) (by assumption)
       exact ⟨by omega, fun z h1_ h2_ => by have e_ := hs1.le (p := z) (q := h_) (by omega) (by omega) (by omega); omega, hhi_⟩
      ·(dsimp only; omega)
    ·refine WL.nil ?_
     refine WK.nThen ?_
     refine WC.condF rfl ?_
     refine WC.exit ?_
     refine WK.eThen ?_
     refine WK.eThen ?_
     refine WK.eHit ?_
     refine WK.nThen ?_
     refine WC.seq ?_
     refine WC.seq ?_
     refine WC.region ?_
     refine WL.x (X.move rfl) (by decide) ?_
     refine WL.x (X.assign rfl) (by decide) ?_
     refine WL.nil ?_
     refine WK.nThen ?_
     refine WC.block ?_
     obtain rfl : p_ = q_ := (by omega)
     refine WC.loop (G := Nat × List Val) (fun (k_, R) => k_) (fun (k_, R) => m) (fun (k_, R) => [rowF (v) 62 (R)]) (fun (k_, R) => [(0, v), (14, .int .i64 (↑p_)), (17, .int .i64 (↑k_))]) (fun (k_, R) => p_ ≤ k_ ∧ DnI L R a mm k_) ((mm, L)) rfl (.refl _) (.cons rfl (.cons rfl (.cons rfl .nil))) ?_ ?_
     ·exact ⟨by omega, dn_start L (by omega)⟩
     ·rintro ⟨k_, R⟩ hF11
      show WK _ _ m [rowF (v) 62 (R)] [(0, v), (14, .int .i64 (↑p_)), (17, .int .i64 (↑k_))] _
      replace hF11 : p_ ≤ k_ ∧ DnI L R a mm k_ := hF11
      obtain ⟨hkp, hD⟩ := hF11
      have hDl := hD.seg.len
      have hDb := hD.bd
      refine WC.seq ?_
      refine WC.seq ?_
      refine WC.region ?_
      refine WL.x (X.move rfl) (by decide) ?_
      refine WL.x (X.move rfl) (by decide) ?_
      refine WL.cond (X.gtr rfl rfl) (by decide) (fun h12 => ?_) (fun h12 => ?_)
      ·refine WL.nil ?_
       refine WK.nThen ?_
       refine WC.condT rfl ?_
       refine WC.skip ?_
       refine WK.nThen ?_
       refine WC.seq ?_
       refine WC.block ?_
       refine WC.draw (π := (.cons 0 (.cons 1 (.cons 2 (.cons 3 (.cons 4 (.cons 5 (.cons 6 (.cons 7 (.cons 8 (.cons 9 (.cons 10 (.cons 11 (.cons 12 (.cons 13 (.cons 14 (.cons 15 (.cons 16 (.cons 17 .done))))))))))))))))))) [15, 17] [15, 17, 100004] rfl (by kernel_rfl) ?_
       refine DW.x rfl rfl (X.move rfl) (by decide) ?_
       refine DW.x rfl rfl (X.move rfl) (by decide) ?_
       refine DW.x rfl rfl (X.move rfl) (by decide) ?_
       refine DW.x rfl rfl (X.move rfl) (by decide) ?_
       refine DW.xf rfl rfl rfl (fun _ _ hle_ => (X.sub rfl rfl (by omega) (by omega))) (by decide) ?_
       refine DW.x rfl rfl (X.move rfl) (by decide) ?_
       refine DW.x rfl rfl (X.move rfl) (by decide) ?_
       refine DW.x rfl rfl (X.sub rfl rfl (by omega) (by omega)) (by decide) ?_
       refine DW.x rfl rfl (X.idxRowE (k := 0) (k_ - 1) Try.runUnderlying22 Try.sizeOf62 rfl rfl rfl (by omega) (by first | omega | (simp; omega) | simp)) (by decide) ?_
       refine DW.x rfl rfl (X.loadFs (k := 0) (i := k_ - 1) (off := 0) (us := [.int .i64 (((gt R (k_ - 1))).Time), .int .i64 ((((gt R (k_ - 1))).Levels).Lo), .int .i64 ((((gt R (k_ - 1))).Levels).Hi)]) Try.isAgg62 Try.sizeOf62 rfl rfl (by first | omega | (simp; omega) | simp) rfl rfl) (by decide) ?_
       refine DW.x rfl rfl (X.move rfl) (by decide) ?_
       refine DW.x rfl rfl (X.move rfl) (by decide) ?_
       refine DW.x rfl rfl (X.idxRowE (k := 0) k_ Try.runUnderlying22 Try.sizeOf62 rfl rfl rfl (by omega) (by first | omega | (simp; omega) | simp)) (by decide) ?_
       refine DW.x rfl rfl (X.loadFs (k := 0) (i := k_) (off := 0) (us := [.int .i64 (((gt R k_)).Time), .int .i64 ((((gt R k_)).Levels).Lo), .int .i64 ((((gt R k_)).Levels).Hi)]) Try.isAgg62 Try.sizeOf62 rfl rfl (by first | omega | (simp; omega) | simp) rfl rfl) (by decide) ?_
       refine DW.x rfl rfl (X.idxRowE (k := 0) k_ Try.runUnderlying22 Try.sizeOf62 rfl rfl rfl (by omega) (by first | omega | (simp; omega) | simp)) (by decide) ?_
       refine DW.ts rfl rfl rfl rfl (T.storeFp (k := 0) (i := k_) (off := 0) (us := [.int .i64 (((gt R (k_ - 1))).Time), .int .i64 ((((gt R (k_ - 1))).Levels).Lo), .int .i64 ((((gt R (k_ - 1))).Levels).Hi)]) (gt R (k_ - 1)) Try.sizeOf62 rfl rfl rfl rfl (Nat.zero_lt_succ _) rfl (by first | omega | (simp; omega) | simp) rfl rfl (one_cons rfl (one_cons rfl (one_cons rfl one_nil)))) ?_
       refine DW.x rfl rfl (X.idxRowE (k := 0) (k_ - 1) Try.runUnderlying22 Try.sizeOf62 rfl rfl rfl (by omega) (by first | omega | (simp; omega) | simp)) (by decide) ?_
       refine DW.ts rfl rfl rfl rfl (T.storeFp (k := 0) (i := k_ - 1) (off := 0) (us := [.int .i64 (((gt R k_)).Time), .int .i64 ((((gt R k_)).Levels).Lo), .int .i64 ((((gt R k_)).Levels).Hi)]) (gt R k_) Try.sizeOf62 rfl rfl rfl rfl (Nat.zero_lt_succ _) rfl (by first | omega | (simp; omega) | simp) rfl rfl (one_cons rfl (one_cons rfl (one_cons rfl one_nil)))) ?_
       refine DW.nil ?_
       refine WK.nBlock ?_
       refine WK.nThen ?_
       refine WC.region ?_
       refine WL.x (X.move rfl) (by decide) ?_
       refine WL.x (X.sub rfl rfl (by omega) (by omega)) (by decide) ?_
       refine WL.x (X.assign rfl) (by decide) ?_
       refine WL.nil ?_
       refine WK.nThen ?_
       have hsub_ : (↑k_ - 1 : Int) = ((k_ - 1 : Nat) : Int) := (by omega)
       rw [hsub_]
       refine WK.next ((k_ - 1, (R.set k_ (gt R (k_ - 1))).set (k_ - 1) (gt R k_))) rfl (.refl _) (.cons rfl (.cons rfl (.cons rfl .nil))) ?_ ?_
       ·exact ⟨by omega, dn_step hD (by omega) (by omega)⟩
       ·(dsimp only; omega)
      ·refine WL.nil ?_
       refine WK.nThen ?_
       refine WC.condF rfl ?_
       refine WC.exit ?_
       refine WK.eThen ?_
       refine WK.eThen ?_
       refine WK.eHit ?_
       refine WK.nThen ?_
       refine WC.ret ?_
       refine WK.rThen ?_
       refine WK.ret0 rfl (fun w' hw' => Ret.mut hw' ?_)
       obtain rfl : b = mm + 1 := (by omega)
       obtain rfl : p_ = k_ := (by omega)
       exact ⟨rfl, R, rfl, hD.seg, dn_end hD hs1 hlo_ (fun z h1_ h2_ => hhi_ z (by omega) h2_)⟩
  ·refine WL.nil ?_
   refine WK.nThen ?_
   refine WC.condF rfl ?_
   refine WC.skip ?_
   refine WK.nThen ?_
   refine WC.seq ?_
   refine WC.region ?_
   refine WL.x (X.move rfl) (by decide) ?_
   refine WL.x (X.move rfl) (by decide) ?_
   refine WL.x (X.add rfl rfl (by omega) (by omega)) (by decide) ?_
   refine WL.x (X.conv Try.runUnderlying3 Try.runUnderlying196 rfl (wrap_u64 (by omega) (by omega))) (by decide) ?_
   refine WL.x (X.shr1 rfl rfl (by omega)) (by decide) ?_
   refine WL.x (X.conv Try.runUnderlying196 Try.runUnderlying3 rfl (wrap_in (by omega) (by omega))) (by decide) ?_
   refine WL.x (X.assign rfl) (by decide) ?_
   refine WL.nil ?_
   obtain ⟨mid, hmid⟩ : ∃ qq__ : Nat, ((↑a + ↑b) / 2 : Int) = (qq__ : Int) := ⟨((↑a + ↑b) / 2 : Int).toNat, (by omega)⟩
   rw [hmid]
   refine WK.nThen ?_
   refine WC.seq ?_
   refine WC.region ?_
   refine WL.x (X.move rfl) (by decide) ?_
   refine WL.x (X.move rfl) (by decide) ?_
   refine WL.x (X.add rfl rfl (by omega) (by omega)) (by decide) ?_
   refine WL.x (X.assign rfl) (by decide) ?_
   refine WL.nil ?_
   obtain ⟨n_, hn_⟩ : ∃ qq__ : Nat, (↑mid + ↑mm : Int) = (qq__ : Int) := ⟨(↑mid + ↑mm : Int).toNat, (by omega)⟩
   rw [hn_]
   refine WK.nThen ?_
   refine WC.seq ?_
   refine WC.region ?_
   refine WL.x (X.assign rfl) (by decide) ?_
   refine WL.x (X.assign rfl) (by decide) ?_
   refine WL.nil ?_
   refine WK.nThen ?_
   refine WC.cut (G := Nat × Nat) (fun (s0_, r0_) => m) (fun (s0_, r0_) => [rowF (v) 62 (L)]) (fun (s0_, r0_) => [(0, v), (1, .int .i64 (↑a)), (2, .int .i64 (↑mm)), (3, .int .i64 (↑b)), (4, .func (.func 138) #[] [].toArray), (18, .int .i64 (↑mid)), (19, .int .i64 (↑n_)), (20, .int .i64 (↑s0_)), (21, .int .i64 (↑r0_))]) (fun (s0_, r0_) => SeaB a mm b n_ s0_ r0_) ?_ ?_
   ·refine WC.seq ?_
    refine WC.region ?_
    refine WL.x (X.move rfl) (by decide) ?_
    refine WL.x (X.move rfl) (by decide) ?_
    refine WL.cond (X.gtr rfl rfl) (by decide) (fun h13 => ?_) (fun h13 => ?_)
    ·refine WL.nil ?_
     refine WK.nThen ?_
     refine WC.condT rfl ?_
     refine WC.seq ?_
     refine WC.region ?_
     refine WL.x (X.move rfl) (by decide) ?_
     refine WL.x (X.move rfl) (by decide) ?_
     refine WL.x (X.sub rfl rfl (by omega) (by omega)) (by decide) ?_
     refine WL.x (X.assign rfl) (by decide) ?_
     refine WL.nil ?_
     obtain ⟨s1_, hs1_⟩ : ∃ qq__ : Nat, (↑n_ - ↑b : Int) = (qq__ : Int) := ⟨(↑n_ - ↑b : Int).toNat, (by omega)⟩
     rw [hs1_]
     refine WK.nThen ?_
     refine WC.region ?_
     refine WL.x (X.move rfl) (by decide) ?_
     refine WL.x (X.assign rfl) (by decide) ?_
     refine WL.nil ?_
     refine WK.nThen ?_
     refine WK.meet ((s1_, mid)) rfl (.refl _) (.cons rfl (.cons rfl (.cons rfl (.cons rfl (.cons rfl (.cons rfl (.cons rfl (.cons rfl (.cons rfl .nil))))))))) ?_
     exact ⟨by omega, by omega⟩
    ·refine WL.nil ?_
     refine WK.nThen ?_
     refine WC.condF rfl ?_
     refine WC.seq ?_
     refine WC.region ?_
     refine WL.x (X.move rfl) (by decide) ?_
     refine WL.x (X.assign rfl) (by decide) ?_
     refine WL.nil ?_
     refine WK.nThen ?_
     refine WC.region ?_
     refine WL.x (X.move rfl) (by decide) ?_
     refine WL.x (X.assign rfl) (by decide) ?_
     refine WL.nil ?_
     refine WK.nThen ?_
     refine WK.meet ((a, mm)) rfl (.refl _) (.cons rfl (.cons rfl (.cons rfl (.cons rfl (.cons rfl (.cons rfl (.cons rfl (.cons rfl (.cons rfl .nil))))))))) ?_
     exact ⟨by omega, by omega⟩
   ·rintro ⟨s0_, r0_⟩ hF14
    show WK _ _ m [rowF (v) 62 (L)] [(0, v), (1, .int .i64 (↑a)), (2, .int .i64 (↑mm)), (3, .int .i64 (↑b)), (4, .func (.func 138) #[] [].toArray), (18, .int .i64 (↑mid)), (19, .int .i64 (↑n_)), (20, .int .i64 (↑s0_)), (21, .int .i64 (↑r0_))] _
    replace hF14 : SeaB a mm b n_ s0_ r0_ := hF14
    have hB := hF14
    refine WC.seq ?_
    refine WC.region ?_
    refine WL.x (X.move rfl) (by decide) ?_
    refine WL.x (X.sub rfl rfl (by omega) (by omega)) (by decide) ?_
    refine WL.x (X.assign rfl) (by decide) ?_
    refine WL.nil ?_
    obtain ⟨pp, hpp⟩ : ∃ qq__ : Nat, (↑n_ - 1 : Int) = (qq__ : Int) := ⟨(↑n_ - 1 : Int).toNat, (by omega)⟩
    rw [hpp]
    refine WK.nThen ?_
    refine WC.seq ?_
    refine WC.block ?_
    refine WC.loop (G := Nat × Nat) (fun (p_, q_) => q_ - p_) (fun (p_, q_) => m) (fun (p_, q_) => [rowF (v) 62 (L)]) (fun (p_, q_) => [(0, v), (1, .int .i64 (↑a)), (2, .int .i64 (↑mm)), (3, .int .i64 (↑b)), (4, .func (.func 138) #[] [].toArray), (18, .int .i64 (↑mid)), (19, .int .i64 (↑n_)), (20, .int .i64 (↑p_)), (21, .int .i64 (↑q_)), (22, .int .i64 (↑pp))]) (fun (p_, q_) => SeaI L a mm b n_ s0_ r0_ p_ q_) ((s0_, r0_)) rfl (.refl _) (.cons rfl (.cons rfl (.cons rfl (.cons rfl (.cons rfl (.cons rfl (.cons rfl (.cons rfl (.cons rfl (.cons rfl .nil)))))))))) ?_ ?_
    ·exact sea_start (by have h1_ := hB.h; have h2_ := hB.c; omega)
    ·rintro ⟨p_, q_⟩ hF15
     show WK _ _ m [rowF (v) 62 (L)] [(0, v), (1, .int .i64 (↑a)), (2, .int .i64 (↑mm)), (3, .int .i64 (↑b)), (4, .func (.func 138) #[] [].toArray), (18, .int .i64 (↑mid)), (19, .int .i64 (↑n_)), (20, .int .i64 (↑p_)), (21, .int .i64 (↑q_)), (22, .int .i64 (↑pp))] _
     replace hF15 : SeaI L a mm b n_ s0_ r0_ p_ q_ := hF15
     have hSe := hF15
     have hSb := hSe.bd
     have hBh := hB.h
     have hBc := hB.c
     refine WC.seq ?_
     refine WC.seq ?_
     refine WC.region ?_
     refine WL.x (X.move rfl) (by decide) ?_
     refine WL.x (X.move rfl) (by decide) ?_
     refine WL.cond (X.lss rfl rfl) (by decide) (fun h16 => ?_) (fun h16 => ?_)
     ·refine WL.nil ?_
      refine WK.nThen ?_
      refine WC.condT rfl ?_
      refine WC.skip ?_
      refine WK.nThen ?_
      refine WC.block ?_
      refine WC.seq ?_
      refine WC.region ?_
      refine WL.x (X.move rfl) (by decide) ?_
      refine WL.x (X.move rfl) (by decide) ?_
      refine WL.x (X.add rfl rfl (by omega) (by omega)) (by decide) ?_
      refine WL.x (X.conv Try.runUnderlying3 Try.runUnderlying196 rfl (wrap_u64 (by omega) (by omega))) (by decide) ?_
      refine WL.x (X.shr1 rfl rfl (by omega)) (by decide) ?_
      refine WL.x (X.conv Try.runUnderlying196 Try.runUnderlying3 rfl (wrap_in (by omega) (by omega))) (by decide) ?_
      refine WL.x (X.assign rfl) (by decide) ?_
      refine WL.nil ?_
      obtain ⟨h_, hh_⟩ : ∃ qq__ : Nat, ((↑p_ + ↑q_) / 2 : Int) = (qq__ : Int) := ⟨((↑p_ + ↑q_) / 2 : Int).toNat, (by omega)⟩
      rw [hh_]
      have hpc_ : n_ - 1 - h_ = pp - h_ := (by omega)
      refine WK.nThen ?_
      refine WC.seq ?_
      refine WC.draw (π := (.cons 0 (.cons 1 (.cons 2 (.cons 3 (.cons 4 (.cons 5 (.cons 6 (.cons 7 (.cons 8 (.cons 9 (.cons 10 (.cons 11 (.cons 12 (.cons 13 .done))))))))))))))) [] [] rfl (by kernel_rfl) ?_
      refine DW.x rfl rfl (X.move rfl) (by decide) ?_
      refine DW.x rfl rfl (X.move rfl) (by decide) ?_
      refine DW.x rfl rfl (X.move rfl) (by decide) ?_
      refine DW.x rfl rfl (X.move rfl) (by decide) ?_
      refine DW.x rfl rfl (X.sub rfl rfl (by omega) (by omega)) (by decide) ?_
      refine DW.x rfl rfl (X.idxRowE (k := 0) (pp - h_) Try.runUnderlying22 Try.sizeOf62 rfl rfl rfl (by omega) (by first | omega | (simp; omega) | simp)) (by decide) ?_
      refine DW.x rfl rfl (X.loadFs (k := 0) (i := pp - h_) (off := 0) (us := [.int .i64 (((gt L (pp - h_))).Time), .int .i64 ((((gt L (pp - h_))).Levels).Lo), .int .i64 ((((gt L (pp - h_))).Levels).Hi)]) Try.isAgg62 Try.sizeOf62 rfl rfl (by first | omega | (simp; omega) | simp) rfl rfl) (by decide) ?_
      refine DW.x rfl rfl (X.move rfl) (by decide) ?_
      refine DW.x rfl rfl (X.move rfl) (by decide) ?_
      refine DW.x rfl rfl (X.idxRowE (k := 0) h_ Try.runUnderlying22 Try.sizeOf62 rfl rfl rfl (by omega) (by first | omega | (simp; omega) | simp)) (by decide) ?_
      refine DW.x rfl rfl (X.loadFs (k := 0) (i := h_) (off := 0) (us := [.int .i64 (((gt L h_)).Time), .int .i64 ((((gt L h_)).Levels).Lo), .int .i64 ((((gt L h_)).Levels).Hi)]) Try.isAgg62 Try.sizeOf62 rfl rfl (by first | omega | (simp; omega) | simp) rfl rfl) (by decide) ?_
      refine DW.x rfl rfl (X.callc Try.call138 rfl rfl (cmp138 _ _ (gt L (pp - h_)) rfl _ (gt L h_) rfl)) (by decide) ?_
      refine DW.cond rfl rfl (X.lss rfl rfl) (by decide) (fun h17 => ?_) (fun h17 => ?_)
      ·refine DW.x rfl rfl (X.not rfl) (by decide) ?_
       refine DW.nil ?_
       refine WK.nThen ?_
       refine WC.condF rfl ?_
       refine WC.region ?_
       refine WL.x (X.move rfl) (by decide) ?_
       refine WL.x (X.assign rfl) (by decide) ?_
       refine WL.nil ?_
       refine WK.nBlock ?_
       refine WK.nThen ?_
       refine WK.next ((p_, h_)) rfl (.refl _) (.cons rfl (.cons rfl (.cons rfl (.cons rfl (.cons rfl (.cons rfl (.cons rfl (.cons rfl (.cons rfl (.cons rfl .nil)))))))))) ?_ ?_
       ·have hx_ := cmpR_neg.1 (by assumption : cmpR (gt L (pp - h_)).Time (gt L h_).Time < 0)
        exact sea_dn hB hSe hs1 hs2 (by omega) (by rw [hpc_]; exact hx_)
       ·(dsimp only; omega)
      ·refine DW.x rfl rfl (X.not rfl) (by decide) ?_
       refine DW.nil ?_
       refine WK.nThen ?_
       refine WC.condT rfl ?_
       refine WC.region ?_
       refine WL.x (X.move rfl) (by decide) ?_
       refine WL.x (X.add rfl rfl (by omega) (by omega)) (by decide) ?_
       refine WL.x (X.assign rfl) (by decide) ?_
       refine WL.nil ?_
       refine WK.nBlock ?_
       refine WK.nThen ?_
       refine WK.next ((h_ + 1, q_)) rfl (.refl _) (.cons rfl (.cons rfl (.cons rfl (.cons rfl (.cons rfl (.cons rfl (.cons rfl (.cons rfl (.cons rfl (.cons rfl .nil)))))))))) ?_ ?_
       ·have hx_ : ¬ (gt L (pp - h_)).Time < (gt L h_).Time := fun hc_ => absurd (cmpR_neg.2 hc_) (by assumption)
        exact sea_up hB hSe hs1 hs2 (by omega) (by rw [hpc_]; exact hx_)
       ·(dsimp only; omega)
     ·refine WL.nil ?_
      refine WK.nThen ?_
      refine WC.condF rfl ?_
      refine WC.exit ?_
      refine WK.eThen ?_
      refine WK.eThen ?_
      refine WK.eHit ?_
      refine WK.nThen ?_
      refine WC.seq ?_
      refine WC.region ?_
      refine WL.x (X.move rfl) (by decide) ?_
      refine WL.x (X.move rfl) (by decide) ?_
      refine WL.x (X.sub rfl rfl (by omega) (by omega)) (by decide) ?_
      refine WL.x (X.assign rfl) (by decide) ?_
      refine WL.nil ?_
      obtain ⟨en, hen⟩ : ∃ qq__ : Nat, (↑n_ - ↑p_ : Int) = (qq__ : Int) := ⟨(↑n_ - ↑p_ : Int).toNat, (by omega)⟩
      rw [hen]
      have hC : CutI L a mm b p_ en := sea_end hB hSe hs1 hs2 (by omega) (by omega)
      have hCb := hC.bd
      refine WK.nThen ?_
      refine WC.seq ?_
      refine WC.seq ?_
      refine WC.region ?_
      refine WL.x (X.move rfl) (by decide) ?_
      refine WL.x (X.move rfl) (by decide) ?_
      refine WL.cond (X.lss rfl rfl) (by decide) (fun h18 => ?_) (fun h18 => ?_)
      ·refine WL.x (X.move rfl) (by decide) ?_
       refine WL.yes rfl rfl ?_
       refine WL.x (X.move rfl) (by decide) ?_
       refine WL.yes rfl rfl ?_
       refine WL.x (X.move rfl) (by decide) ?_
       refine WL.yes rfl rfl ?_
       refine WL.cond (X.lss rfl rfl) (by decide) (fun h19 => ?_) (fun h19 => ?_)
       ·refine WL.x (X.pickT rfl rfl rfl) (by decide) ?_
        refine WL.nil ?_
        refine WK.nThen ?_
        refine WC.condT rfl ?_
        refine WC.region ?_
        refine WL.x (X.move rfl) (by decide) ?_
        refine WL.x (X.move rfl) (by decide) ?_
        refine WL.x (X.move rfl) (by decide) ?_
        refine WL.x (X.move rfl) (by decide) ?_
        refine WL.x (X.move rfl) (by decide) ?_
        refine WL.tM (T.callP (A := []) Try.call159 rfl (.refl _) (rotate159 _ (L := L) (by omega) (a := p_) (mm := mm) (b := en) (by omega) (by omega) (by omega) (by omega) (by omega) (by omega))) (by decide) (fun m20 Es_ _ hle21 hR_ => ?_)
        obtain ⟨rfl, R22, rfl, hR23⟩ := hR_
        refine WL.nil ?_
        refine WK.nThen ?_
        refine WC.seq ?_
        refine WC.seq ?_
        have hF : FourI L R22 a p_ mid en b := four_of hC hs1 hs2 hbl (by omega) hR23
        have hFb := hF.bd
        have hFl := hF.seg.len
        refine WC.region ?_
        refine WL.x (X.move rfl) (by decide) ?_
        refine WL.x (X.move rfl) (by decide) ?_
        refine WL.cond (X.lss rfl rfl) (by decide) (fun h24 => ?_) (fun h24 => ?_)
        ·refine WL.x (X.move rfl) (by decide) ?_
         refine WL.yes rfl rfl ?_
         refine WL.x (X.move rfl) (by decide) ?_
         refine WL.yes rfl rfl ?_
         refine WL.x (X.move rfl) (by decide) ?_
         refine WL.yes rfl rfl ?_
         refine WL.cond (X.lss rfl rfl) (by decide) (fun h25 => ?_) (fun h25 => ?_)
         ·refine WL.x (X.pickT rfl rfl rfl) (by decide) ?_
          refine WL.nil ?_
          refine WK.nThen ?_
          refine WC.condT rfl ?_
          refine WC.region ?_
          refine WL.x (X.move rfl) (by decide) ?_
          refine WL.x (X.move rfl) (by decide) ?_
          refine WL.x (X.move rfl) (by decide) ?_
          refine WL.x (X.move rfl) (by decide) ?_
          refine WL.x (X.move rfl) (by decide) ?_
          refine WL.tM (T.callP (A := []) Try.call158 rfl (.refl _) (ih (mid - a) (by omega) _ (L := R22) (a := a) (mm := p_) (b := mid) (by omega) (by omega) (by omega) (by omega) rfl (by omega) (by omega) (by omega) hF.s1 hF.s2)) (by decide) (fun m26 Es_ _ hle27 hR_ => ?_)
          obtain ⟨rfl, R28, rfl, hR29⟩ := hR_
          refine WL.nil ?_
          refine WK.nThen ?_
          refine WC.seq ?_
          have hH : HalfI L R28 a mid en b := half_of hF hbl hR29.1 hR29.2
          have hHb := hH.bd
          have hHl := hH.seg.len
          refine WC.region ?_
          refine WL.x (X.move rfl) (by decide) ?_
          refine WL.x (X.move rfl) (by decide) ?_
          refine WL.cond (X.lss rfl rfl) (by decide) (fun h30 => ?_) (fun h30 => ?_)
          ·refine WL.x (X.move rfl) (by decide) ?_
           refine WL.yes rfl rfl ?_
           refine WL.x (X.move rfl) (by decide) ?_
           refine WL.yes rfl rfl ?_
           refine WL.x (X.move rfl) (by decide) ?_
           refine WL.yes rfl rfl ?_
           refine WL.cond (X.lss rfl rfl) (by decide) (fun h31 => ?_) (fun h31 => ?_)
           ·refine WL.x (X.pickT rfl rfl rfl) (by decide) ?_
            refine WL.nil ?_
            refine WK.nThen ?_
            refine WC.condT rfl ?_
            refine WC.region ?_
            refine WL.x (X.move rfl) (by decide) ?_
            refine WL.x (X.move rfl) (by decide) ?_
            refine WL.x (X.move rfl) (by decide) ?_
            refine WL.x (X.move rfl) (by decide) ?_
            refine WL.x (X.move rfl) (by decide) ?_
            refine WL.tM (T.callP (A := []) Try.call158 rfl (.refl _) (ih (b - mid) (by omega) _ (L := R28) (a := mid) (mm := en) (b := b) (by omega) (by omega) (by omega) (by omega) rfl (by omega) (by omega) (by omega) hH.s3 hH.s4)) (by decide) (fun m32 Es_ _ hle33 hR_ => ?_)
            obtain ⟨rfl, R34, rfl, hR35⟩ := hR_
            refine WL.nil ?_
            refine WK.end0 rfl (fun w' hw' => Ret.mut hw' ?_)
            exact ⟨rfl, _, rfl, whole_of hH hbl hR35.1 hR35.2⟩
           ·refine WL.x (X.pickT rfl rfl rfl) (by decide) ?_
            refine WL.nil ?_
            refine WK.nThen ?_
            refine WC.condF rfl ?_
            refine WC.skip ?_
            refine WK.end0 rfl (fun w' hw' => Ret.mut hw' ?_)
            exact ⟨rfl, _, rfl, whole_same hH hbl (by omega)⟩
          ·refine WL.x (X.move rfl) (by decide) ?_
           refine WL.no rfl rfl rfl (by decide) ?_
           refine WL.no rfl rfl rfl (by decide) ?_
           refine WL.no rfl rfl rfl (by decide) ?_
           refine WL.x (X.pickF rfl rfl rfl) (by decide) ?_
           refine WL.nil ?_
           refine WK.nThen ?_
           refine WC.condF rfl ?_
           refine WC.skip ?_
           refine WK.end0 rfl (fun w' hw' => Ret.mut hw' ?_)
           exact ⟨rfl, _, rfl, whole_same hH hbl (by omega)⟩
         ·refine WL.x (X.pickT rfl rfl rfl) (by decide) ?_
          refine WL.nil ?_
          refine WK.nThen ?_
          refine WC.condF rfl ?_
          refine WC.skip ?_
          refine WK.nThen ?_
          refine WC.seq ?_
          have hH : HalfI L R22 a mid en b := half_same hF (by omega)
          have hHb := hH.bd
          have hHl := hH.seg.len
          refine WC.region ?_
          refine WL.x (X.move rfl) (by decide) ?_
          refine WL.x (X.move rfl) (by decide) ?_
          refine WL.cond (X.lss rfl rfl) (by decide) (fun h36 => ?_) (fun h36 => ?_)
          ·refine WL.x (X.move rfl) (by decide) ?_
           refine WL.yes rfl rfl ?_
           refine WL.x (X.move rfl) (by decide) ?_
           refine WL.yes rfl rfl ?_
           refine WL.x (X.move rfl) (by decide) ?_
           refine WL.yes rfl rfl ?_
           refine WL.cond (X.lss rfl rfl) (by decide) (fun h37 => ?_) (fun h37 => ?_)
           ·refine WL.x (X.pickT rfl rfl rfl) (by decide) ?_
            refine WL.nil ?_
            refine WK.nThen ?_
            refine WC.condT rfl ?_
            refine WC.region ?_
            refine WL.x (X.move rfl) (by decide) ?_
            refine WL.x (X.move rfl) (by decide) ?_
            refine WL.x (X.move rfl) (by decide) ?_
            refine WL.x (X.move rfl) (by decide) ?_
            refine WL.x (X.move rfl) (by decide) ?_
            refine WL.tM (T.callP (A := []) Try.call158 rfl (.refl _) (ih (b - mid) (by omega) _ (L := R22) (a := mid) (mm := en) (b := b) (by omega) (by omega) (by omega) (by omega) rfl (by omega) (by omega) (by omega) hH.s3 hH.s4)) (by decide) (fun m38 Es_ _ hle39 hR_ => ?_)
            obtain ⟨rfl, R40, rfl, hR41⟩ := hR_
            refine WL.nil ?_
            refine WK.end0 rfl (fun w' hw' => Ret.mut hw' ?_)
            exact ⟨rfl, _, rfl, whole_of hH hbl hR41.1 hR41.2⟩
           ·refine WL.x (X.pickT rfl rfl rfl) (by decide) ?_
            refine WL.nil ?_
            refine WK.nThen ?_
            refine WC.condF rfl ?_
            refine WC.skip ?_
            refine WK.end0 rfl (fun w' hw' => Ret.mut hw' ?_)
            exact ⟨rfl, _, rfl, whole_same hH hbl (by omega)⟩
          ·refine WL.x (X.move rfl) (by decide) ?_
           refine WL.no rfl rfl rfl (by decide) ?_
           refine WL.no rfl rfl rfl (by decide) ?_
           refine WL.no rfl rfl rfl (by decide) ?_
           refine WL.x (X.pickF rfl rfl rfl) (by decide) ?_
           refine WL.nil ?_
           refine WK.nThen ?_
           refine WC.condF rfl ?_
           refine WC.skip ?_
           refine WK.end0 rfl (fun w' hw' => Ret.mut hw' ?_)
           exact ⟨rfl, _, rfl, whole_same hH hbl (by omega)⟩
        ·refine WL.x (X.move rfl) (by decide) ?_
         refine WL.no rfl rfl rfl (by decide) ?_
         refine WL.no rfl rfl rfl (by decide) ?_
         refine WL.no rfl rfl rfl (by decide) ?_
         refine WL.x (X.pickF rfl rfl rfl) (by decide) ?_
         refine WL.nil ?_
         refine WK.nThen ?_
         refine WC.condF rfl ?_
         refine WC.skip ?_
         refine WK.nThen ?_
         refine WC.seq ?_
         have hH : HalfI L R22 a mid en b := half_same hF (by omega)
         have hHb := hH.bd
         have hHl := hH.seg.len
         refine WC.region ?_
         refine WL.x (X.move rfl) (by decide) ?_
         refine WL.x (X.move rfl) (by decide) ?_
         refine WL.cond (X.lss rfl rfl) (by decide) (fun h42 => ?_) (fun h42 => ?_)
         ·refine WL.x (X.move rfl) (by decide) ?_
          refine WL.yes rfl rfl ?_
          refine WL.x (X.move rfl) (by decide) ?_
          refine WL.yes rfl rfl ?_
          refine WL.x (X.move rfl) (by decide) ?_
          refine WL.yes rfl rfl ?_
          refine WL.cond (X.lss rfl rfl) (by decide) (fun h43 => ?_) (fun h43 => ?_)
          ·refine WL.x (X.pickT rfl rfl rfl) (by decide) ?_
           refine WL.nil ?_
           refine WK.nThen ?_
           refine WC.condT rfl ?_
           refine WC.region ?_
           refine WL.x (X.move rfl) (by decide) ?_
           refine WL.x (X.move rfl) (by decide) ?_
           refine WL.x (X.move rfl) (by decide) ?_
           refine WL.x (X.move rfl) (by decide) ?_
           refine WL.x (X.move rfl) (by decide) ?_
           refine WL.tM (T.callP (A := []) Try.call158 rfl (.refl _) (ih (b - mid) (by omega) _ (L := R22) (a := mid) (mm := en) (b := b) (by omega) (by omega) (by omega) (by omega) rfl (by omega) (by omega) (by omega) hH.s3 hH.s4)) (by decide) (fun m44 Es_ _ hle45 hR_ => ?_)
           obtain ⟨rfl, R46, rfl, hR47⟩ := hR_
           refine WL.nil ?_
           refine WK.end0 rfl (fun w' hw' => Ret.mut hw' ?_)
           exact ⟨rfl, _, rfl, whole_of hH hbl hR47.1 hR47.2⟩
          ·refine WL.x (X.pickT rfl rfl rfl) (by decide) ?_
           refine WL.nil ?_
           refine WK.nThen ?_
           refine WC.condF rfl ?_
           refine WC.skip ?_
           refine WK.end0 rfl (fun w' hw' => Ret.mut hw' ?_)
           exact ⟨rfl, _, rfl, whole_same hH hbl (by omega)⟩
         ·refine WL.x (X.move rfl) (by decide) ?_
          refine WL.no rfl rfl rfl (by decide) ?_
          refine WL.no rfl rfl rfl (by decide) ?_
          refine WL.no rfl rfl rfl (by decide) ?_
          refine WL.x (X.pickF rfl rfl rfl) (by decide) ?_
          refine WL.nil ?_
          refine WK.nThen ?_
          refine WC.condF rfl ?_
          refine WC.skip ?_
          refine WK.end0 rfl (fun w' hw' => Ret.mut hw' ?_)
          exact ⟨rfl, _, rfl, whole_same hH hbl (by omega)⟩
       ·refine WL.x (X.pickT rfl rfl rfl) (by decide) ?_
        refine WL.nil ?_
        refine WK.nThen ?_
        refine WC.condF rfl ?_
        refine WC.skip ?_
        refine WK.nThen ?_
        refine WC.seq ?_
        refine WC.seq ?_
        have hF : FourI L L a p_ mid en b := four_of hC hs1 hs2 hbl (by omega) (rot_none L (by omega) (by omega))
        have hFb := hF.bd
        have hFl := hF.seg.len
        refine WC.region ?_
        refine WL.x (X.move rfl) (by decide) ?_
        refine WL.x (X.move rfl) (by decide) ?_
        refine WL.cond (X.lss rfl rfl) (by decide) (fun h48 => ?_) (fun h48 => ?_)
        ·refine WL.x (X.move rfl) (by decide) ?_
         refine WL.yes rfl rfl ?_
         refine WL.x (X.move rfl) (by decide) ?_
         refine WL.yes rfl rfl ?_
         refine WL.x (X.move rfl) (by decide) ?_
         refine WL.yes rfl rfl ?_
         refine WL.cond (X.lss rfl rfl) (by decide) (fun h49 => ?_) (fun h49 => ?_)
         ·refine WL.x (X.pickT rfl rfl rfl) (by decide) ?_
          refine WL.nil ?_
          refine WK.nThen ?_
          refine WC.condT rfl ?_
          refine WC.region ?_
          refine WL.x (X.move rfl) (by decide) ?_
          refine WL.x (X.move rfl) (by decide) ?_
          refine WL.x (X.move rfl) (by decide) ?_
          refine WL.x (X.move rfl) (by decide) ?_
          refine WL.x (X.move rfl) (by decide) ?_
          refine WL.tM (T.callP (A := []) Try.call158 rfl (.refl _) (ih (mid - a) (by omega) _ (L := L) (a := a) (mm := p_) (b := mid) (by omega) (by omega) (by omega) (by omega) rfl (by omega) (by omega) (by omega) hF.s1 hF.s2)) (by decide) (fun m50 Es_ _ hle51 hR_ => ?_)
          obtain ⟨rfl, R52, rfl, hR53⟩ := hR_
          refine WL.nil ?_
          refine WK.nThen ?_
          refine WC.seq ?_
          have hH : HalfI L R52 a mid en b := half_of hF hbl hR53.1 hR53.2
          have hHb := hH.bd
          have hHl := hH.seg.len
          refine WC.region ?_
          refine WL.x (X.move rfl) (by decide) ?_
          refine WL.x (X.move rfl) (by decide) ?_
          refine WL.cond (X.lss rfl rfl) (by decide) (fun h54 => ?_) (fun h54 => ?_)
          ·refine WL.x (X.move rfl) (by decide) ?_
           refine WL.yes rfl rfl ?_
           refine WL.x (X.move rfl) (by decide) ?_
           refine WL.yes rfl rfl ?_
           refine WL.x (X.move rfl) (by decide) ?_
           refine WL.yes rfl rfl ?_
           refine WL.cond (X.lss rfl rfl) (by decide) (fun h55 => ?_) (fun h55 => ?_)
           ·refine WL.x (X.pickT rfl rfl rfl) (by decide) ?_
            refine WL.nil ?_
            refine WK.nThen ?_
            refine WC.condT rfl ?_
            refine WC.region ?_
            refine WL.x (X.move rfl) (by decide) ?_
            refine WL.x (X.move rfl) (by decide) ?_
            refine WL.x (X.move rfl) (by decide) ?_
            refine WL.x (X.move rfl) (by decide) ?_
            refine WL.x (X.move rfl) (by decide) ?_
            refine WL.tM (T.callP (A := []) Try.call158 rfl (.refl _) (ih (b - mid) (by omega) _ (L := R52) (a := mid) (mm := en) (b := b) (by omega) (by omega) (by omega) (by omega) rfl (by omega) (by omega) (by omega) hH.s3 hH.s4)) (by decide) (fun m56 Es_ _ hle57 hR_ => ?_)
            obtain ⟨rfl, R58, rfl, hR59⟩ := hR_
            refine WL.nil ?_
            refine WK.end0 rfl (fun w' hw' => Ret.mut hw' ?_)
            exact ⟨rfl, _, rfl, whole_of hH hbl hR59.1 hR59.2⟩
           ·refine WL.x (X.pickT rfl rfl rfl) (by decide) ?_
            refine WL.nil ?_
            refine WK.nThen ?_
            refine WC.condF rfl ?_
            refine WC.skip ?_
            refine WK.end0 rfl (fun w' hw' => Ret.mut hw' ?_)
            exact ⟨rfl, _, rfl, whole_same hH hbl (by omega)⟩
          ·refine WL.x (X.move rfl) (by decide) ?_
           refine WL.no rfl rfl rfl (by decide) ?_
           refine WL.no rfl rfl rfl (by decide) ?_
           refine WL.no rfl rfl rfl (by decide) ?_
           refine WL.x (X.pickF rfl rfl rfl) (by decide) ?_
           refine WL.nil ?_
           refine WK.nThen ?_
           refine WC.condF rfl ?_
           refine WC.skip ?_
           refine WK.end0 rfl (fun w' hw' => Ret.mut hw' ?_)
           exact ⟨rfl, _, rfl, whole_same hH hbl (by omega)⟩
         ·refine WL.x (X.pickT rfl rfl rfl) (by decide) ?_
          refine WL.nil ?_
          refine WK.nThen ?_
          refine WC.condF rfl ?_
          refine WC.skip ?_
          refine WK.nThen ?_
          refine WC.seq ?_
          have hH : HalfI L L a mid en b := half_same hF (by omega)
          have hHb := hH.bd
          have hHl := hH.seg.len
          refine WC.region ?_
          refine WL.x (X.move rfl) (by decide) ?_
          refine WL.x (X.move rfl) (by decide) ?_
          refine WL.cond (X.lss rfl rfl) (by decide) (fun h60 => ?_) (fun h60 => ?_)
          ·refine WL.x (X.move rfl) (by decide) ?_
           refine WL.yes rfl rfl ?_
           refine WL.x (X.move rfl) (by decide) ?_
           refine WL.yes rfl rfl ?_
           refine WL.x (X.move rfl) (by decide) ?_
           refine WL.yes rfl rfl ?_
           refine WL.cond (X.lss rfl rfl) (by decide) (fun h61 => ?_) (fun h61 => ?_)
           ·refine WL.x (X.pickT rfl rfl rfl) (by decide) ?_
            refine WL.nil ?_
            refine WK.nThen ?_
            refine WC.condT rfl ?_
            refine WC.region ?_
            refine WL.x (X.move rfl) (by decide) ?_
            refine WL.x (X.move rfl) (by decide) ?_
            refine WL.x (X.move rfl) (by decide) ?_
            refine WL.x (X.move rfl) (by decide) ?_
            refine WL.x (X.move rfl) (by decide) ?_
            refine WL.tM (T.callP (A := []) Try.call158 rfl (.refl _) (ih (b - mid) (by omega) _ (L := L) (a := mid) (mm := en) (b := b) (by omega) (by omega) (by omega) (by omega) rfl (by omega) (by omega) (by omega) hH.s3 hH.s4)) (by decide) (fun m62 Es_ _ hle63 hR_ => ?_)
            obtain ⟨rfl, R64, rfl, hR65⟩ := hR_
            refine WL.nil ?_
            refine WK.end0 rfl (fun w' hw' => Ret.mut hw' ?_)
            exact ⟨rfl, _, rfl, whole_of hH hbl hR65.1 hR65.2⟩
           ·refine WL.x (X.pickT rfl rfl rfl) (by decide) ?_
            refine WL.nil ?_
            refine WK.nThen ?_
            refine WC.condF rfl ?_
            refine WC.skip ?_
            refine WK.end0 rfl (fun w' hw' => Ret.mut hw' ?_)
            exact ⟨rfl, _, rfl, whole_same hH hbl (by omega)⟩
          ·refine WL.x (X.move rfl) (by decide) ?_
           refine WL.no rfl rfl rfl (by decide) ?_
           refine WL.no rfl rfl rfl (by decide) ?_
           refine WL.no rfl rfl rfl (by decide) ?_
           refine WL.x (X.pickF rfl rfl rfl) (by decide) ?_
           refine WL.nil ?_
           refine WK.nThen ?_
           refine WC.condF rfl ?_
           refine WC.skip ?_
           refine WK.end0 rfl (fun w' hw' => Ret.mut hw' ?_)
           exact ⟨rfl, _, rfl, whole_same hH hbl (by omega)⟩
        ·refine WL.x (X.move rfl) (by decide) ?_
         refine WL.no rfl rfl rfl (by decide) ?_
         refine WL.no rfl rfl rfl (by decide) ?_
         refine WL.no rfl rfl rfl (by decide) ?_
         refine WL.x (X.pickF rfl rfl rfl) (by decide) ?_
         refine WL.nil ?_
         refine WK.nThen ?_
         refine WC.condF rfl ?_
         refine WC.skip ?_
         refine WK.nThen ?_
         refine WC.seq ?_
         have hH : HalfI L L a mid en b := half_same hF (by omega)
         have hHb := hH.bd
         have hHl := hH.seg.len
         refine WC.region ?_
         refine WL.x (X.move rfl) (by decide) ?_
         refine WL.x (X.move rfl) (by decide) ?_
         refine WL.cond (X.lss rfl rfl) (by decide) (fun h66 => ?_) (fun h66 => ?_)
         ·refine WL.x (X.move rfl) (by decide) ?_
          refine WL.yes rfl rfl ?_
          refine WL.x (X.move rfl) (by decide) ?_
          refine WL.yes rfl rfl ?_
          refine WL.x (X.move rfl) (by decide) ?_
          refine WL.yes rfl rfl ?_
          refine WL.cond (X.lss rfl rfl) (by decide) (fun h67 => ?_) (fun h67 => ?_)
          ·refine WL.x (X.pickT rfl rfl rfl) (by decide) ?_
           refine WL.nil ?_
           refine WK.nThen ?_
           refine WC.condT rfl ?_
           refine WC.region ?_
           refine WL.x (X.move rfl) (by decide) ?_
           refine WL.x (X.move rfl) (by decide) ?_
           refine WL.x (X.move rfl) (by decide) ?_
           refine WL.x (X.move rfl) (by decide) ?_
           refine WL.x (X.move rfl) (by decide) ?_
           refine WL.tM (T.callP (A := []) Try.call158 rfl (.refl _) (ih (b - mid) (by omega) _ (L := L) (a := mid) (mm := en) (b := b) (by omega) (by omega) (by omega) (by omega) rfl (by omega) (by omega) (by omega) hH.s3 hH.s4)) (by decide) (fun m68 Es_ _ hle69 hR_ => ?_)
           obtain ⟨rfl, R70, rfl, hR71⟩ := hR_
           refine WL.nil ?_
           refine WK.end0 rfl (fun w' hw' => Ret.mut hw' ?_)
           exact ⟨rfl, _, rfl, whole_of hH hbl hR71.1 hR71.2⟩
          ·refine WL.x (X.pickT rfl rfl rfl) (by decide) ?_
           refine WL.nil ?_
           refine WK.nThen ?_
           refine WC.condF rfl ?_
           refine WC.skip ?_
           refine WK.end0 rfl (fun w' hw' => Ret.mut hw' ?_)
           exact ⟨rfl, _, rfl, whole_same hH hbl (by omega)⟩
         ·refine WL.x (X.move rfl) (by decide) ?_
          refine WL.no rfl rfl rfl (by decide) ?_
          refine WL.no rfl rfl rfl (by decide) ?_
          refine WL.no rfl rfl rfl (by decide) ?_
          refine WL.x (X.pickF rfl rfl rfl) (by decide) ?_
          refine WL.nil ?_
          refine WK.nThen ?_
          refine WC.condF rfl ?_
          refine WC.skip ?_
          refine WK.end0 rfl (fun w' hw' => Ret.mut hw' ?_)
          exact ⟨rfl, _, rfl, whole_same hH hbl (by omega)⟩
      ·refine WL.x (X.move rfl) (by decide) ?_
       refine WL.no rfl rfl rfl (by decide) ?_
       refine WL.no rfl rfl rfl (by decide) ?_
       refine WL.no rfl rfl rfl (by decide) ?_
       refine WL.x (X.pickF rfl rfl rfl) (by decide) ?_
       refine WL.nil ?_
       refine WK.nThen ?_
       refine WC.condF rfl ?_
       refine WC.skip ?_
       refine WK.nThen ?_
       refine WC.seq ?_
       refine WC.seq ?_
       have hF : FourI L L a p_ mid en b := four_of hC hs1 hs2 hbl (by omega) (rot_none L (by omega) (by omega))
       have hFb := hF.bd
       have hFl := hF.seg.len
       refine WC.region ?_
       refine WL.x (X.move rfl) (by decide) ?_
       refine WL.x (X.move rfl) (by decide) ?_
       refine WL.cond (X.lss rfl rfl) (by decide) (fun h72 => ?_) (fun h72 => ?_)
       ·refine WL.x (X.move rfl) (by decide) ?_
        refine WL.yes rfl rfl ?_
        refine WL.x (X.move rfl) (by decide) ?_
        refine WL.yes rfl rfl ?_
        refine WL.x (X.move rfl) (by decide) ?_
        refine WL.yes rfl rfl ?_
        refine WL.cond (X.lss rfl rfl) (by decide) (fun h73 => ?_) (fun h73 => ?_)
        ·refine WL.x (X.pickT rfl rfl rfl) (by decide) ?_
         refine WL.nil ?_
         refine WK.nThen ?_
         refine WC.condT rfl ?_
         refine WC.region ?_
         refine WL.x (X.move rfl) (by decide) ?_
         refine WL.x (X.move rfl) (by decide) ?_
         refine WL.x (X.move rfl) (by decide) ?_
         refine WL.x (X.move rfl) (by decide) ?_
         refine WL.x (X.move rfl) (by decide) ?_
         refine WL.tM (T.callP (A := []) Try.call158 rfl (.refl _) (ih (mid - a) (by omega) _ (L := L) (a := a) (mm := p_) (b := mid) (by omega) (by omega) (by omega) (by omega) rfl (by omega) (by omega) (by omega) hF.s1 hF.s2)) (by decide) (fun m74 Es_ _ hle75 hR_ => ?_)
         obtain ⟨rfl, R76, rfl, hR77⟩ := hR_
         refine WL.nil ?_
         refine WK.nThen ?_
         refine WC.seq ?_
         have hH : HalfI L R76 a mid en b := half_of hF hbl hR77.1 hR77.2
         have hHb := hH.bd
         have hHl := hH.seg.len
         refine WC.region ?_
         refine WL.x (X.move rfl) (by decide) ?_
         refine WL.x (X.move rfl) (by decide) ?_
         refine WL.cond (X.lss rfl rfl) (by decide) (fun h78 => ?_) (fun h78 => ?_)
         ·refine WL.x (X.move rfl) (by decide) ?_
          refine WL.yes rfl rfl ?_
          refine WL.x (X.move rfl) (by decide) ?_
          refine WL.yes rfl rfl ?_
          refine WL.x (X.move rfl) (by decide) ?_
          refine WL.yes rfl rfl ?_
          refine WL.cond (X.lss rfl rfl) (by decide) (fun h79 => ?_) (fun h79 => ?_)
          ·refine WL.x (X.pickT rfl rfl rfl) (by decide) ?_
           refine WL.nil ?_
           refine WK.nThen ?_
           refine WC.condT rfl ?_
           refine WC.region ?_
           refine WL.x (X.move rfl) (by decide) ?_
           refine WL.x (X.move rfl) (by decide) ?_
           refine WL.x (X.move rfl) (by decide) ?_
           refine WL.x (X.move rfl) (by decide) ?_
           refine WL.x (X.move rfl) (by decide) ?_
           refine WL.tM (T.callP (A := []) Try.call158 rfl (.refl _) (ih (b - mid) (by omega) _ (L := R76) (a := mid) (mm := en) (b := b) (by omega) (by omega) (by omega) (by omega) rfl (by omega) (by omega) (by omega) hH.s3 hH.s4)) (by decide) (fun m80 Es_ _ hle81 hR_ => ?_)
           obtain ⟨rfl, R82, rfl, hR83⟩ := hR_
           refine WL.nil ?_
           refine WK.end0 rfl (fun w' hw' => Ret.mut hw' ?_)
           exact ⟨rfl, _, rfl, whole_of hH hbl hR83.1 hR83.2⟩
          ·refine WL.x (X.pickT rfl rfl rfl) (by decide) ?_
           refine WL.nil ?_
           refine WK.nThen ?_
           refine WC.condF rfl ?_
           refine WC.skip ?_
           refine WK.end0 rfl (fun w' hw' => Ret.mut hw' ?_)
           exact ⟨rfl, _, rfl, whole_same hH hbl (by omega)⟩
         ·refine WL.x (X.move rfl) (by decide) ?_
          refine WL.no rfl rfl rfl (by decide) ?_
          refine WL.no rfl rfl rfl (by decide) ?_
          refine WL.no rfl rfl rfl (by decide) ?_
          refine WL.x (X.pickF rfl rfl rfl) (by decide) ?_
          refine WL.nil ?_
          refine WK.nThen ?_
          refine WC.condF rfl ?_
          refine WC.skip ?_
          refine WK.end0 rfl (fun w' hw' => Ret.mut hw' ?_)
          exact ⟨rfl, _, rfl, whole_same hH hbl (by omega)⟩
        ·refine WL.x (X.pickT rfl rfl rfl) (by decide) ?_
         refine WL.nil ?_
         refine WK.nThen ?_
         refine WC.condF rfl ?_
         refine WC.skip ?_
         refine WK.nThen ?_
         refine WC.seq ?_
         have hH : HalfI L L a mid en b := half_same hF (by omega)
         have hHb := hH.bd
         have hHl := hH.seg.len
         refine WC.region ?_
         refine WL.x (X.move rfl) (by decide) ?_
         refine WL.x (X.move rfl) (by decide) ?_
         refine WL.cond (X.lss rfl rfl) (by decide) (fun h84 => ?_) (fun h84 => ?_)
         ·refine WL.x (X.move rfl) (by decide) ?_
          refine WL.yes rfl rfl ?_
          refine WL.x (X.move rfl) (by decide) ?_
          refine WL.yes rfl rfl ?_
          refine WL.x (X.move rfl) (by decide) ?_
          refine WL.yes rfl rfl ?_
          refine WL.cond (X.lss rfl rfl) (by decide) (fun h85 => ?_) (fun h85 => ?_)
          ·refine WL.x (X.pickT rfl rfl rfl) (by decide) ?_
           refine WL.nil ?_
           refine WK.nThen ?_
           refine WC.condT rfl ?_
           refine WC.region ?_
           refine WL.x (X.move rfl) (by decide) ?_
           refine WL.x (X.move rfl) (by decide) ?_
           refine WL.x (X.move rfl) (by decide) ?_
           refine WL.x (X.move rfl) (by decide) ?_
           refine WL.x (X.move rfl) (by decide) ?_
           refine WL.tM (T.callP (A := []) Try.call158 rfl (.refl _) (ih (b - mid) (by omega) _ (L := L) (a := mid) (mm := en) (b := b) (by omega) (by omega) (by omega) (by omega) rfl (by omega) (by omega) (by omega) hH.s3 hH.s4)) (by decide) (fun m86 Es_ _ hle87 hR_ => ?_)
           obtain ⟨rfl, R88, rfl, hR89⟩ := hR_
           refine WL.nil ?_
           refine WK.end0 rfl (fun w' hw' => Ret.mut hw' ?_)
           exact ⟨rfl, _, rfl, whole_of hH hbl hR89.1 hR89.2⟩
          ·refine WL.x (X.pickT rfl rfl rfl) (by decide) ?_
           refine WL.nil ?_
           refine WK.nThen ?_
           refine WC.condF rfl ?_
           refine WC.skip ?_
           refine WK.end0 rfl (fun w' hw' => Ret.mut hw' ?_)
           exact ⟨rfl, _, rfl, whole_same hH hbl (by omega)⟩
         ·refine WL.x (X.move rfl) (by decide) ?_
          refine WL.no rfl rfl rfl (by decide) ?_
          refine WL.no rfl rfl rfl (by decide) ?_
          refine WL.no rfl rfl rfl (by decide) ?_
          refine WL.x (X.pickF rfl rfl rfl) (by decide) ?_
          refine WL.nil ?_
          refine WK.nThen ?_
          refine WC.condF rfl ?_
          refine WC.skip ?_
          refine WK.end0 rfl (fun w' hw' => Ret.mut hw' ?_)
          exact ⟨rfl, _, rfl, whole_same hH hbl (by omega)⟩
       ·refine WL.x (X.move rfl) (by decide) ?_
        refine WL.no rfl rfl rfl (by decide) ?_
        refine WL.no rfl rfl rfl (by decide) ?_
        refine WL.no rfl rfl rfl (by decide) ?_
        refine WL.x (X.pickF rfl rfl rfl) (by decide) ?_
        refine WL.nil ?_
        refine WK.nThen ?_
        refine WC.condF rfl ?_
        refine WC.skip ?_
        refine WK.nThen ?_
        refine WC.seq ?_
        have hH : HalfI L L a mid en b := half_same hF (by omega)
        have hHb := hH.bd
        have hHl := hH.seg.len
        refine WC.region ?_
        refine WL.x (X.move rfl) (by decide) ?_
        refine WL.x (X.move rfl) (by decide) ?_
        refine WL.cond (X.lss rfl rfl) (by decide) (fun h90 => ?_) (fun h90 => ?_)
        ·refine WL.x (X.move rfl) (by decide) ?_
         refine WL.yes rfl rfl ?_
         refine WL.x (X.move rfl) (by decide) ?_
         refine WL.yes rfl rfl ?_
         refine WL.x (X.move rfl) (by decide) ?_
         refine WL.yes rfl rfl ?_
         refine WL.cond (X.lss rfl rfl) (by decide) (fun h91 => ?_) (fun h91 => ?_)
         ·refine WL.x (X.pickT rfl rfl rfl) (by decide) ?_
          refine WL.nil ?_
          refine WK.nThen ?_
          refine WC.condT rfl ?_
          refine WC.region ?_
          refine WL.x (X.move rfl) (by decide) ?_
          refine WL.x (X.move rfl) (by decide) ?_
          refine WL.x (X.move rfl) (by decide) ?_
          refine WL.x (X.move rfl) (by decide) ?_
          refine WL.x (X.move rfl) (by decide) ?_
          refine WL.tM (T.callP (A := []) Try.call158 rfl (.refl _) (ih (b - mid) (by omega) _ (L := L) (a := mid) (mm := en) (b := b) (by omega) (by omega) (by omega) (by omega) rfl (by omega) (by omega) (by omega) hH.s3 hH.s4)) (by decide) (fun m92 Es_ _ hle93 hR_ => ?_)
          obtain ⟨rfl, R94, rfl, hR95⟩ := hR_
          refine WL.nil ?_
          refine WK.end0 rfl (fun w' hw' => Ret.mut hw' ?_)
          exact ⟨rfl, _, rfl, whole_of hH hbl hR95.1 hR95.2⟩
         ·refine WL.x (X.pickT rfl rfl rfl) (by decide) ?_
          refine WL.nil ?_
          refine WK.nThen ?_
          refine WC.condF rfl ?_
          refine WC.skip ?_
          refine WK.end0 rfl (fun w' hw' => Ret.mut hw' ?_)
          exact ⟨rfl, _, rfl, whole_same hH hbl (by omega)⟩
        ·refine WL.x (X.move rfl) (by decide) ?_
         refine WL.no rfl rfl rfl (by decide) ?_
         refine WL.no rfl rfl rfl (by decide) ?_
         refine WL.no rfl rfl rfl (by decide) ?_
         refine WL.x (X.pickF rfl rfl rfl) (by decide) ?_
         refine WL.nil ?_
         refine WK.nThen ?_
         refine WC.condF rfl ?_
         refine WC.skip ?_
         refine WK.end0 rfl (fun w' hw' => Ret.mut hw' ?_)
         exact ⟨rfl, _, rfl, whole_same hH hbl (by omega)⟩

theorem sym158 (k : Nat) : SymM k := Nat.strongRecOn k fun n ih => sym158_step n ih

set_option maxHeartbeats 4000000 in
theorem stable154 (m : Mem) {v : Value} {L : List Val} (hL : L.length ≤ 1000) {n : Nat} {zn : Int} (hzn : zn = n) (hn : n = L.length) : Mut Try.prog 154 #[v, .int .i64 zn, .func (.func 138) #[] #[]] m [rowF v 62 L] (fun _ Es u => u = .tuple #[] ∧ ∃ R, Es = [rowF v 62 R] ∧ R.Perm L ∧ Srt R 0 n) := by
 subst hzn
 refine Mut.start Try.func154 rfl Try.ntmps154 rfl fun wld => ?_
 refine WC.seq ?_
 refine WC.region ?_
 refine WL.x (X.assign rfl) (by decide) ?_
 refine WL.nil ?_
 refine WK.nThen ?_
 refine WC.seq ?_
 refine WC.region ?_
 refine WL.x (X.move rfl) (by decide) ?_
 refine WL.x (X.assign rfl) (by decide) ?_
 refine WL.x (X.assign rfl) (by decide) ?_
 refine WL.nil ?_
 refine WK.nThen ?_
 refine WC.seq ?_
 refine WC.block ?_
 refine WC.loop (G := Nat × Nat × List Val) (fun (a, b, R) => n + 20 - b) (fun (a, b, R) => m) (fun (a, b, R) => [rowF (v) 62 (R)]) (fun (a, b, R) => [(0, v), (1, .int .i64 (↑n)), (2, .func (.func 138) #[] [].toArray), (6, .int .i64 (20)), (7, .int .i64 (↑a)), (8, .int .i64 (↑b))]) (fun (a, b, R) => b = a + 20 ∧ BlI L R n a) ((0, 20, L)) rfl (.refl _) (.cons rfl (.cons rfl (.cons rfl (.cons rfl (.cons rfl (.cons rfl .nil)))))) ?_ ?_
 ·exact ⟨rfl, bl_start _ _⟩
 ·rintro ⟨a, b, R⟩ hF1
  show WK _ _ m [rowF (v) 62 (R)] [(0, v), (1, .int .i64 (↑n)), (2, .func (.func 138) #[] [].toArray), (6, .int .i64 (20)), (7, .int .i64 (↑a)), (8, .int .i64 (↑b))] _
  replace hF1 : b = a + 20 ∧ BlI L R n a := hF1
  obtain ⟨hab, hB⟩ := hF1
  refine WK.good (fun hgood0 => ?_)
  have hBl := hB.seg.len
  have hBe := hB.le
  refine WC.seq ?_
  refine WC.seq ?_
  refine WC.region ?_
  refine WL.x (X.move rfl) (by decide) ?_
  refine WL.x (X.move rfl) (by decide) ?_
  refine WL.cond (X.leq rfl rfl) (by decide) (fun h2 => ?_) (fun h2 => ?_)
  ·refine WL.nil ?_
   refine WK.nThen ?_
   refine WC.condT rfl ?_
   refine WC.skip ?_
   refine WK.nThen ?_
   refine WC.block ?_
   refine WC.seq ?_
   refine WC.region ?_
   refine WL.x (X.move rfl) (by decide) ?_
   refine WL.x (X.move rfl) (by decide) ?_
   refine WL.x (X.move rfl) (by decide) ?_
   refine WL.x (X.move rfl) (by decide) ?_
   refine WL.tM (T.callP (A := []) Try.call157 rfl (.refl _) (insSort157 _ (L := R) (by omega) (a := a) (b := b) (by omega) (by omega) (by omega) (by omega))) (by decide) (fun m3 Es_ _ hle4 hR_ => ?_)
   obtain ⟨rfl, R5, rfl, hR6⟩ := hR_
   refine WL.nil ?_
   refine WK.nThen ?_
   refine WC.seq ?_
   refine WC.region ?_
   refine WL.x (X.move rfl) (by decide) ?_
   refine WL.x (X.assign rfl) (by decide) ?_
   refine WL.nil ?_
   refine WK.nThen ?_
   refine WC.region ?_
   refine WL.x (X.move rfl) (by decide) ?_
   refine WL.x (X.move rfl) (by decide) ?_
   refine WL.x (X.add rfl rfl (by omega) (by omega)) (by decide) ?_
   refine WL.x (X.assign rfl) (by decide) ?_
   refine WL.nil ?_
   refine WK.nBlock ?_
   refine WK.nThen ?_
   refine WK.back hgood0 hle4 ?_
   refine WK.next ((b, b + 20, R5)) rfl (.refl _) (.cons rfl (.cons rfl (.cons rfl (.cons rfl (.cons rfl (.cons rfl .nil)))))) ?_ ?_
   ·subst hab
    exact ⟨rfl, bl_step hB hn (by omega) hR6.1 hR6.2⟩
   ·(dsimp only; omega)
  ·refine WL.nil ?_
   refine WK.nThen ?_
   refine WC.condF rfl ?_
   refine WC.exit ?_
   refine WK.eThen ?_
   refine WK.eThen ?_
   refine WK.eHit ?_
   refine WK.nThen ?_
   refine WC.seq ?_
   refine WC.region ?_
   refine WL.x (X.move rfl) (by decide) ?_
   refine WL.x (X.move rfl) (by decide) ?_
   refine WL.x (X.move rfl) (by decide) ?_
   refine WL.x (X.move rfl) (by decide) ?_
   refine WL.tM (T.callP (A := []) Try.call157 rfl (.refl _) (insSort157 _ (L := R) (by omega) (a := a) (b := n) (by omega) (by omega) (by omega) (by omega))) (by decide) (fun m7 Es_ _ hle8 hR_ => ?_)
   obtain ⟨rfl, R9, rfl, hR10⟩ := hR_
   refine WL.nil ?_
   refine WK.nThen ?_
   refine WC.block ?_
   refine WC.loop (G := Nat × List Val) (fun (w, R) => n - w) (fun (w, R) => m7) (fun (w, R) => [rowF (v) 62 (R)]) (fun (w, R) => [(0, v), (1, .int .i64 (↑n)), (2, .func (.func 138) #[] [].toArray), (6, .int .i64 (↑w))]) (fun (w, R) => 0 < w ∧ Seg L R 0 n ∧ Chn R w n 0) ((20, R9)) rfl (.refl _) (.cons rfl (.cons rfl (.cons rfl (.cons rfl .nil)))) ?_ ?_
   ·obtain hbe_ := bl_end hB hn (by omega) hR10.1 hR10.2
    exact ⟨by omega, hbe_.1, hbe_.2⟩
   ·rintro ⟨w, R⟩ hF11
    show WK _ _ m7 [rowF (v) 62 (R)] [(0, v), (1, .int .i64 (↑n)), (2, .func (.func 138) #[] [].toArray), (6, .int .i64 (↑w))] _
    replace hF11 : 0 < w ∧ Seg L R 0 n ∧ Chn R w n 0 := hF11
    obtain ⟨hw, hS, hC⟩ := hF11
    refine WK.good (fun hgood1 => ?_)
    have hSl := hS.len
    refine WC.seq ?_
    refine WC.seq ?_
    refine WC.region ?_
    refine WL.x (X.move rfl) (by decide) ?_
    refine WL.x (X.move rfl) (by decide) ?_
    refine WL.cond (X.lss rfl rfl) (by decide) (fun h12 => ?_) (fun h12 => ?_)
    ·refine WL.nil ?_
     refine WK.nThen ?_
     refine WC.condT rfl ?_
     refine WC.skip ?_
     refine WK.nThen ?_
     refine WC.block ?_
     refine WC.seq ?_
     refine WC.region ?_
     refine WL.x (X.move rfl) (by decide) ?_
     refine WL.x (X.mul rfl rfl (by omega) (by omega)) (by decide) ?_
     refine WL.x (X.assign rfl) (by decide) ?_
     refine WL.x (X.assign rfl) (by decide) ?_
     refine WL.nil ?_
     obtain ⟨b0_, hb0_⟩ : ∃ qq__ : Nat, (2 * ↑w : Int) = (qq__ : Int) := ⟨(2 * ↑w : Int).toNat, (by omega)⟩
     rw [hb0_]
     refine WK.nThen ?_
     refine WC.seq ?_
     refine WC.block ?_
     refine WC.loop (G := Nat × Nat × List Val) (fun (a, b, R) => n + 2 * w - b) (fun (a, b, R) => m7) (fun (a, b, R) => [rowF (v) 62 (R)]) (fun (a, b, R) => [(0, v), (1, .int .i64 (↑n)), (2, .func (.func 138) #[] [].toArray), (6, .int .i64 (↑w)), (7, .int .i64 (↑a)), (8, .int .i64 (↑b))]) (fun (a, b, R) => b = a + 2 * w ∧ MeI L R n w a) ((0, b0_, R)) rfl (.refl _) (.cons rfl (.cons rfl (.cons rfl (.cons rfl (.cons rfl (.cons rfl .nil)))))) ?_ ?_
     ·exact ⟨by omega, me_start hS hC⟩
     ·rintro ⟨a, b, R⟩ hF13
      show WK _ _ m7 [rowF (v) 62 (R)] [(0, v), (1, .int .i64 (↑n)), (2, .func (.func 138) #[] [].toArray), (6, .int .i64 (↑w)), (7, .int .i64 (↑a)), (8, .int .i64 (↑b))] _
      replace hF13 : b = a + 2 * w ∧ MeI L R n w a := hF13
      obtain ⟨hab, hM⟩ := hF13
      refine WK.good (fun hgood2 => ?_)
      have hMl := hM.seg.len
      have hMe := hM.le
      refine WC.seq ?_
      refine WC.seq ?_
      refine WC.region ?_
      refine WL.x (X.move rfl) (by decide) ?_
      refine WL.x (X.move rfl) (by decide) ?_
      refine WL.cond (X.leq rfl rfl) (by decide) (fun h14 => ?_) (fun h14 => ?_)
      ·refine WL.nil ?_
       refine WK.nThen ?_
       refine WC.condT rfl ?_
       refine WC.skip ?_
       refine WK.nThen ?_
       refine WC.block ?_
       refine WC.seq ?_
       have htw := me_two hM hw (b := b) (by omega) (by omega) (by omega)
       refine WC.region ?_
       refine WL.x (X.move rfl) (by decide) ?_
       refine WL.x (X.move rfl) (by decide) ?_
       refine WL.x (X.move rfl) (by decide) ?_
       refine WL.x (X.move rfl) (by decide) ?_
       refine WL.x (X.add rfl rfl (by omega) (by omega)) (by decide) ?_
       refine WL.x (X.move rfl) (by decide) ?_
       refine WL.x (X.move rfl) (by decide) ?_
       refine WL.tM (T.callP (A := []) Try.call158 rfl (.refl _) (sym158 (b - a) _ (L := R) (a := a) (mm := (a + w)) (b := b) (by omega) (by omega) (by omega) (by omega) rfl (by omega) (by omega) (by omega) htw.1 htw.2)) (by decide) (fun m15 Es_ _ hle16 hR_ => ?_)
       obtain ⟨rfl, R17, rfl, hR18⟩ := hR_
       refine WL.nil ?_
       refine WK.nThen ?_
       refine WC.seq ?_
       refine WC.region ?_
       refine WL.x (X.move rfl) (by decide) ?_
       refine WL.x (X.assign rfl) (by decide) ?_
       refine WL.nil ?_
       refine WK.nThen ?_
       refine WC.region ?_
       refine WL.x (X.move rfl) (by decide) ?_
       refine WL.x (X.move rfl) (by decide) ?_
       refine WL.x (X.mul rfl rfl (by omega) (by omega)) (by decide) ?_
       refine WL.x (X.add rfl rfl (by omega) (by omega)) (by decide) ?_
       refine WL.x (X.assign rfl) (by decide) ?_
       refine WL.nil ?_
       obtain ⟨b1_, hb1_⟩ : ∃ qq__ : Nat, (↑b + (2 * ↑w) : Int) = (qq__ : Int) := ⟨(↑b + (2 * ↑w) : Int).toNat, (by omega)⟩
       rw [hb1_]
       refine WK.nBlock ?_
       refine WK.nThen ?_
       refine WK.back hgood2 hle16 ?_
       refine WK.next ((b, b1_, R17)) rfl (.refl _) (.cons rfl (.cons rfl (.cons rfl (.cons rfl (.cons rfl (.cons rfl .nil)))))) ?_ ?_
       ·subst hab
        exact ⟨by omega, me_step hM hn hw (by omega) hR18.1 hR18.2⟩
       ·(dsimp only; omega)
      ·refine WL.nil ?_
       refine WK.nThen ?_
       refine WC.condF rfl ?_
       refine WC.exit ?_
       refine WK.eThen ?_
       refine WK.eThen ?_
       refine WK.eHit ?_
       refine WK.nThen ?_
       refine WC.seq ?_
       refine WC.seq ?_
       refine WC.region ?_
       refine WL.x (X.move rfl) (by decide) ?_
       refine WL.x (X.move rfl) (by decide) ?_
       refine WL.x (X.add rfl rfl (by omega) (by omega)) (by decide) ?_
       refine WL.x (X.assign rfl) (by decide) ?_
       refine WL.nil ?_
       obtain ⟨mm_, hmm_⟩ : ∃ qq__ : Nat, (↑a + ↑w : Int) = (qq__ : Int) := ⟨(↑a + ↑w : Int).toNat, (by omega)⟩
       rw [hmm_]
       refine WK.nThen ?_
       refine WC.seq ?_
       refine WC.region ?_
       refine WL.x (X.move rfl) (by decide) ?_
       refine WL.x (X.move rfl) (by decide) ?_
       refine WL.cond (X.lss rfl rfl) (by decide) (fun h19 => ?_) (fun h19 => ?_)
       ·refine WL.nil ?_
        refine WK.nThen ?_
        refine WC.condT rfl ?_
        have htw := me_two hM hw (b := n) (by omega) (by omega) (by omega)
        have hmm2_ : a + w = mm_ := (by omega)
        rw [hmm2_] at htw
        refine WC.region ?_
        refine WL.x (X.move rfl) (by decide) ?_
        refine WL.x (X.move rfl) (by decide) ?_
        refine WL.x (X.move rfl) (by decide) ?_
        refine WL.x (X.move rfl) (by decide) ?_
        refine WL.x (X.move rfl) (by decide) ?_
        refine WL.tM (T.callP (A := []) Try.call158 rfl (.refl _) (sym158 (n - a) _ (L := R) (a := a) (mm := mm_) (b := n) (by omega) (by omega) (by omega) (by omega) rfl (by omega) (by omega) (by omega) htw.1 htw.2)) (by decide) (fun m20 Es_ _ hle21 hR_ => ?_)
        obtain ⟨rfl, R22, rfl, hR23⟩ := hR_
        refine WL.nil ?_
        refine WK.nThen ?_
        have hme_ := me_end hM hn (by omega) hR23.1 hR23.2
        refine WC.region ?_
        refine WL.x (X.move rfl) (by decide) ?_
        refine WL.x (X.mul rfl rfl (by omega) (by omega)) (by decide) ?_
        refine WL.x (X.assign rfl) (by decide) ?_
        refine WL.nil ?_
        refine WK.nBlock ?_
        refine WK.nThen ?_
        refine WK.back hgood1 hle21 ?_
        refine WK.next ((w * 2, R22)) rfl (.refl _) (.cons rfl (.cons rfl (.cons rfl (.cons rfl .nil)))) ?_ ?_
        ·exact ⟨by omega, hme_.1, hme_.2⟩
        ·(dsimp only; omega)
       ·refine WL.nil ?_
        refine WK.nThen ?_
        refine WC.condF rfl ?_
        refine WC.skip ?_
        refine WK.nThen ?_
        have hme_ := me_end hM hn (by omega) (.refl _ _ _) (me_rest hM (by omega))
        refine WC.region ?_
        refine WL.x (X.move rfl) (by decide) ?_
        refine WL.x (X.mul rfl rfl (by omega) (by omega)) (by decide) ?_
        refine WL.x (X.assign rfl) (by decide) ?_
        refine WL.nil ?_
        refine WK.nBlock ?_
        refine WK.nThen ?_
        refine WK.next ((w * 2, R)) rfl (.refl _) (.cons rfl (.cons rfl (.cons rfl (.cons rfl .nil)))) ?_ ?_
        ·exact ⟨by omega, hme_.1, hme_.2⟩
        ·(dsimp only; omega)
    ·refine WL.nil ?_
     refine WK.nThen ?_
     refine WC.condF rfl ?_
     refine WC.exit ?_
     refine WK.eThen ?_
     refine WK.eThen ?_
     refine WK.eHit ?_
     refine WK.end0 rfl (fun w' hw' => Ret.mut hw' ?_)
     exact ⟨rfl, R, rfl, hS.perm, chn_done hC (by omega)⟩

theorem sort137 (m : Mem) {v : Value} {L : List Val} (hL : L.length ≤ 1000) : Mut Try.prog 137 #[v, .func (.func 138) #[] #[]] m [rowF v 62 L] (fun _ Es u => u = .tuple #[] ∧ ∃ R, Es = [rowF v 62 R] ∧ R.Perm L ∧ Srt R 0 L.length) := by
 refine Mut.start Try.func137 rfl Try.ntmps137 rfl fun wld => ?_
 refine WC.region ?_
 refine WL.x (X.move rfl) (by decide) ?_
 refine WL.x (X.move rfl) (by decide) ?_
 refine WL.x (X.lenF (k := 0) Try.runUnderlying22 rfl rfl) (by decide) ?_
 refine WL.x (X.move rfl) (by decide) ?_
 refine WL.tM (T.callP (A := []) Try.call154 rfl (.refl _) (stable154 _ (L := L) (by omega) (n := L.length) (by omega) rfl)) (by decide) (fun m1 Es_ _ hle2 hR_ => ?_)
 obtain ⟨rfl, R3, rfl, hR4⟩ := hR_
 refine WL.nil ?_
 refine WK.end0 rfl (fun w' hw' => Ret.mut hw' ?_)
 exact ⟨rfl, _, rfl, hR4⟩

end Go.Proofs.C8
