import Derived.Test.YtooomcigmleneaaGreatKxW
import Derived.Test.YtooomcigmleneaaGreatT10W4
import Derived.Test.YtooomcigmleneaaGreatT10Seg
/- Top: walks, sixth part, by program. -/
namespace Go.Proofs.T10
open Go Go.Kx
set_option linter.unusedSimpArgs false
set_option linter.unusedVariables false

def CmpOk (fc : Nat) (cf : Span → Span → Int) : Prop := Enters Tryz.prog fc ∧ (∀ (m : Mem) (a b : Span), Exact Tryz.prog fc #[.agg [.int .i64 a.Lo, .int .i64 a.Hi].toArray, .agg [.int .i64 b.Lo, .int .i64 b.Hi].toArray] m (.int .i64 (cf a b))) ∧ (∀ a b : Span, (-1000000000 ≤ a.Lo ∧ a.Lo ≤ 1000000000) → (-1000000000 ≤ b.Lo ∧ b.Lo ≤ 1000000000) → (cf a b < 0 ↔ a.Lo < b.Lo))
theorem CmpOk.cl {fc : Nat} {cf : Span → Span → Int} (h : CmpOk fc cf) {R : List Span} (hB : bdS R) {i j : Nat} : cf (gt R i) (gt R j) < 0 ↔ (gt R i).Lo < (gt R j).Lo := h.2.2 _ _ (hB i) (hB j)

theorem cmp149 (m : Mem) (ca : List Value) (a : Span) (ha : Enc.rd m ca a) (cb : List Value) (b : Span) (hb : Enc.rd m cb b)   : Exact Tryz.prog 149 #[.agg ca.toArray, .agg cb.toArray] m (.int .i64 (cmpS a b)) := by
 obtain rfl := ha
 obtain rfl := hb
 refine Exact.start Tryz.func149 rfl Tryz.ntmps149 rfl fun wld => ?_
 refine WC.r ?_
 refine WL.tn (T.boxB rfl rfl) (by decide) fun b1 => ?_
 refine WL.tn (T.boxB rfl rfl) (by decide) fun b2 => ?_
 refine WL.ag rfl ?_
 refine WL.z ?_
 refine WC.r ?_
 refine WL.y (X.field Tryz.runUnderlying23 rfl Tryz.sizeOf3 rfl) ?_
 refine WL.y (X.loadB (k := 1) Tryz.isAgg3 rfl rfl rfl) ?_
 refine WL.y (X.field Tryz.runUnderlying23 rfl Tryz.sizeOf3 rfl) ?_
 refine WL.y (X.loadB (k := 0) Tryz.isAgg3 rfl rfl rfl) ?_
 refine WL.y (X.subW rfl rfl) ?_
 refine WL.ag rfl ?_
 refine WL.z ?_
 refine WC.ret ?_
 refine WK.ret1 rfl rfl (fun w' hw' => Ret.exact hw' ?_)
 exact int_eq rfl

set_option maxHeartbeats 1000000 in
theorem ins264 (m : Mem) {v : Value} {L : List Span} (hL : L.length ≤ 1000000) (hB : bdS L) {fc : Nat} {cf : Span → Span → Int} (hC : CmpOk fc cf) {a b : Nat} {za zb : Int} (hza : za = a) (hzb : zb = b) (hab : a ≤ b) (hbl : b ≤ L.length) : Mut Tryz.prog 264 #[v, .int .i64 za, .int .i64 zb, .func (.func fc) #[] #[]] m [rowF v 23 L] (fun _ Es u => u = .tuple #[] ∧ ∃ R, Es = [rowF v 23 R] ∧ Seg L R a b ∧ Srt Span.Lo R a b) := by
 subst hza
 subst hzb
 refine Mut.start Tryz.func264 rfl Tryz.ntmps264 rfl fun wld => ?_
 refine WC.r ?_
 refine WL.mv rfl ?_
 refine WL.y (X.add rfl rfl (by omega) (by omega)) ?_
 refine WL.ag rfl ?_
 refine WL.z ?_
 refine WC.block ?_
 refine WC.loop (G := Nat × List Span) (fun (i, R) => b - i) (fun (i, R) => m) (fun (i, R) => [rowF (v) 23 (R)]) (fun (i, R) => [(0, v), (1, .int .i64 (↑a)), (2, .int .i64 (↑b)), (3, .func (.func fc) #[] #[]), (8, .int .i64 (↑i))]) (fun (i, R) => a + 1 ≤ i ∧ Seg L R a b ∧ Srt Span.Lo R a i) ((a + 1, L)) rfl (.refl _) (.cons rfl (.cons rfl (.cons rfl (.cons rfl (.cons rfl .nil))))) ?_ ?_
 ·exact ⟨Nat.le_refl _, .refl _ _ _, .one _ _ _⟩
 ·rintro ⟨i, R⟩ hF1
  show WK _ _ m [rowF (v) 23 (R)] [(0, v), (1, .int .i64 (↑a)), (2, .int .i64 (↑b)), (3, .func (.func fc) #[] #[]), (8, .int .i64 (↑i))] _
  replace hF1 : a + 1 ≤ i ∧ Seg L R a b ∧ Srt Span.Lo R a i := hF1
  obtain ⟨hi, hS, hT⟩ := hF1
  have hSl := hS.len
  have hBR := bdS_perm hB hS.perm
  refine WC.seq ?_
  refine WC.r ?_
  refine WL.mv rfl ?_
  refine WL.mv rfl ?_
  refine WL.cond (X.lss rfl rfl) (by decide) (fun h2 => ?_) (fun h2 => ?_)
  ·refine WL.z ?_
   refine WC.condT rfl ?_
   refine WC.skip ?_
   refine WK.nThen ?_
   refine WC.seq ?_
   refine WC.block ?_
   refine WC.r ?_
   refine WL.mv rfl ?_
   refine WL.ag rfl ?_
   refine WL.z ?_
   refine WC.block ?_
   refine WC.loop (G := Nat × List Span) (fun (j, R) => j) (fun (j, R) => m) (fun (j, R) => [rowF (v) 23 (R)]) (fun (j, R) => [(0, v), (1, .int .i64 (↑a)), (2, .int .i64 (↑b)), (3, .func (.func fc) #[] #[]), (8, .int .i64 (↑i)), (9, .int .i64 (↑j))]) (fun (j, R) => InsS Span.Lo L R a b i j) ((i, R)) rfl (.refl _) (.cons rfl (.cons rfl (.cons rfl (.cons rfl (.cons rfl (.cons rfl .nil)))))) ?_ ?_
   ·exact insS_start hS hT (by omega)
   ·rintro ⟨j, R⟩ hF3
    show WK _ _ m [rowF (v) 23 (R)] [(0, v), (1, .int .i64 (↑a)), (2, .int .i64 (↑b)), (3, .func (.func fc) #[] #[]), (8, .int .i64 (↑i)), (9, .int .i64 (↑j))] _
    replace hF3 : InsS Span.Lo L R a b i j := hF3
    have hI := hF3
    have hIl := hI.seg.len
    have hIb := hI.bd
    have hBR := bdS_perm hB hI.seg.perm
    refine WC.seq ?_
    refine WC.seq ?_
    refine WC.draw (π := (.cons 0 (.cons 1 (.cons 2 (.cons 3 (.cons 4 (.cons 5 (.cons 6 (.cons 7 (.cons 8 (.cons 9 (.cons 10 (.cons 11 (.cons 12 (.cons 13 (.cons 14 (.cons 15 (.cons 16 .done)))))))))))))))))) [] [] rfl (by kernel_rfl) ?_
    refine DW.y rfl rfl (X.move rfl) ?_
    refine DW.y rfl rfl (X.move rfl) ?_
    refine DW.cond rfl rfl (X.gtr rfl rfl) (by decide) (fun h4 => ?_) (fun h4 => ?_)
    ·refine DW.y rfl rfl (X.move rfl) ?_
     refine DW.y rfl rfl (X.move rfl) ?_
     refine DW.y rfl rfl (X.move rfl) ?_
     refine DW.y rfl rfl (X.move rfl) ?_
     refine DW.y rfl rfl (X.idxRowE (k := 0) j Tryz.runUnderlying28 Tryz.sizeOf23 rfl rfl rfl (by omega) (by first | omega | (simp; omega) | simp)) ?_
     refine DW.y rfl rfl (X.loadFs (k := 0) (i := j) (off := 0) (us := [.int .i64 (((gt R j)).Lo), .int .i64 (((gt R j)).Hi)]) Tryz.isAgg23 Tryz.sizeOf23 rfl rfl (by first | omega | (simp; omega) | simp) rfl rfl) ?_
     refine DW.y rfl rfl (X.move rfl) ?_
     refine DW.y rfl rfl (X.move rfl) ?_
     refine DW.y rfl rfl (X.sub rfl rfl (by omega) (by omega)) ?_
     refine DW.y rfl rfl (X.idxRowE (k := 0) (j - 1) Tryz.runUnderlying28 Tryz.sizeOf23 rfl rfl rfl (by omega) (by first | omega | (simp; omega) | simp)) ?_
     refine DW.y rfl rfl (X.loadFs (k := 0) (i := j - 1) (off := 0) (us := [.int .i64 (((gt R (j - 1))).Lo), .int .i64 (((gt R (j - 1))).Hi)]) Tryz.isAgg23 Tryz.sizeOf23 rfl rfl (by first | omega | (simp; omega) | simp) rfl rfl) ?_
     refine DW.y rfl rfl (X.callc hC.1 rfl rfl (hC.2.1 _ (gt R j) (gt R (j - 1)))) ?_
     refine DW.cond rfl rfl (X.lss rfl rfl) (by decide) (fun h5 => ?_) (fun h5 => ?_)
     ·refine DW.y rfl rfl (X.pickT rfl rfl rfl) ?_
      refine DW.nil ?_
      refine WK.nThen ?_
      refine WC.condT rfl ?_
      refine WC.skip ?_
      refine WK.nThen ?_
      refine WC.seq ?_
      refine WC.block ?_
      refine WC.draw (π := (.cons 0 (.cons 1 (.cons 2 (.cons 3 (.cons 4 (.cons 5 (.cons 6 (.cons 7 (.cons 8 (.cons 9 (.cons 10 (.cons 11 (.cons 12 (.cons 13 (.cons 14 (.cons 15 (.cons 16 (.cons 17 .done))))))))))))))))))) [15, 17] [15, 17, 100004] rfl (by kernel_rfl) ?_
      refine DW.y rfl rfl (X.move rfl) ?_
      refine DW.y rfl rfl (X.move rfl) ?_
      refine DW.y rfl rfl (X.move rfl) ?_
      refine DW.y rfl rfl (X.move rfl) ?_
      refine DW.xf rfl rfl rfl (fun _ _ hle_ => (X.sub rfl rfl (by omega) (by omega))) (by decide) ?_
      refine DW.y rfl rfl (X.move rfl) ?_
      refine DW.y rfl rfl (X.move rfl) ?_
      refine DW.y rfl rfl (X.sub rfl rfl (by omega) (by omega)) ?_
      refine DW.y rfl rfl (X.idxRowE (k := 0) (j - 1) Tryz.runUnderlying28 Tryz.sizeOf23 rfl rfl rfl (by omega) (by first | omega | (simp; omega) | simp)) ?_
      refine DW.y rfl rfl (X.loadFs (k := 0) (i := j - 1) (off := 0) (us := [.int .i64 (((gt R (j - 1))).Lo), .int .i64 (((gt R (j - 1))).Hi)]) Tryz.isAgg23 Tryz.sizeOf23 rfl rfl (by first | omega | (simp; omega) | simp) rfl rfl) ?_
      refine DW.y rfl rfl (X.move rfl) ?_
      refine DW.y rfl rfl (X.move rfl) ?_
      refine DW.y rfl rfl (X.idxRowE (k := 0) j Tryz.runUnderlying28 Tryz.sizeOf23 rfl rfl rfl (by omega) (by first | omega | (simp; omega) | simp)) ?_
      refine DW.y rfl rfl (X.loadFs (k := 0) (i := j) (off := 0) (us := [.int .i64 (((gt R j)).Lo), .int .i64 (((gt R j)).Hi)]) Tryz.isAgg23 Tryz.sizeOf23 rfl rfl (by first | omega | (simp; omega) | simp) rfl rfl) ?_
      refine DW.y rfl rfl (X.idxRowE (k := 0) j Tryz.runUnderlying28 Tryz.sizeOf23 rfl rfl rfl (by omega) (by first | omega | (simp; omega) | simp)) ?_
      refine DW.ts rfl rfl rfl rfl (T.storeFp (k := 0) (i := j) (off := 0) (us := [.int .i64 (((gt R (j - 1))).Lo), .int .i64 (((gt R (j - 1))).Hi)]) (gt R (j - 1)) Tryz.sizeOf23 rfl rfl rfl rfl (Nat.zero_lt_succ _) rfl (by first | omega | (simp; omega) | simp) rfl rfl (one_cons rfl (one_cons rfl one_nil))) ?_
      refine DW.y rfl rfl (X.idxRowE (k := 0) (j - 1) Tryz.runUnderlying28 Tryz.sizeOf23 rfl rfl rfl (by omega) (by first | omega | (simp; omega) | simp)) ?_
      refine DW.ts rfl rfl rfl rfl (T.storeFp (k := 0) (i := j - 1) (off := 0) (us := [.int .i64 (((gt R j)).Lo), .int .i64 (((gt R j)).Hi)]) (gt R j) Tryz.sizeOf23 rfl rfl rfl rfl (Nat.zero_lt_succ _) rfl (by first | omega | (simp; omega) | simp) rfl rfl (one_cons rfl (one_cons rfl one_nil))) ?_
      refine DW.nil ?_
      refine WK.nBlock ?_
      refine WK.nThen ?_
      refine WC.region ?_
      refine WL.mv rfl ?_
      refine WL.y (X.sub rfl rfl (by omega) (by omega)) ?_
      refine WL.ag rfl ?_
      refine WL.z ?_
      obtain ⟨j1_, hj1_⟩ : ∃ qq__ : Nat, (↑j - 1 : Int) = (qq__ : Int) := ⟨(↑j - 1 : Int).toNat, (by omega)⟩
      rw [hj1_]
      obtain rfl : j1_ = j - 1 := (by omega)
      refine WK.next ((j - 1, (R.set j (gt R (j - 1))).set (j - 1) (gt R j))) rfl (.refl _) (.cons rfl (.cons rfl (.cons rfl (.cons rfl (.cons rfl (.cons rfl .nil)))))) ?_ ?_
      ·exact insS_step hI hbl (by omega) ((hC.cl hBR).1 (by assumption))
      ·(dsimp only; omega)
     ·refine DW.y rfl rfl (X.pickT rfl rfl rfl) ?_
      refine DW.nil ?_
      refine WK.nThen ?_
      refine WC.condF rfl ?_
      refine WC.exit ?_
      refine WK.eThen ?_
      refine WK.eThen ?_
      refine WK.eHit ?_
      refine WK.nBlock ?_
      refine WK.nThen ?_
      have hfin := insS_end hI (fun h_ hc_ => by first | omega | (have h1_ := (hC.cl hBR).2 hc_; contradiction))
      refine WC.region ?_
      refine WL.mv rfl ?_
      refine WL.y (X.add rfl rfl (by omega) (by omega)) ?_
      refine WL.ag rfl ?_
      refine WL.z ?_
      refine WK.next ((i + 1, R)) rfl (.refl _) (.cons rfl (.cons rfl (.cons rfl (.cons rfl (.cons rfl .nil))))) ?_ ?_
      ·exact ⟨by omega, hfin.1, hfin.2⟩
      ·(dsimp only; omega)
    ·refine DW.y rfl rfl (X.move rfl) ?_
     refine DW.no rfl rfl (by decide) ?_
     refine DW.no rfl rfl (by decide) ?_
     refine DW.no rfl rfl (by decide) ?_
     refine DW.no rfl rfl (by decide) ?_
     refine DW.no rfl rfl (by decide) ?_
     refine DW.no rfl rfl (by decide) ?_
     refine DW.no rfl rfl (by decide) ?_
     refine DW.no rfl rfl (by decide) ?_
     refine DW.no rfl rfl (by decide) ?_
     refine DW.no rfl rfl (by decide) ?_
     refine DW.no rfl rfl (by decide) ?_
     refine DW.no rfl rfl (by decide) ?_
     refine DW.y rfl rfl (X.pickF rfl rfl rfl) ?_
     refine DW.nil ?_
     refine WK.nThen ?_
     refine WC.condF rfl ?_
     refine WC.exit ?_
     refine WK.eThen ?_
     refine WK.eThen ?_
     refine WK.eHit ?_
     refine WK.nBlock ?_
     refine WK.nThen ?_
     have hfin := insS_end hI (fun h_ hc_ => by first | omega | (have h1_ := (hC.cl hBR).2 hc_; contradiction))
     refine WC.region ?_
     refine WL.mv rfl ?_
     refine WL.y (X.add rfl rfl (by omega) (by omega)) ?_
     refine WL.ag rfl ?_
     refine WL.z ?_
     refine WK.next ((i + 1, R)) rfl (.refl _) (.cons rfl (.cons rfl (.cons rfl (.cons rfl (.cons rfl .nil))))) ?_ ?_
     ·exact ⟨by omega, hfin.1, hfin.2⟩
     ·(dsimp only; omega)
  ·refine WL.z ?_
   refine WC.condF rfl ?_
   refine WC.exit ?_
   refine WK.eThen ?_
   refine WK.eThen ?_
   refine WK.eHit ?_
   refine WK.end0 rfl (fun w' hw' => Ret.mut hw' ?_)
   exact ⟨rfl, _, rfl, hS, fun p q h1_ h2_ h3_ => hT p q h1_ h2_ (by omega)⟩

set_option maxHeartbeats 1000000 in
theorem reverse268 (m : Mem) {v : Value} {L : List Span} (hL : L.length ≤ 1000000) (hB : bdS L) {fc : Nat} {cf : Span → Span → Int} (hC : CmpOk fc cf) {a b : Nat} {za zb : Int} (hza : za = a) (hzb : zb = b) (hab : a ≤ b) (hbl : b ≤ L.length) : Mut Tryz.prog 268 #[v, .int .i64 za, .int .i64 zb, .func (.func fc) #[] #[]] m [rowF v 23 L] (fun _ Es u => u = .tuple #[] ∧ ∃ R, Es = [rowF v 23 R] ∧ Seg L R a b) := by
 subst hza
 subst hzb
 refine Mut.start Tryz.func268 rfl Tryz.ntmps268 rfl fun wld => ?_
 refine WC.r ?_
 refine WL.mv rfl ?_
 refine WL.ag rfl ?_
 refine WL.z ?_
 refine WC.r ?_
 refine WL.mv rfl ?_
 refine WL.y (X.sub rfl rfl (by omega) (by omega)) ?_
 refine WL.ag rfl ?_
 refine WL.z ?_
 refine WC.block ?_
 refine WC.loop (G := Int × Int × List Span) (fun (i, j, R) => (j - i).toNat) (fun (i, j, R) => m) (fun (i, j, R) => [rowF (v) 23 (R)]) (fun (i, j, R) => [(0, v), (8, .int .i64 (i)), (9, .int .i64 (j))]) (fun (i, j, R) => (a : Int) ≤ i ∧ j < b ∧ Seg L R a b) ((↑a, ↑b - 1, L)) rfl (.refl _) (.cons rfl (.cons rfl (.cons rfl .nil))) ?_ ?_
 ·exact ⟨by omega, by omega, .refl _ _ _⟩
 ·rintro ⟨i, j, R⟩ hF1
  show WK _ _ m [rowF (v) 23 (R)] [(0, v), (8, .int .i64 (i)), (9, .int .i64 (j))] _
  replace hF1 : (a : Int) ≤ i ∧ j < b ∧ Seg L R a b := hF1
  obtain ⟨hi, hj, hS⟩ := hF1
  have hSl := hS.len
  refine WC.seq ?_
  refine WC.r ?_
  refine WL.mv rfl ?_
  refine WL.mv rfl ?_
  refine WL.cond (X.lss rfl rfl) (by decide) (fun h2 => ?_) (fun h2 => ?_)
  ·refine WL.z ?_
   refine WC.condT rfl ?_
   refine WC.skip ?_
   refine WK.nThen ?_
   refine WC.block ?_
   refine WC.seq ?_
   refine WC.draw (π := (.cons 0 (.cons 1 (.cons 2 (.cons 3 (.cons 4 (.cons 5 (.cons 6 (.cons 7 (.cons 8 (.cons 9 (.cons 10 (.cons 11 (.cons 12 (.cons 13 (.cons 14 (.cons 15 .done))))))))))))))))) [13, 15] [13, 15] rfl (by kernel_rfl) ?_
   refine DW.y rfl rfl (X.move rfl) ?_
   refine DW.y rfl rfl (X.move rfl) ?_
   refine DW.y rfl rfl (X.move rfl) ?_
   refine DW.y rfl rfl (X.move rfl) ?_
   refine DW.y rfl rfl (X.move rfl) ?_
   refine DW.y rfl rfl (X.move rfl) ?_
   refine DW.y rfl rfl (X.idxRow (k := 0) Tryz.runUnderlying28 Tryz.sizeOf23 rfl rfl rfl (by first | omega | (simp; omega) | simp) (by first | omega | (simp; omega) | simp)) ?_
   refine DW.y rfl rfl (X.loadFs (k := 0) (i := (j : Int).toNat) (off := 0) (us := [.int .i64 (((gt R ((j : Int).toNat))).Lo), .int .i64 (((gt R ((j : Int).toNat))).Hi)]) Tryz.isAgg23 Tryz.sizeOf23 rfl rfl (by first | omega | (simp; omega) | simp) rfl rfl) ?_
   refine DW.y rfl rfl (X.move rfl) ?_
   refine DW.y rfl rfl (X.move rfl) ?_
   refine DW.y rfl rfl (X.idxRow (k := 0) Tryz.runUnderlying28 Tryz.sizeOf23 rfl rfl rfl (by first | omega | (simp; omega) | simp) (by first | omega | (simp; omega) | simp)) ?_
   refine DW.y rfl rfl (X.loadFs (k := 0) (i := (i : Int).toNat) (off := 0) (us := [.int .i64 (((gt R ((i : Int).toNat))).Lo), .int .i64 (((gt R ((i : Int).toNat))).Hi)]) Tryz.isAgg23 Tryz.sizeOf23 rfl rfl (by first | omega | (simp; omega) | simp) rfl rfl) ?_
   refine DW.y rfl rfl (X.idxRow (k := 0) Tryz.runUnderlying28 Tryz.sizeOf23 rfl rfl rfl (by first | omega | (simp; omega) | simp) (by first | omega | (simp; omega) | simp)) ?_
   refine DW.ts rfl rfl rfl rfl (T.storeFp (k := 0) (i := (i : Int).toNat) (off := 0) (us := [.int .i64 (((gt R ((j : Int).toNat))).Lo), .int .i64 (((gt R ((j : Int).toNat))).Hi)]) (gt R ((j : Int).toNat)) Tryz.sizeOf23 rfl rfl rfl rfl (Nat.zero_lt_succ _) rfl (by first | omega | (simp; omega) | simp) rfl rfl (one_cons rfl (one_cons rfl one_nil))) ?_
   refine DW.y rfl rfl (X.idxRow (k := 0) Tryz.runUnderlying28 Tryz.sizeOf23 rfl rfl rfl (by first | omega | (simp; omega) | simp) (by first | omega | (simp; omega) | simp)) ?_
   refine DW.ts rfl rfl rfl rfl (T.storeFp (k := 0) (i := (j : Int).toNat) (off := 0) (us := [.int .i64 (((gt R ((i : Int).toNat))).Lo), .int .i64 (((gt R ((i : Int).toNat))).Hi)]) (gt R ((i : Int).toNat)) Tryz.sizeOf23 rfl rfl rfl rfl (Nat.zero_lt_succ _) rfl (by first | omega | (simp; omega) | simp) rfl rfl (one_cons rfl (one_cons rfl one_nil))) ?_
   refine DW.nil ?_
   refine WK.nThen ?_
   refine WC.r ?_
   refine WL.mv rfl ?_
   refine WL.y (X.add rfl rfl (by omega) (by omega)) ?_
   refine WL.ag rfl ?_
   refine WL.z ?_
   refine WC.region ?_
   refine WL.mv rfl ?_
   refine WL.y (X.sub rfl rfl (by omega) (by omega)) ?_
   refine WL.ag rfl ?_
   refine WL.nil ?_
   refine WK.nBlock ?_
   refine WK.nThen ?_
   refine WK.next ((i + 1, j - 1, (R.set ((i : Int).toNat) (gt R ((j : Int).toNat))).set ((j : Int).toNat) (gt R ((i : Int).toNat)))) rfl (.refl _) (.cons rfl (.cons rfl (.cons rfl .nil))) ?_ ?_
   ·exact ⟨by omega, by omega, hS.tsw (by omega) (by omega) (by omega)⟩
   ·(dsimp only; omega)
  ·refine WL.z ?_
   refine WC.condF rfl ?_
   refine WC.exit ?_
   refine WK.eThen ?_
   refine WK.eThen ?_
   refine WK.eHit ?_
   refine WK.end0 rfl (fun w' hw' => Ret.mut hw' ?_)
   exact ⟨rfl, _, rfl, hS⟩

set_option maxHeartbeats 2000000 in
theorem sift305 (m : Mem) {v : Value} {L : List Span} (hL : L.length ≤ 1000000) (hB : bdS L) {fc : Nat} {cf : Span → Span → Int} (hC : CmpOk fc cf) {lo hi fst : Nat} {zlo zhi zfst : Int} (hzlo : zlo = lo) (hzhi : zhi = hi) (hzfst : zfst = fst) (hlo : lo ≤ 1000000) (hbl : fst + hi ≤ L.length) (hH : Hp Span.Lo L fst (lo + 1) hi) : Mut Tryz.prog 305 #[v, .int .i64 zlo, .int .i64 zhi, .int .i64 zfst, .func (.func fc) #[] #[]] m [rowF v 23 L] (fun _ Es u => u = .tuple #[] ∧ ∃ R, Es = [rowF v 23 R] ∧ Seg L R fst (fst + hi) ∧ Hp Span.Lo R fst lo hi) := by
 subst hzlo
 subst hzhi
 subst hzfst
 refine Mut.start Tryz.func305 rfl Tryz.ntmps305 rfl fun wld => ?_
 refine WC.r ?_
 refine WL.mv rfl ?_
 refine WL.ag rfl ?_
 refine WL.z ?_
 refine WC.block ?_
 refine WC.loop (G := Nat × List Span) (fun (r, R) => hi - r) (fun (r, R) => m) (fun (r, R) => [rowF (v) 23 (R)]) (fun (r, R) => [(0, v), (2, .int .i64 (↑hi)), (3, .int .i64 (↑fst)), (4, .func (.func fc) #[] #[]), (10, .int .i64 (↑r))]) (fun (r, R) => r ≤ 1000000 ∧ Seg L R fst (fst + hi) ∧ HpX Span.Lo R fst lo hi r) ((lo, L)) rfl (.refl _) (.cons rfl (.cons rfl (.cons rfl (.cons rfl (.cons rfl .nil))))) ?_ ?_
 ·exact ⟨by omega, .refl _ _ _, hpX_start hH⟩
 ·rintro ⟨r, R⟩ hF1
  show WK _ _ m [rowF (v) 23 (R)] [(0, v), (2, .int .i64 (↑hi)), (3, .int .i64 (↑fst)), (4, .func (.func fc) #[] #[]), (10, .int .i64 (↑r))] _
  replace hF1 : r ≤ 1000000 ∧ Seg L R fst (fst + hi) ∧ HpX Span.Lo R fst lo hi r := hF1
  obtain ⟨hr, hS, hX⟩ := hF1
  have hSl := hS.len
  have hBR := bdS_perm hB hS.perm
  refine WC.block ?_
  refine WC.r ?_
  refine WL.mv rfl ?_
  refine WL.y (X.mul rfl rfl (by omega) (by omega)) ?_
  refine WL.y (X.add rfl rfl (by omega) (by omega)) ?_
  refine WL.ag rfl ?_
  refine WL.z ?_
  refine WC.seq ?_
  refine WC.r ?_
  refine WL.mv rfl ?_
  refine WL.mv rfl ?_
  refine WL.cond (X.geq rfl rfl) (by decide) (fun h2 => ?_) (fun h2 => ?_)
  ·refine WL.z ?_
   refine WC.condT rfl ?_
   refine WC.exit ?_
   refine WK.eThen ?_
   refine WK.eMiss rfl ?_
   refine WK.eThen ?_
   refine WK.eHit ?_
   refine WK.end0 rfl (fun w' hw' => Ret.mut hw' ?_)
   refine ⟨rfl, _, rfl, hS, hpX_end hX (fun d_ hd1_ hd2_ => ?_)⟩
   first | omega | (have h0_ : (gt R (fst + (2 * r + 1))).Lo ≤ (gt R (fst + r)).Lo := Int.not_lt.1 (fun h_ => absurd ((hC.cl hBR (i := fst + r) (j := fst + (2 * r + 1))).2 h_) (by assumption)); rcases hd1_ with rfl | rfl <;> first | exact h0_ | omega | exact Int.le_trans (Int.not_lt.1 (fun h_ => absurd ((hC.cl hBR (i := fst + (2 * r + 1)) (j := fst + (2 * r + 1) + 1)).2 h_) (by assumption))) h0_) | (have h0_ : (gt R (fst + (2 * r + 1 + 1))).Lo ≤ (gt R (fst + r)).Lo := Int.not_lt.1 (fun h_ => absurd ((hC.cl hBR (i := fst + r) (j := fst + (2 * r + 1 + 1))).2 h_) (by assumption)); rcases hd1_ with rfl | rfl <;> first | exact h0_ | omega | exact Int.le_trans (Int.le_of_lt ((hC.cl hBR (i := fst + (2 * r + 1)) (j := fst + (2 * r + 1) + 1)).1 (by assumption))) h0_)
  ·refine WL.z ?_
   refine WC.condF rfl ?_
   refine WC.skip ?_
   refine WK.nThen ?_
   refine WC.seq ?_
   refine WC.seq ?_
   refine WC.draw (π := (.cons 0 (.cons 1 (.cons 2 (.cons 3 (.cons 4 (.cons 5 (.cons 6 (.cons 7 (.cons 8 (.cons 9 (.cons 10 (.cons 11 (.cons 12 (.cons 13 (.cons 14 (.cons 15 (.cons 16 (.cons 17 (.cons 18 (.cons 19 (.cons 20 (.cons 21 .done))))))))))))))))))))))) [] [] rfl (by kernel_rfl) ?_
   refine DW.y rfl rfl (X.move rfl) ?_
   refine DW.y rfl rfl (X.add rfl rfl (by omega) (by omega)) ?_
   refine DW.y rfl rfl (X.move rfl) ?_
   refine DW.cond rfl rfl (X.lss rfl rfl) (by decide) (fun h3 => ?_) (fun h3 => ?_)
   ·refine DW.y rfl rfl (X.move rfl) ?_
    refine DW.y rfl rfl (X.move rfl) ?_
    refine DW.y rfl rfl (X.move rfl) ?_
    refine DW.y rfl rfl (X.move rfl) ?_
    refine DW.y rfl rfl (X.move rfl) ?_
    refine DW.y rfl rfl (X.add rfl rfl (by omega) (by omega)) ?_
    refine DW.y rfl rfl (X.idxRowE (k := 0) (fst + ((2 * r) + 1)) Tryz.runUnderlying28 Tryz.sizeOf23 rfl rfl rfl (by omega) (by first | omega | (simp; omega) | simp)) ?_
    refine DW.y rfl rfl (X.loadFs (k := 0) (i := fst + ((2 * r) + 1)) (off := 0) (us := [.int .i64 (((gt R (fst + ((2 * r) + 1)))).Lo), .int .i64 (((gt R (fst + ((2 * r) + 1)))).Hi)]) Tryz.isAgg23 Tryz.sizeOf23 rfl rfl (by first | omega | (simp; omega) | simp) rfl rfl) ?_
    refine DW.y rfl rfl (X.move rfl) ?_
    refine DW.y rfl rfl (X.move rfl) ?_
    refine DW.y rfl rfl (X.move rfl) ?_
    refine DW.y rfl rfl (X.add rfl rfl (by omega) (by omega)) ?_
    refine DW.y rfl rfl (X.add rfl rfl (by omega) (by omega)) ?_
    refine DW.y rfl rfl (X.idxRowE (k := 0) ((fst + ((2 * r) + 1)) + 1) Tryz.runUnderlying28 Tryz.sizeOf23 rfl rfl rfl (by omega) (by first | omega | (simp; omega) | simp)) ?_
    refine DW.y rfl rfl (X.loadFs (k := 0) (i := (fst + ((2 * r) + 1)) + 1) (off := 0) (us := [.int .i64 (((gt R ((fst + ((2 * r) + 1)) + 1))).Lo), .int .i64 (((gt R ((fst + ((2 * r) + 1)) + 1))).Hi)]) Tryz.isAgg23 Tryz.sizeOf23 rfl rfl (by first | omega | (simp; omega) | simp) rfl rfl) ?_
    refine DW.y rfl rfl (X.callc hC.1 rfl rfl (hC.2.1 _ (gt R (fst + ((2 * r) + 1))) (gt R ((fst + ((2 * r) + 1)) + 1)))) ?_
    refine DW.cond rfl rfl (X.lss rfl rfl) (by decide) (fun h4 => ?_) (fun h4 => ?_)
    ·refine DW.y rfl rfl (X.pickT rfl rfl rfl) ?_
     refine DW.nil ?_
     refine WK.nThen ?_
     refine WC.condT rfl ?_
     refine WC.region ?_
     refine WL.mv rfl ?_
     refine WL.y (X.add rfl rfl (by omega) (by omega)) ?_
     refine WL.ag rfl ?_
     refine WL.z ?_
     refine WC.seq ?_
     refine WC.seq ?_
     refine WC.draw (π := (.cons 0 (.cons 1 (.cons 2 (.cons 3 (.cons 4 (.cons 5 (.cons 6 (.cons 7 (.cons 8 (.cons 9 (.cons 10 (.cons 11 (.cons 12 (.cons 13 (.cons 14 (.cons 15 .done))))))))))))))))) [] [] rfl (by kernel_rfl) ?_
     refine DW.y rfl rfl (X.move rfl) ?_
     refine DW.y rfl rfl (X.move rfl) ?_
     refine DW.y rfl rfl (X.move rfl) ?_
     refine DW.y rfl rfl (X.move rfl) ?_
     refine DW.y rfl rfl (X.add rfl rfl (by omega) (by omega)) ?_
     refine DW.y rfl rfl (X.idxRowE (k := 0) (fst + r) Tryz.runUnderlying28 Tryz.sizeOf23 rfl rfl rfl (by omega) (by first | omega | (simp; omega) | simp)) ?_
     refine DW.y rfl rfl (X.loadFs (k := 0) (i := fst + r) (off := 0) (us := [.int .i64 (((gt R (fst + r))).Lo), .int .i64 (((gt R (fst + r))).Hi)]) Tryz.isAgg23 Tryz.sizeOf23 rfl rfl (by first | omega | (simp; omega) | simp) rfl rfl) ?_
     refine DW.y rfl rfl (X.move rfl) ?_
     refine DW.y rfl rfl (X.move rfl) ?_
     refine DW.y rfl rfl (X.move rfl) ?_
     refine DW.y rfl rfl (X.add rfl rfl (by omega) (by omega)) ?_
     refine DW.y rfl rfl (X.idxRowE (k := 0) (fst + (((2 * r) + 1) + 1)) Tryz.runUnderlying28 Tryz.sizeOf23 rfl rfl rfl (by omega) (by first | omega | (simp; omega) | simp)) ?_
     refine DW.y rfl rfl (X.loadFs (k := 0) (i := fst + (((2 * r) + 1) + 1)) (off := 0) (us := [.int .i64 (((gt R (fst + (((2 * r) + 1) + 1)))).Lo), .int .i64 (((gt R (fst + (((2 * r) + 1) + 1)))).Hi)]) Tryz.isAgg23 Tryz.sizeOf23 rfl rfl (by first | omega | (simp; omega) | simp) rfl rfl) ?_
     refine DW.y rfl rfl (X.callc hC.1 rfl rfl (hC.2.1 _ (gt R (fst + r)) (gt R (fst + (((2 * r) + 1) + 1))))) ?_
     refine DW.cond rfl rfl (X.lss rfl rfl) (by decide) (fun h5 => ?_) (fun h5 => ?_)
     ·refine DW.y rfl rfl (X.not rfl) ?_
      refine DW.nil ?_
      refine WK.nThen ?_
      refine WC.condF rfl ?_
      refine WC.skip ?_
      refine WK.nThen ?_
      refine WC.seq ?_
      refine WC.draw (π := (.cons 0 (.cons 1 (.cons 2 (.cons 3 (.cons 4 (.cons 5 (.cons 6 (.cons 7 (.cons 8 (.cons 9 (.cons 10 (.cons 11 (.cons 12 (.cons 13 (.cons 14 (.cons 15 (.cons 16 (.cons 17 (.cons 18 (.cons 19 (.cons 20 (.cons 21 (.cons 22 (.cons 23 .done))))))))))))))))))))))))) [21, 23] [21, 23, 100007] rfl (by kernel_rfl) ?_
      refine DW.y rfl rfl (X.move rfl) ?_
      refine DW.y rfl rfl (X.move rfl) ?_
      refine DW.y rfl rfl (X.move rfl) ?_
      refine DW.y rfl rfl (X.add rfl rfl (by omega) (by omega)) ?_
      refine DW.y rfl rfl (X.move rfl) ?_
      refine DW.y rfl rfl (X.move rfl) ?_
      refine DW.y rfl rfl (X.move rfl) ?_
      refine DW.xf rfl rfl rfl (fun _ _ hle_ => (X.add rfl rfl (by omega) (by omega))) (by decide) ?_
      refine DW.y rfl rfl (X.move rfl) ?_
      refine DW.y rfl rfl (X.move rfl) ?_
      refine DW.y rfl rfl (X.move rfl) ?_
      refine DW.y rfl rfl (X.add rfl rfl (by omega) (by omega)) ?_
      refine DW.y rfl rfl (X.idxRowE (k := 0) (fst + (((2 * r) + 1) + 1)) Tryz.runUnderlying28 Tryz.sizeOf23 rfl rfl rfl (by omega) (by first | omega | (simp; omega) | simp)) ?_
      refine DW.y rfl rfl (X.loadFs (k := 0) (i := fst + (((2 * r) + 1) + 1)) (off := 0) (us := [.int .i64 (((gt R (fst + (((2 * r) + 1) + 1)))).Lo), .int .i64 (((gt R (fst + (((2 * r) + 1) + 1)))).Hi)]) Tryz.isAgg23 Tryz.sizeOf23 rfl rfl (by first | omega | (simp; omega) | simp) rfl rfl) ?_
      refine DW.y rfl rfl (X.move rfl) ?_
      refine DW.y rfl rfl (X.move rfl) ?_
      refine DW.y rfl rfl (X.move rfl) ?_
      refine DW.y rfl rfl (X.add rfl rfl (by omega) (by omega)) ?_
      refine DW.y rfl rfl (X.idxRowE (k := 0) (fst + r) Tryz.runUnderlying28 Tryz.sizeOf23 rfl rfl rfl (by omega) (by first | omega | (simp; omega) | simp)) ?_
      refine DW.y rfl rfl (X.loadFs (k := 0) (i := fst + r) (off := 0) (us := [.int .i64 (((gt R (fst + r))).Lo), .int .i64 (((gt R (fst + r))).Hi)]) Tryz.isAgg23 Tryz.sizeOf23 rfl rfl (by first | omega | (simp; omega) | simp) rfl rfl) ?_
      refine DW.y rfl rfl (X.idxRowE (k := 0) (fst + r) Tryz.runUnderlying28 Tryz.sizeOf23 rfl rfl rfl (by omega) (by first | omega | (simp; omega) | simp)) ?_
      refine DW.ts rfl rfl rfl rfl (T.storeFp (k := 0) (i := fst + r) (off := 0) (us := [.int .i64 (((gt R (fst + (((2 * r) + 1) + 1)))).Lo), .int .i64 (((gt R (fst + (((2 * r) + 1) + 1)))).Hi)]) (gt R (fst + (((2 * r) + 1) + 1))) Tryz.sizeOf23 rfl rfl rfl rfl (Nat.zero_lt_succ _) rfl (by first | omega | (simp; omega) | simp) rfl rfl (one_cons rfl (one_cons rfl one_nil))) ?_
      refine DW.y rfl rfl (X.idxRowE (k := 0) (fst + (((2 * r) + 1) + 1)) Tryz.runUnderlying28 Tryz.sizeOf23 rfl rfl rfl (by omega) (by first | omega | (simp; omega) | simp)) ?_
      refine DW.ts rfl rfl rfl rfl (T.storeFp (k := 0) (i := fst + (((2 * r) + 1) + 1)) (off := 0) (us := [.int .i64 (((gt R (fst + r))).Lo), .int .i64 (((gt R (fst + r))).Hi)]) (gt R (fst + r)) Tryz.sizeOf23 rfl rfl rfl rfl (Nat.zero_lt_succ _) rfl (by first | omega | (simp; omega) | simp) rfl rfl (one_cons rfl (one_cons rfl one_nil))) ?_
      refine DW.nil ?_
      refine WK.nThen ?_
      refine WC.region ?_
      refine WL.mv rfl ?_
      refine WL.ag rfl ?_
      refine WL.nil ?_
      refine WK.nBlock ?_
      refine WK.nThen ?_
      obtain ⟨r1_, hr1_⟩ : ∃ qq__ : Nat, (((2 * ↑r) + 1) + 1 : Int) = (qq__ : Int) := ⟨(((2 * ↑r) + 1) + 1 : Int).toNat, (by omega)⟩
      rw [hr1_]
      obtain rfl : r1_ = ((2 * r) + 1) + 1 := (by omega)
      refine WK.next ((((2 * r) + 1) + 1, (R.set (fst + r) (gt R (fst + (((2 * r) + 1) + 1)))).set (fst + (((2 * r) + 1) + 1)) (gt R (fst + r)))) rfl (.refl _) (.cons rfl (.cons rfl (.cons rfl (.cons rfl (.cons rfl .nil))))) ?_ ?_
      ·refine ⟨by omega, hS.tsw (by omega) (by omega) (by omega), ?_⟩
       have hlt_ := (hC.cl hBR (i := fst + r) (j := fst + (((2 * r) + 1) + 1))).1 (by assumption)
       refine hpX_step (c := ((2 * r) + 1) + 1) hX (by omega) (by omega) (by omega) hlt_ (fun d_ hd1_ hd2_ => ?_)
       rcases hd1_ with rfl | rfl <;> first | exact Int.le_refl _ | omega | exact Int.le_of_lt ((hC.cl hBR (i := fst + (2 * r + 1)) (j := fst + (2 * r + 1) + 1)).1 (by assumption)) | exact Int.not_lt.1 (fun h_ => absurd ((hC.cl hBR (i := fst + (2 * r + 1)) (j := fst + (2 * r + 1) + 1)).2 h_) (by assumption))
      ·(dsimp only; omega)
     ·refine DW.y rfl rfl (X.not rfl) ?_
      refine DW.nil ?_
      refine WK.nThen ?_
      refine WC.condT rfl ?_
      refine WC.ret ?_
      refine WK.rThen ?_
      refine WK.rBlock ?_
      refine WK.rThen ?_
      refine WK.rBlock ?_
      refine WK.ret0 rfl (fun w' hw' => Ret.mut hw' ?_)
      refine ⟨rfl, _, rfl, hS, hpX_end hX (fun d_ hd1_ hd2_ => ?_)⟩
      first | omega | (have h0_ : (gt R (fst + (2 * r + 1))).Lo ≤ (gt R (fst + r)).Lo := Int.not_lt.1 (fun h_ => absurd ((hC.cl hBR (i := fst + r) (j := fst + (2 * r + 1))).2 h_) (by assumption)); rcases hd1_ with rfl | rfl <;> first | exact h0_ | omega | exact Int.le_trans (Int.not_lt.1 (fun h_ => absurd ((hC.cl hBR (i := fst + (2 * r + 1)) (j := fst + (2 * r + 1) + 1)).2 h_) (by assumption))) h0_) | (have h0_ : (gt R (fst + (2 * r + 1 + 1))).Lo ≤ (gt R (fst + r)).Lo := Int.not_lt.1 (fun h_ => absurd ((hC.cl hBR (i := fst + r) (j := fst + (2 * r + 1 + 1))).2 h_) (by assumption)); rcases hd1_ with rfl | rfl <;> first | exact h0_ | omega | exact Int.le_trans (Int.le_of_lt ((hC.cl hBR (i := fst + (2 * r + 1)) (j := fst + (2 * r + 1) + 1)).1 (by assumption))) h0_)
    ·refine DW.y rfl rfl (X.pickT rfl rfl rfl) ?_
     refine DW.nil ?_
     refine WK.nThen ?_
     refine WC.condF rfl ?_
     refine WC.skip ?_
     refine WK.nThen ?_
     refine WC.seq ?_
     refine WC.seq ?_
     refine WC.draw (π := (.cons 0 (.cons 1 (.cons 2 (.cons 3 (.cons 4 (.cons 5 (.cons 6 (.cons 7 (.cons 8 (.cons 9 (.cons 10 (.cons 11 (.cons 12 (.cons 13 (.cons 14 (.cons 15 .done))))))))))))))))) [] [] rfl (by kernel_rfl) ?_
     refine DW.y rfl rfl (X.move rfl) ?_
     refine DW.y rfl rfl (X.move rfl) ?_
     refine DW.y rfl rfl (X.move rfl) ?_
     refine DW.y rfl rfl (X.move rfl) ?_
     refine DW.y rfl rfl (X.add rfl rfl (by omega) (by omega)) ?_
     refine DW.y rfl rfl (X.idxRowE (k := 0) (fst + r) Tryz.runUnderlying28 Tryz.sizeOf23 rfl rfl rfl (by omega) (by first | omega | (simp; omega) | simp)) ?_
     refine DW.y rfl rfl (X.loadFs (k := 0) (i := fst + r) (off := 0) (us := [.int .i64 (((gt R (fst + r))).Lo), .int .i64 (((gt R (fst + r))).Hi)]) Tryz.isAgg23 Tryz.sizeOf23 rfl rfl (by first | omega | (simp; omega) | simp) rfl rfl) ?_
     refine DW.y rfl rfl (X.move rfl) ?_
     refine DW.y rfl rfl (X.move rfl) ?_
     refine DW.y rfl rfl (X.move rfl) ?_
     refine DW.y rfl rfl (X.add rfl rfl (by omega) (by omega)) ?_
     refine DW.y rfl rfl (X.idxRowE (k := 0) (fst + ((2 * r) + 1)) Tryz.runUnderlying28 Tryz.sizeOf23 rfl rfl rfl (by omega) (by first | omega | (simp; omega) | simp)) ?_
     refine DW.y rfl rfl (X.loadFs (k := 0) (i := fst + ((2 * r) + 1)) (off := 0) (us := [.int .i64 (((gt R (fst + ((2 * r) + 1)))).Lo), .int .i64 (((gt R (fst + ((2 * r) + 1)))).Hi)]) Tryz.isAgg23 Tryz.sizeOf23 rfl rfl (by first | omega | (simp; omega) | simp) rfl rfl) ?_
     refine DW.y rfl rfl (X.callc hC.1 rfl rfl (hC.2.1 _ (gt R (fst + r)) (gt R (fst + ((2 * r) + 1))))) ?_
     refine DW.cond rfl rfl (X.lss rfl rfl) (by decide) (fun h6 => ?_) (fun h6 => ?_)
     ·refine DW.y rfl rfl (X.not rfl) ?_
      refine DW.nil ?_
      refine WK.nThen ?_
      refine WC.condF rfl ?_
      refine WC.skip ?_
      refine WK.nThen ?_
      refine WC.seq ?_
      refine WC.draw (π := (.cons 0 (.cons 1 (.cons 2 (.cons 3 (.cons 4 (.cons 5 (.cons 6 (.cons 7 (.cons 8 (.cons 9 (.cons 10 (.cons 11 (.cons 12 (.cons 13 (.cons 14 (.cons 15 (.cons 16 (.cons 17 (.cons 18 (.cons 19 (.cons 20 (.cons 21 (.cons 22 (.cons 23 .done))))))))))))))))))))))))) [21, 23] [21, 23, 100007] rfl (by kernel_rfl) ?_
      refine DW.y rfl rfl (X.move rfl) ?_
      refine DW.y rfl rfl (X.move rfl) ?_
      refine DW.y rfl rfl (X.move rfl) ?_
      refine DW.y rfl rfl (X.add rfl rfl (by omega) (by omega)) ?_
      refine DW.y rfl rfl (X.move rfl) ?_
      refine DW.y rfl rfl (X.move rfl) ?_
      refine DW.y rfl rfl (X.move rfl) ?_
      refine DW.xf rfl rfl rfl (fun _ _ hle_ => (X.add rfl rfl (by omega) (by omega))) (by decide) ?_
      refine DW.y rfl rfl (X.move rfl) ?_
      refine DW.y rfl rfl (X.move rfl) ?_
      refine DW.y rfl rfl (X.move rfl) ?_
      refine DW.y rfl rfl (X.add rfl rfl (by omega) (by omega)) ?_
      refine DW.y rfl rfl (X.idxRowE (k := 0) (fst + ((2 * r) + 1)) Tryz.runUnderlying28 Tryz.sizeOf23 rfl rfl rfl (by omega) (by first | omega | (simp; omega) | simp)) ?_
      refine DW.y rfl rfl (X.loadFs (k := 0) (i := fst + ((2 * r) + 1)) (off := 0) (us := [.int .i64 (((gt R (fst + ((2 * r) + 1)))).Lo), .int .i64 (((gt R (fst + ((2 * r) + 1)))).Hi)]) Tryz.isAgg23 Tryz.sizeOf23 rfl rfl (by first | omega | (simp; omega) | simp) rfl rfl) ?_
      refine DW.y rfl rfl (X.move rfl) ?_
      refine DW.y rfl rfl (X.move rfl) ?_
      refine DW.y rfl rfl (X.move rfl) ?_
      refine DW.y rfl rfl (X.add rfl rfl (by omega) (by omega)) ?_
      refine DW.y rfl rfl (X.idxRowE (k := 0) (fst + r) Tryz.runUnderlying28 Tryz.sizeOf23 rfl rfl rfl (by omega) (by first | omega | (simp; omega) | simp)) ?_
      refine DW.y rfl rfl (X.loadFs (k := 0) (i := fst + r) (off := 0) (us := [.int .i64 (((gt R (fst + r))).Lo), .int .i64 (((gt R (fst + r))).Hi)]) Tryz.isAgg23 Tryz.sizeOf23 rfl rfl (by first | omega | (simp; omega) | simp) rfl rfl) ?_
      refine DW.y rfl rfl (X.idxRowE (k := 0) (fst + r) Tryz.runUnderlying28 Tryz.sizeOf23 rfl rfl rfl (by omega) (by first | omega | (simp; omega) | simp)) ?_
      refine DW.ts rfl rfl rfl rfl (T.storeFp (k := 0) (i := fst + r) (off := 0) (us := [.int .i64 (((gt R (fst + ((2 * r) + 1)))).Lo), .int .i64 (((gt R (fst + ((2 * r) + 1)))).Hi)]) (gt R (fst + ((2 * r) + 1))) Tryz.sizeOf23 rfl rfl rfl rfl (Nat.zero_lt_succ _) rfl (by first | omega | (simp; omega) | simp) rfl rfl (one_cons rfl (one_cons rfl one_nil))) ?_
      refine DW.y rfl rfl (X.idxRowE (k := 0) (fst + ((2 * r) + 1)) Tryz.runUnderlying28 Tryz.sizeOf23 rfl rfl rfl (by omega) (by first | omega | (simp; omega) | simp)) ?_
      refine DW.ts rfl rfl rfl rfl (T.storeFp (k := 0) (i := fst + ((2 * r) + 1)) (off := 0) (us := [.int .i64 (((gt R (fst + r))).Lo), .int .i64 (((gt R (fst + r))).Hi)]) (gt R (fst + r)) Tryz.sizeOf23 rfl rfl rfl rfl (Nat.zero_lt_succ _) rfl (by first | omega | (simp; omega) | simp) rfl rfl (one_cons rfl (one_cons rfl one_nil))) ?_
      refine DW.nil ?_
      refine WK.nThen ?_
      refine WC.region ?_
      refine WL.mv rfl ?_
      refine WL.ag rfl ?_
      refine WL.nil ?_
      refine WK.nBlock ?_
      refine WK.nThen ?_
      obtain ⟨r1_, hr1_⟩ : ∃ qq__ : Nat, ((2 * ↑r) + 1 : Int) = (qq__ : Int) := ⟨((2 * ↑r) + 1 : Int).toNat, (by omega)⟩
      rw [hr1_]
      obtain rfl : r1_ = (2 * r) + 1 := (by omega)
      refine WK.next (((2 * r) + 1, (R.set (fst + r) (gt R (fst + ((2 * r) + 1)))).set (fst + ((2 * r) + 1)) (gt R (fst + r)))) rfl (.refl _) (.cons rfl (.cons rfl (.cons rfl (.cons rfl (.cons rfl .nil))))) ?_ ?_
      ·refine ⟨by omega, hS.tsw (by omega) (by omega) (by omega), ?_⟩
       have hlt_ := (hC.cl hBR (i := fst + r) (j := fst + ((2 * r) + 1))).1 (by assumption)
       refine hpX_step (c := (2 * r) + 1) hX (by omega) (by omega) (by omega) hlt_ (fun d_ hd1_ hd2_ => ?_)
       rcases hd1_ with rfl | rfl <;> first | exact Int.le_refl _ | omega | exact Int.le_of_lt ((hC.cl hBR (i := fst + (2 * r + 1)) (j := fst + (2 * r + 1) + 1)).1 (by assumption)) | exact Int.not_lt.1 (fun h_ => absurd ((hC.cl hBR (i := fst + (2 * r + 1)) (j := fst + (2 * r + 1) + 1)).2 h_) (by assumption))
      ·(dsimp only; omega)
     ·refine DW.y rfl rfl (X.not rfl) ?_
      refine DW.nil ?_
      refine WK.nThen ?_
      refine WC.condT rfl ?_
      refine WC.ret ?_
      refine WK.rThen ?_
      refine WK.rBlock ?_
      refine WK.rThen ?_
      refine WK.rBlock ?_
      refine WK.ret0 rfl (fun w' hw' => Ret.mut hw' ?_)
      refine ⟨rfl, _, rfl, hS, hpX_end hX (fun d_ hd1_ hd2_ => ?_)⟩
      first | omega | (have h0_ : (gt R (fst + (2 * r + 1))).Lo ≤ (gt R (fst + r)).Lo := Int.not_lt.1 (fun h_ => absurd ((hC.cl hBR (i := fst + r) (j := fst + (2 * r + 1))).2 h_) (by assumption)); rcases hd1_ with rfl | rfl <;> first | exact h0_ | omega | exact Int.le_trans (Int.not_lt.1 (fun h_ => absurd ((hC.cl hBR (i := fst + (2 * r + 1)) (j := fst + (2 * r + 1) + 1)).2 h_) (by assumption))) h0_) | (have h0_ : (gt R (fst + (2 * r + 1 + 1))).Lo ≤ (gt R (fst + r)).Lo := Int.not_lt.1 (fun h_ => absurd ((hC.cl hBR (i := fst + r) (j := fst + (2 * r + 1 + 1))).2 h_) (by assumption)); rcases hd1_ with rfl | rfl <;> first | exact h0_ | omega | exact Int.le_trans (Int.le_of_lt ((hC.cl hBR (i := fst + (2 * r + 1)) (j := fst + (2 * r + 1) + 1)).1 (by assumption))) h0_)
   ·refine DW.y rfl rfl (X.move rfl) ?_
    refine DW.no rfl rfl (by decide) ?_
    refine DW.no rfl rfl (by decide) ?_
    refine DW.no rfl rfl (by decide) ?_
    refine DW.no rfl rfl (by decide) ?_
    refine DW.no rfl rfl (by decide) ?_
    refine DW.no rfl rfl (by decide) ?_
    refine DW.no rfl rfl (by decide) ?_
    refine DW.no rfl rfl (by decide) ?_
    refine DW.no rfl rfl (by decide) ?_
    refine DW.no rfl rfl (by decide) ?_
    refine DW.no rfl rfl (by decide) ?_
    refine DW.no rfl rfl (by decide) ?_
    refine DW.no rfl rfl (by decide) ?_
    refine DW.no rfl rfl (by decide) ?_
    refine DW.no rfl rfl (by decide) ?_
    refine DW.no rfl rfl (by decide) ?_
    refine DW.y rfl rfl (X.pickF rfl rfl rfl) ?_
    refine DW.nil ?_
    refine WK.nThen ?_
    refine WC.condF rfl ?_
    refine WC.skip ?_
    refine WK.nThen ?_
    refine WC.seq ?_
    refine WC.seq ?_
    refine WC.draw (π := (.cons 0 (.cons 1 (.cons 2 (.cons 3 (.cons 4 (.cons 5 (.cons 6 (.cons 7 (.cons 8 (.cons 9 (.cons 10 (.cons 11 (.cons 12 (.cons 13 (.cons 14 (.cons 15 .done))))))))))))))))) [] [] rfl (by kernel_rfl) ?_
    refine DW.y rfl rfl (X.move rfl) ?_
    refine DW.y rfl rfl (X.move rfl) ?_
    refine DW.y rfl rfl (X.move rfl) ?_
    refine DW.y rfl rfl (X.move rfl) ?_
    refine DW.y rfl rfl (X.add rfl rfl (by omega) (by omega)) ?_
    refine DW.y rfl rfl (X.idxRowE (k := 0) (fst + r) Tryz.runUnderlying28 Tryz.sizeOf23 rfl rfl rfl (by omega) (by first | omega | (simp; omega) | simp)) ?_
    refine DW.y rfl rfl (X.loadFs (k := 0) (i := fst + r) (off := 0) (us := [.int .i64 (((gt R (fst + r))).Lo), .int .i64 (((gt R (fst + r))).Hi)]) Tryz.isAgg23 Tryz.sizeOf23 rfl rfl (by first | omega | (simp; omega) | simp) rfl rfl) ?_
    refine DW.y rfl rfl (X.move rfl) ?_
    refine DW.y rfl rfl (X.move rfl) ?_
    refine DW.y rfl rfl (X.move rfl) ?_
    refine DW.y rfl rfl (X.add rfl rfl (by omega) (by omega)) ?_
    refine DW.y rfl rfl (X.idxRowE (k := 0) (fst + ((2 * r) + 1)) Tryz.runUnderlying28 Tryz.sizeOf23 rfl rfl rfl (by omega) (by first | omega | (simp; omega) | simp)) ?_
    refine DW.y rfl rfl (X.loadFs (k := 0) (i := fst + ((2 * r) + 1)) (off := 0) (us := [.int .i64 (((gt R (fst + ((2 * r) + 1)))).Lo), .int .i64 (((gt R (fst + ((2 * r) + 1)))).Hi)]) Tryz.isAgg23 Tryz.sizeOf23 rfl rfl (by first | omega | (simp; omega) | simp) rfl rfl) ?_
    refine DW.y rfl rfl (X.callc hC.1 rfl rfl (hC.2.1 _ (gt R (fst + r)) (gt R (fst + ((2 * r) + 1))))) ?_
    refine DW.cond rfl rfl (X.lss rfl rfl) (by decide) (fun h7 => ?_) (fun h7 => ?_)
    ·refine DW.y rfl rfl (X.not rfl) ?_
     refine DW.nil ?_
     refine WK.nThen ?_
     refine WC.condF rfl ?_
     refine WC.skip ?_
     refine WK.nThen ?_
     refine WC.seq ?_
     refine WC.draw (π := (.cons 0 (.cons 1 (.cons 2 (.cons 3 (.cons 4 (.cons 5 (.cons 6 (.cons 7 (.cons 8 (.cons 9 (.cons 10 (.cons 11 (.cons 12 (.cons 13 (.cons 14 (.cons 15 (.cons 16 (.cons 17 (.cons 18 (.cons 19 (.cons 20 (.cons 21 (.cons 22 (.cons 23 .done))))))))))))))))))))))))) [21, 23] [21, 23, 100007] rfl (by kernel_rfl) ?_
     refine DW.y rfl rfl (X.move rfl) ?_
     refine DW.y rfl rfl (X.move rfl) ?_
     refine DW.y rfl rfl (X.move rfl) ?_
     refine DW.y rfl rfl (X.add rfl rfl (by omega) (by omega)) ?_
     refine DW.y rfl rfl (X.move rfl) ?_
     refine DW.y rfl rfl (X.move rfl) ?_
     refine DW.y rfl rfl (X.move rfl) ?_
     refine DW.xf rfl rfl rfl (fun _ _ hle_ => (X.add rfl rfl (by omega) (by omega))) (by decide) ?_
     refine DW.y rfl rfl (X.move rfl) ?_
     refine DW.y rfl rfl (X.move rfl) ?_
     refine DW.y rfl rfl (X.move rfl) ?_
     refine DW.y rfl rfl (X.add rfl rfl (by omega) (by omega)) ?_
     refine DW.y rfl rfl (X.idxRowE (k := 0) (fst + ((2 * r) + 1)) Tryz.runUnderlying28 Tryz.sizeOf23 rfl rfl rfl (by omega) (by first | omega | (simp; omega) | simp)) ?_
     refine DW.y rfl rfl (X.loadFs (k := 0) (i := fst + ((2 * r) + 1)) (off := 0) (us := [.int .i64 (((gt R (fst + ((2 * r) + 1)))).Lo), .int .i64 (((gt R (fst + ((2 * r) + 1)))).Hi)]) Tryz.isAgg23 Tryz.sizeOf23 rfl rfl (by first | omega | (simp; omega) | simp) rfl rfl) ?_
     refine DW.y rfl rfl (X.move rfl) ?_
     refine DW.y rfl rfl (X.move rfl) ?_
     refine DW.y rfl rfl (X.move rfl) ?_
     refine DW.y rfl rfl (X.add rfl rfl (by omega) (by omega)) ?_
     refine DW.y rfl rfl (X.idxRowE (k := 0) (fst + r) Tryz.runUnderlying28 Tryz.sizeOf23 rfl rfl rfl (by omega) (by first | omega | (simp; omega) | simp)) ?_
     refine DW.y rfl rfl (X.loadFs (k := 0) (i := fst + r) (off := 0) (us := [.int .i64 (((gt R (fst + r))).Lo), .int .i64 (((gt R (fst + r))).Hi)]) Tryz.isAgg23 Tryz.sizeOf23 rfl rfl (by first | omega | (simp; omega) | simp) rfl rfl) ?_
     refine DW.y rfl rfl (X.idxRowE (k := 0) (fst + r) Tryz.runUnderlying28 Tryz.sizeOf23 rfl rfl rfl (by omega) (by first | omega | (simp; omega) | simp)) ?_
     refine DW.ts rfl rfl rfl rfl (T.storeFp (k := 0) (i := fst + r) (off := 0) (us := [.int .i64 (((gt R (fst + ((2 * r) + 1)))).Lo), .int .i64 (((gt R (fst + ((2 * r) + 1)))).Hi)]) (gt R (fst + ((2 * r) + 1))) Tryz.sizeOf23 rfl rfl rfl rfl (Nat.zero_lt_succ _) rfl (by first | omega | (simp; omega) | simp) rfl rfl (one_cons rfl (one_cons rfl one_nil))) ?_
     refine DW.y rfl rfl (X.idxRowE (k := 0) (fst + ((2 * r) + 1)) Tryz.runUnderlying28 Tryz.sizeOf23 rfl rfl rfl (by omega) (by first | omega | (simp; omega) | simp)) ?_
     refine DW.ts rfl rfl rfl rfl (T.storeFp (k := 0) (i := fst + ((2 * r) + 1)) (off := 0) (us := [.int .i64 (((gt R (fst + r))).Lo), .int .i64 (((gt R (fst + r))).Hi)]) (gt R (fst + r)) Tryz.sizeOf23 rfl rfl rfl rfl (Nat.zero_lt_succ _) rfl (by first | omega | (simp; omega) | simp) rfl rfl (one_cons rfl (one_cons rfl one_nil))) ?_
     refine DW.nil ?_
     refine WK.nThen ?_
     refine WC.region ?_
     refine WL.mv rfl ?_
     refine WL.ag rfl ?_
     refine WL.nil ?_
     refine WK.nBlock ?_
     refine WK.nThen ?_
     obtain ⟨r1_, hr1_⟩ : ∃ qq__ : Nat, ((2 * ↑r) + 1 : Int) = (qq__ : Int) := ⟨((2 * ↑r) + 1 : Int).toNat, (by omega)⟩
     rw [hr1_]
     obtain rfl : r1_ = (2 * r) + 1 := (by omega)
     refine WK.next (((2 * r) + 1, (R.set (fst + r) (gt R (fst + ((2 * r) + 1)))).set (fst + ((2 * r) + 1)) (gt R (fst + r)))) rfl (.refl _) (.cons rfl (.cons rfl (.cons rfl (.cons rfl (.cons rfl .nil))))) ?_ ?_
     ·refine ⟨by omega, hS.tsw (by omega) (by omega) (by omega), ?_⟩
      have hlt_ := (hC.cl hBR (i := fst + r) (j := fst + ((2 * r) + 1))).1 (by assumption)
      refine hpX_step (c := (2 * r) + 1) hX (by omega) (by omega) (by omega) hlt_ (fun d_ hd1_ hd2_ => ?_)
      rcases hd1_ with rfl | rfl <;> first | exact Int.le_refl _ | omega | exact Int.le_of_lt ((hC.cl hBR (i := fst + (2 * r + 1)) (j := fst + (2 * r + 1) + 1)).1 (by assumption)) | exact Int.not_lt.1 (fun h_ => absurd ((hC.cl hBR (i := fst + (2 * r + 1)) (j := fst + (2 * r + 1) + 1)).2 h_) (by assumption))
     ·(dsimp only; omega)
    ·refine DW.y rfl rfl (X.not rfl) ?_
     refine DW.nil ?_
     refine WK.nThen ?_
     refine WC.condT rfl ?_
     refine WC.ret ?_
     refine WK.rThen ?_
     refine WK.rBlock ?_
     refine WK.rThen ?_
     refine WK.rBlock ?_
     refine WK.ret0 rfl (fun w' hw' => Ret.mut hw' ?_)
     refine ⟨rfl, _, rfl, hS, hpX_end hX (fun d_ hd1_ hd2_ => ?_)⟩
     first | omega | (have h0_ : (gt R (fst + (2 * r + 1))).Lo ≤ (gt R (fst + r)).Lo := Int.not_lt.1 (fun h_ => absurd ((hC.cl hBR (i := fst + r) (j := fst + (2 * r + 1))).2 h_) (by assumption)); rcases hd1_ with rfl | rfl <;> first | exact h0_ | omega | exact Int.le_trans (Int.not_lt.1 (fun h_ => absurd ((hC.cl hBR (i := fst + (2 * r + 1)) (j := fst + (2 * r + 1) + 1)).2 h_) (by assumption))) h0_) | (have h0_ : (gt R (fst + (2 * r + 1 + 1))).Lo ≤ (gt R (fst + r)).Lo := Int.not_lt.1 (fun h_ => absurd ((hC.cl hBR (i := fst + r) (j := fst + (2 * r + 1 + 1))).2 h_) (by assumption)); rcases hd1_ with rfl | rfl <;> first | exact h0_ | omega | exact Int.le_trans (Int.le_of_lt ((hC.cl hBR (i := fst + (2 * r + 1)) (j := fst + (2 * r + 1) + 1)).1 (by assumption))) h0_)

set_option maxHeartbeats 1000000 in
theorem heap265 (m : Mem) {v : Value} {L : List Span} (hL : L.length ≤ 1000000) (hB : bdS L) {fc : Nat} {cf : Span → Span → Int} (hC : CmpOk fc cf) {a b : Nat} {za zb : Int} (hza : za = a) (hzb : zb = b) (hab : a < b) (hbl : b ≤ L.length) : Mut Tryz.prog 265 #[v, .int .i64 za, .int .i64 zb, .func (.func fc) #[] #[]] m [rowF v 23 L] (fun _ Es u => u = .tuple #[] ∧ ∃ R, Es = [rowF v 23 R] ∧ Seg L R a b ∧ Srt Span.Lo R a b) := by
 subst hza
 subst hzb
 have hn_ : a + (b - a) = b := (by omega)
 refine Mut.start Tryz.func265 rfl Tryz.ntmps265 rfl fun wld => ?_
 refine WC.r ?_
 refine WL.mv rfl ?_
 refine WL.ag rfl ?_
 refine WL.z ?_
 refine WC.r ?_
 refine WL.ag rfl ?_
 refine WL.z ?_
 refine WC.r ?_
 refine WL.mv rfl ?_
 refine WL.mv rfl ?_
 refine WL.y (X.sub rfl rfl (by omega) (by omega)) ?_
 refine WL.ag rfl ?_
 refine WL.z ?_
 refine WC.seq ?_
 refine WC.r ?_
 refine WL.mv rfl ?_
 refine WL.y (X.sub rfl rfl (by omega) (by omega)) ?_
 refine WL.y (X.quo rfl rfl (by omega) (by omega) (by omega)) ?_
 refine WL.ag rfl ?_
 refine WL.z ?_
 refine WC.block ?_
 rw [show ((↑b - ↑a - 1) / 2 : Int) = (((b - a - 1) / 2 + 1 : Nat) : Int) - 1 by omega]
 refine WC.loop (G := Nat × List Span) (fun (i, R) => i) (fun (i, R) => m) (fun (i, R) => [rowF (v) 23 (R)]) (fun (i, R) => [(0, v), (3, .func (.func fc) #[] #[]), (8, .int .i64 (↑a)), (9, .int .i64 (0)), (10, .int .i64 (↑b - ↑a)), (11, .int .i64 (↑i - 1))]) (fun (i, R) => i ≤ b + 1 ∧ Seg L R a (a + (b - a)) ∧ Hp Span.Lo R a i (b - a)) (((b - a - 1) / 2 + 1, L)) rfl (.refl _) (.cons rfl (.cons rfl (.cons rfl (.cons rfl (.cons rfl (.cons rfl .nil)))))) ?_ ?_
 ·exact ⟨by omega, .refl _ _ _, hp_none _ _ (by omega)⟩
 ·rintro ⟨i, R⟩ hF1
  show WK _ _ m [rowF (v) 23 (R)] [(0, v), (3, .func (.func fc) #[] #[]), (8, .int .i64 (↑a)), (9, .int .i64 (0)), (10, .int .i64 (↑b - ↑a)), (11, .int .i64 (↑i - 1))] _
  replace hF1 : i ≤ b + 1 ∧ Seg L R a (a + (b - a)) ∧ Hp Span.Lo R a i (b - a) := hF1
  obtain ⟨hi, hS, hH⟩ := hF1
  refine WK.good (fun hgood0 => ?_)
  have hSl := hS.len
  have hBR := bdS_perm hB hS.perm
  refine WC.seq ?_
  refine WC.r ?_
  refine WL.mv rfl ?_
  refine WL.cond (X.geq rfl rfl) (by decide) (fun h2 => ?_) (fun h2 => ?_)
  ·refine WL.z ?_
   refine WC.condT rfl ?_
   refine WC.skip ?_
   refine WK.nThen ?_
   refine WC.seq ?_
   refine WC.block ?_
   refine WC.region ?_
   refine WL.mv rfl ?_
   refine WL.mv rfl ?_
   refine WL.mv rfl ?_
   refine WL.mv rfl ?_
   refine WL.mv rfl ?_
   refine WL.tM (T.callP (A := []) Tryz.call305 rfl (.refl _) (sift305 _ (L := R) (by omega) (by first | assumption | exact bdS_sw (by assumption) _ _) hC (lo := i - 1) (hi := b - a) (fst := a) (by omega) (by omega) (by omega) (by omega) (by omega) (by first | exact hsw_.2.1 | (rw [show i - 1 + 1 = i by omega]; exact hH) | (simp only [show (↑i - 1 : Int).toNat + 1 = i by omega]; exact hH)))) (by decide) (fun m3 Es_ u_ hle4 hR_ => ?_)
   obtain ⟨rfl, R5, rfl, hR6⟩ := hR_
   refine WL.nil ?_
   refine WK.nBlock ?_
   refine WK.nThen ?_
   refine WC.region ?_
   refine WL.mv rfl ?_
   refine WL.y (X.sub rfl rfl (by omega) (by omega)) ?_
   refine WL.ag rfl ?_
   refine WL.z ?_
   rw [show ((↑i : Int) - 1 - 1) = ((i - 1 : Nat) : Int) - 1 by omega]
   refine WK.back hgood0 hle4 ?_
   refine WK.next ((i - 1, R5)) rfl (.refl _) (.cons rfl (.cons rfl (.cons rfl (.cons rfl (.cons rfl (.cons rfl .nil)))))) ?_ ?_
   ·exact ⟨by omega, hS.trans hR6.1, hR6.2⟩
   ·(dsimp only; omega)
  ·refine WL.z ?_
   refine WC.condF rfl ?_
   refine WC.exit ?_
   refine WK.eThen ?_
   refine WK.eThen ?_
   refine WK.eHit ?_
   refine WK.nThen ?_
   refine WC.r ?_
   refine WL.mv rfl ?_
   refine WL.y (X.sub rfl rfl (by omega) (by omega)) ?_
   refine WL.ag rfl ?_
   refine WL.z ?_
   refine WC.block ?_
   rw [show (↑b - ↑a - 1 : Int) = ((b - a : Nat) : Int) - 1 by omega]
   refine WC.loop (G := Nat × List Span) (fun (i, R) => i) (fun (i, R) => m) (fun (i, R) => [rowF (v) 23 (R)]) (fun (i, R) => [(0, v), (3, .func (.func fc) #[] #[]), (8, .int .i64 (↑a)), (9, .int .i64 (0)), (12, .int .i64 (↑i - 1))]) (fun (i, R) => i ≤ b - a ∧ HpS Span.Lo L R a i (b - a)) ((b - a, R)) rfl (.refl _) (.cons rfl (.cons rfl (.cons rfl (.cons rfl (.cons rfl .nil))))) ?_ ?_
   ·obtain rfl : i = 0 := (by omega)
    exact ⟨by omega, hpS_start hS hH⟩
   ·rintro ⟨i, R⟩ hF7
    show WK _ _ m [rowF (v) 23 (R)] [(0, v), (3, .func (.func fc) #[] #[]), (8, .int .i64 (↑a)), (9, .int .i64 (0)), (12, .int .i64 (↑i - 1))] _
    replace hF7 : i ≤ b - a ∧ HpS Span.Lo L R a i (b - a) := hF7
    obtain ⟨hi, hX⟩ := hF7
    refine WK.good (fun hgood1 => ?_)
    have hSl := hX.seg.len
    have hBR := bdS_perm hB hX.seg.perm
    refine WC.seq ?_
    refine WC.r ?_
    refine WL.mv rfl ?_
    refine WL.cond (X.geq rfl rfl) (by decide) (fun h8 => ?_) (fun h8 => ?_)
    ·refine WL.z ?_
     refine WC.condT rfl ?_
     refine WC.skip ?_
     refine WK.nThen ?_
     refine WC.seq ?_
     refine WC.block ?_
     refine WC.seq ?_
     refine WC.draw (π := (.cons 0 (.cons 1 (.cons 2 (.cons 3 (.cons 4 (.cons 5 (.cons 6 (.cons 7 (.cons 8 (.cons 9 (.cons 10 (.cons 11 (.cons 12 (.cons 13 (.cons 14 (.cons 15 (.cons 16 (.cons 17 (.cons 18 (.cons 19 .done))))))))))))))))))))) [17, 19] [17, 19, 100005] rfl (by kernel_rfl) ?_
     refine DW.y rfl rfl (X.move rfl) ?_
     refine DW.y rfl rfl (X.move rfl) ?_
     refine DW.y rfl rfl (X.move rfl) ?_
     refine DW.y rfl rfl (X.move rfl) ?_
     refine DW.y rfl rfl (X.move rfl) ?_
     refine DW.xf rfl rfl rfl (fun _ _ hle_ => (X.add rfl rfl (by omega) (by omega))) (by decide) ?_
     refine DW.y rfl rfl (X.move rfl) ?_
     refine DW.y rfl rfl (X.move rfl) ?_
     refine DW.y rfl rfl (X.move rfl) ?_
     refine DW.y rfl rfl (X.add rfl rfl (by omega) (by omega)) ?_
     refine DW.y rfl rfl (X.idxRow (k := 0) Tryz.runUnderlying28 Tryz.sizeOf23 rfl rfl rfl (by first | omega | (simp; omega) | simp) (by first | omega | (simp; omega) | simp)) ?_
     refine DW.y rfl rfl (X.loadFs (k := 0) (i := (↑a + (↑i - 1) : Int).toNat) (off := 0) (us := [.int .i64 (((gt R ((↑a + (↑i - 1) : Int).toNat))).Lo), .int .i64 (((gt R ((↑a + (↑i - 1) : Int).toNat))).Hi)]) Tryz.isAgg23 Tryz.sizeOf23 rfl rfl (by first | omega | (simp; omega) | simp) rfl rfl) ?_
     refine DW.y rfl rfl (X.move rfl) ?_
     refine DW.y rfl rfl (X.move rfl) ?_
     refine DW.y rfl rfl (X.idxRowE (k := 0) a Tryz.runUnderlying28 Tryz.sizeOf23 rfl rfl rfl (by omega) (by first | omega | (simp; omega) | simp)) ?_
     refine DW.y rfl rfl (X.loadFs (k := 0) (i := a) (off := 0) (us := [.int .i64 (((gt R a)).Lo), .int .i64 (((gt R a)).Hi)]) Tryz.isAgg23 Tryz.sizeOf23 rfl rfl (by first | omega | (simp; omega) | simp) rfl rfl) ?_
     refine DW.y rfl rfl (X.idxRowE (k := 0) a Tryz.runUnderlying28 Tryz.sizeOf23 rfl rfl rfl (by omega) (by first | omega | (simp; omega) | simp)) ?_
     refine DW.ts rfl rfl rfl rfl (T.storeFp (k := 0) (i := a) (off := 0) (us := [.int .i64 (((gt R ((↑a + (↑i - 1) : Int).toNat))).Lo), .int .i64 (((gt R ((↑a + (↑i - 1) : Int).toNat))).Hi)]) (gt R ((↑a + (↑i - 1) : Int).toNat)) Tryz.sizeOf23 rfl rfl rfl rfl (Nat.zero_lt_succ _) rfl (by first | omega | (simp; omega) | simp) rfl rfl (one_cons rfl (one_cons rfl one_nil))) ?_
     refine DW.y rfl rfl (X.idxRow (k := 0) Tryz.runUnderlying28 Tryz.sizeOf23 rfl rfl rfl (by first | omega | (simp; omega) | simp) (by first | omega | (simp; omega) | simp)) ?_
     refine DW.ts rfl rfl rfl rfl (T.storeFp (k := 0) (i := (↑a + (↑i - 1) : Int).toNat) (off := 0) (us := [.int .i64 (((gt R a)).Lo), .int .i64 (((gt R a)).Hi)]) (gt R a) Tryz.sizeOf23 rfl rfl rfl rfl (Nat.zero_lt_succ _) rfl (by first | omega | (simp; omega) | simp) rfl rfl (one_cons rfl (one_cons rfl one_nil))) ?_
     refine DW.nil ?_
     refine WK.nThen ?_
     obtain ⟨R1, hR1⟩ : ∃ qq__ : List Span, qq__ = (R.set a (gt R ((↑a + (↑i - 1) : Int).toNat))).set ((↑a + (↑i - 1) : Int).toNat) (gt R a) := ⟨_, rfl⟩
     have hsw_ : Seg L R1 a (a + (b - a)) ∧ Hp Span.Lo R1 a 1 (i - 1) ∧ (∀ p q, p < q → i - 1 ≤ q → q < b - a → (gt R1 (a + p)).Lo ≤ (gt R1 (a + q)).Lo) := (by rw [hR1, show (↑a + (↑i - 1) : Int).toNat = a + (i - 1) by omega]; exact hpS_swap (s := i - 1) (by rw [show i - 1 + 1 = i by omega]; exact hX) (by omega) (by omega))
     have he9 : ((R.set a (gt R ((↑a + (↑i - 1) : Int).toNat))).set ((↑a + (↑i - 1) : Int).toNat) (gt R a)) = R1 := hR1.symm
     rw [he9]
     have hsl_ := hsw_.1.len
     have hBR1 := bdS_perm hB hsw_.1.perm
     refine WC.region ?_
     refine WL.mv rfl ?_
     refine WL.mv rfl ?_
     refine WL.mv rfl ?_
     refine WL.mv rfl ?_
     refine WL.mv rfl ?_
     refine WL.tM (T.callP (A := []) Tryz.call305 rfl (.refl _) (sift305 _ (L := R1) (by omega) (by first | assumption | exact bdS_sw (by assumption) _ _) hC (lo := 0) (hi := i - 1) (fst := a) (by omega) (by omega) (by omega) (by omega) (by omega) (by first | exact hsw_.2.1 | (rw [show i - 1 + 1 = i by omega]; exact hH) | (simp only [show (↑i - 1 : Int).toNat + 1 = i by omega]; exact hH)))) (by decide) (fun m10 Es_ u_ hle11 hR_ => ?_)
     obtain ⟨rfl, R12, rfl, hR13⟩ := hR_
     refine WL.nil ?_
     refine WK.nBlock ?_
     refine WK.nThen ?_
     refine WC.region ?_
     refine WL.mv rfl ?_
     refine WL.y (X.sub rfl rfl (by omega) (by omega)) ?_
     refine WL.ag rfl ?_
     refine WL.z ?_
     rw [show ((↑i : Int) - 1 - 1) = ((i - 1 : Nat) : Int) - 1 by omega]
     refine WK.back hgood1 hle11 ?_
     refine WK.next ((i - 1, R12)) rfl (.refl _) (.cons rfl (.cons rfl (.cons rfl (.cons rfl (.cons rfl .nil))))) ?_ ?_
     ·exact ⟨by omega, hpS_step (by omega) (by omega) hsw_.1 hsw_.2.2 hR13.1 hR13.2⟩
     ·(dsimp only; omega)
    ·refine WL.z ?_
     refine WC.condF rfl ?_
     refine WC.exit ?_
     refine WK.eThen ?_
     refine WK.eThen ?_
     refine WK.eHit ?_
     refine WK.end0 rfl (fun w' hw' => Ret.mut hw' ?_)
     obtain rfl : i = 0 := (by omega)
     have hfin := hpS_end hX
     rw [hn_] at hfin
     exact ⟨rfl, _, rfl, hfin⟩

theorem cmpOk149 : CmpOk 149 cmpS := ⟨Tryz.call149, fun m a b => cmp149 m _ a rfl _ b rfl, fun _ _ ha hb => cmpS_neg ha hb⟩

end Go.Proofs.T10
