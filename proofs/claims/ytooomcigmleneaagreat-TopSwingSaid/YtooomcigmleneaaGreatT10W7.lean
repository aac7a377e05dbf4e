import Derived.Test.YtooomcigmleneaaGreatKxW
import Derived.Test.YtooomcigmleneaaGreatT10W6
/- Top: walks, seventh part, by program. -/
namespace Go.Proofs.T10
open Go Go.Kx
set_option linter.unusedSimpArgs false
set_option linter.unusedVariables false

set_option maxHeartbeats 2000000 in
theorem part271 (m : Mem) {v : Value} {L : List Span} (hL : L.length ≤ 1000000) (hB : bdS L) {fc : Nat} {cf : Span → Span → Int} (hC : CmpOk fc cf) {a b pv : Nat} {za zb zpv : Int} (hza : za = a) (hzb : zb = b) (hzpv : zpv = pv) (hap : a ≤ pv) (hpb : pv < b) (hbl : b ≤ L.length) : Mut Tryz.prog 271 #[v, .int .i64 za, .int .i64 zb, .int .i64 zpv, .func (.func fc) #[] #[]] m [rowF v 23 L] (fun _ Es u => ∃ p : Nat, ∃ q : Bool, u = .tuple #[.int .i64 p, .bool q] ∧ ∃ R, Es = [rowF v 23 R] ∧ PtE Span.Lo L R a b p) := by
 subst hza
 subst hzb
 subst hzpv
 refine Mut.start Tryz.func271 rfl Tryz.ntmps271 rfl fun wld => ?_
 refine WC.r ?_
 refine WL.ag rfl ?_
 refine WL.ag rfl ?_
 refine WL.z ?_
 refine WC.seq ?_
 refine WC.draw (π := (.cons 0 (.cons 1 (.cons 2 (.cons 3 (.cons 4 (.cons 5 (.cons 6 (.cons 7 (.cons 8 (.cons 9 (.cons 10 (.cons 11 (.cons 12 (.cons 13 (.cons 14 (.cons 15 .done))))))))))))))))) [13, 15] [13, 15] rfl (by kernel_rfl) ?_
 refine DW.y rfl rfl (X.move rfl) ?_
 refine DW.y rfl rfl (X.move rfl) ?_
 refine DW.y rfl rfl (X.move rfl) ?_
 refine DW.y rfl rfl (X.move rfl) ?_
 refine DW.y rfl rfl (X.move rfl) ?_
 refine DW.y rfl rfl (X.move rfl) ?_
 refine DW.y rfl rfl (X.idxRowE (k := 0) pv Tryz.runUnderlying28 Tryz.sizeOf23 rfl rfl rfl (by omega) (by first | omega | (simp; omega) | simp)) ?_
 refine DW.y rfl rfl (X.loadFs (k := 0) (i := pv) (off := 0) (us := [.int .i64 (((gt L pv)).Lo), .int .i64 (((gt L pv)).Hi)]) Tryz.isAgg23 Tryz.sizeOf23 rfl rfl (by first | omega | (simp; omega) | simp) rfl rfl) ?_
 refine DW.y rfl rfl (X.move rfl) ?_
 refine DW.y rfl rfl (X.move rfl) ?_
 refine DW.y rfl rfl (X.idxRowE (k := 0) a Tryz.runUnderlying28 Tryz.sizeOf23 rfl rfl rfl (by omega) (by first | omega | (simp; omega) | simp)) ?_
 refine DW.y rfl rfl (X.loadFs (k := 0) (i := a) (off := 0) (us := [.int .i64 (((gt L a)).Lo), .int .i64 (((gt L a)).Hi)]) Tryz.isAgg23 Tryz.sizeOf23 rfl rfl (by first | omega | (simp; omega) | simp) rfl rfl) ?_
 refine DW.y rfl rfl (X.idxRowE (k := 0) a Tryz.runUnderlying28 Tryz.sizeOf23 rfl rfl rfl (by omega) (by first | omega | (simp; omega) | simp)) ?_
 refine DW.ts rfl rfl rfl rfl (T.storeFp (k := 0) (i := a) (off := 0) (us := [.int .i64 (((gt L pv)).Lo), .int .i64 (((gt L pv)).Hi)]) (gt L pv) Tryz.sizeOf23 rfl rfl rfl rfl (Nat.zero_lt_succ _) rfl (by first | omega | (simp; omega) | simp) rfl rfl (one_cons rfl (one_cons rfl one_nil))) ?_
 refine DW.y rfl rfl (X.idxRowE (k := 0) pv Tryz.runUnderlying28 Tryz.sizeOf23 rfl rfl rfl (by omega) (by first | omega | (simp; omega) | simp)) ?_
 refine DW.ts rfl rfl rfl rfl (T.storeFp (k := 0) (i := pv) (off := 0) (us := [.int .i64 (((gt L a)).Lo), .int .i64 (((gt L a)).Hi)]) (gt L a) Tryz.sizeOf23 rfl rfl rfl rfl (Nat.zero_lt_succ _) rfl (by first | omega | (simp; omega) | simp) rfl rfl (one_cons rfl (one_cons rfl one_nil))) ?_
 refine DW.nil ?_
 refine WK.nThen ?_
 refine WC.seq ?_
 obtain ⟨R1, hR1⟩ : ∃ qq__ : List Span, qq__ = (L.set a (gt L pv)).set pv (gt L a) := ⟨_, rfl⟩
 have hS1 : Seg L R1 a b := (by rw [hR1]; exact .sw (by omega) (by omega) (by omega))
 have he1 : ((L.set a (gt L pv)).set pv (gt L a)) = R1 := hR1.symm
 rw [he1]
 have hSl1 := hS1.len
 have hBR1 := bdS_perm hB hS1.perm
 refine WC.region ?_
 refine WL.mv rfl ?_
 refine WL.y (X.add rfl rfl (by omega) (by omega)) ?_
 refine WL.mv rfl ?_
 refine WL.y (X.sub rfl rfl (by omega) (by omega)) ?_
 refine WL.ag rfl ?_
 refine WL.ag rfl ?_
 refine WL.z ?_
 refine WC.seq ?_
 refine WC.block ?_
 obtain ⟨j0_, hj0_⟩ : ∃ qq__ : Nat, (↑b - 1 : Int) = (qq__ : Int) := ⟨(↑b - 1 : Int).toNat, (by omega)⟩
 rw [hj0_]
 obtain rfl : j0_ = b - 1 := (by omega)
 refine WC.loop (G := Nat) (fun i => b - i) (fun i => m) (fun i => [rowF (v) 23 (R1)]) (fun i => [(0, v), (1, .int .i64 (↑a)), (4, .func (.func fc) #[] #[]), (12, .int .i64 (↑i)), (13, .int .i64 (↑(b - 1)))]) (fun i => PtI Span.Lo L R1 a b i (b - 1)) (a + 1) rfl (.refl _) (.cons rfl (.cons rfl (.cons rfl (.cons rfl (.cons rfl .nil))))) ?_ ?_
 ·exact ⟨hS1, by omega, fun q h1_ h2_ => by omega, fun q h1_ h2_ => by omega⟩
 ·rintro i hF2
  show WK _ _ m [rowF (v) 23 (R1)] [(0, v), (1, .int .i64 (↑a)), (4, .func (.func fc) #[] #[]), (12, .int .i64 (↑i)), (13, .int .i64 (↑(b - 1)))] _
  replace hF2 : PtI Span.Lo L R1 a b i (b - 1) := hF2
  have hI := hF2
  have hIb := hI.bd
  refine WC.seq ?_
  refine WC.cut (G := Bool) (fun b3_ => m) (fun b3_ => [rowF (v) 23 (R1)]) (fun b3_ => [(0, v), (1, .int .i64 (↑a)), (4, .func (.func fc) #[] #[]), (12, .int .i64 (↑i)), (13, .int .i64 (↑(b - 1))), (47, .bool (b3_))]) (fun b3_ => (b3_ = true → i ≤ b - 1 ∧ cf (gt R1 i) (gt R1 a) < 0) ∧ (b3_ = false → ¬ (i ≤ b - 1 ∧ cf (gt R1 i) (gt R1 a) < 0))) ?_ ?_
  ·refine WC.draw (π := (.cons 0 (.cons 1 (.cons 2 (.cons 3 (.cons 4 (.cons 5 (.cons 6 (.cons 7 (.cons 8 (.cons 9 (.cons 10 (.cons 11 (.cons 12 (.cons 13 (.cons 14 (.cons 15 .done))))))))))))))))) [] [] rfl (by kernel_rfl) ?_
   refine DW.y rfl rfl (X.move rfl) ?_
   refine DW.y rfl rfl (X.move rfl) ?_
   refine DW.cond rfl rfl (X.leq rfl rfl) (by decide) (fun h3 => ?_) (fun h3 => ?_)
   ·refine DW.y rfl rfl (X.move rfl) ?_
    refine DW.y rfl rfl (X.move rfl) ?_
    refine DW.y rfl rfl (X.move rfl) ?_
    refine DW.y rfl rfl (X.move rfl) ?_
    refine DW.y rfl rfl (X.idxRowE (k := 0) i Tryz.runUnderlying28 Tryz.sizeOf23 rfl rfl rfl (by omega) (by first | omega | (simp; omega) | simp)) ?_
    refine DW.y rfl rfl (X.loadFs (k := 0) (i := i) (off := 0) (us := [.int .i64 (((gt R1 i)).Lo), .int .i64 (((gt R1 i)).Hi)]) Tryz.isAgg23 Tryz.sizeOf23 rfl rfl (by first | omega | (simp; omega) | simp) rfl rfl) ?_
    refine DW.y rfl rfl (X.move rfl) ?_
    refine DW.y rfl rfl (X.move rfl) ?_
    refine DW.y rfl rfl (X.idxRowE (k := 0) a Tryz.runUnderlying28 Tryz.sizeOf23 rfl rfl rfl (by omega) (by first | omega | (simp; omega) | simp)) ?_
    refine DW.y rfl rfl (X.loadFs (k := 0) (i := a) (off := 0) (us := [.int .i64 (((gt R1 a)).Lo), .int .i64 (((gt R1 a)).Hi)]) Tryz.isAgg23 Tryz.sizeOf23 rfl rfl (by first | omega | (simp; omega) | simp) rfl rfl) ?_
    refine DW.y rfl rfl (X.callc hC.1 rfl rfl (hC.2.1 _ (gt R1 i) (gt R1 a))) ?_
    refine DW.cond rfl rfl (X.lss rfl rfl) (by decide) (fun h4 => ?_) (fun h4 => ?_)
    ·refine DW.y rfl rfl (X.pickT rfl rfl rfl) ?_
     refine DW.nil ?_
     refine WK.nThen ?_
     refine WK.meet true rfl (.refl _) (.cons rfl (.cons rfl (.cons rfl (.cons rfl (.cons rfl (.cons rfl .nil)))))) ?_
     exact ⟨fun h_ => by first | (cases h_; done) | exact ⟨by omega, of_decide_eq_true h_⟩ | exact ⟨by omega, by assumption⟩, fun h_ hn_ => by first | (cases h_; done) | exact absurd hn_.2 (of_decide_eq_false h_) | omega | exact absurd hn_.2 (by assumption)⟩
    ·refine DW.y rfl rfl (X.pickT rfl rfl rfl) ?_
     refine DW.nil ?_
     refine WK.nThen ?_
     refine WK.meet false rfl (.refl _) (.cons rfl (.cons rfl (.cons rfl (.cons rfl (.cons rfl (.cons rfl .nil)))))) ?_
     exact ⟨fun h_ => by first | (cases h_; done) | exact ⟨by omega, of_decide_eq_true h_⟩ | exact ⟨by omega, by assumption⟩, fun h_ hn_ => by first | (cases h_; done) | exact absurd hn_.2 (of_decide_eq_false h_) | omega | exact absurd hn_.2 (by assumption)⟩
   ·refine DW.y rfl rfl (X.move rfl) ?_
    refine DW.no rfl rfl (by decide) ?_
    refine DW.no rfl rfl (by decide) ?_
    refine DW.no rfl rfl (by decide) ?_
    refine DW.no rfl rfl (by decide) ?_
    refine DW.no rfl rfl (by decide) ?_
    refine DW.no rfl rfl (by decide) ?_
    refine DW.no rfl rfl (by decide) ?_
    refine DW.no rfl rfl (by decide) ?_
    refine DW.no rfl rfl (by decide) ?_
    refine DW.no rfl rfl (by decide) ?_
    refine DW.no rfl rfl (by decide) ?_
    refine DW.y rfl rfl (X.pickF rfl rfl rfl) ?_
    refine DW.nil ?_
    refine WK.nThen ?_
    refine WK.meet false rfl (.refl _) (.cons rfl (.cons rfl (.cons rfl (.cons rfl (.cons rfl (.cons rfl .nil)))))) ?_
    exact ⟨fun h_ => by first | (cases h_; done) | exact ⟨by omega, of_decide_eq_true h_⟩ | exact ⟨by omega, by assumption⟩, fun h_ hn_ => by first | (cases h_; done) | exact absurd hn_.2 (of_decide_eq_false h_) | omega | exact absurd hn_.2 (by assumption)⟩
  ·rintro b3_ hF5
   show WK _ _ m [rowF (v) 23 (R1)] [(0, v), (1, .int .i64 (↑a)), (4, .func (.func fc) #[] #[]), (12, .int .i64 (↑i)), (13, .int .i64 (↑(b - 1))), (47, .bool (b3_))] _
   replace hF5 : (b3_ = true → i ≤ b - 1 ∧ cf (gt R1 i) (gt R1 a) < 0) ∧ (b3_ = false → ¬ (i ≤ b - 1 ∧ cf (gt R1 i) (gt R1 a) < 0)) := hF5
   obtain ⟨hyes3_, hno3_⟩ := hF5
   refine WC.condb rfl (fun h6 => ?_) (fun h6 => ?_)
   ·refine WC.skip ?_
    refine WK.nThen ?_
    refine WC.block ?_
    have hy3_ := hyes3_ (by assumption)
    refine WC.region ?_
    refine WL.mv rfl ?_
    refine WL.y (X.add rfl rfl (by omega) (by omega)) ?_
    refine WL.ag rfl ?_
    refine WL.nil ?_
    refine WK.nBlock ?_
    refine WK.nThen ?_
    refine WK.next (i + 1) rfl (.refl _) (.cons rfl (.cons rfl (.cons rfl (.cons rfl (.cons rfl .nil))))) ?_ ?_
    ·exact pt_i hI (by omega) ((hC.cl hBR1).1 hy3_.2)
    ·((try dsimp only); omega)
   ·refine WC.exit ?_
    refine WK.eThen ?_
    refine WK.eThen ?_
    refine WK.eHit ?_
    refine WK.nThen ?_
    refine WC.seq ?_
    refine WC.block ?_
    refine WC.loop (G := Nat) (fun j => j) (fun j => m) (fun j => [rowF (v) 23 (R1)]) (fun j => [(0, v), (1, .int .i64 (↑a)), (4, .func (.func fc) #[] #[]), (12, .int .i64 (↑i)), (13, .int .i64 (↑j))]) (fun j => PtI Span.Lo L R1 a b i j ∧ j ≤ b - 1) (b - 1) rfl (.refl _) (.cons rfl (.cons rfl (.cons rfl (.cons rfl (.cons rfl .nil))))) ?_ ?_
    ·exact ⟨hI, Nat.le_refl _⟩
    ·rintro j hF7
     show WK _ _ m [rowF (v) 23 (R1)] [(0, v), (1, .int .i64 (↑a)), (4, .func (.func fc) #[] #[]), (12, .int .i64 (↑i)), (13, .int .i64 (↑j))] _
     replace hF7 : PtI Span.Lo L R1 a b i j ∧ j ≤ b - 1 := hF7
     obtain ⟨hJ, hjb⟩ := hF7
     have hJb := hJ.bd
     refine WC.seq ?_
     refine WC.cut (G := Bool) (fun b5_ => m) (fun b5_ => [rowF (v) 23 (R1)]) (fun b5_ => [(0, v), (1, .int .i64 (↑a)), (4, .func (.func fc) #[] #[]), (12, .int .i64 (↑i)), (13, .int .i64 (↑j)), (66, .bool (b5_))]) (fun b5_ => (b5_ = true → i ≤ j ∧ ¬ cf (gt R1 j) (gt R1 a) < 0) ∧ (b5_ = false → ¬ (i ≤ j ∧ ¬ cf (gt R1 j) (gt R1 a) < 0))) ?_ ?_
     ·refine WC.draw (π := (.cons 0 (.cons 1 (.cons 2 (.cons 3 (.cons 4 (.cons 5 (.cons 6 (.cons 7 (.cons 8 (.cons 9 (.cons 10 (.cons 11 (.cons 12 (.cons 13 (.cons 14 (.cons 15 (.cons 16 .done)))))))))))))))))) [] [] rfl (by kernel_rfl) ?_
      refine DW.y rfl rfl (X.move rfl) ?_
      refine DW.y rfl rfl (X.move rfl) ?_
      refine DW.cond rfl rfl (X.leq rfl rfl) (by decide) (fun h8 => ?_) (fun h8 => ?_)
      ·refine DW.y rfl rfl (X.move rfl) ?_
       refine DW.y rfl rfl (X.move rfl) ?_
       refine DW.y rfl rfl (X.move rfl) ?_
       refine DW.y rfl rfl (X.move rfl) ?_
       refine DW.y rfl rfl (X.idxRowE (k := 0) j Tryz.runUnderlying28 Tryz.sizeOf23 rfl rfl rfl (by omega) (by first | omega | (simp; omega) | simp)) ?_
       refine DW.y rfl rfl (X.loadFs (k := 0) (i := j) (off := 0) (us := [.int .i64 (((gt R1 j)).Lo), .int .i64 (((gt R1 j)).Hi)]) Tryz.isAgg23 Tryz.sizeOf23 rfl rfl (by first | omega | (simp; omega) | simp) rfl rfl) ?_
       refine DW.y rfl rfl (X.move rfl) ?_
       refine DW.y rfl rfl (X.move rfl) ?_
       refine DW.y rfl rfl (X.idxRowE (k := 0) a Tryz.runUnderlying28 Tryz.sizeOf23 rfl rfl rfl (by omega) (by first | omega | (simp; omega) | simp)) ?_
       refine DW.y rfl rfl (X.loadFs (k := 0) (i := a) (off := 0) (us := [.int .i64 (((gt R1 a)).Lo), .int .i64 (((gt R1 a)).Hi)]) Tryz.isAgg23 Tryz.sizeOf23 rfl rfl (by first | omega | (simp; omega) | simp) rfl rfl) ?_
       refine DW.y rfl rfl (X.callc hC.1 rfl rfl (hC.2.1 _ (gt R1 j) (gt R1 a))) ?_
       refine DW.cond rfl rfl (X.lss rfl rfl) (by decide) (fun h9 => ?_) (fun h9 => ?_)
       ·refine DW.y rfl rfl (X.not rfl) ?_
        refine DW.y rfl rfl (X.pickT rfl rfl rfl) ?_
        refine DW.nil ?_
        refine WK.nThen ?_
        refine WK.meet false rfl (.refl _) (.cons rfl (.cons rfl (.cons rfl (.cons rfl (.cons rfl (.cons rfl .nil)))))) ?_
        exact ⟨fun h_ => by first | (cases h_; done) | exact ⟨by omega, of_decide_eq_true h_⟩ | exact ⟨by omega, by assumption⟩, fun h_ hn_ => by first | (cases h_; done) | exact absurd hn_.2 (of_decide_eq_false h_) | omega | exact absurd hn_.2 (by assumption)⟩
       ·refine DW.y rfl rfl (X.not rfl) ?_
        refine DW.y rfl rfl (X.pickT rfl rfl rfl) ?_
        refine DW.nil ?_
        refine WK.nThen ?_
        refine WK.meet true rfl (.refl _) (.cons rfl (.cons rfl (.cons rfl (.cons rfl (.cons rfl (.cons rfl .nil)))))) ?_
        exact ⟨fun h_ => by first | (cases h_; done) | exact ⟨by omega, of_decide_eq_true h_⟩ | exact ⟨by omega, by assumption⟩, fun h_ hn_ => by first | (cases h_; done) | exact absurd hn_.2 (of_decide_eq_false h_) | omega | exact absurd hn_.2 (by assumption)⟩
      ·refine DW.y rfl rfl (X.move rfl) ?_
       refine DW.no rfl rfl (by decide) ?_
       refine DW.no rfl rfl (by decide) ?_
       refine DW.no rfl rfl (by decide) ?_
       refine DW.no rfl rfl (by decide) ?_
       refine DW.no rfl rfl (by decide) ?_
       refine DW.no rfl rfl (by decide) ?_
       refine DW.no rfl rfl (by decide) ?_
       refine DW.no rfl rfl (by decide) ?_
       refine DW.no rfl rfl (by decide) ?_
       refine DW.no rfl rfl (by decide) ?_
       refine DW.no rfl rfl (by decide) ?_
       refine DW.no rfl rfl (by decide) ?_
       refine DW.y rfl rfl (X.pickF rfl rfl rfl) ?_
       refine DW.nil ?_
       refine WK.nThen ?_
       refine WK.meet false rfl (.refl _) (.cons rfl (.cons rfl (.cons rfl (.cons rfl (.cons rfl (.cons rfl .nil)))))) ?_
       exact ⟨fun h_ => by first | (cases h_; done) | exact ⟨by omega, of_decide_eq_true h_⟩ | exact ⟨by omega, by assumption⟩, fun h_ hn_ => by first | (cases h_; done) | exact absurd hn_.2 (of_decide_eq_false h_) | omega | exact absurd hn_.2 (by assumption)⟩
     ·rintro b5_ hF10
      show WK _ _ m [rowF (v) 23 (R1)] [(0, v), (1, .int .i64 (↑a)), (4, .func (.func fc) #[] #[]), (12, .int .i64 (↑i)), (13, .int .i64 (↑j)), (66, .bool (b5_))] _
      replace hF10 : (b5_ = true → i ≤ j ∧ ¬ cf (gt R1 j) (gt R1 a) < 0) ∧ (b5_ = false → ¬ (i ≤ j ∧ ¬ cf (gt R1 j) (gt R1 a) < 0)) := hF10
      obtain ⟨hyes5_, hno5_⟩ := hF10
      refine WC.condb rfl (fun h11 => ?_) (fun h11 => ?_)
      ·refine WC.skip ?_
       refine WK.nThen ?_
       refine WC.block ?_
       have hy5_ := hyes5_ (by assumption)
       refine WC.region ?_
       refine WL.mv rfl ?_
       refine WL.y (X.sub rfl rfl (by omega) (by omega)) ?_
       refine WL.ag rfl ?_
       refine WL.nil ?_
       refine WK.nBlock ?_
       refine WK.nThen ?_
       obtain ⟨j1_, hj1_⟩ : ∃ qq__ : Nat, (↑j - 1 : Int) = (qq__ : Int) := ⟨(↑j - 1 : Int).toNat, (by omega)⟩
       rw [hj1_]
       obtain rfl : j1_ = j - 1 := (by omega)
       refine WK.next (j - 1) rfl (.refl _) (.cons rfl (.cons rfl (.cons rfl (.cons rfl (.cons rfl .nil))))) ?_ ?_
       ·exact ⟨pt_j hJ (by omega) (fun h_ => hy5_.2 ((hC.cl hBR1).2 h_)), by omega⟩
       ·((try dsimp only); omega)
      ·refine WC.exit ?_
       refine WK.eThen ?_
       refine WK.eThen ?_
       refine WK.eHit ?_
       refine WK.nThen ?_
       refine WC.seq ?_
       refine WC.r ?_
       refine WL.mv rfl ?_
       refine WL.mv rfl ?_
       refine WL.cond (X.gtr rfl rfl) (by decide) (fun h12 => ?_) (fun h12 => ?_)
       ·refine WL.z ?_
        refine WC.condT rfl ?_
        refine WC.seq ?_
        refine WC.draw (π := (.cons 0 (.cons 1 (.cons 2 (.cons 3 (.cons 4 (.cons 5 (.cons 6 (.cons 7 (.cons 8 (.cons 9 (.cons 10 (.cons 11 (.cons 12 (.cons 13 (.cons 14 (.cons 15 .done))))))))))))))))) [13, 15] [13, 15] rfl (by kernel_rfl) ?_
        refine DW.y rfl rfl (X.move rfl) ?_
        refine DW.y rfl rfl (X.move rfl) ?_
        refine DW.y rfl rfl (X.move rfl) ?_
        refine DW.y rfl rfl (X.move rfl) ?_
        refine DW.y rfl rfl (X.move rfl) ?_
        refine DW.y rfl rfl (X.move rfl) ?_
        refine DW.y rfl rfl (X.idxRowE (k := 0) a Tryz.runUnderlying28 Tryz.sizeOf23 rfl rfl rfl (by omega) (by first | omega | (simp; omega) | simp)) ?_
        refine DW.y rfl rfl (X.loadFs (k := 0) (i := a) (off := 0) (us := [.int .i64 (((gt R1 a)).Lo), .int .i64 (((gt R1 a)).Hi)]) Tryz.isAgg23 Tryz.sizeOf23 rfl rfl (by first | omega | (simp; omega) | simp) rfl rfl) ?_
        refine DW.y rfl rfl (X.move rfl) ?_
        refine DW.y rfl rfl (X.move rfl) ?_
        refine DW.y rfl rfl (X.idxRowE (k := 0) j Tryz.runUnderlying28 Tryz.sizeOf23 rfl rfl rfl (by omega) (by first | omega | (simp; omega) | simp)) ?_
        refine DW.y rfl rfl (X.loadFs (k := 0) (i := j) (off := 0) (us := [.int .i64 (((gt R1 j)).Lo), .int .i64 (((gt R1 j)).Hi)]) Tryz.isAgg23 Tryz.sizeOf23 rfl rfl (by first | omega | (simp; omega) | simp) rfl rfl) ?_
        refine DW.y rfl rfl (X.idxRowE (k := 0) j Tryz.runUnderlying28 Tryz.sizeOf23 rfl rfl rfl (by omega) (by first | omega | (simp; omega) | simp)) ?_
        refine DW.ts rfl rfl rfl rfl (T.storeFp (k := 0) (i := j) (off := 0) (us := [.int .i64 (((gt R1 a)).Lo), .int .i64 (((gt R1 a)).Hi)]) (gt R1 a) Tryz.sizeOf23 rfl rfl rfl rfl (Nat.zero_lt_succ _) rfl (by first | omega | (simp; omega) | simp) rfl rfl (one_cons rfl (one_cons rfl one_nil))) ?_
        refine DW.y rfl rfl (X.idxRowE (k := 0) a Tryz.runUnderlying28 Tryz.sizeOf23 rfl rfl rfl (by omega) (by first | omega | (simp; omega) | simp)) ?_
        refine DW.ts rfl rfl rfl rfl (T.storeFp (k := 0) (i := a) (off := 0) (us := [.int .i64 (((gt R1 j)).Lo), .int .i64 (((gt R1 j)).Hi)]) (gt R1 j) Tryz.sizeOf23 rfl rfl rfl rfl (Nat.zero_lt_succ _) rfl (by first | omega | (simp; omega) | simp) rfl rfl (one_cons rfl (one_cons rfl one_nil))) ?_
        refine DW.nil ?_
        refine WK.nThen ?_
        refine WC.r ?_
        refine WL.mv rfl ?_
        refine WL.ag rfl ?_
        refine WL.ag rfl ?_
        refine WL.z ?_
        refine WC.ret ?_
        refine WK.rThen ?_
        refine WK.ret2 rfl rfl rfl (fun w' hw' => Ret.mut hw' ?_)
        exact ⟨_, _, rfl, _, rfl, pt_end hJ hbl (by omega)⟩
       ·refine WL.z ?_
        refine WC.condF rfl ?_
        refine WC.skip ?_
        refine WK.nThen ?_
        refine WC.seq ?_
        refine WC.draw (π := (.cons 0 (.cons 1 (.cons 2 (.cons 3 (.cons 4 (.cons 5 (.cons 6 (.cons 7 (.cons 8 (.cons 9 (.cons 10 (.cons 11 (.cons 12 (.cons 13 (.cons 14 (.cons 15 .done))))))))))))))))) [13, 15] [13, 15] rfl (by kernel_rfl) ?_
        refine DW.y rfl rfl (X.move rfl) ?_
        refine DW.y rfl rfl (X.move rfl) ?_
        refine DW.y rfl rfl (X.move rfl) ?_
        refine DW.y rfl rfl (X.move rfl) ?_
        refine DW.y rfl rfl (X.move rfl) ?_
        refine DW.y rfl rfl (X.move rfl) ?_
        refine DW.y rfl rfl (X.idxRowE (k := 0) j Tryz.runUnderlying28 Tryz.sizeOf23 rfl rfl rfl (by omega) (by first | omega | (simp; omega) | simp)) ?_
        refine DW.y rfl rfl (X.loadFs (k := 0) (i := j) (off := 0) (us := [.int .i64 (((gt R1 j)).Lo), .int .i64 (((gt R1 j)).Hi)]) Tryz.isAgg23 Tryz.sizeOf23 rfl rfl (by first | omega | (simp; omega) | simp) rfl rfl) ?_
        refine DW.y rfl rfl (X.move rfl) ?_
        refine DW.y rfl rfl (X.move rfl) ?_
        refine DW.y rfl rfl (X.idxRowE (k := 0) i Tryz.runUnderlying28 Tryz.sizeOf23 rfl rfl rfl (by omega) (by first | omega | (simp; omega) | simp)) ?_
        refine DW.y rfl rfl (X.loadFs (k := 0) (i := i) (off := 0) (us := [.int .i64 (((gt R1 i)).Lo), .int .i64 (((gt R1 i)).Hi)]) Tryz.isAgg23 Tryz.sizeOf23 rfl rfl (by first | omega | (simp; omega) | simp) rfl rfl) ?_
        refine DW.y rfl rfl (X.idxRowE (k := 0) i Tryz.runUnderlying28 Tryz.sizeOf23 rfl rfl rfl (by omega) (by first | omega | (simp; omega) | simp)) ?_
        refine DW.ts rfl rfl rfl rfl (T.storeFp (k := 0) (i := i) (off := 0) (us := [.int .i64 (((gt R1 j)).Lo), .int .i64 (((gt R1 j)).Hi)]) (gt R1 j) Tryz.sizeOf23 rfl rfl rfl rfl (Nat.zero_lt_succ _) rfl (by first | omega | (simp; omega) | simp) rfl rfl (one_cons rfl (one_cons rfl one_nil))) ?_
        refine DW.y rfl rfl (X.idxRowE (k := 0) j Tryz.runUnderlying28 Tryz.sizeOf23 rfl rfl rfl (by omega) (by first | omega | (simp; omega) | simp)) ?_
        refine DW.ts rfl rfl rfl rfl (T.storeFp (k := 0) (i := j) (off := 0) (us := [.int .i64 (((gt R1 i)).Lo), .int .i64 (((gt R1 i)).Hi)]) (gt R1 i) Tryz.sizeOf23 rfl rfl rfl rfl (Nat.zero_lt_succ _) rfl (by first | omega | (simp; omega) | simp) rfl rfl (one_cons rfl (one_cons rfl one_nil))) ?_
        refine DW.nil ?_
        refine WK.nThen ?_
        refine WC.r ?_
        refine WL.mv rfl ?_
        refine WL.y (X.add rfl rfl (by omega) (by omega)) ?_
        refine WL.ag rfl ?_
        refine WL.z ?_
        refine WC.r ?_
        refine WL.mv rfl ?_
        refine WL.y (X.sub rfl rfl (by omega) (by omega)) ?_
        refine WL.ag rfl ?_
        refine WL.nil ?_
        obtain ⟨q0_, hq0_⟩ : ∃ qq__ : Nat, (↑j - 1 : Int) = (qq__ : Int) := ⟨(↑j - 1 : Int).toNat, (by omega)⟩
        rw [hq0_]
        obtain rfl : q0_ = j - 1 := (by omega)
        refine WK.nThen ?_
        refine WC.seq ?_
        refine WC.block ?_
        refine WC.loop (G := Nat × Nat × List Span) (fun (p, q, R) => q + 1 - p) (fun (p, q, R) => m) (fun (p, q, R) => [rowF (v) 23 (R)]) (fun (p, q, R) => [(0, v), (1, .int .i64 (↑a)), (4, .func (.func fc) #[] #[]), (12, .int .i64 (↑p)), (13, .int .i64 (↑q))]) (fun (p, q, R) => PtI Span.Lo L R a b p q) ((i + 1, j - 1, (R1.set i (gt R1 j)).set j (gt R1 i))) rfl (.refl _) (.cons rfl (.cons rfl (.cons rfl (.cons rfl (.cons rfl .nil))))) ?_ ?_
        ·exact pt_sw hJ hbl (by omega) (fun h_ => hno3_ (by assumption) ⟨by omega, (hC.cl hBR1 (i := i) (j := a)).2 h_⟩) (Classical.byContradiction fun h_ => hno5_ (by assumption) ⟨by omega, fun h1_ => h_ ((hC.cl hBR1 (i := j) (j := a)).1 h1_)⟩)
        ·rintro ⟨p, q, R⟩ hF13
         show WK _ _ m [rowF (v) 23 (R)] [(0, v), (1, .int .i64 (↑a)), (4, .func (.func fc) #[] #[]), (12, .int .i64 (↑p)), (13, .int .i64 (↑q))] _
         replace hF13 : PtI Span.Lo L R a b p q := hF13
         have hP := hF13
         have hPl := hP.seg.len
         have hPb := hP.bd
         have hBR := bdS_perm hB hP.seg.perm
         refine WC.block ?_
         refine WC.seq ?_
         refine WC.block ?_
         refine WC.loop (G := Nat) (fun x => q + 1 - x) (fun x => m) (fun x => [rowF (v) 23 (R)]) (fun x => [(0, v), (1, .int .i64 (↑a)), (4, .func (.func fc) #[] #[]), (12, .int .i64 (↑x)), (13, .int .i64 (↑q))]) (fun x => PtI Span.Lo L R a b x q ∧ p ≤ x) p rfl (.refl _) (.cons rfl (.cons rfl (.cons rfl (.cons rfl (.cons rfl .nil))))) ?_ ?_
         ·exact ⟨hP, Nat.le_refl _⟩
         ·rintro x hF14
          show WK _ _ m [rowF (v) 23 (R)] [(0, v), (1, .int .i64 (↑a)), (4, .func (.func fc) #[] #[]), (12, .int .i64 (↑x)), (13, .int .i64 (↑q))] _
          replace hF14 : PtI Span.Lo L R a b x q ∧ p ≤ x := hF14
          obtain ⟨hX, hpx⟩ := hF14
          have hXb := hX.bd
          refine WC.seq ?_
          refine WC.cut (G := Bool) (fun b13_ => m) (fun b13_ => [rowF (v) 23 (R)]) (fun b13_ => [(0, v), (1, .int .i64 (↑a)), (4, .func (.func fc) #[] #[]), (12, .int .i64 (↑x)), (13, .int .i64 (↑q)), (120, .bool (b13_))]) (fun b13_ => (b13_ = true → x ≤ q ∧ cf (gt R x) (gt R a) < 0) ∧ (b13_ = false → ¬ (x ≤ q ∧ cf (gt R x) (gt R a) < 0))) ?_ ?_
          ·refine WC.draw (π := (.cons 0 (.cons 1 (.cons 2 (.cons 3 (.cons 4 (.cons 5 (.cons 6 (.cons 7 (.cons 8 (.cons 9 (.cons 10 (.cons 11 (.cons 12 (.cons 13 (.cons 14 (.cons 15 .done))))))))))))))))) [] [] rfl (by kernel_rfl) ?_
           refine DW.y rfl rfl (X.move rfl) ?_
           refine DW.y rfl rfl (X.move rfl) ?_
           refine DW.cond rfl rfl (X.leq rfl rfl) (by decide) (fun h15 => ?_) (fun h15 => ?_)
           ·refine DW.y rfl rfl (X.move rfl) ?_
            refine DW.y rfl rfl (X.move rfl) ?_
            refine DW.y rfl rfl (X.move rfl) ?_
            refine DW.y rfl rfl (X.move rfl) ?_
            refine DW.y rfl rfl (X.idxRowE (k := 0) x Tryz.runUnderlying28 Tryz.sizeOf23 rfl rfl rfl (by omega) (by first | omega | (simp; omega) | simp)) ?_
            refine DW.y rfl rfl (X.loadFs (k := 0) (i := x) (off := 0) (us := [.int .i64 (((gt R x)).Lo), .int .i64 (((gt R x)).Hi)]) Tryz.isAgg23 Tryz.sizeOf23 rfl rfl (by first | omega | (simp; omega) | simp) rfl rfl) ?_
            refine DW.y rfl rfl (X.move rfl) ?_
            refine DW.y rfl rfl (X.move rfl) ?_
            refine DW.y rfl rfl (X.idxRowE (k := 0) a Tryz.runUnderlying28 Tryz.sizeOf23 rfl rfl rfl (by omega) (by first | omega | (simp; omega) | simp)) ?_
            refine DW.y rfl rfl (X.loadFs (k := 0) (i := a) (off := 0) (us := [.int .i64 (((gt R a)).Lo), .int .i64 (((gt R a)).Hi)]) Tryz.isAgg23 Tryz.sizeOf23 rfl rfl (by first | omega | (simp; omega) | simp) rfl rfl) ?_
            refine DW.y rfl rfl (X.callc hC.1 rfl rfl (hC.2.1 _ (gt R x) (gt R a))) ?_
            refine DW.cond rfl rfl (X.lss rfl rfl) (by decide) (fun h16 => ?_) (fun h16 => ?_)
            ·refine DW.y rfl rfl (X.pickT rfl rfl rfl) ?_
             refine DW.nil ?_
             refine WK.nThen ?_
             refine WK.meet true rfl (.refl _) (.cons rfl (.cons rfl (.cons rfl (.cons rfl (.cons rfl (.cons rfl .nil)))))) ?_
             exact ⟨fun h_ => by first | (cases h_; done) | exact ⟨by omega, of_decide_eq_true h_⟩ | exact ⟨by omega, by assumption⟩, fun h_ hn_ => by first | (cases h_; done) | exact absurd hn_.2 (of_decide_eq_false h_) | omega | exact absurd hn_.2 (by assumption)⟩
            ·refine DW.y rfl rfl (X.pickT rfl rfl rfl) ?_
             refine DW.nil ?_
             refine WK.nThen ?_
             refine WK.meet false rfl (.refl _) (.cons rfl (.cons rfl (.cons rfl (.cons rfl (.cons rfl (.cons rfl .nil)))))) ?_
             exact ⟨fun h_ => by first | (cases h_; done) | exact ⟨by omega, of_decide_eq_true h_⟩ | exact ⟨by omega, by assumption⟩, fun h_ hn_ => by first | (cases h_; done) | exact absurd hn_.2 (of_decide_eq_false h_) | omega | exact absurd hn_.2 (by assumption)⟩
           ·refine DW.y rfl rfl (X.move rfl) ?_
            refine DW.no rfl rfl (by decide) ?_
            refine DW.no rfl rfl (by decide) ?_
            refine DW.no rfl rfl (by decide) ?_
            refine DW.no rfl rfl (by decide) ?_
            refine DW.no rfl rfl (by decide) ?_
            refine DW.no rfl rfl (by decide) ?_
            refine DW.no rfl rfl (by decide) ?_
            refine DW.no rfl rfl (by decide) ?_
            refine DW.no rfl rfl (by decide) ?_
            refine DW.no rfl rfl (by decide) ?_
            refine DW.no rfl rfl (by decide) ?_
            refine DW.y rfl rfl (X.pickF rfl rfl rfl) ?_
            refine DW.nil ?_
            refine WK.nThen ?_
            refine WK.meet false rfl (.refl _) (.cons rfl (.cons rfl (.cons rfl (.cons rfl (.cons rfl (.cons rfl .nil)))))) ?_
            exact ⟨fun h_ => by first | (cases h_; done) | exact ⟨by omega, of_decide_eq_true h_⟩ | exact ⟨by omega, by assumption⟩, fun h_ hn_ => by first | (cases h_; done) | exact absurd hn_.2 (of_decide_eq_false h_) | omega | exact absurd hn_.2 (by assumption)⟩
          ·rintro b13_ hF17
           show WK _ _ m [rowF (v) 23 (R)] [(0, v), (1, .int .i64 (↑a)), (4, .func (.func fc) #[] #[]), (12, .int .i64 (↑x)), (13, .int .i64 (↑q)), (120, .bool (b13_))] _
           replace hF17 : (b13_ = true → x ≤ q ∧ cf (gt R x) (gt R a) < 0) ∧ (b13_ = false → ¬ (x ≤ q ∧ cf (gt R x) (gt R a) < 0)) := hF17
           obtain ⟨hyes13_, hno13_⟩ := hF17
           refine WC.condb rfl (fun h18 => ?_) (fun h18 => ?_)
           ·refine WC.skip ?_
            refine WK.nThen ?_
            refine WC.block ?_
            have hy13_ := hyes13_ (by assumption)
            refine WC.region ?_
            refine WL.mv rfl ?_
            refine WL.y (X.add rfl rfl (by omega) (by omega)) ?_
            refine WL.ag rfl ?_
            refine WL.nil ?_
            refine WK.nBlock ?_
            refine WK.nThen ?_
            refine WK.next (x + 1) rfl (.refl _) (.cons rfl (.cons rfl (.cons rfl (.cons rfl (.cons rfl .nil))))) ?_ ?_
            ·exact ⟨pt_i hX (by omega) ((hC.cl hBR).1 hy13_.2), by omega⟩
            ·((try dsimp only); omega)
           ·refine WC.exit ?_
            refine WK.eThen ?_
            refine WK.eThen ?_
            refine WK.eHit ?_
            refine WK.nThen ?_
            refine WC.seq ?_
            refine WC.block ?_
            refine WC.loop (G := Nat) (fun y => y) (fun y => m) (fun y => [rowF (v) 23 (R)]) (fun y => [(0, v), (1, .int .i64 (↑a)), (4, .func (.func fc) #[] #[]), (12, .int .i64 (↑x)), (13, .int .i64 (↑y))]) (fun y => PtI Span.Lo L R a b x y ∧ y ≤ q) q rfl (.refl _) (.cons rfl (.cons rfl (.cons rfl (.cons rfl (.cons rfl .nil))))) ?_ ?_
            ·exact ⟨hX, Nat.le_refl _⟩
            ·rintro y hF19
             show WK _ _ m [rowF (v) 23 (R)] [(0, v), (1, .int .i64 (↑a)), (4, .func (.func fc) #[] #[]), (12, .int .i64 (↑x)), (13, .int .i64 (↑y))] _
             replace hF19 : PtI Span.Lo L R a b x y ∧ y ≤ q := hF19
             obtain ⟨hY, hyq⟩ := hF19
             have hYb := hY.bd
             refine WC.seq ?_
             refine WC.cut (G := Bool) (fun b15_ => m) (fun b15_ => [rowF (v) 23 (R)]) (fun b15_ => [(0, v), (1, .int .i64 (↑a)), (4, .func (.func fc) #[] #[]), (12, .int .i64 (↑x)), (13, .int .i64 (↑y)), (139, .bool (b15_))]) (fun b15_ => (b15_ = true → x ≤ y ∧ ¬ cf (gt R y) (gt R a) < 0) ∧ (b15_ = false → ¬ (x ≤ y ∧ ¬ cf (gt R y) (gt R a) < 0))) ?_ ?_
             ·refine WC.draw (π := (.cons 0 (.cons 1 (.cons 2 (.cons 3 (.cons 4 (.cons 5 (.cons 6 (.cons 7 (.cons 8 (.cons 9 (.cons 10 (.cons 11 (.cons 12 (.cons 13 (.cons 14 (.cons 15 (.cons 16 .done)))))))))))))))))) [] [] rfl (by kernel_rfl) ?_
              refine DW.y rfl rfl (X.move rfl) ?_
              refine DW.y rfl rfl (X.move rfl) ?_
              refine DW.cond rfl rfl (X.leq rfl rfl) (by decide) (fun h20 => ?_) (fun h20 => ?_)
              ·refine DW.y rfl rfl (X.move rfl) ?_
               refine DW.y rfl rfl (X.move rfl) ?_
               refine DW.y rfl rfl (X.move rfl) ?_
               refine DW.y rfl rfl (X.move rfl) ?_
               refine DW.y rfl rfl (X.idxRowE (k := 0) y Tryz.runUnderlying28 Tryz.sizeOf23 rfl rfl rfl (by omega) (by first | omega | (simp; omega) | simp)) ?_
               refine DW.y rfl rfl (X.loadFs (k := 0) (i := y) (off := 0) (us := [.int .i64 (((gt R y)).Lo), .int .i64 (((gt R y)).Hi)]) Tryz.isAgg23 Tryz.sizeOf23 rfl rfl (by first | omega | (simp; omega) | simp) rfl rfl) ?_
               refine DW.y rfl rfl (X.move rfl) ?_
               refine DW.y rfl rfl (X.move rfl) ?_
               refine DW.y rfl rfl (X.idxRowE (k := 0) a Tryz.runUnderlying28 Tryz.sizeOf23 rfl rfl rfl (by omega) (by first | omega | (simp; omega) | simp)) ?_
               refine DW.y rfl rfl (X.loadFs (k := 0) (i := a) (off := 0) (us := [.int .i64 (((gt R a)).Lo), .int .i64 (((gt R a)).Hi)]) Tryz.isAgg23 Tryz.sizeOf23 rfl rfl (by first | omega | (simp; omega) | simp) rfl rfl) ?_
               refine DW.y rfl rfl (X.callc hC.1 rfl rfl (hC.2.1 _ (gt R y) (gt R a))) ?_
               refine DW.cond rfl rfl (X.lss rfl rfl) (by decide) (fun h21 => ?_) (fun h21 => ?_)
               ·refine DW.y rfl rfl (X.not rfl) ?_
                refine DW.y rfl rfl (X.pickT rfl rfl rfl) ?_
                refine DW.nil ?_
                refine WK.nThen ?_
                refine WK.meet false rfl (.refl _) (.cons rfl (.cons rfl (.cons rfl (.cons rfl (.cons rfl (.cons rfl .nil)))))) ?_
                exact ⟨fun h_ => by first | (cases h_; done) | exact ⟨by omega, of_decide_eq_true h_⟩ | exact ⟨by omega, by assumption⟩, fun h_ hn_ => by first | (cases h_; done) | exact absurd hn_.2 (of_decide_eq_false h_) | omega | exact absurd hn_.2 (by assumption)⟩
               ·refine DW.y rfl rfl (X.not rfl) ?_
                refine DW.y rfl rfl (X.pickT rfl rfl rfl) ?_
                refine DW.nil ?_
                refine WK.nThen ?_
                refine WK.meet true rfl (.refl _) (.cons rfl (.cons rfl (.cons rfl (.cons rfl (.cons rfl (.cons rfl .nil)))))) ?_
                exact ⟨fun h_ => by first | (cases h_; done) | exact ⟨by omega, of_decide_eq_true h_⟩ | exact ⟨by omega, by assumption⟩, fun h_ hn_ => by first | (cases h_; done) | exact absurd hn_.2 (of_decide_eq_false h_) | omega | exact absurd hn_.2 (by assumption)⟩
              ·refine DW.y rfl rfl (X.move rfl) ?_
               refine DW.no rfl rfl (by decide) ?_
               refine DW.no rfl rfl (by decide) ?_
               refine DW.no rfl rfl (by decide) ?_
               refine DW.no rfl rfl (by decide) ?_
               refine DW.no rfl rfl (by decide) ?_
               refine DW.no rfl rfl (by decide) ?_
               refine DW.no rfl rfl (by decide) ?_
               refine DW.no rfl rfl (by decide) ?_
               refine DW.no rfl rfl (by decide) ?_
               refine DW.no rfl rfl (by decide) ?_
               refine DW.no rfl rfl (by decide) ?_
               refine DW.no rfl rfl (by decide) ?_
               refine DW.y rfl rfl (X.pickF rfl rfl rfl) ?_
               refine DW.nil ?_
               refine WK.nThen ?_
               refine WK.meet false rfl (.refl _) (.cons rfl (.cons rfl (.cons rfl (.cons rfl (.cons rfl (.cons rfl .nil)))))) ?_
               exact ⟨fun h_ => by first | (cases h_; done) | exact ⟨by omega, of_decide_eq_true h_⟩ | exact ⟨by omega, by assumption⟩, fun h_ hn_ => by first | (cases h_; done) | exact absurd hn_.2 (of_decide_eq_false h_) | omega | exact absurd hn_.2 (by assumption)⟩
             ·rintro b15_ hF22
              show WK _ _ m [rowF (v) 23 (R)] [(0, v), (1, .int .i64 (↑a)), (4, .func (.func fc) #[] #[]), (12, .int .i64 (↑x)), (13, .int .i64 (↑y)), (139, .bool (b15_))] _
              replace hF22 : (b15_ = true → x ≤ y ∧ ¬ cf (gt R y) (gt R a) < 0) ∧ (b15_ = false → ¬ (x ≤ y ∧ ¬ cf (gt R y) (gt R a) < 0)) := hF22
              obtain ⟨hyes15_, hno15_⟩ := hF22
              refine WC.condb rfl (fun h23 => ?_) (fun h23 => ?_)
              ·refine WC.skip ?_
               refine WK.nThen ?_
               refine WC.block ?_
               have hy15_ := hyes15_ (by assumption)
               refine WC.region ?_
               refine WL.mv rfl ?_
               refine WL.y (X.sub rfl rfl (by omega) (by omega)) ?_
               refine WL.ag rfl ?_
               refine WL.nil ?_
               refine WK.nBlock ?_
               refine WK.nThen ?_
               obtain ⟨y1_, hy1_⟩ : ∃ qq__ : Nat, (↑y - 1 : Int) = (qq__ : Int) := ⟨(↑y - 1 : Int).toNat, (by omega)⟩
               rw [hy1_]
               obtain rfl : y1_ = y - 1 := (by omega)
               refine WK.next (y - 1) rfl (.refl _) (.cons rfl (.cons rfl (.cons rfl (.cons rfl (.cons rfl .nil))))) ?_ ?_
               ·exact ⟨pt_j hY (by omega) (fun h_ => hy15_.2 ((hC.cl hBR).2 h_)), by omega⟩
               ·((try dsimp only); omega)
              ·refine WC.exit ?_
               refine WK.eThen ?_
               refine WK.eThen ?_
               refine WK.eHit ?_
               refine WK.nThen ?_
               refine WC.seq ?_
               refine WC.r ?_
               refine WL.mv rfl ?_
               refine WL.mv rfl ?_
               refine WL.cond (X.gtr rfl rfl) (by decide) (fun h24 => ?_) (fun h24 => ?_)
               ·refine WL.z ?_
                refine WC.condT rfl ?_
                refine WC.exit ?_
                refine WK.eThen ?_
                refine WK.eMiss rfl ?_
                refine WK.eThen ?_
                refine WK.eHit ?_
                refine WK.nThen ?_
                refine WC.seq ?_
                refine WC.draw (π := (.cons 0 (.cons 1 (.cons 2 (.cons 3 (.cons 4 (.cons 5 (.cons 6 (.cons 7 (.cons 8 (.cons 9 (.cons 10 (.cons 11 (.cons 12 (.cons 13 (.cons 14 (.cons 15 .done))))))))))))))))) [13, 15] [13, 15] rfl (by kernel_rfl) ?_
                refine DW.y rfl rfl (X.move rfl) ?_
                refine DW.y rfl rfl (X.move rfl) ?_
                refine DW.y rfl rfl (X.move rfl) ?_
                refine DW.y rfl rfl (X.move rfl) ?_
                refine DW.y rfl rfl (X.move rfl) ?_
                refine DW.y rfl rfl (X.move rfl) ?_
                refine DW.y rfl rfl (X.idxRowE (k := 0) a Tryz.runUnderlying28 Tryz.sizeOf23 rfl rfl rfl (by omega) (by first | omega | (simp; omega) | simp)) ?_
                refine DW.y rfl rfl (X.loadFs (k := 0) (i := a) (off := 0) (us := [.int .i64 (((gt R a)).Lo), .int .i64 (((gt R a)).Hi)]) Tryz.isAgg23 Tryz.sizeOf23 rfl rfl (by first | omega | (simp; omega) | simp) rfl rfl) ?_
                refine DW.y rfl rfl (X.move rfl) ?_
                refine DW.y rfl rfl (X.move rfl) ?_
                refine DW.y rfl rfl (X.idxRowE (k := 0) y Tryz.runUnderlying28 Tryz.sizeOf23 rfl rfl rfl (by omega) (by first | omega | (simp; omega) | simp)) ?_
                refine DW.y rfl rfl (X.loadFs (k := 0) (i := y) (off := 0) (us := [.int .i64 (((gt R y)).Lo), .int .i64 (((gt R y)).Hi)]) Tryz.isAgg23 Tryz.sizeOf23 rfl rfl (by first | omega | (simp; omega) | simp) rfl rfl) ?_
                refine DW.y rfl rfl (X.idxRowE (k := 0) y Tryz.runUnderlying28 Tryz.sizeOf23 rfl rfl rfl (by omega) (by first | omega | (simp; omega) | simp)) ?_
                refine DW.ts rfl rfl rfl rfl (T.storeFp (k := 0) (i := y) (off := 0) (us := [.int .i64 (((gt R a)).Lo), .int .i64 (((gt R a)).Hi)]) (gt R a) Tryz.sizeOf23 rfl rfl rfl rfl (Nat.zero_lt_succ _) rfl (by first | omega | (simp; omega) | simp) rfl rfl (one_cons rfl (one_cons rfl one_nil))) ?_
                refine DW.y rfl rfl (X.idxRowE (k := 0) a Tryz.runUnderlying28 Tryz.sizeOf23 rfl rfl rfl (by omega) (by first | omega | (simp; omega) | simp)) ?_
                refine DW.ts rfl rfl rfl rfl (T.storeFp (k := 0) (i := a) (off := 0) (us := [.int .i64 (((gt R y)).Lo), .int .i64 (((gt R y)).Hi)]) (gt R y) Tryz.sizeOf23 rfl rfl rfl rfl (Nat.zero_lt_succ _) rfl (by first | omega | (simp; omega) | simp) rfl rfl (one_cons rfl (one_cons rfl one_nil))) ?_
                refine DW.nil ?_
                refine WK.nThen ?_
                refine WC.r ?_
                refine WL.mv rfl ?_
                refine WL.ag rfl ?_
                refine WL.ag rfl ?_
                refine WL.z ?_
                refine WC.ret ?_
                refine WK.ret2 rfl rfl rfl (fun w' hw' => Ret.mut hw' ?_)
                exact ⟨_, _, rfl, _, rfl, pt_end hY hbl (by omega)⟩
               ·refine WL.z ?_
                refine WC.condF rfl ?_
                refine WC.skip ?_
                refine WK.nThen ?_
                refine WC.seq ?_
                refine WC.draw (π := (.cons 0 (.cons 1 (.cons 2 (.cons 3 (.cons 4 (.cons 5 (.cons 6 (.cons 7 (.cons 8 (.cons 9 (.cons 10 (.cons 11 (.cons 12 (.cons 13 (.cons 14 (.cons 15 .done))))))))))))))))) [13, 15] [13, 15] rfl (by kernel_rfl) ?_
                refine DW.y rfl rfl (X.move rfl) ?_
                refine DW.y rfl rfl (X.move rfl) ?_
                refine DW.y rfl rfl (X.move rfl) ?_
                refine DW.y rfl rfl (X.move rfl) ?_
                refine DW.y rfl rfl (X.move rfl) ?_
                refine DW.y rfl rfl (X.move rfl) ?_
                refine DW.y rfl rfl (X.idxRowE (k := 0) y Tryz.runUnderlying28 Tryz.sizeOf23 rfl rfl rfl (by omega) (by first | omega | (simp; omega) | simp)) ?_
                refine DW.y rfl rfl (X.loadFs (k := 0) (i := y) (off := 0) (us := [.int .i64 (((gt R y)).Lo), .int .i64 (((gt R y)).Hi)]) Tryz.isAgg23 Tryz.sizeOf23 rfl rfl (by first | omega | (simp; omega) | simp) rfl rfl) ?_
                refine DW.y rfl rfl (X.move rfl) ?_
                refine DW.y rfl rfl (X.move rfl) ?_
                refine DW.y rfl rfl (X.idxRowE (k := 0) x Tryz.runUnderlying28 Tryz.sizeOf23 rfl rfl rfl (by omega) (by first | omega | (simp; omega) | simp)) ?_
                refine DW.y rfl rfl (X.loadFs (k := 0) (i := x) (off := 0) (us := [.int .i64 (((gt R x)).Lo), .int .i64 (((gt R x)).Hi)]) Tryz.isAgg23 Tryz.sizeOf23 rfl rfl (by first | omega | (simp; omega) | simp) rfl rfl) ?_
                refine DW.y rfl rfl (X.idxRowE (k := 0) x Tryz.runUnderlying28 Tryz.sizeOf23 rfl rfl rfl (by omega) (by first | omega | (simp; omega) | simp)) ?_
                refine DW.ts rfl rfl rfl rfl (T.storeFp (k := 0) (i := x) (off := 0) (us := [.int .i64 (((gt R y)).Lo), .int .i64 (((gt R y)).Hi)]) (gt R y) Tryz.sizeOf23 rfl rfl rfl rfl (Nat.zero_lt_succ _) rfl (by first | omega | (simp; omega) | simp) rfl rfl (one_cons rfl (one_cons rfl one_nil))) ?_
                refine DW.y rfl rfl (X.idxRowE (k := 0) y Tryz.runUnderlying28 Tryz.sizeOf23 rfl rfl rfl (by omega) (by first | omega | (simp; omega) | simp)) ?_
                refine DW.ts rfl rfl rfl rfl (T.storeFp (k := 0) (i := y) (off := 0) (us := [.int .i64 (((gt R x)).Lo), .int .i64 (((gt R x)).Hi)]) (gt R x) Tryz.sizeOf23 rfl rfl rfl rfl (Nat.zero_lt_succ _) rfl (by first | omega | (simp; omega) | simp) rfl rfl (one_cons rfl (one_cons rfl one_nil))) ?_
                refine DW.nil ?_
                refine WK.nThen ?_
                refine WC.r ?_
                refine WL.mv rfl ?_
                refine WL.y (X.add rfl rfl (by omega) (by omega)) ?_
                refine WL.ag rfl ?_
                refine WL.z ?_
                refine WC.region ?_
                refine WL.mv rfl ?_
                refine WL.y (X.sub rfl rfl (by omega) (by omega)) ?_
                refine WL.ag rfl ?_
                refine WL.nil ?_
                refine WK.nBlock ?_
                refine WK.nThen ?_
                obtain ⟨q1_, hq1_⟩ : ∃ qq__ : Nat, (↑y - 1 : Int) = (qq__ : Int) := ⟨(↑y - 1 : Int).toNat, (by omega)⟩
                rw [hq1_]
                obtain rfl : q1_ = y - 1 := (by omega)
                refine WK.next ((x + 1, y - 1, (R.set x (gt R y)).set y (gt R x))) rfl (.refl _) (.cons rfl (.cons rfl (.cons rfl (.cons rfl (.cons rfl .nil))))) ?_ ?_
                ·exact pt_sw hY hbl (by omega) (fun h_ => hno13_ (by assumption) ⟨by omega, (hC.cl hBR (i := x) (j := a)).2 h_⟩) (Classical.byContradiction fun h_ => hno15_ (by assumption) ⟨by omega, fun h1_ => h_ ((hC.cl hBR (i := y) (j := a)).1 h1_)⟩)
                ·((try dsimp only); omega)

set_option maxHeartbeats 2000000 in
theorem parteq270 (m : Mem) {v : Value} {L : List Span} (hL : L.length ≤ 1000000) (hB : bdS L) {fc : Nat} {cf : Span → Span → Int} (hC : CmpOk fc cf) {a b pv : Nat} {za zb zpv : Int} (hza : za = a) (hzb : zb = b) (hzpv : zpv = pv) (hap : a ≤ pv) (hpb : pv < b) (hbl : b ≤ L.length) : Mut Tryz.prog 270 #[v, .int .i64 za, .int .i64 zb, .int .i64 zpv, .func (.func fc) #[] #[]] m [rowF v 23 L] (fun _ Es u => ∃ p : Nat, u = .int .i64 p ∧ ∃ R, Es = [rowF v 23 R] ∧ PqE Span.Lo L R a b p pv) := by
 subst hza
 subst hzb
 subst hzpv
 refine Mut.start Tryz.func270 rfl Tryz.ntmps270 rfl fun wld => ?_
 refine WC.r ?_
 refine WL.ag rfl ?_
 refine WL.z ?_
 refine WC.seq ?_
 refine WC.draw (π := (.cons 0 (.cons 1 (.cons 2 (.cons 3 (.cons 4 (.cons 5 (.cons 6 (.cons 7 (.cons 8 (.cons 9 (.cons 10 (.cons 11 (.cons 12 (.cons 13 (.cons 14 (.cons 15 .done))))))))))))))))) [13, 15] [13, 15] rfl (by kernel_rfl) ?_
 refine DW.y rfl rfl (X.move rfl) ?_
 refine DW.y rfl rfl (X.move rfl) ?_
 refine DW.y rfl rfl (X.move rfl) ?_
 refine DW.y rfl rfl (X.move rfl) ?_
 refine DW.y rfl rfl (X.move rfl) ?_
 refine DW.y rfl rfl (X.move rfl) ?_
 refine DW.y rfl rfl (X.idxRowE (k := 0) pv Tryz.runUnderlying28 Tryz.sizeOf23 rfl rfl rfl (by omega) (by first | omega | (simp; omega) | simp)) ?_
 refine DW.y rfl rfl (X.loadFs (k := 0) (i := pv) (off := 0) (us := [.int .i64 (((gt L pv)).Lo), .int .i64 (((gt L pv)).Hi)]) Tryz.isAgg23 Tryz.sizeOf23 rfl rfl (by first | omega | (simp; omega) | simp) rfl rfl) ?_
 refine DW.y rfl rfl (X.move rfl) ?_
 refine DW.y rfl rfl (X.move rfl) ?_
 refine DW.y rfl rfl (X.idxRowE (k := 0) a Tryz.runUnderlying28 Tryz.sizeOf23 rfl rfl rfl (by omega) (by first | omega | (simp; omega) | simp)) ?_
 refine DW.y rfl rfl (X.loadFs (k := 0) (i := a) (off := 0) (us := [.int .i64 (((gt L a)).Lo), .int .i64 (((gt L a)).Hi)]) Tryz.isAgg23 Tryz.sizeOf23 rfl rfl (by first | omega | (simp; omega) | simp) rfl rfl) ?_
 refine DW.y rfl rfl (X.idxRowE (k := 0) a Tryz.runUnderlying28 Tryz.sizeOf23 rfl rfl rfl (by omega) (by first | omega | (simp; omega) | simp)) ?_
 refine DW.ts rfl rfl rfl rfl (T.storeFp (k := 0) (i := a) (off := 0) (us := [.int .i64 (((gt L pv)).Lo), .int .i64 (((gt L pv)).Hi)]) (gt L pv) Tryz.sizeOf23 rfl rfl rfl rfl (Nat.zero_lt_succ _) rfl (by first | omega | (simp; omega) | simp) rfl rfl (one_cons rfl (one_cons rfl one_nil))) ?_
 refine DW.y rfl rfl (X.idxRowE (k := 0) pv Tryz.runUnderlying28 Tryz.sizeOf23 rfl rfl rfl (by omega) (by first | omega | (simp; omega) | simp)) ?_
 refine DW.ts rfl rfl rfl rfl (T.storeFp (k := 0) (i := pv) (off := 0) (us := [.int .i64 (((gt L a)).Lo), .int .i64 (((gt L a)).Hi)]) (gt L a) Tryz.sizeOf23 rfl rfl rfl rfl (Nat.zero_lt_succ _) rfl (by first | omega | (simp; omega) | simp) rfl rfl (one_cons rfl (one_cons rfl one_nil))) ?_
 refine DW.nil ?_
 refine WK.nThen ?_
 refine WC.seq ?_
 obtain ⟨R1, hR1⟩ : ∃ qq__ : List Span, qq__ = (L.set a (gt L pv)).set pv (gt L a) := ⟨_, rfl⟩
 have hS1 : Seg L R1 a b := (by rw [hR1]; exact .sw (by omega) (by omega) (by omega))
 have hP1 : gt R1 a = gt L pv := (by rw [hR1]; exact sw_first (by omega))
 have he1 : ((L.set a (gt L pv)).set pv (gt L a)) = R1 := hR1.symm
 rw [he1]
 have hSl1 := hS1.len
 refine WC.region ?_
 refine WL.mv rfl ?_
 refine WL.y (X.add rfl rfl (by omega) (by omega)) ?_
 refine WL.mv rfl ?_
 refine WL.y (X.sub rfl rfl (by omega) (by omega)) ?_
 refine WL.ag rfl ?_
 refine WL.ag rfl ?_
 refine WL.z ?_
 refine WC.seq ?_
 refine WC.block ?_
 obtain ⟨j0_, hj0_⟩ : ∃ qq__ : Nat, (↑b - 1 : Int) = (qq__ : Int) := ⟨(↑b - 1 : Int).toNat, (by omega)⟩
 rw [hj0_]
 obtain rfl : j0_ = b - 1 := (by omega)
 refine WC.loop (G := Nat × Nat × List Span) (fun (p, q, R) => q + 1 - p) (fun (p, q, R) => m) (fun (p, q, R) => [rowF (v) 23 (R)]) (fun (p, q, R) => [(0, v), (1, .int .i64 (↑a)), (4, .func (.func fc) #[] #[]), (11, .int .i64 (↑p)), (12, .int .i64 (↑q))]) (fun (p, q, R) => PqI Span.Lo L R a b p q ∧ (gt R a).Lo = (gt L pv).Lo) ((a + 1, b - 1, R1)) rfl (.refl _) (.cons rfl (.cons rfl (.cons rfl (.cons rfl (.cons rfl .nil))))) ?_ ?_
 ·exact ⟨⟨hS1, by omega, fun q h1_ h2_ => by omega, fun q h1_ h2_ => by omega⟩, by rw [hP1]⟩
 ·rintro ⟨p, q, R⟩ hF2
  show WK _ _ m [rowF (v) 23 (R)] [(0, v), (1, .int .i64 (↑a)), (4, .func (.func fc) #[] #[]), (11, .int .i64 (↑p)), (12, .int .i64 (↑q))] _
  replace hF2 : PqI Span.Lo L R a b p q ∧ (gt R a).Lo = (gt L pv).Lo := hF2
  obtain ⟨hP, hE⟩ := hF2
  have hPl := hP.seg.len
  have hPb := hP.bd
  have hBR := bdS_perm hB hP.seg.perm
  refine WC.block ?_
  refine WC.seq ?_
  refine WC.block ?_
  refine WC.loop (G := Nat) (fun x => q + 1 - x) (fun x => m) (fun x => [rowF (v) 23 (R)]) (fun x => [(0, v), (1, .int .i64 (↑a)), (4, .func (.func fc) #[] #[]), (11, .int .i64 (↑x)), (12, .int .i64 (↑q))]) (fun x => PqI Span.Lo L R a b x q ∧ p ≤ x) p rfl (.refl _) (.cons rfl (.cons rfl (.cons rfl (.cons rfl (.cons rfl .nil))))) ?_ ?_
  ·exact ⟨hP, Nat.le_refl _⟩
  ·rintro x hF3
   show WK _ _ m [rowF (v) 23 (R)] [(0, v), (1, .int .i64 (↑a)), (4, .func (.func fc) #[] #[]), (11, .int .i64 (↑x)), (12, .int .i64 (↑q))] _
   replace hF3 : PqI Span.Lo L R a b x q ∧ p ≤ x := hF3
   obtain ⟨hX, hpx⟩ := hF3
   have hXb := hX.bd
   refine WC.seq ?_
   refine WC.cut (G := Bool) (fun b3_ => m) (fun b3_ => [rowF (v) 23 (R)]) (fun b3_ => [(0, v), (1, .int .i64 (↑a)), (4, .func (.func fc) #[] #[]), (11, .int .i64 (↑x)), (12, .int .i64 (↑q)), (47, .bool (b3_))]) (fun b3_ => (b3_ = true → x ≤ q ∧ ¬ cf (gt R a) (gt R x) < 0) ∧ (b3_ = false → ¬ (x ≤ q ∧ ¬ cf (gt R a) (gt R x) < 0))) ?_ ?_
   ·refine WC.draw (π := (.cons 0 (.cons 1 (.cons 2 (.cons 3 (.cons 4 (.cons 5 (.cons 6 (.cons 7 (.cons 8 (.cons 9 (.cons 10 (.cons 11 (.cons 12 (.cons 13 (.cons 14 (.cons 15 (.cons 16 .done)))))))))))))))))) [] [] rfl (by kernel_rfl) ?_
    refine DW.y rfl rfl (X.move rfl) ?_
    refine DW.y rfl rfl (X.move rfl) ?_
    refine DW.cond rfl rfl (X.leq rfl rfl) (by decide) (fun h4 => ?_) (fun h4 => ?_)
    ·refine DW.y rfl rfl (X.move rfl) ?_
     refine DW.y rfl rfl (X.move rfl) ?_
     refine DW.y rfl rfl (X.move rfl) ?_
     refine DW.y rfl rfl (X.move rfl) ?_
     refine DW.y rfl rfl (X.idxRowE (k := 0) a Tryz.runUnderlying28 Tryz.sizeOf23 rfl rfl rfl (by omega) (by first | omega | (simp; omega) | simp)) ?_
     refine DW.y rfl rfl (X.loadFs (k := 0) (i := a) (off := 0) (us := [.int .i64 (((gt R a)).Lo), .int .i64 (((gt R a)).Hi)]) Tryz.isAgg23 Tryz.sizeOf23 rfl rfl (by first | omega | (simp; omega) | simp) rfl rfl) ?_
     refine DW.y rfl rfl (X.move rfl) ?_
     refine DW.y rfl rfl (X.move rfl) ?_
     refine DW.y rfl rfl (X.idxRowE (k := 0) x Tryz.runUnderlying28 Tryz.sizeOf23 rfl rfl rfl (by omega) (by first | omega | (simp; omega) | simp)) ?_
     refine DW.y rfl rfl (X.loadFs (k := 0) (i := x) (off := 0) (us := [.int .i64 (((gt R x)).Lo), .int .i64 (((gt R x)).Hi)]) Tryz.isAgg23 Tryz.sizeOf23 rfl rfl (by first | omega | (simp; omega) | simp) rfl rfl) ?_
     refine DW.y rfl rfl (X.callc hC.1 rfl rfl (hC.2.1 _ (gt R a) (gt R x))) ?_
     refine DW.cond rfl rfl (X.lss rfl rfl) (by decide) (fun h5 => ?_) (fun h5 => ?_)
     ·refine DW.y rfl rfl (X.not rfl) ?_
      refine DW.y rfl rfl (X.pickT rfl rfl rfl) ?_
      refine DW.nil ?_
      refine WK.nThen ?_
      refine WK.meet false rfl (.refl _) (.cons rfl (.cons rfl (.cons rfl (.cons rfl (.cons rfl (.cons rfl .nil)))))) ?_
      exact ⟨fun h_ => by first | (cases h_; done) | exact ⟨by omega, of_decide_eq_true h_⟩ | exact ⟨by omega, by assumption⟩, fun h_ hn_ => by first | (cases h_; done) | exact absurd hn_.2 (of_decide_eq_false h_) | omega | exact absurd hn_.2 (by assumption)⟩
     ·refine DW.y rfl rfl (X.not rfl) ?_
      refine DW.y rfl rfl (X.pickT rfl rfl rfl) ?_
      refine DW.nil ?_
      refine WK.nThen ?_
      refine WK.meet true rfl (.refl _) (.cons rfl (.cons rfl (.cons rfl (.cons rfl (.cons rfl (.cons rfl .nil)))))) ?_
      exact ⟨fun h_ => by first | (cases h_; done) | exact ⟨by omega, of_decide_eq_true h_⟩ | exact ⟨by omega, by assumption⟩, fun h_ hn_ => by first | (cases h_; done) | exact absurd hn_.2 (of_decide_eq_false h_) | omega | exact absurd hn_.2 (by assumption)⟩
    ·refine DW.y rfl rfl (X.move rfl) ?_
     refine DW.no rfl rfl (by decide) ?_
     refine DW.no rfl rfl (by decide) ?_
     refine DW.no rfl rfl (by decide) ?_
     refine DW.no rfl rfl (by decide) ?_
     refine DW.no rfl rfl (by decide) ?_
     refine DW.no rfl rfl (by decide) ?_
     refine DW.no rfl rfl (by decide) ?_
     refine DW.no rfl rfl (by decide) ?_
     refine DW.no rfl rfl (by decide) ?_
     refine DW.no rfl rfl (by decide) ?_
     refine DW.no rfl rfl (by decide) ?_
     refine DW.no rfl rfl (by decide) ?_
     refine DW.y rfl rfl (X.pickF rfl rfl rfl) ?_
     refine DW.nil ?_
     refine WK.nThen ?_
     refine WK.meet false rfl (.refl _) (.cons rfl (.cons rfl (.cons rfl (.cons rfl (.cons rfl (.cons rfl .nil)))))) ?_
     exact ⟨fun h_ => by first | (cases h_; done) | exact ⟨by omega, of_decide_eq_true h_⟩ | exact ⟨by omega, by assumption⟩, fun h_ hn_ => by first | (cases h_; done) | exact absurd hn_.2 (of_decide_eq_false h_) | omega | exact absurd hn_.2 (by assumption)⟩
   ·rintro b3_ hF6
    show WK _ _ m [rowF (v) 23 (R)] [(0, v), (1, .int .i64 (↑a)), (4, .func (.func fc) #[] #[]), (11, .int .i64 (↑x)), (12, .int .i64 (↑q)), (47, .bool (b3_))] _
    replace hF6 : (b3_ = true → x ≤ q ∧ ¬ cf (gt R a) (gt R x) < 0) ∧ (b3_ = false → ¬ (x ≤ q ∧ ¬ cf (gt R a) (gt R x) < 0)) := hF6
    obtain ⟨hyes3_, hno3_⟩ := hF6
    refine WC.condb rfl (fun h7 => ?_) (fun h7 => ?_)
    ·refine WC.skip ?_
     refine WK.nThen ?_
     refine WC.block ?_
     have hy3_ := hyes3_ (by assumption)
     refine WC.region ?_
     refine WL.mv rfl ?_
     refine WL.y (X.add rfl rfl (by omega) (by omega)) ?_
     refine WL.ag rfl ?_
     refine WL.nil ?_
     refine WK.nBlock ?_
     refine WK.nThen ?_
     refine WK.next (x + 1) rfl (.refl _) (.cons rfl (.cons rfl (.cons rfl (.cons rfl (.cons rfl .nil))))) ?_ ?_
     ·exact ⟨pq_i hX (by omega) (fun h_ => hy3_.2 ((hC.cl hBR).2 h_)), by omega⟩
     ·((try dsimp only); omega)
    ·refine WC.exit ?_
     refine WK.eThen ?_
     refine WK.eThen ?_
     refine WK.eHit ?_
     refine WK.nThen ?_
     refine WC.seq ?_
     refine WC.block ?_
     refine WC.loop (G := Nat) (fun y => y) (fun y => m) (fun y => [rowF (v) 23 (R)]) (fun y => [(0, v), (1, .int .i64 (↑a)), (4, .func (.func fc) #[] #[]), (11, .int .i64 (↑x)), (12, .int .i64 (↑y))]) (fun y => PqI Span.Lo L R a b x y ∧ y ≤ q) q rfl (.refl _) (.cons rfl (.cons rfl (.cons rfl (.cons rfl (.cons rfl .nil))))) ?_ ?_
     ·exact ⟨hX, Nat.le_refl _⟩
     ·rintro y hF8
      show WK _ _ m [rowF (v) 23 (R)] [(0, v), (1, .int .i64 (↑a)), (4, .func (.func fc) #[] #[]), (11, .int .i64 (↑x)), (12, .int .i64 (↑y))] _
      replace hF8 : PqI Span.Lo L R a b x y ∧ y ≤ q := hF8
      obtain ⟨hY, hyq⟩ := hF8
      have hYb := hY.bd
      refine WC.seq ?_
      refine WC.cut (G := Bool) (fun b5_ => m) (fun b5_ => [rowF (v) 23 (R)]) (fun b5_ => [(0, v), (1, .int .i64 (↑a)), (4, .func (.func fc) #[] #[]), (11, .int .i64 (↑x)), (12, .int .i64 (↑y)), (65, .bool (b5_))]) (fun b5_ => (b5_ = true → x ≤ y ∧ cf (gt R a) (gt R y) < 0) ∧ (b5_ = false → ¬ (x ≤ y ∧ cf (gt R a) (gt R y) < 0))) ?_ ?_
      ·refine WC.draw (π := (.cons 0 (.cons 1 (.cons 2 (.cons 3 (.cons 4 (.cons 5 (.cons 6 (.cons 7 (.cons 8 (.cons 9 (.cons 10 (.cons 11 (.cons 12 (.cons 13 (.cons 14 (.cons 15 .done))))))))))))))))) [] [] rfl (by kernel_rfl) ?_
       refine DW.y rfl rfl (X.move rfl) ?_
       refine DW.y rfl rfl (X.move rfl) ?_
       refine DW.cond rfl rfl (X.leq rfl rfl) (by decide) (fun h9 => ?_) (fun h9 => ?_)
       ·refine DW.y rfl rfl (X.move rfl) ?_
        refine DW.y rfl rfl (X.move rfl) ?_
        refine DW.y rfl rfl (X.move rfl) ?_
        refine DW.y rfl rfl (X.move rfl) ?_
        refine DW.y rfl rfl (X.idxRowE (k := 0) a Tryz.runUnderlying28 Tryz.sizeOf23 rfl rfl rfl (by omega) (by first | omega | (simp; omega) | simp)) ?_
        refine DW.y rfl rfl (X.loadFs (k := 0) (i := a) (off := 0) (us := [.int .i64 (((gt R a)).Lo), .int .i64 (((gt R a)).Hi)]) Tryz.isAgg23 Tryz.sizeOf23 rfl rfl (by first | omega | (simp; omega) | simp) rfl rfl) ?_
        refine DW.y rfl rfl (X.move rfl) ?_
        refine DW.y rfl rfl (X.move rfl) ?_
        refine DW.y rfl rfl (X.idxRowE (k := 0) y Tryz.runUnderlying28 Tryz.sizeOf23 rfl rfl rfl (by omega) (by first | omega | (simp; omega) | simp)) ?_
        refine DW.y rfl rfl (X.loadFs (k := 0) (i := y) (off := 0) (us := [.int .i64 (((gt R y)).Lo), .int .i64 (((gt R y)).Hi)]) Tryz.isAgg23 Tryz.sizeOf23 rfl rfl (by first | omega | (simp; omega) | simp) rfl rfl) ?_
        refine DW.y rfl rfl (X.callc hC.1 rfl rfl (hC.2.1 _ (gt R a) (gt R y))) ?_
        refine DW.cond rfl rfl (X.lss rfl rfl) (by decide) (fun h10 => ?_) (fun h10 => ?_)
        ·refine DW.y rfl rfl (X.pickT rfl rfl rfl) ?_
         refine DW.nil ?_
         refine WK.nThen ?_
         refine WK.meet true rfl (.refl _) (.cons rfl (.cons rfl (.cons rfl (.cons rfl (.cons rfl (.cons rfl .nil)))))) ?_
         exact ⟨fun h_ => by first | (cases h_; done) | exact ⟨by omega, of_decide_eq_true h_⟩ | exact ⟨by omega, by assumption⟩, fun h_ hn_ => by first | (cases h_; done) | exact absurd hn_.2 (of_decide_eq_false h_) | omega | exact absurd hn_.2 (by assumption)⟩
        ·refine DW.y rfl rfl (X.pickT rfl rfl rfl) ?_
         refine DW.nil ?_
         refine WK.nThen ?_
         refine WK.meet false rfl (.refl _) (.cons rfl (.cons rfl (.cons rfl (.cons rfl (.cons rfl (.cons rfl .nil)))))) ?_
         exact ⟨fun h_ => by first | (cases h_; done) | exact ⟨by omega, of_decide_eq_true h_⟩ | exact ⟨by omega, by assumption⟩, fun h_ hn_ => by first | (cases h_; done) | exact absurd hn_.2 (of_decide_eq_false h_) | omega | exact absurd hn_.2 (by assumption)⟩
       ·refine DW.y rfl rfl (X.move rfl) ?_
        refine DW.no rfl rfl (by decide) ?_
        refine DW.no rfl rfl (by decide) ?_
        refine DW.no rfl rfl (by decide) ?_
        refine DW.no rfl rfl (by decide) ?_
        refine DW.no rfl rfl (by decide) ?_
        refine DW.no rfl rfl (by decide) ?_
        refine DW.no rfl rfl (by decide) ?_
        refine DW.no rfl rfl (by decide) ?_
        refine DW.no rfl rfl (by decide) ?_
        refine DW.no rfl rfl (by decide) ?_
        refine DW.no rfl rfl (by decide) ?_
        refine DW.y rfl rfl (X.pickF rfl rfl rfl) ?_
        refine DW.nil ?_
        refine WK.nThen ?_
        refine WK.meet false rfl (.refl _) (.cons rfl (.cons rfl (.cons rfl (.cons rfl (.cons rfl (.cons rfl .nil)))))) ?_
        exact ⟨fun h_ => by first | (cases h_; done) | exact ⟨by omega, of_decide_eq_true h_⟩ | exact ⟨by omega, by assumption⟩, fun h_ hn_ => by first | (cases h_; done) | exact absurd hn_.2 (of_decide_eq_false h_) | omega | exact absurd hn_.2 (by assumption)⟩
      ·rintro b5_ hF11
       show WK _ _ m [rowF (v) 23 (R)] [(0, v), (1, .int .i64 (↑a)), (4, .func (.func fc) #[] #[]), (11, .int .i64 (↑x)), (12, .int .i64 (↑y)), (65, .bool (b5_))] _
       replace hF11 : (b5_ = true → x ≤ y ∧ cf (gt R a) (gt R y) < 0) ∧ (b5_ = false → ¬ (x ≤ y ∧ cf (gt R a) (gt R y) < 0)) := hF11
       obtain ⟨hyes5_, hno5_⟩ := hF11
       refine WC.condb rfl (fun h12 => ?_) (fun h12 => ?_)
       ·refine WC.skip ?_
        refine WK.nThen ?_
        refine WC.block ?_
        have hy5_ := hyes5_ (by assumption)
        refine WC.region ?_
        refine WL.mv rfl ?_
        refine WL.y (X.sub rfl rfl (by omega) (by omega)) ?_
        refine WL.ag rfl ?_
        refine WL.nil ?_
        refine WK.nBlock ?_
        refine WK.nThen ?_
        obtain ⟨y1_, hy1_⟩ : ∃ qq__ : Nat, (↑y - 1 : Int) = (qq__ : Int) := ⟨(↑y - 1 : Int).toNat, (by omega)⟩
        rw [hy1_]
        obtain rfl : y1_ = y - 1 := (by omega)
        refine WK.next (y - 1) rfl (.refl _) (.cons rfl (.cons rfl (.cons rfl (.cons rfl (.cons rfl .nil))))) ?_ ?_
        ·exact ⟨pq_j hY (by omega) ((hC.cl hBR).1 hy5_.2), by omega⟩
        ·((try dsimp only); omega)
       ·refine WC.exit ?_
        refine WK.eThen ?_
        refine WK.eThen ?_
        refine WK.eHit ?_
        refine WK.nThen ?_
        refine WC.seq ?_
        refine WC.r ?_
        refine WL.mv rfl ?_
        refine WL.mv rfl ?_
        refine WL.cond (X.gtr rfl rfl) (by decide) (fun h13 => ?_) (fun h13 => ?_)
        ·refine WL.z ?_
         refine WC.condT rfl ?_
         refine WC.exit ?_
         refine WK.eThen ?_
         refine WK.eMiss rfl ?_
         refine WK.eThen ?_
         refine WK.eHit ?_
         refine WK.nThen ?_
         refine WC.r ?_
         refine WL.mv rfl ?_
         refine WL.ag rfl ?_
         refine WL.z ?_
         refine WC.ret ?_
         refine WK.ret1 rfl rfl (fun w' hw' => Ret.mut hw' ?_)
         exact ⟨_, rfl, _, rfl, pq_end hY hE (by omega)⟩
        ·refine WL.z ?_
         refine WC.condF rfl ?_
         refine WC.skip ?_
         refine WK.nThen ?_
         refine WC.seq ?_
         refine WC.draw (π := (.cons 0 (.cons 1 (.cons 2 (.cons 3 (.cons 4 (.cons 5 (.cons 6 (.cons 7 (.cons 8 (.cons 9 (.cons 10 (.cons 11 (.cons 12 (.cons 13 (.cons 14 (.cons 15 .done))))))))))))))))) [13, 15] [13, 15] rfl (by kernel_rfl) ?_
         refine DW.y rfl rfl (X.move rfl) ?_
         refine DW.y rfl rfl (X.move rfl) ?_
         refine DW.y rfl rfl (X.move rfl) ?_
         refine DW.y rfl rfl (X.move rfl) ?_
         refine DW.y rfl rfl (X.move rfl) ?_
         refine DW.y rfl rfl (X.move rfl) ?_
         refine DW.y rfl rfl (X.idxRowE (k := 0) y Tryz.runUnderlying28 Tryz.sizeOf23 rfl rfl rfl (by omega) (by first | omega | (simp; omega) | simp)) ?_
         refine DW.y rfl rfl (X.loadFs (k := 0) (i := y) (off := 0) (us := [.int .i64 (((gt R y)).Lo), .int .i64 (((gt R y)).Hi)]) Tryz.isAgg23 Tryz.sizeOf23 rfl rfl (by first | omega | (simp; omega) | simp) rfl rfl) ?_
         refine DW.y rfl rfl (X.move rfl) ?_
         refine DW.y rfl rfl (X.move rfl) ?_
         refine DW.y rfl rfl (X.idxRowE (k := 0) x Tryz.runUnderlying28 Tryz.sizeOf23 rfl rfl rfl (by omega) (by first | omega | (simp; omega) | simp)) ?_
         refine DW.y rfl rfl (X.loadFs (k := 0) (i := x) (off := 0) (us := [.int .i64 (((gt R x)).Lo), .int .i64 (((gt R x)).Hi)]) Tryz.isAgg23 Tryz.sizeOf23 rfl rfl (by first | omega | (simp; omega) | simp) rfl rfl) ?_
         refine DW.y rfl rfl (X.idxRowE (k := 0) x Tryz.runUnderlying28 Tryz.sizeOf23 rfl rfl rfl (by omega) (by first | omega | (simp; omega) | simp)) ?_
         refine DW.ts rfl rfl rfl rfl (T.storeFp (k := 0) (i := x) (off := 0) (us := [.int .i64 (((gt R y)).Lo), .int .i64 (((gt R y)).Hi)]) (gt R y) Tryz.sizeOf23 rfl rfl rfl rfl (Nat.zero_lt_succ _) rfl (by first | omega | (simp; omega) | simp) rfl rfl (one_cons rfl (one_cons rfl one_nil))) ?_
         refine DW.y rfl rfl (X.idxRowE (k := 0) y Tryz.runUnderlying28 Tryz.sizeOf23 rfl rfl rfl (by omega) (by first | omega | (simp; omega) | simp)) ?_
         refine DW.ts rfl rfl rfl rfl (T.storeFp (k := 0) (i := y) (off := 0) (us := [.int .i64 (((gt R x)).Lo), .int .i64 (((gt R x)).Hi)]) (gt R x) Tryz.sizeOf23 rfl rfl rfl rfl (Nat.zero_lt_succ _) rfl (by first | omega | (simp; omega) | simp) rfl rfl (one_cons rfl (one_cons rfl one_nil))) ?_
         refine DW.nil ?_
         refine WK.nThen ?_
         refine WC.r ?_
         refine WL.mv rfl ?_
         refine WL.y (X.add rfl rfl (by omega) (by omega)) ?_
         refine WL.ag rfl ?_
         refine WL.z ?_
         refine WC.region ?_
         refine WL.mv rfl ?_
         refine WL.y (X.sub rfl rfl (by omega) (by omega)) ?_
         refine WL.ag rfl ?_
         refine WL.nil ?_
         refine WK.nBlock ?_
         refine WK.nThen ?_
         obtain ⟨q1_, hq1_⟩ : ∃ qq__ : Nat, (↑y - 1 : Int) = (qq__ : Int) := ⟨(↑y - 1 : Int).toNat, (by omega)⟩
         rw [hq1_]
         obtain rfl : q1_ = y - 1 := (by omega)
         refine WK.next ((x + 1, y - 1, (R.set x (gt R y)).set y (gt R x))) rfl (.refl _) (.cons rfl (.cons rfl (.cons rfl (.cons rfl (.cons rfl .nil))))) ?_ ?_
         ·exact ⟨pq_sw hY hbl (by omega) (Classical.byContradiction fun h_ => hno3_ (by assumption) ⟨by omega, fun h1_ => h_ ((hC.cl hBR (i := a) (j := x)).1 h1_)⟩) (fun h_ => hno5_ (by assumption) ⟨by omega, (hC.cl hBR (i := a) (j := y)).2 h_⟩), (pq_same hY hbl (by omega) (by omega)).trans hE⟩
         ·((try dsimp only); omega)

end Go.Proofs.T10
