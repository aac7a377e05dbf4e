import Derived.Test.YtooomcigmleneaaGreatKxW
import Derived.Test.YtooomcigmleneaaGreatT10W10
/- Top: walks, thirteenth part, by program. -/
namespace Go.Proofs.T10
open Go Go.Kx
set_option linter.unusedSimpArgs false
set_option linter.unusedVariables false

def PdqM (k : Nat) : Prop := ∀ (m : Mem) {v : Value} {L : List Span} {a b : Nat} {ia ib il : Int} {fc : Nat} {cf : Span → Span → Int} (_ : L.length ≤ 1000000) (_ : bdS L) (_ : CmpOk fc cf) (_ : ia = a) (_ : ib = b) (_ : b - a = k) (_ : a ≤ b) (_ : b ≤ L.length) (_ : 0 ≤ il ∧ il ≤ 1000) (_ : Lb Span.Lo L a b),
 Mut Tryz.prog 224 #[v, .int .i64 ia, .int .i64 ib, .int .i64 il, .func (.func fc) #[] #[]] m [rowF v 23 L] (fun _ Es u => u = .tuple #[] ∧ ∃ R, Es = [rowF v 23 R] ∧ Seg L R a b ∧ Srt Span.Lo R a b)
set_option maxRecDepth 20000 in
set_option maxHeartbeats 8000000 in
theorem pdq224_step (k : Nat) (ih : ∀ q, q < k → PdqM q) : PdqM k := by
 intro m v L a b ia ib il fc cf hL hB hC hia hib hk hab hbl hil hLb
 subst hia hib
 refine Mut.start Tryz.func224 rfl Tryz.ntmps224 rfl fun wld => ?_
 refine WC.r ?_
 refine WL.ag rfl ?_
 refine WL.z ?_
 refine WC.r ?_
 refine WL.ag rfl ?_
 refine WL.z ?_
 refine WC.block ?_
 refine WC.loop (G := Nat × Nat × Int × Bool × Bool × List Span) (fun (x, y, l, wb, wp, R) => y - x) (fun (x, y, l, wb, wp, R) => m) (fun (x, y, l, wb, wp, R) => [rowF (v) 23 (R)]) (fun (x, y, l, wb, wp, R) => [(0, v), (1, .int .i64 (↑x)), (2, .int .i64 (↑y)), (3, .int .i64 (l)), (4, .func (.func fc) #[] #[]), (10, .bool (wb)), (11, .bool (wp))]) (fun (x, y, l, wb, wp, R) => (a ≤ x ∧ x ≤ y ∧ y ≤ b) ∧ (0 ≤ l ∧ l ≤ 1000) ∧ Seg L R a b ∧ Out Span.Lo R a b x y) ((a, b, il, true, true, L)) rfl (.refl _) (.cons rfl (.cons rfl (.cons rfl (.cons rfl (.cons rfl (.cons rfl (.cons rfl .nil))))))) ?_ ?_
 ·exact ⟨by omega, by omega, .refl _ _ _, .start _ _ _⟩
 ·rintro ⟨x, y, l, wb, wp, R⟩ hF1
  show WK _ _ m [rowF (v) 23 (R)] [(0, v), (1, .int .i64 (↑x)), (2, .int .i64 (↑y)), (3, .int .i64 (l)), (4, .func (.func fc) #[] #[]), (10, .bool (wb)), (11, .bool (wp))] _
  replace hF1 : (a ≤ x ∧ x ≤ y ∧ y ≤ b) ∧ (0 ≤ l ∧ l ≤ 1000) ∧ Seg L R a b ∧ Out Span.Lo R a b x y := hF1
  obtain ⟨hxy, hl, hS, hO⟩ := hF1
  refine WK.good (fun hgood0 => ?_)
  have hSl := hS.len
  have hBR := bdS_perm hB hS.perm
  have hLbR := hO.lb hLb hS (by omega)
  refine WC.block ?_
  refine WC.r ?_
  refine WL.mv rfl ?_
  refine WL.mv rfl ?_
  refine WL.y (X.sub rfl rfl (by omega) (by omega)) ?_
  refine WL.ag rfl ?_
  refine WL.z ?_
  refine WC.seq ?_
  refine WC.r ?_
  refine WL.mv rfl ?_
  refine WL.cond (X.leq rfl rfl) (by decide) (fun h2 => ?_) (fun h2 => ?_)
  ·refine WL.z ?_
   refine WC.condT rfl ?_
   refine WC.r ?_
   refine WL.mv rfl ?_
   refine WL.mv rfl ?_
   refine WL.mv rfl ?_
   refine WL.mv rfl ?_
   refine WL.tM (T.callP (A := []) Tryz.call264 rfl (.refl _) (ins264 _ (L := R) (by omega) (by first | assumption | exact bdS_sw (by assumption) _ _) hC (a := x) (b := y) (by omega) (by omega) (by omega) (by omega))) (by decide) (fun m3 Es_ u_ hle4 hR_ => ?_)
   obtain ⟨rfl, R5, rfl, hR6⟩ := hR_
   refine WL.z ?_
   refine WC.ret ?_
   refine WK.rThen ?_
   refine WK.rBlock ?_
   refine WK.rThen ?_
   refine WK.rBlock ?_
   refine WK.ret0 rfl (fun w' hw' => Ret.mut hw' ?_)
   exact ⟨rfl, _, rfl, hS.tw hR6.1 (by omega) (by omega) (by omega), (hO.seg hR6.1 (by omega)).done hR6.2⟩
  ·refine WL.z ?_
   refine WC.condF rfl ?_
   refine WC.skip ?_
   refine WK.nThen ?_
   refine WC.seq ?_
   refine WC.r ?_
   refine WL.mv rfl ?_
   refine WL.cond (X.eql rfl rfl) (by decide) (fun h7 => ?_) (fun h7 => ?_)
   ·refine WL.z ?_
    refine WC.condT rfl ?_
    refine WC.r ?_
    refine WL.mv rfl ?_
    refine WL.mv rfl ?_
    refine WL.mv rfl ?_
    refine WL.mv rfl ?_
    refine WL.tM (T.callP (A := []) Tryz.call265 rfl (.refl _) (heap265 _ (L := R) (by omega) (by first | assumption | exact bdS_sw (by assumption) _ _) hC (a := x) (b := y) (by omega) (by omega) (by omega) (by omega))) (by decide) (fun m8 Es_ u_ hle9 hR_ => ?_)
    obtain ⟨rfl, R10, rfl, hR11⟩ := hR_
    refine WL.z ?_
    refine WC.ret ?_
    refine WK.rThen ?_
    refine WK.rBlock ?_
    refine WK.rThen ?_
    refine WK.rBlock ?_
    refine WK.ret0 rfl (fun w' hw' => Ret.mut hw' ?_)
    exact ⟨rfl, _, rfl, hS.tw hR11.1 (by omega) (by omega) (by omega), (hO.seg hR11.1 (by omega)).done hR11.2⟩
   ·refine WL.z ?_
    refine WC.condF rfl ?_
    refine WC.skip ?_
    refine WK.nThen ?_
    refine WC.cut (G := List Span × Int × Mem) (fun (R8, l8, mm8) => mm8) (fun (R8, l8, mm8) => [rowF (v) 23 (R8)]) (fun (R8, l8, mm8) => [(0, v), (1, .int .i64 (↑x)), (2, .int .i64 (↑y)), (3, .int .i64 (l8)), (4, .func (.func fc) #[] #[]), (10, .bool (wb)), (11, .bool (wp)), (12, .int .i64 (↑y - ↑x))]) (fun (R8, l8, mm8) => m.le mm8 ∧ Seg R R8 x y ∧ 0 ≤ l8 ∧ l8 ≤ 1000) ?_ ?_
    ·refine WC.r ?_
     refine WL.mv rfl ?_
     refine WL.condb (X.not rfl) (by decide) (fun h12 => ?_) (fun h12 => ?_)
     ·refine WL.z ?_
      refine WC.condT rfl ?_
      refine WC.r ?_
      refine WL.mv rfl ?_
      refine WL.mv rfl ?_
      refine WL.mv rfl ?_
      refine WL.mv rfl ?_
      refine WL.tM (T.callP (A := []) Tryz.call266 rfl (.refl _) (break266 _ (L := R) (by omega) (by first | assumption | exact bdS_sw (by assumption) _ _) hC (a := x) (b := y) (by omega) (by omega) (by omega) (by omega))) (by decide) (fun m13 Es_ u_ hle14 hR_ => ?_)
      obtain ⟨rfl, R15, rfl, hR16⟩ := hR_
      refine WL.z ?_
      refine WC.region ?_
      refine WL.mv rfl ?_
      refine WL.y (X.sub rfl rfl (by omega) (by omega)) ?_
      refine WL.ag rfl ?_
      refine WL.z ?_
      refine WK.meet ((R15, l - 1, m13)) rfl (.refl _) (.cons rfl (.cons rfl (.cons rfl (.cons rfl (.cons rfl (.cons rfl (.cons rfl (.cons rfl .nil)))))))) ?_
      exact ⟨hle14, hR16, by omega, by omega⟩
     ·refine WL.z ?_
      refine WC.condF rfl ?_
      refine WC.skip ?_
      refine WK.nThen ?_
      refine WK.meet ((R, l, m)) rfl (.refl _) (.cons rfl (.cons rfl (.cons rfl (.cons rfl (.cons rfl (.cons rfl (.cons rfl (.cons rfl .nil)))))))) ?_
      exact ⟨Mem.le_refl _, .refl _ _ _, by omega, by omega⟩
    ·rintro ⟨R8, l8, mm8⟩ hF17
     show WK _ _ mm8 [rowF (v) 23 (R8)] [(0, v), (1, .int .i64 (↑x)), (2, .int .i64 (↑y)), (3, .int .i64 (l8)), (4, .func (.func fc) #[] #[]), (10, .bool (wb)), (11, .bool (wp)), (12, .int .i64 (↑y - ↑x))] _
     replace hF17 : m.le mm8 ∧ Seg R R8 x y ∧ 0 ≤ l8 ∧ l8 ≤ 1000 := hF17
     obtain ⟨hmm8, hS8, hl80, hl81⟩ := hF17
     have hSl8 := hS8.len
     have hBR8 := bdS_perm hBR hS8.perm
     have hLb8 := hLbR.seg hS8 (by omega)
     refine WC.r ?_
     refine WL.mv rfl ?_
     refine WL.mv rfl ?_
     refine WL.mv rfl ?_
     refine WL.mv rfl ?_
     refine WL.tM (T.callP (A := []) Tryz.call267 rfl (.refl _) (choose267 _ (L := R8) (by omega) (by first | assumption | exact bdS_sw (by assumption) _ _) hC (a := x) (b := y) (by omega) (by omega) (by omega) (by omega))) (by decide) (fun m18 Es_ u_ hle19 hR_ => ?_)
     obtain ⟨x22, x23, rfl, R20, rfl, hR21⟩ := hR_
     have he24 : R20 = R8 := hR21.1
     rw [he24]
     have hpb_ := hR21.2
     refine WL.mv rfl ?_
     refine WL.y (X.extract rfl rfl) ?_
     refine WL.y (X.extract rfl rfl) ?_
     refine WL.ag rfl ?_
     refine WL.ag rfl ?_
     refine WL.z ?_
     refine WC.cut (G := List Span × Nat × Int × Mem) (fun (R12, p12, h12, mm12) => mm12) (fun (R12, p12, h12, mm12) => [rowF (v) 23 (R12)]) (fun (R12, p12, h12, mm12) => [(0, v), (1, .int .i64 (↑x)), (2, .int .i64 (↑y)), (3, .int .i64 (l8)), (4, .func (.func fc) #[] #[]), (10, .bool (wb)), (11, .bool (wp)), (12, .int .i64 (↑y - ↑x)), (13, .int .i64 (↑p12)), (14, .int .i64 (h12))]) (fun (R12, p12, h12, mm12) => m18.le mm12 ∧ Seg R R12 x y ∧ x ≤ p12 ∧ p12 < y) ?_ ?_
     ·refine WC.r ?_
      refine WL.mv rfl ?_
      refine WL.cond (X.eql rfl rfl) (by decide) (fun h25 => ?_) (fun h25 => ?_)
      ·refine WL.z ?_
       refine WC.condT rfl ?_
       refine WC.r ?_
       refine WL.mv rfl ?_
       refine WL.mv rfl ?_
       refine WL.mv rfl ?_
       refine WL.mv rfl ?_
       refine WL.tM (T.callP (A := []) Tryz.call268 rfl (.refl _) (reverse268 _ (L := R8) (by omega) (by first | assumption | exact bdS_sw (by assumption) _ _) hC (a := x) (b := y) (by omega) (by omega) (by omega) (by omega))) (by decide) (fun m26 Es_ u_ hle27 hR_ => ?_)
       obtain ⟨rfl, R28, rfl, hR29⟩ := hR_
       refine WL.z ?_
       refine WC.r ?_
       refine WL.mv rfl ?_
       refine WL.y (X.sub rfl rfl (by omega) (by omega)) ?_
       refine WL.mv rfl ?_
       refine WL.mv rfl ?_
       refine WL.y (X.sub rfl rfl (by omega) (by omega)) ?_
       refine WL.y (X.sub rfl rfl (by omega) (by omega)) ?_
       refine WL.ag rfl ?_
       refine WL.nil ?_
       obtain ⟨pv_, hpv_⟩ : ∃ qq__ : Nat, ((↑y - 1) - (↑x22 - ↑x) : Int) = (qq__ : Int) := ⟨((↑y - 1) - (↑x22 - ↑x) : Int).toNat, (by omega)⟩
       rw [hpv_]
       refine WK.nThen ?_
       refine WC.region ?_
       refine WL.ag rfl ?_
       refine WL.z ?_
       refine WK.meet ((R28, pv_, 1, m26)) rfl (.refl _) (.cons rfl (.cons rfl (.cons rfl (.cons rfl (.cons rfl (.cons rfl (.cons rfl (.cons rfl (.cons rfl (.cons rfl .nil)))))))))) ?_
       exact ⟨hle27, (hS8.trans hR29), by omega, by omega⟩
      ·refine WL.z ?_
       refine WC.condF rfl ?_
       refine WC.skip ?_
       refine WK.nThen ?_
       refine WK.meet ((R8, x22, x23, m18)) rfl (.refl _) (.cons rfl (.cons rfl (.cons rfl (.cons rfl (.cons rfl (.cons rfl (.cons rfl (.cons rfl (.cons rfl (.cons rfl .nil)))))))))) ?_
       exact ⟨Mem.le_refl _, hS8, by omega, by omega⟩
     ·rintro ⟨R12, p12, h12, mm12⟩ hF30
      show WK _ _ mm12 [rowF (v) 23 (R12)] [(0, v), (1, .int .i64 (↑x)), (2, .int .i64 (↑y)), (3, .int .i64 (l8)), (4, .func (.func fc) #[] #[]), (10, .bool (wb)), (11, .bool (wp)), (12, .int .i64 (↑y - ↑x)), (13, .int .i64 (↑p12)), (14, .int .i64 (h12))] _
      replace hF30 : m18.le mm12 ∧ Seg R R12 x y ∧ x ≤ p12 ∧ p12 < y := hF30
      obtain ⟨hmm12, hS12, hp120, hp121⟩ := hF30
      have hSl12 := hS12.len
      have hBR12 := bdS_perm hBR hS12.perm
      have hLb12 := hLbR.seg hS12 (by omega)
      refine WC.cut (G := List Span × Mem) (fun (R16, mm16) => mm16) (fun (R16, mm16) => [rowF (v) 23 (R16)]) (fun (R16, mm16) => [(0, v), (1, .int .i64 (↑x)), (2, .int .i64 (↑y)), (3, .int .i64 (l8)), (4, .func (.func fc) #[] #[]), (10, .bool (wb)), (11, .bool (wp)), (12, .int .i64 (↑y - ↑x)), (13, .int .i64 (↑p12))]) (fun (R16, mm16) => mm12.le mm16 ∧ Seg R R16 x y) ?_ ?_
      ·refine WC.r ?_
       refine WL.mv rfl ?_
       refine WL.condb (X.move rfl) (by decide) (fun h31 => ?_) (fun h31 => ?_)
       ·refine WL.yes rfl rfl ?_
        refine WL.mv rfl ?_
        refine WL.y (X.pickT rfl rfl rfl) ?_
        refine WL.condb (X.move rfl) (by decide) (fun h32 => ?_) (fun h32 => ?_)
        ·refine WL.yes rfl rfl ?_
         refine WL.mv rfl ?_
         refine WL.yes rfl rfl ?_
         refine WL.cond (X.eql rfl rfl) (by decide) (fun h33 => ?_) (fun h33 => ?_)
         ·refine WL.y (X.pickT rfl rfl rfl) ?_
          refine WL.z ?_
          refine WC.condT rfl ?_
          refine WC.r ?_
          refine WL.mv rfl ?_
          refine WL.mv rfl ?_
          refine WL.mv rfl ?_
          refine WL.mv rfl ?_
          refine WL.tM (T.callP (A := []) Tryz.call269 rfl (.refl _) (partial269 _ (L := R12) (by omega) (by first | assumption | exact bdS_sw (by assumption) _ _) hC (a := x) (b := y) (by omega) (by omega) (by omega) (by omega) hLb12)) (by decide) (fun m34 Es_ u_ hle35 hR_ => ?_)
          obtain ⟨x38, rfl, R36, rfl, hR37⟩ := hR_
          refine WL.z ?_
          refine WC.condb rfl (fun h39 => ?_) (fun h39 => ?_)
          ·refine WC.ret ?_
           refine WK.rThen ?_
           refine WK.rBlock ?_
           refine WK.rThen ?_
           refine WK.rBlock ?_
           refine WK.ret0 rfl (fun w' hw' => Ret.mut hw' ?_)
           exact ⟨rfl, _, rfl, hS.tw (hS12.trans hR37.1) (by omega) (by omega) (by omega), (hO.seg (hS12.trans hR37.1) (by omega)).done (hR37.2 (by assumption))⟩
          ·refine WC.skip ?_
           refine WK.nThen ?_
           refine WK.meet ((R36, m34)) rfl (.refl _) (.cons rfl (.cons rfl (.cons rfl (.cons rfl (.cons rfl (.cons rfl (.cons rfl (.cons rfl (.cons rfl .nil))))))))) ?_
           exact ⟨hle35, (hS12.trans hR37.1)⟩
         ·refine WL.y (X.pickT rfl rfl rfl) ?_
          refine WL.z ?_
          refine WC.condF rfl ?_
          refine WC.skip ?_
          refine WK.nThen ?_
          refine WK.meet ((R12, mm12)) rfl (.refl _) (.cons rfl (.cons rfl (.cons rfl (.cons rfl (.cons rfl (.cons rfl (.cons rfl (.cons rfl (.cons rfl .nil))))))))) ?_
          exact ⟨Mem.le_refl _, hS12⟩
        ·refine WL.no rfl rfl rfl (by decide) ?_
         refine WL.no rfl rfl rfl (by decide) ?_
         refine WL.y (X.pickF rfl rfl rfl) ?_
         refine WL.z ?_
         refine WC.condF rfl ?_
         refine WC.skip ?_
         refine WK.nThen ?_
         refine WK.meet ((R12, mm12)) rfl (.refl _) (.cons rfl (.cons rfl (.cons rfl (.cons rfl (.cons rfl (.cons rfl (.cons rfl (.cons rfl (.cons rfl .nil))))))))) ?_
         exact ⟨Mem.le_refl _, hS12⟩
       ·refine WL.no rfl rfl rfl (by decide) ?_
        refine WL.y (X.pickF rfl rfl rfl) ?_
        refine WL.mv rfl ?_
        refine WL.no rfl rfl rfl (by decide) ?_
        refine WL.no rfl rfl rfl (by decide) ?_
        refine WL.y (X.pickF rfl rfl rfl) ?_
        refine WL.z ?_
        refine WC.condF rfl ?_
        refine WC.skip ?_
        refine WK.nThen ?_
        refine WK.meet ((R12, mm12)) rfl (.refl _) (.cons rfl (.cons rfl (.cons rfl (.cons rfl (.cons rfl (.cons rfl (.cons rfl (.cons rfl (.cons rfl .nil))))))))) ?_
        exact ⟨Mem.le_refl _, hS12⟩
      ·rintro ⟨R16, mm16⟩ hF40
       show WK _ _ mm16 [rowF (v) 23 (R16)] [(0, v), (1, .int .i64 (↑x)), (2, .int .i64 (↑y)), (3, .int .i64 (l8)), (4, .func (.func fc) #[] #[]), (10, .bool (wb)), (11, .bool (wp)), (12, .int .i64 (↑y - ↑x)), (13, .int .i64 (↑p12))] _
       replace hF40 : mm12.le mm16 ∧ Seg R R16 x y := hF40
       obtain ⟨hmm16, hS16⟩ := hF40
       have hSl16 := hS16.len
       have hBR16 := bdS_perm hBR hS16.perm
       have hLb16 := hLbR.seg hS16 (by omega)
       refine WC.seq ?_
       refine WC.cut (G := Bool) (fun b17_ => mm16) (fun b17_ => [rowF (v) 23 (R16)]) (fun b17_ => [(0, v), (1, .int .i64 (↑x)), (2, .int .i64 (↑y)), (3, .int .i64 (l8)), (4, .func (.func fc) #[] #[]), (10, .bool (wb)), (11, .bool (wp)), (12, .int .i64 (↑y - ↑x)), (13, .int .i64 (↑p12)), (97, .bool (b17_))]) (fun b17_ => (b17_ = true → 0 < x ∧ ¬ cf (gt R16 (x - 1)) (gt R16 p12) < 0) ∧ (b17_ = false → ¬ (0 < x ∧ ¬ cf (gt R16 (x - 1)) (gt R16 p12) < 0))) ?_ ?_
       ·refine WC.draw (π := (.cons 0 (.cons 1 (.cons 2 (.cons 3 (.cons 4 (.cons 5 (.cons 6 (.cons 7 (.cons 8 (.cons 9 (.cons 10 (.cons 11 (.cons 12 (.cons 13 (.cons 14 (.cons 15 (.cons 16 .done)))))))))))))))))) [] [] rfl (by kernel_rfl) ?_
        refine DW.y rfl rfl (X.move rfl) ?_
        refine DW.cond rfl rfl (X.gtr rfl rfl) (by decide) (fun h41 => ?_) (fun h41 => ?_)
        ·refine DW.y rfl rfl (X.move rfl) ?_
         refine DW.y rfl rfl (X.move rfl) ?_
         refine DW.y rfl rfl (X.move rfl) ?_
         refine DW.y rfl rfl (X.move rfl) ?_
         refine DW.y rfl rfl (X.sub rfl rfl (by omega) (by omega)) ?_
         refine DW.y rfl rfl (X.idxRowE (k := 0) (x - 1) Tryz.runUnderlying28 Tryz.sizeOf23 rfl rfl rfl (by omega) (by first | omega | (simp; omega) | simp)) ?_
         refine DW.y rfl rfl (X.loadFs (k := 0) (i := x - 1) (off := 0) (us := [.int .i64 (((gt R16 (x - 1))).Lo), .int .i64 (((gt R16 (x - 1))).Hi)]) Tryz.isAgg23 Tryz.sizeOf23 rfl rfl (by first | omega | (simp; omega) | simp) rfl rfl) ?_
         refine DW.y rfl rfl (X.move rfl) ?_
         refine DW.y rfl rfl (X.move rfl) ?_
         refine DW.y rfl rfl (X.idxRowE (k := 0) p12 Tryz.runUnderlying28 Tryz.sizeOf23 rfl rfl rfl (by omega) (by first | omega | (simp; omega) | simp)) ?_
         refine DW.y rfl rfl (X.loadFs (k := 0) (i := p12) (off := 0) (us := [.int .i64 (((gt R16 p12)).Lo), .int .i64 (((gt R16 p12)).Hi)]) Tryz.isAgg23 Tryz.sizeOf23 rfl rfl (by first | omega | (simp; omega) | simp) rfl rfl) ?_
         refine DW.y rfl rfl (X.callc hC.1 rfl rfl (hC.2.1 _ (gt R16 (x - 1)) (gt R16 p12))) ?_
         refine DW.cond rfl rfl (X.lss rfl rfl) (by decide) (fun h42 => ?_) (fun h42 => ?_)
         ·refine DW.y rfl rfl (X.not rfl) ?_
          refine DW.y rfl rfl (X.pickT rfl rfl rfl) ?_
          refine DW.nil ?_
          refine WK.nThen ?_
          refine WK.meet false rfl (.refl _) (.cons rfl (.cons rfl (.cons rfl (.cons rfl (.cons rfl (.cons rfl (.cons rfl (.cons rfl (.cons rfl (.cons rfl .nil)))))))))) ?_
          exact ⟨fun h_ => by first | (cases h_; done) | exact ⟨by omega, of_decide_eq_true h_⟩ | exact ⟨by omega, by assumption⟩, fun h_ hn_ => by first | (cases h_; done) | exact absurd hn_.2 (of_decide_eq_false h_) | omega | exact absurd hn_.2 (by assumption)⟩
         ·refine DW.y rfl rfl (X.not rfl) ?_
          refine DW.y rfl rfl (X.pickT rfl rfl rfl) ?_
          refine DW.nil ?_
          refine WK.nThen ?_
          refine WK.meet true rfl (.refl _) (.cons rfl (.cons rfl (.cons rfl (.cons rfl (.cons rfl (.cons rfl (.cons rfl (.cons rfl (.cons rfl (.cons rfl .nil)))))))))) ?_
          exact ⟨fun h_ => by first | (cases h_; done) | exact ⟨by omega, of_decide_eq_true h_⟩ | exact ⟨by omega, by assumption⟩, fun h_ hn_ => by first | (cases h_; done) | exact absurd hn_.2 (of_decide_eq_false h_) | omega | exact absurd hn_.2 (by assumption)⟩
        ·refine DW.y rfl rfl (X.move rfl) ?_
         refine DW.no rfl rfl (by decide) ?_
         refine DW.no rfl rfl (by decide) ?_
         refine DW.no rfl rfl (by decide) ?_
         refine DW.no rfl rfl (by decide) ?_
         refine DW.no rfl rfl (by decide) ?_
         refine DW.no rfl rfl (by decide) ?_
         refine DW.no rfl rfl (by decide) ?_
         refine DW.no rfl rfl (by decide) ?_
         refine DW.no rfl rfl (by decide) ?_
         refine DW.no rfl rfl (by decide) ?_
         refine DW.no rfl rfl (by decide) ?_
         refine DW.no rfl rfl (by decide) ?_
         refine DW.no rfl rfl (by decide) ?_
         refine DW.y rfl rfl (X.pickF rfl rfl rfl) ?_
         refine DW.nil ?_
         refine WK.nThen ?_
         refine WK.meet false rfl (.refl _) (.cons rfl (.cons rfl (.cons rfl (.cons rfl (.cons rfl (.cons rfl (.cons rfl (.cons rfl (.cons rfl (.cons rfl .nil)))))))))) ?_
         exact ⟨fun h_ => by first | (cases h_; done) | exact ⟨by omega, of_decide_eq_true h_⟩ | exact ⟨by omega, by assumption⟩, fun h_ hn_ => by first | (cases h_; done) | exact absurd hn_.2 (of_decide_eq_false h_) | omega | exact absurd hn_.2 (by assumption)⟩
       ·rintro b17_ hF43
        show WK _ _ mm16 [rowF (v) 23 (R16)] [(0, v), (1, .int .i64 (↑x)), (2, .int .i64 (↑y)), (3, .int .i64 (l8)), (4, .func (.func fc) #[] #[]), (10, .bool (wb)), (11, .bool (wp)), (12, .int .i64 (↑y - ↑x)), (13, .int .i64 (↑p12)), (97, .bool (b17_))] _
        replace hF43 : (b17_ = true → 0 < x ∧ ¬ cf (gt R16 (x - 1)) (gt R16 p12) < 0) ∧ (b17_ = false → ¬ (0 < x ∧ ¬ cf (gt R16 (x - 1)) (gt R16 p12) < 0)) := hF43
        obtain ⟨hyes17_, hno17_⟩ := hF43
        refine WC.condb rfl (fun h44 => ?_) (fun h44 => ?_)
        ·refine WC.r ?_
         refine WL.mv rfl ?_
         refine WL.mv rfl ?_
         refine WL.mv rfl ?_
         refine WL.mv rfl ?_
         refine WL.mv rfl ?_
         refine WL.tM (T.callP (A := []) Tryz.call270 rfl (.refl _) (parteq270 _ (L := R16) (by omega) (by first | assumption | exact bdS_sw (by assumption) _ _) hC (a := x) (b := y) (pv := p12) (by omega) (by omega) (by omega) (by omega) (by omega) (by omega))) (by decide) (fun m45 Es_ u_ hle46 hR_ => ?_)
         obtain ⟨x49, rfl, R47, rfl, hR48⟩ := hR_
         have hEb_ := hR48.bd
         have hEl_ := hR48.seg.len
         have hEB_ := bdS_perm hBR16 hR48.seg.perm
         refine WL.ag rfl ?_
         refine WL.z ?_
         refine WC.r ?_
         refine WL.mv rfl ?_
         refine WL.ag rfl ?_
         refine WL.z ?_
         refine WC.exit ?_
         refine WK.eThen ?_
         refine WK.eHit ?_
         refine WK.nThen ?_
         refine WK.back hgood0 (Mem.le_trans hmm8 (Mem.le_trans hle19 (Mem.le_trans hmm12 (Mem.le_trans hmm16 hle46)))) ?_
         refine WK.next ((x49, y, l8, wb, wp, R47)) rfl (.refl _) (.cons rfl (.cons rfl (.cons rfl (.cons rfl (.cons rfl (.cons rfl (.cons rfl .nil))))))) ?_ ?_
         ·exact ⟨by have hb_ := hR48.bd; omega, by omega, hS.tw (hS16.trans hR48.seg) (by omega) (by omega) (by omega), out_eq (hO.seg hS16 (by omega)) (by omega) hR48 hLb16 (hyes17_ (by assumption)).1 (fun h_ => (hyes17_ (by assumption)).2 ((hC.cl hBR16).2 h_))⟩
         ·((try dsimp only); omega)
        ·refine WC.skip ?_
         refine WK.nThen ?_
         refine WC.r ?_
         refine WL.mv rfl ?_
         refine WL.mv rfl ?_
         refine WL.mv rfl ?_
         refine WL.mv rfl ?_
         refine WL.mv rfl ?_
         refine WL.tM (T.callP (A := []) Tryz.call271 rfl (.refl _) (part271 _ (L := R16) (by omega) (by first | assumption | exact bdS_sw (by assumption) _ _) hC (a := x) (b := y) (pv := p12) (by omega) (by omega) (by omega) (by omega) (by omega) (by omega))) (by decide) (fun m50 Es_ u_ hle51 hR_ => ?_)
         obtain ⟨x54, x55, rfl, R52, rfl, hR53⟩ := hR_
         have hEb_ := hR53.bd
         have hEl_ := hR53.seg.len
         have hEB_ := bdS_perm hBR16 hR53.seg.perm
         refine WL.mv rfl ?_
         refine WL.y (X.extract rfl rfl) ?_
         refine WL.y (X.extract rfl rfl) ?_
         refine WL.ag rfl ?_
         refine WL.ag rfl ?_
         refine WL.z ?_
         refine WC.r ?_
         refine WL.mv rfl ?_
         refine WL.ag rfl ?_
         refine WL.z ?_
         refine WC.r ?_
         refine WL.mv rfl ?_
         refine WL.mv rfl ?_
         refine WL.y (X.sub rfl rfl (by omega) (by omega)) ?_
         refine WL.mv rfl ?_
         refine WL.mv rfl ?_
         refine WL.y (X.sub rfl rfl (by omega) (by omega)) ?_
         refine WL.ag rfl ?_
         refine WL.ag rfl ?_
         refine WL.z ?_
         refine WC.r ?_
         refine WL.mv rfl ?_
         refine WL.y (X.quo rfl rfl (by omega) (by omega) (by omega)) ?_
         refine WL.ag rfl ?_
         refine WL.z ?_
         refine WC.r ?_
         refine WL.mv rfl ?_
         refine WL.mv rfl ?_
         refine WL.cond (X.lss rfl rfl) (by decide) (fun h56 => ?_) (fun h56 => ?_)
         ·refine WL.z ?_
          refine WC.condT rfl ?_
          refine WC.r ?_
          refine WL.mv rfl ?_
          refine WL.mv rfl ?_
          refine WL.cond (X.geq rfl rfl) (by decide) (fun h57 => ?_) (fun h57 => ?_)
          ·refine WL.ag rfl ?_
           refine WL.z ?_
           refine WC.r ?_
           refine WL.mv rfl ?_
           refine WL.mv rfl ?_
           refine WL.mv rfl ?_
           refine WL.mv rfl ?_
           refine WL.mv rfl ?_
           refine WL.tM (T.callP (A := []) Tryz.call224 rfl (.refl _) (ih (x54 - x) (by omega) _ (L := R52) (a := x) (b := x54) (by omega) hEB_ hC (by omega) (by omega) rfl (by omega) (by omega) (by omega) (hR53.lbL hLb16 (by omega)))) (by decide) (fun m58 Es_ _ hle59 hR_ => ?_)
           obtain ⟨rfl, R60, rfl, hR61⟩ := hR_
           refine WL.z ?_
           refine WC.region ?_
           refine WL.mv rfl ?_
           refine WL.y (X.add rfl rfl (by omega) (by omega)) ?_
           refine WL.ag rfl ?_
           refine WL.nil ?_
           refine WK.nBlock ?_
           refine WK.nThen ?_
           refine WK.back hgood0 (Mem.le_trans hmm8 (Mem.le_trans hle19 (Mem.le_trans hmm12 (Mem.le_trans hmm16 (Mem.le_trans hle51 hle59))))) ?_
           refine WK.next (((x54 + 1), y, l8, true, x55, R60)) rfl (.refl _) (.cons rfl (.cons rfl (.cons rfl (.cons rfl (.cons rfl (.cons rfl (.cons rfl .nil))))))) ?_ ?_
           ·exact ⟨by have hb_ := hR53.bd; omega, by omega, (hS.tw (hS16.trans hR53.seg) (by omega) (by omega) (by omega)).tw hR61.1 (by omega) (by omega) (by omega), out_left (hO.seg hS16 (by omega)) (by omega) hR53 hR61.1 hR61.2⟩
           ·((try dsimp only); omega)
          ·refine WL.ag rfl ?_
           refine WL.z ?_
           refine WC.r ?_
           refine WL.mv rfl ?_
           refine WL.mv rfl ?_
           refine WL.mv rfl ?_
           refine WL.mv rfl ?_
           refine WL.mv rfl ?_
           refine WL.tM (T.callP (A := []) Tryz.call224 rfl (.refl _) (ih (x54 - x) (by omega) _ (L := R52) (a := x) (b := x54) (by omega) hEB_ hC (by omega) (by omega) rfl (by omega) (by omega) (by omega) (hR53.lbL hLb16 (by omega)))) (by decide) (fun m62 Es_ _ hle63 hR_ => ?_)
           obtain ⟨rfl, R64, rfl, hR65⟩ := hR_
           refine WL.z ?_
           refine WC.region ?_
           refine WL.mv rfl ?_
           refine WL.y (X.add rfl rfl (by omega) (by omega)) ?_
           refine WL.ag rfl ?_
           refine WL.nil ?_
           refine WK.nBlock ?_
           refine WK.nThen ?_
           refine WK.back hgood0 (Mem.le_trans hmm8 (Mem.le_trans hle19 (Mem.le_trans hmm12 (Mem.le_trans hmm16 (Mem.le_trans hle51 hle63))))) ?_
           refine WK.next (((x54 + 1), y, l8, false, x55, R64)) rfl (.refl _) (.cons rfl (.cons rfl (.cons rfl (.cons rfl (.cons rfl (.cons rfl (.cons rfl .nil))))))) ?_ ?_
           ·exact ⟨by have hb_ := hR53.bd; omega, by omega, (hS.tw (hS16.trans hR53.seg) (by omega) (by omega) (by omega)).tw hR65.1 (by omega) (by omega) (by omega), out_left (hO.seg hS16 (by omega)) (by omega) hR53 hR65.1 hR65.2⟩
           ·((try dsimp only); omega)
         ·refine WL.z ?_
          refine WC.condF rfl ?_
          refine WC.r ?_
          refine WL.mv rfl ?_
          refine WL.mv rfl ?_
          refine WL.cond (X.geq rfl rfl) (by decide) (fun h66 => ?_) (fun h66 => ?_)
          ·refine WL.ag rfl ?_
           refine WL.z ?_
           refine WC.r ?_
           refine WL.mv rfl ?_
           refine WL.mv rfl ?_
           refine WL.y (X.add rfl rfl (by omega) (by omega)) ?_
           refine WL.mv rfl ?_
           refine WL.mv rfl ?_
           refine WL.mv rfl ?_
           refine WL.tM (T.callP (A := []) Tryz.call224 rfl (.refl _) (ih (y - (x54 + 1)) (by omega) _ (L := R52) (a := (x54 + 1)) (b := y) (by omega) hEB_ hC (by omega) (by omega) rfl (by omega) (by omega) (by omega) hR53.lbR)) (by decide) (fun m67 Es_ _ hle68 hR_ => ?_)
           obtain ⟨rfl, R69, rfl, hR70⟩ := hR_
           refine WL.z ?_
           refine WC.region ?_
           refine WL.mv rfl ?_
           refine WL.ag rfl ?_
           refine WL.nil ?_
           refine WK.nBlock ?_
           refine WK.nThen ?_
           refine WK.back hgood0 (Mem.le_trans hmm8 (Mem.le_trans hle19 (Mem.le_trans hmm12 (Mem.le_trans hmm16 (Mem.le_trans hle51 hle68))))) ?_
           refine WK.next ((x, x54, l8, true, x55, R69)) rfl (.refl _) (.cons rfl (.cons rfl (.cons rfl (.cons rfl (.cons rfl (.cons rfl (.cons rfl .nil))))))) ?_ ?_
           ·exact ⟨by have hb_ := hR53.bd; omega, by omega, (hS.tw (hS16.trans hR53.seg) (by omega) (by omega) (by omega)).tw hR70.1 (by omega) (by omega) (by omega), out_right (hO.seg hS16 (by omega)) (by omega) hR53 hR70.1 hR70.2⟩
           ·((try dsimp only); omega)
          ·refine WL.ag rfl ?_
           refine WL.z ?_
           refine WC.r ?_
           refine WL.mv rfl ?_
           refine WL.mv rfl ?_
           refine WL.y (X.add rfl rfl (by omega) (by omega)) ?_
           refine WL.mv rfl ?_
           refine WL.mv rfl ?_
           refine WL.mv rfl ?_
           refine WL.tM (T.callP (A := []) Tryz.call224 rfl (.refl _) (ih (y - (x54 + 1)) (by omega) _ (L := R52) (a := (x54 + 1)) (b := y) (by omega) hEB_ hC (by omega) (by omega) rfl (by omega) (by omega) (by omega) hR53.lbR)) (by decide) (fun m71 Es_ _ hle72 hR_ => ?_)
           obtain ⟨rfl, R73, rfl, hR74⟩ := hR_
           refine WL.z ?_
           refine WC.region ?_
           refine WL.mv rfl ?_
           refine WL.ag rfl ?_
           refine WL.nil ?_
           refine WK.nBlock ?_
           refine WK.nThen ?_
           refine WK.back hgood0 (Mem.le_trans hmm8 (Mem.le_trans hle19 (Mem.le_trans hmm12 (Mem.le_trans hmm16 (Mem.le_trans hle51 hle72))))) ?_
           refine WK.next ((x, x54, l8, false, x55, R73)) rfl (.refl _) (.cons rfl (.cons rfl (.cons rfl (.cons rfl (.cons rfl (.cons rfl (.cons rfl .nil))))))) ?_ ?_
           ·exact ⟨by have hb_ := hR53.bd; omega, by omega, (hS.tw (hS16.trans hR53.seg) (by omega) (by omega) (by omega)).tw hR74.1 (by omega) (by omega) (by omega), out_right (hO.seg hS16 (by omega)) (by omega) hR53 hR74.1 hR74.2⟩
           ·((try dsimp only); omega)

theorem pdq224 (k : Nat) : PdqM k := Nat.strongRecOn k fun n ih => pdq224_step n ih

end Go.Proofs.T10
