import Derived.Test.YtooomcigmleneaaGreatKxW
import Derived.Test.YtooomcigmleneaaGreatT10W7
/- Top: walks, eighth part, by program. -/
namespace Go.Proofs.T10
open Go Go.Kx
set_option linter.unusedSimpArgs false
set_option linter.unusedVariables false

set_option maxHeartbeats 1000000 in
theorem order326 (m : Mem) {v : Value} {L : List Span} {b0 : Nat} {sw : Int} (hL : L.length ≤ 1000000) (hsw : 0 ≤ sw ∧ sw ≤ 1000) {fc : Nat} {cf : Span → Span → Int} (hC : CmpOk fc cf) {a b : Nat} {za zb : Int} (hza : za = a) (hzb : zb = b) (ha : a < L.length) (hb : b < L.length) : Mut Tryz.prog 326 #[v, .int .i64 za, .int .i64 zb, .pointer (some ⟨b0, 0, none⟩), .func (.func fc) #[] #[]] m [rowF v 23 L, blk b0 3 [.int .i64 sw]] (fun _ Es u => ∃ (x y : Nat) (s' : Int), u = .tuple #[.int .i64 (x : Nat), .int .i64 (y : Nat)] ∧ Es = [rowF v 23 L, blk b0 3 [.int .i64 s']] ∧ ((x = a ∧ y = b) ∨ (x = b ∧ y = a)) ∧ sw ≤ s' ∧ s' ≤ sw + 1) := by
 subst hza
 subst hzb
 refine Mut.start Tryz.func326 rfl Tryz.ntmps326 rfl fun wld => ?_
 refine WC.r ?_
 refine WL.ag rfl ?_
 refine WL.ag rfl ?_
 refine WL.z ?_
 refine WC.seq ?_
 refine WC.seq ?_
 refine WC.draw (π := (.cons 0 (.cons 1 (.cons 2 (.cons 3 (.cons 4 (.cons 5 (.cons 6 (.cons 7 (.cons 8 (.cons 9 (.cons 10 .done)))))))))))) [] [] rfl (by kernel_rfl) ?_
 refine DW.y rfl rfl (X.move rfl) ?_
 refine DW.y rfl rfl (X.move rfl) ?_
 refine DW.y rfl rfl (X.move rfl) ?_
 refine DW.y rfl rfl (X.idxRowE (k := 0) b Tryz.runUnderlying28 Tryz.sizeOf23 rfl rfl rfl (by omega) (by first | omega | (simp; omega) | simp)) ?_
 refine DW.y rfl rfl (X.loadFs (k := 0) (i := b) (off := 0) (us := [.int .i64 (((gt L b)).Lo), .int .i64 (((gt L b)).Hi)]) Tryz.isAgg23 Tryz.sizeOf23 rfl rfl (by first | omega | (simp; omega) | simp) rfl rfl) ?_
 refine DW.y rfl rfl (X.move rfl) ?_
 refine DW.y rfl rfl (X.move rfl) ?_
 refine DW.y rfl rfl (X.idxRowE (k := 0) a Tryz.runUnderlying28 Tryz.sizeOf23 rfl rfl rfl (by omega) (by first | omega | (simp; omega) | simp)) ?_
 refine DW.y rfl rfl (X.loadFs (k := 0) (i := a) (off := 0) (us := [.int .i64 (((gt L a)).Lo), .int .i64 (((gt L a)).Hi)]) Tryz.isAgg23 Tryz.sizeOf23 rfl rfl (by first | omega | (simp; omega) | simp) rfl rfl) ?_
 refine DW.y rfl rfl (X.callc hC.1 rfl rfl (hC.2.1 _ (gt L b) (gt L a))) ?_
 refine DW.cond rfl rfl (X.lss rfl rfl) (by decide) (fun h1 => ?_) (fun h1 => ?_)
 ·refine DW.nil ?_
  refine WK.nThen ?_
  refine WC.condT rfl ?_
  refine WC.r ?_
  refine WL.mv rfl ?_
  refine WL.y (X.nilCheck rfl) ?_
  refine WL.y (X.loadB (k := 1) Tryz.isAgg3 rfl rfl rfl) ?_
  refine WL.y (X.add rfl rfl (by omega) (by omega)) ?_
  refine WL.y (X.nilCheck rfl) ?_
  refine WL.ts (T.storeB (k := 1) Tryz.sizeOf3 rfl rfl rfl rfl (Nat.le_of_ble_eq_true rfl)) ?_
  refine WL.z ?_
  refine WC.r ?_
  refine WL.mv rfl ?_
  refine WL.mv rfl ?_
  refine WL.ag rfl ?_
  refine WL.ag rfl ?_
  refine WL.z ?_
  refine WC.ret ?_
  refine WK.rThen ?_
  refine WK.ret2 rfl rfl rfl (fun w' hw' => Ret.mut hw' ?_)
  exact ⟨b, a, _, rfl, rfl, by omega, by omega, by omega⟩
 ·refine DW.nil ?_
  refine WK.nThen ?_
  refine WC.condF rfl ?_
  refine WC.skip ?_
  refine WK.nThen ?_
  refine WC.r ?_
  refine WL.mv rfl ?_
  refine WL.mv rfl ?_
  refine WL.ag rfl ?_
  refine WL.ag rfl ?_
  refine WL.z ?_
  refine WC.ret ?_
  refine WK.ret2 rfl rfl rfl (fun w' hw' => Ret.mut hw' ?_)
  exact ⟨a, b, _, rfl, rfl, by omega, by omega, by omega⟩

set_option maxHeartbeats 1000000 in
theorem median309 (m : Mem) {v : Value} {L : List Span} {b0 : Nat} {sw : Int} (hL : L.length ≤ 1000000) (hsw : 0 ≤ sw ∧ sw ≤ 990) {fc : Nat} {cf : Span → Span → Int} (hC : CmpOk fc cf) {a b c : Nat} {za zb zc : Int} (hza : za = a) (hzb : zb = b) (hzc : zc = c) (ha : a < L.length) (hb : b < L.length) (hc : c < L.length) : Mut Tryz.prog 309 #[v, .int .i64 za, .int .i64 zb, .int .i64 zc, .pointer (some ⟨b0, 0, none⟩), .func (.func fc) #[] #[]] m [rowF v 23 L, blk b0 3 [.int .i64 sw]] (fun _ Es u => ∃ (x : Nat) (s' : Int), u = .int .i64 (x : Nat) ∧ Es = [rowF v 23 L, blk b0 3 [.int .i64 s']] ∧ (x = a ∨ x = b ∨ x = c) ∧ sw ≤ s' ∧ s' ≤ sw + 3) := by
 subst hza
 subst hzb
 subst hzc
 refine Mut.start Tryz.func309 rfl Tryz.ntmps309 rfl fun wld => ?_
 refine WC.r ?_
 refine WL.ag rfl ?_
 refine WL.z ?_
 refine WC.r ?_
 refine WL.mv rfl ?_
 refine WL.mv rfl ?_
 refine WL.mv rfl ?_
 refine WL.mv rfl ?_
 refine WL.mv rfl ?_
 refine WL.tM (T.callP (A := []) Tryz.call326 rfl (.refl _) (order326 _ (L := L) (sw := sw) (by omega) (by omega) hC (a := a) (b := b) (by omega) (by omega) (by omega) (by omega))) (by decide) (fun m1 Es_ u_ hle2 hR_ => ?_)
 obtain ⟨x3, x4, w5, rfl, rfl, hr6, hr7⟩ := hR_
 refine WL.mv rfl ?_
 refine WL.y (X.extract rfl rfl) ?_
 refine WL.y (X.extract rfl rfl) ?_
 refine WL.ag rfl ?_
 refine WL.ag rfl ?_
 refine WL.z ?_
 refine WC.r ?_
 refine WL.mv rfl ?_
 refine WL.mv rfl ?_
 refine WL.mv rfl ?_
 refine WL.mv rfl ?_
 refine WL.mv rfl ?_
 refine WL.tM (T.callP (A := []) Tryz.call326 rfl (.refl _) (order326 _ (L := L) (sw := w5) (by omega) (by omega) hC (a := x4) (b := c) (by omega) (by omega) (by omega) (by omega))) (by decide) (fun m8 Es_ u_ hle9 hR_ => ?_)
 obtain ⟨x10, x11, w12, rfl, rfl, hr13, hr14⟩ := hR_
 refine WL.mv rfl ?_
 refine WL.y (X.extract rfl rfl) ?_
 refine WL.y (X.extract rfl rfl) ?_
 refine WL.ag rfl ?_
 refine WL.ag rfl ?_
 refine WL.z ?_
 refine WC.r ?_
 refine WL.mv rfl ?_
 refine WL.mv rfl ?_
 refine WL.mv rfl ?_
 refine WL.mv rfl ?_
 refine WL.mv rfl ?_
 refine WL.tM (T.callP (A := []) Tryz.call326 rfl (.refl _) (order326 _ (L := L) (sw := w12) (by omega) (by omega) hC (a := x3) (b := x10) (by omega) (by omega) (by omega) (by omega))) (by decide) (fun m15 Es_ u_ hle16 hR_ => ?_)
 obtain ⟨x17, x18, w19, rfl, rfl, hr20, hr21⟩ := hR_
 refine WL.mv rfl ?_
 refine WL.y (X.extract rfl rfl) ?_
 refine WL.y (X.extract rfl rfl) ?_
 refine WL.ag rfl ?_
 refine WL.ag rfl ?_
 refine WL.z ?_
 refine WC.r ?_
 refine WL.mv rfl ?_
 refine WL.ag rfl ?_
 refine WL.z ?_
 refine WC.ret ?_
 refine WK.ret1 rfl rfl (fun w' hw' => Ret.mut hw' ?_)
 exact ⟨x18, _, rfl, rfl, by omega, by omega, by omega⟩

set_option maxHeartbeats 1000000 in
theorem medadj308 (m : Mem) {v : Value} {L : List Span} {b0 : Nat} {sw : Int} (hL : L.length ≤ 1000000) (hsw : 0 ≤ sw ∧ sw ≤ 980) {fc : Nat} {cf : Span → Span → Int} (hC : CmpOk fc cf) {a : Nat} {za : Int} (hza : za = a) (ha : 1 ≤ a) (hb : a + 1 < L.length) : Mut Tryz.prog 308 #[v, .int .i64 za, .pointer (some ⟨b0, 0, none⟩), .func (.func fc) #[] #[]] m [rowF v 23 L, blk b0 3 [.int .i64 sw]] (fun _ Es u => ∃ (x : Nat) (s' : Int), u = .int .i64 (x : Nat) ∧ Es = [rowF v 23 L, blk b0 3 [.int .i64 s']] ∧ (x = a - 1 ∨ x = a ∨ x = a + 1) ∧ sw ≤ s' ∧ s' ≤ sw + 3) := by
 subst hza
 refine Mut.start Tryz.func308 rfl Tryz.ntmps308 rfl fun wld => ?_
 refine WC.r ?_
 refine WL.ag rfl ?_
 refine WL.z ?_
 refine WC.r ?_
 refine WL.mv rfl ?_
 refine WL.mv rfl ?_
 refine WL.y (X.sub rfl rfl (by omega) (by omega)) ?_
 refine WL.mv rfl ?_
 refine WL.mv rfl ?_
 refine WL.y (X.add rfl rfl (by omega) (by omega)) ?_
 refine WL.mv rfl ?_
 refine WL.mv rfl ?_
 refine WL.tM (T.callP (A := []) Tryz.call309 rfl (.refl _) (median309 _ (L := L) (sw := sw) (by omega) (by omega) hC (a := a - 1) (b := a) (c := a + 1) (by omega) (by omega) (by omega) (by omega) (by omega) (by omega))) (by decide) (fun m1 Es_ u_ hle2 hR_ => ?_)
 obtain ⟨x3, w4, rfl, rfl, hr5, hr6⟩ := hR_
 refine WL.ag rfl ?_
 refine WL.z ?_
 refine WC.ret ?_
 refine WK.ret1 rfl rfl (fun w' hw' => Ret.mut hw' ?_)
 exact ⟨x3, _, rfl, rfl, by omega, by omega, by omega⟩

set_option maxHeartbeats 1000000 in
theorem choose267 (m : Mem) {v : Value} {L : List Span} (hL : L.length ≤ 1000000) (hB : bdS L) {fc : Nat} {cf : Span → Span → Int} (hC : CmpOk fc cf) {a b : Nat} {za zb : Int} (hza : za = a) (hzb : zb = b) (hab : a + 12 < b) (hbl : b ≤ L.length) : Mut Tryz.prog 267 #[v, .int .i64 za, .int .i64 zb, .func (.func fc) #[] #[]] m [rowF v 23 L] (fun _ Es u => ∃ p : Nat, ∃ h : Int, u = .tuple #[.int .i64 p, .int .i64 h] ∧ ∃ R, Es = [rowF v 23 R] ∧ R = L ∧ a ≤ p ∧ p < b) := by
 subst hza
 subst hzb
 refine Mut.start Tryz.func267 rfl Tryz.ntmps267 rfl fun wld => ?_
 refine WC.r ?_
 refine WL.ag rfl ?_
 refine WL.ag rfl ?_
 refine WL.z ?_
 refine WC.r ?_
 refine WL.mv rfl ?_
 refine WL.mv rfl ?_
 refine WL.y (X.sub rfl rfl (by omega) (by omega)) ?_
 refine WL.ag rfl ?_
 refine WL.z ?_
 refine WC.r ?_
 refine WL.tn (T.alloc Tryz.zeroValue3 rfl) (by decide) fun b1 => ?_
 refine WL.z ?_
 refine WC.r ?_
 refine WL.mv rfl ?_
 refine WL.mv rfl ?_
 refine WL.y (X.quo rfl rfl (by omega) (by omega) (by omega)) ?_
 refine WL.y (X.mul rfl rfl (by omega) (by omega)) ?_
 refine WL.y (X.add rfl rfl (by omega) (by omega)) ?_
 refine WL.ag rfl ?_
 refine WL.z ?_
 refine WC.r ?_
 refine WL.mv rfl ?_
 refine WL.mv rfl ?_
 refine WL.y (X.quo rfl rfl (by omega) (by omega) (by omega)) ?_
 refine WL.y (X.mul rfl rfl (by omega) (by omega)) ?_
 refine WL.y (X.add rfl rfl (by omega) (by omega)) ?_
 refine WL.ag rfl ?_
 refine WL.z ?_
 refine WC.r ?_
 refine WL.mv rfl ?_
 refine WL.mv rfl ?_
 refine WL.y (X.quo rfl rfl (by omega) (by omega) (by omega)) ?_
 refine WL.y (X.mul rfl rfl (by omega) (by omega)) ?_
 refine WL.y (X.add rfl rfl (by omega) (by omega)) ?_
 refine WL.ag rfl ?_
 refine WL.z ?_
 refine WC.seq ?_
 refine WC.r ?_
 refine WL.mv rfl ?_
 refine WL.y (OpX.t (X.geq rfl rfl) (by omega)) ?_
 refine WL.z ?_
 refine WC.condT rfl ?_
 refine WC.seq ?_
 refine WC.r ?_
 refine WL.mv rfl ?_
 refine WL.cond (X.geq rfl rfl) (by decide) (fun h2 => ?_) (fun h2 => ?_)
 ·refine WL.z ?_
  refine WC.condT rfl ?_
  refine WC.r ?_
  refine WL.mv rfl ?_
  refine WL.mv rfl ?_
  refine WL.mv rfl ?_
  refine WL.tM (T.callP (A := []) Tryz.call308 rfl ((List.Perm.cons _ (.refl _)).trans (List.perm_middle (l₁ := [blk b1 3 [.int .i64 (0)]]) (l₂ := []) (a := rowF (v) 23 (L))).symm) (medadj308 _ (L := L) (sw := 0) (by omega) (by omega) hC (a := (↑a + (((↑b - ↑a) / 4) * 1) : Int).toNat) (by omega) (by omega) (by omega))) (by decide) (fun m3 Es_ u_ hle4 hR_ => ?_)
  obtain ⟨x5, w6, rfl, rfl, hr7, hr8⟩ := hR_
  refine WL.ag rfl ?_
  refine WL.z ?_
  refine WC.r ?_
  refine WL.mv rfl ?_
  refine WL.mv rfl ?_
  refine WL.mv rfl ?_
  refine WL.tM (T.callP (A := []) Tryz.call308 rfl (.refl _) (medadj308 _ (L := L) (sw := w6) (by omega) (by omega) hC (a := (↑a + (((↑b - ↑a) / 4) * 2) : Int).toNat) (by omega) (by omega) (by omega))) (by decide) (fun m9 Es_ u_ hle10 hR_ => ?_)
  obtain ⟨x11, w12, rfl, rfl, hr13, hr14⟩ := hR_
  refine WL.ag rfl ?_
  refine WL.z ?_
  refine WC.region ?_
  refine WL.mv rfl ?_
  refine WL.mv rfl ?_
  refine WL.mv rfl ?_
  refine WL.tM (T.callP (A := []) Tryz.call308 rfl (.refl _) (medadj308 _ (L := L) (sw := w12) (by omega) (by omega) hC (a := (↑a + (((↑b - ↑a) / 4) * 3) : Int).toNat) (by omega) (by omega) (by omega))) (by decide) (fun m15 Es_ u_ hle16 hR_ => ?_)
  obtain ⟨x17, w18, rfl, rfl, hr19, hr20⟩ := hR_
  refine WL.ag rfl ?_
  refine WL.z ?_
  refine WC.region ?_
  refine WL.mv rfl ?_
  refine WL.mv rfl ?_
  refine WL.mv rfl ?_
  refine WL.mv rfl ?_
  refine WL.mv rfl ?_
  refine WL.tM (T.callP (A := []) Tryz.call309 rfl (.refl _) (median309 _ (L := L) (sw := w18) (by omega) (by omega) hC (a := x5) (b := x11) (c := x17) (by omega) (by omega) (by omega) (by omega) (by omega) (by omega))) (by decide) (fun m21 Es_ u_ hle22 hR_ => ?_)
  obtain ⟨x23, w24, rfl, rfl, hr25, hr26⟩ := hR_
  refine WL.ag rfl ?_
  refine WL.z ?_
  refine WC.r ?_
  refine WL.y (X.loadB (k := 1) Tryz.isAgg3 rfl rfl rfl) ?_
  refine WL.z ?_
  refine WC.block ?_
  refine WC.r ?_
  refine WL.cond (X.eql rfl rfl) (by decide) (fun h27 => ?_) (fun h27 => ?_)
  ·refine WL.ag rfl ?_
   refine WL.z ?_
   refine WC.condT rfl ?_
   refine WC.r ?_
   refine WL.mv rfl ?_
   refine WL.ag rfl ?_
   refine WL.ag rfl ?_
   refine WL.z ?_
   refine WC.ret ?_
   refine WK.rBlock ?_
   refine WK.ret2 rfl rfl rfl (fun w' hw' => Ret.mut (hw'.weaken (.cons_cons _ (.cons _ .slnil))) ?_)
   exact ⟨_, _, rfl, _, rfl, rfl, by omega, by omega⟩
  ·refine WL.ag rfl ?_
   refine WL.z ?_
   refine WC.condF rfl ?_
   refine WC.r ?_
   refine WL.cond (X.eql rfl rfl) (by decide) (fun h28 => ?_) (fun h28 => ?_)
   ·refine WL.ag rfl ?_
    refine WL.z ?_
    refine WC.condT rfl ?_
    refine WC.r ?_
    refine WL.mv rfl ?_
    refine WL.ag rfl ?_
    refine WL.ag rfl ?_
    refine WL.z ?_
    refine WC.ret ?_
    refine WK.rBlock ?_
    refine WK.ret2 rfl rfl rfl (fun w' hw' => Ret.mut (hw'.weaken (.cons_cons _ (.cons _ .slnil))) ?_)
    exact ⟨_, _, rfl, _, rfl, rfl, by omega, by omega⟩
   ·refine WL.ag rfl ?_
    refine WL.z ?_
    refine WC.condF rfl ?_
    refine WC.r ?_
    refine WL.mv rfl ?_
    refine WL.ag rfl ?_
    refine WL.ag rfl ?_
    refine WL.z ?_
    refine WC.ret ?_
    refine WK.rBlock ?_
    refine WK.ret2 rfl rfl rfl (fun w' hw' => Ret.mut (hw'.weaken (.cons_cons _ (.cons _ .slnil))) ?_)
    exact ⟨_, _, rfl, _, rfl, rfl, by omega, by omega⟩
 ·refine WL.z ?_
  refine WC.condF rfl ?_
  refine WC.skip ?_
  refine WK.nThen ?_
  refine WC.region ?_
  refine WL.mv rfl ?_
  refine WL.mv rfl ?_
  refine WL.mv rfl ?_
  refine WL.mv rfl ?_
  refine WL.mv rfl ?_
  refine WL.tM (T.callP (A := []) Tryz.call309 rfl ((List.Perm.cons _ (.refl _)).trans (List.perm_middle (l₁ := [blk b1 3 [.int .i64 (0)]]) (l₂ := []) (a := rowF (v) 23 (L))).symm) (median309 _ (L := L) (sw := 0) (by omega) (by omega) hC (a := (↑a + (((↑b - ↑a) / 4) * 1) : Int).toNat) (b := (↑a + (((↑b - ↑a) / 4) * 2) : Int).toNat) (c := (↑a + (((↑b - ↑a) / 4) * 3) : Int).toNat) (by omega) (by omega) (by omega) (by omega) (by omega) (by omega))) (by decide) (fun m29 Es_ u_ hle30 hR_ => ?_)
  obtain ⟨x31, w32, rfl, rfl, hr33, hr34⟩ := hR_
  refine WL.ag rfl ?_
  refine WL.z ?_
  refine WC.r ?_
  refine WL.y (X.loadB (k := 1) Tryz.isAgg3 rfl rfl rfl) ?_
  refine WL.z ?_
  refine WC.block ?_
  refine WC.r ?_
  refine WL.cond (X.eql rfl rfl) (by decide) (fun h35 => ?_) (fun h35 => ?_)
  ·refine WL.ag rfl ?_
   refine WL.z ?_
   refine WC.condT rfl ?_
   refine WC.r ?_
   refine WL.mv rfl ?_
   refine WL.ag rfl ?_
   refine WL.ag rfl ?_
   refine WL.z ?_
   refine WC.ret ?_
   refine WK.rBlock ?_
   refine WK.ret2 rfl rfl rfl (fun w' hw' => Ret.mut (hw'.weaken (.cons_cons _ (.cons _ .slnil))) ?_)
   exact ⟨_, _, rfl, _, rfl, rfl, by omega, by omega⟩
  ·refine WL.ag rfl ?_
   refine WL.z ?_
   refine WC.condF rfl ?_
   refine WC.r ?_
   refine WL.cond (X.eql rfl rfl) (by decide) (fun h36 => ?_) (fun h36 => ?_)
   ·refine WL.ag rfl ?_
    refine WL.z ?_
    refine WC.condT rfl ?_
    refine WC.r ?_
    refine WL.mv rfl ?_
    refine WL.ag rfl ?_
    refine WL.ag rfl ?_
    refine WL.z ?_
    refine WC.ret ?_
    refine WK.rBlock ?_
    refine WK.ret2 rfl rfl rfl (fun w' hw' => Ret.mut (hw'.weaken (.cons_cons _ (.cons _ .slnil))) ?_)
    exact ⟨_, _, rfl, _, rfl, rfl, by omega, by omega⟩
   ·refine WL.ag rfl ?_
    refine WL.z ?_
    refine WC.condF rfl ?_
    refine WC.r ?_
    refine WL.mv rfl ?_
    refine WL.ag rfl ?_
    refine WL.ag rfl ?_
    refine WL.z ?_
    refine WC.ret ?_
    refine WK.rBlock ?_
    refine WK.ret2 rfl rfl rfl (fun w' hw' => Ret.mut (hw'.weaken (.cons_cons _ (.cons _ .slnil))) ?_)
    exact ⟨_, _, rfl, _, rfl, rfl, by omega, by omega⟩

end Go.Proofs.T10
/- Top: walks, ninth part, by program. -/
namespace Go.Proofs.T10
open Go Go.Kx
set_option linter.unusedSimpArgs false
set_option linter.unusedVariables false

set_option maxHeartbeats 2000000 in
theorem partial269 (m : Mem) {v : Value} {L : List Span} (hL : L.length ≤ 1000000) (hB : bdS L) {fc : Nat} {cf : Span → Span → Int} (hC : CmpOk fc cf) {a b : Nat} {za zb : Int} (hza : za = a) (hzb : zb = b) (hab : a + 12 < b) (hbl : b ≤ L.length) (hLb : Lb Span.Lo L a b) : Mut Tryz.prog 269 #[v, .int .i64 za, .int .i64 zb, .func (.func fc) #[] #[]] m [rowF v 23 L] (fun _ Es u => ∃ q : Bool, u = .bool q ∧ ∃ R, Es = [rowF v 23 R] ∧ Seg L R a b ∧ (q = true → Srt Span.Lo R a b)) := by
 subst hza
 subst hzb
 refine Mut.start Tryz.func269 rfl Tryz.ntmps269 rfl fun wld => ?_
 refine WC.r ?_
 refine WL.ag rfl ?_
 refine WL.z ?_
 refine WC.r ?_
 refine WL.mv rfl ?_
 refine WL.y (X.add rfl rfl (by omega) (by omega)) ?_
 refine WL.ag rfl ?_
 refine WL.z ?_
 refine WC.seq ?_
 refine WC.r ?_
 refine WL.ag rfl ?_
 refine WL.z ?_
 refine WC.block ?_
 refine WC.loop (G := Nat × Nat × List Span) (fun (k, i, R) => 5 - k) (fun (k, i, R) => m) (fun (k, i, R) => [rowF (v) 23 (R)]) (fun (k, i, R) => [(0, v), (1, .int .i64 (↑a)), (2, .int .i64 (↑b)), (3, .func (.func fc) #[] #[]), (9, .int .i64 (↑i)), (10, .int .i64 (↑k))]) (fun (k, i, R) => k ≤ 5 ∧ a + 1 ≤ i ∧ i ≤ b ∧ Seg L R a b ∧ Srt Span.Lo R a i) ((0, a + 1, L)) rfl (.refl _) (.cons rfl (.cons rfl (.cons rfl (.cons rfl (.cons rfl (.cons rfl .nil)))))) ?_ ?_
 ·exact ⟨by omega, by omega, by omega, .refl _ _ _, .one _ _ _⟩
 ·rintro ⟨k, i, R⟩ hF1
  show WK _ _ m [rowF (v) 23 (R)] [(0, v), (1, .int .i64 (↑a)), (2, .int .i64 (↑b)), (3, .func (.func fc) #[] #[]), (9, .int .i64 (↑i)), (10, .int .i64 (↑k))] _
  replace hF1 : k ≤ 5 ∧ a + 1 ≤ i ∧ i ≤ b ∧ Seg L R a b ∧ Srt Span.Lo R a i := hF1
  obtain ⟨hk, hi1, hi2, hS, hT⟩ := hF1
  have hSl := hS.len
  have hBR := bdS_perm hB hS.perm
  refine WC.seq ?_
  refine WC.r ?_
  refine WL.mv rfl ?_
  refine WL.cond (X.lss rfl rfl) (by decide) (fun h2 => ?_) (fun h2 => ?_)
  ·refine WL.z ?_
   refine WC.condT rfl ?_
   refine WC.skip ?_
   refine WK.nThen ?_
   refine WC.seq ?_
   refine WC.block ?_
   refine WC.seq ?_
   refine WC.block ?_
   refine WC.loop (G := Nat) (fun x => b - x) (fun x => m) (fun x => [rowF (v) 23 (R)]) (fun x => [(0, v), (1, .int .i64 (↑a)), (2, .int .i64 (↑b)), (3, .func (.func fc) #[] #[]), (9, .int .i64 (↑x)), (10, .int .i64 (↑k))]) (fun x => i ≤ x ∧ x ≤ b ∧ Srt Span.Lo R a x) i rfl (.refl _) (.cons rfl (.cons rfl (.cons rfl (.cons rfl (.cons rfl (.cons rfl .nil)))))) ?_ ?_
   ·exact ⟨Nat.le_refl _, by omega, hT⟩
   ·rintro x hF3
    show WK _ _ m [rowF (v) 23 (R)] [(0, v), (1, .int .i64 (↑a)), (2, .int .i64 (↑b)), (3, .func (.func fc) #[] #[]), (9, .int .i64 (↑x)), (10, .int .i64 (↑k))] _
    replace hF3 : i ≤ x ∧ x ≤ b ∧ Srt Span.Lo R a x := hF3
    obtain ⟨hx1, hx2, hX⟩ := hF3
    refine WC.seq ?_
    refine WC.cut (G := Bool) (fun b5_ => m) (fun b5_ => [rowF (v) 23 (R)]) (fun b5_ => [(0, v), (1, .int .i64 (↑a)), (2, .int .i64 (↑b)), (3, .func (.func fc) #[] #[]), (9, .int .i64 (↑x)), (10, .int .i64 (↑k)), (36, .bool (b5_))]) (fun b5_ => (b5_ = true → x < b ∧ ¬ cf (gt R x) (gt R (x - 1)) < 0) ∧ (b5_ = false → ¬ (x < b ∧ ¬ cf (gt R x) (gt R (x - 1)) < 0))) ?_ ?_
    ·refine WC.draw (π := (.cons 0 (.cons 1 (.cons 2 (.cons 3 (.cons 4 (.cons 5 (.cons 6 (.cons 7 (.cons 8 (.cons 9 (.cons 10 (.cons 11 (.cons 12 (.cons 13 (.cons 14 (.cons 15 (.cons 16 (.cons 17 .done))))))))))))))))))) [] [] rfl (by kernel_rfl) ?_
     refine DW.y rfl rfl (X.move rfl) ?_
     refine DW.y rfl rfl (X.move rfl) ?_
     refine DW.cond rfl rfl (X.lss rfl rfl) (by decide) (fun h4 => ?_) (fun h4 => ?_)
     ·refine DW.y rfl rfl (X.move rfl) ?_
      refine DW.y rfl rfl (X.move rfl) ?_
      refine DW.y rfl rfl (X.move rfl) ?_
      refine DW.y rfl rfl (X.move rfl) ?_
      refine DW.y rfl rfl (X.idxRowE (k := 0) x Tryz.runUnderlying28 Tryz.sizeOf23 rfl rfl rfl (by omega) (by first | omega | (simp; omega) | simp)) ?_
      refine DW.y rfl rfl (X.loadFs (k := 0) (i := x) (off := 0) (us := [.int .i64 (((gt R x)).Lo), .int .i64 (((gt R x)).Hi)]) Tryz.isAgg23 Tryz.sizeOf23 rfl rfl (by first | omega | (simp; omega) | simp) rfl rfl) ?_
      refine DW.y rfl rfl (X.move rfl) ?_
      refine DW.y rfl rfl (X.move rfl) ?_
      refine DW.y rfl rfl (X.sub rfl rfl (by omega) (by omega)) ?_
      refine DW.y rfl rfl (X.idxRowE (k := 0) (x - 1) Tryz.runUnderlying28 Tryz.sizeOf23 rfl rfl rfl (by omega) (by first | omega | (simp; omega) | simp)) ?_
      refine DW.y rfl rfl (X.loadFs (k := 0) (i := x - 1) (off := 0) (us := [.int .i64 (((gt R (x - 1))).Lo), .int .i64 (((gt R (x - 1))).Hi)]) Tryz.isAgg23 Tryz.sizeOf23 rfl rfl (by first | omega | (simp; omega) | simp) rfl rfl) ?_
      refine DW.y rfl rfl (X.callc hC.1 rfl rfl (hC.2.1 _ (gt R x) (gt R (x - 1)))) ?_
      refine DW.cond rfl rfl (X.lss rfl rfl) (by decide) (fun h5 => ?_) (fun h5 => ?_)
      ·refine DW.y rfl rfl (X.not rfl) ?_
       refine DW.y rfl rfl (X.pickT rfl rfl rfl) ?_
       refine DW.nil ?_
       refine WK.nThen ?_
       refine WK.meet false rfl (.refl _) (.cons rfl (.cons rfl (.cons rfl (.cons rfl (.cons rfl (.cons rfl (.cons rfl .nil))))))) ?_
       exact ⟨fun h_ => by first | (cases h_; done) | exact ⟨by omega, of_decide_eq_true h_⟩ | exact ⟨by omega, by assumption⟩, fun h_ hn_ => by first | (cases h_; done) | exact absurd hn_.2 (of_decide_eq_false h_) | omega | exact absurd hn_.2 (by assumption)⟩
      ·refine DW.y rfl rfl (X.not rfl) ?_
       refine DW.y rfl rfl (X.pickT rfl rfl rfl) ?_
       refine DW.nil ?_
       refine WK.nThen ?_
       refine WK.meet true rfl (.refl _) (.cons rfl (.cons rfl (.cons rfl (.cons rfl (.cons rfl (.cons rfl (.cons rfl .nil))))))) ?_
       exact ⟨fun h_ => by first | (cases h_; done) | exact ⟨by omega, of_decide_eq_true h_⟩ | exact ⟨by omega, by assumption⟩, fun h_ hn_ => by first | (cases h_; done) | exact absurd hn_.2 (of_decide_eq_false h_) | omega | exact absurd hn_.2 (by assumption)⟩
     ·refine DW.y rfl rfl (X.move rfl) ?_
      refine DW.no rfl rfl (by decide) ?_
      refine DW.no rfl rfl (by decide) ?_
      refine DW.no rfl rfl (by decide) ?_
      refine DW.no rfl rfl (by decide) ?_
      refine DW.no rfl rfl (by decide) ?_
      refine DW.no rfl rfl (by decide) ?_
      refine DW.no rfl rfl (by decide) ?_
      refine DW.no rfl rfl (by decide) ?_
      refine DW.no rfl rfl (by decide) ?_
      refine DW.no rfl rfl (by decide) ?_
      refine DW.no rfl rfl (by decide) ?_
      refine DW.no rfl rfl (by decide) ?_
      refine DW.no rfl rfl (by decide) ?_
      refine DW.y rfl rfl (X.pickF rfl rfl rfl) ?_
      refine DW.nil ?_
      refine WK.nThen ?_
      refine WK.meet false rfl (.refl _) (.cons rfl (.cons rfl (.cons rfl (.cons rfl (.cons rfl (.cons rfl (.cons rfl .nil))))))) ?_
      exact ⟨fun h_ => by first | (cases h_; done) | exact ⟨by omega, of_decide_eq_true h_⟩ | exact ⟨by omega, by assumption⟩, fun h_ hn_ => by first | (cases h_; done) | exact absurd hn_.2 (of_decide_eq_false h_) | omega | exact absurd hn_.2 (by assumption)⟩
    ·rintro b5_ hF6
     show WK _ _ m [rowF (v) 23 (R)] [(0, v), (1, .int .i64 (↑a)), (2, .int .i64 (↑b)), (3, .func (.func fc) #[] #[]), (9, .int .i64 (↑x)), (10, .int .i64 (↑k)), (36, .bool (b5_))] _
     replace hF6 : (b5_ = true → x < b ∧ ¬ cf (gt R x) (gt R (x - 1)) < 0) ∧ (b5_ = false → ¬ (x < b ∧ ¬ cf (gt R x) (gt R (x - 1)) < 0)) := hF6
     obtain ⟨hyes5_, hno5_⟩ := hF6
     refine WC.condb rfl (fun h7 => ?_) (fun h7 => ?_)
     ·refine WC.skip ?_
      refine WK.nThen ?_
      refine WC.block ?_
      have hy5_ := hyes5_ (by assumption)
      refine WC.region ?_
      refine WL.mv rfl ?_
      refine WL.y (X.add rfl rfl (by omega) (by omega)) ?_
      refine WL.ag rfl ?_
      refine WL.nil ?_
      refine WK.nBlock ?_
      refine WK.nThen ?_
      refine WK.next (x + 1) rfl (.refl _) (.cons rfl (.cons rfl (.cons rfl (.cons rfl (.cons rfl (.cons rfl .nil)))))) ?_ ?_
      ·exact ⟨by omega, by omega, hX.more (fun h_ => hy5_.2 ((hC.cl hBR).2 h_))⟩
      ·((try dsimp only); omega)
     ·refine WC.exit ?_
      refine WK.eThen ?_
      refine WK.eThen ?_
      refine WK.eHit ?_
      refine WK.nThen ?_
      refine WC.seq ?_
      refine WC.r ?_
      refine WL.mv rfl ?_
      refine WL.mv rfl ?_
      refine WL.cond (X.eql rfl rfl) (by decide) (fun h8 => ?_) (fun h8 => ?_)
      ·refine WL.z ?_
       refine WC.condT rfl ?_
       refine WC.r ?_
       refine WL.ag rfl ?_
       refine WL.z ?_
       refine WC.ret ?_
       refine WK.rThen ?_
       refine WK.rBlock ?_
       refine WK.rThen ?_
       refine WK.rThen ?_
       refine WK.rBlock ?_
       refine WK.rThen ?_
       refine WK.ret1 rfl rfl (fun w' hw' => Ret.mut hw' ?_)
       exact ⟨_, rfl, _, rfl, hS, fun h_ => by first | (cases h_; done) | (obtain rfl : x = b := (by omega); exact hX) | contradiction⟩
      ·refine WL.z ?_
       refine WC.condF rfl ?_
       refine WC.skip ?_
       refine WK.nThen ?_
       refine WC.seq ?_
       refine WC.r ?_
       refine WL.mv rfl ?_
       refine WL.mv rfl ?_
       refine WL.y (X.sub rfl rfl (by omega) (by omega)) ?_
       refine WL.cond (X.lss rfl rfl) (by decide) (fun h9 => ?_) (fun h9 => ?_)
       ·refine WL.z ?_
        refine WC.condT rfl ?_
        refine WC.r ?_
        refine WL.ag rfl ?_
        refine WL.z ?_
        refine WC.ret ?_
        refine WK.rThen ?_
        refine WK.rBlock ?_
        refine WK.rThen ?_
        refine WK.rThen ?_
        refine WK.rBlock ?_
        refine WK.rThen ?_
        refine WK.ret1 rfl rfl (fun w' hw' => Ret.mut hw' ?_)
        exact ⟨_, rfl, _, rfl, hS, fun h_ => by first | (cases h_; done) | (obtain rfl : x = b := (by omega); exact hX) | contradiction⟩
       ·refine WL.z ?_
        refine WC.condF rfl ?_
        refine WC.skip ?_
        refine WK.nThen ?_
        refine WC.seq ?_
        refine WC.draw (π := (.cons 0 (.cons 1 (.cons 2 (.cons 3 (.cons 4 (.cons 5 (.cons 6 (.cons 7 (.cons 8 (.cons 9 (.cons 10 (.cons 11 (.cons 12 (.cons 13 (.cons 14 (.cons 15 (.cons 16 (.cons 17 .done))))))))))))))))))) [15, 17] [15, 17, 100004] rfl (by kernel_rfl) ?_
        refine DW.y rfl rfl (X.move rfl) ?_
        refine DW.y rfl rfl (X.move rfl) ?_
        refine DW.y rfl rfl (X.move rfl) ?_
        refine DW.y rfl rfl (X.move rfl) ?_
        refine DW.xf rfl rfl rfl (fun _ _ hle_ => (X.sub rfl rfl (by omega) (by omega))) (by decide) ?_
        refine DW.y rfl rfl (X.move rfl) ?_
        refine DW.y rfl rfl (X.move rfl) ?_
        refine DW.y rfl rfl (X.sub rfl rfl (by omega) (by omega)) ?_
        refine DW.y rfl rfl (X.idxRowE (k := 0) (x - 1) Tryz.runUnderlying28 Tryz.sizeOf23 rfl rfl rfl (by omega) (by first | omega | (simp; omega) | simp)) ?_
        refine DW.y rfl rfl (X.loadFs (k := 0) (i := x - 1) (off := 0) (us := [.int .i64 (((gt R (x - 1))).Lo), .int .i64 (((gt R (x - 1))).Hi)]) Tryz.isAgg23 Tryz.sizeOf23 rfl rfl (by first | omega | (simp; omega) | simp) rfl rfl) ?_
        refine DW.y rfl rfl (X.move rfl) ?_
        refine DW.y rfl rfl (X.move rfl) ?_
        refine DW.y rfl rfl (X.idxRowE (k := 0) x Tryz.runUnderlying28 Tryz.sizeOf23 rfl rfl rfl (by omega) (by first | omega | (simp; omega) | simp)) ?_
        refine DW.y rfl rfl (X.loadFs (k := 0) (i := x) (off := 0) (us := [.int .i64 (((gt R x)).Lo), .int .i64 (((gt R x)).Hi)]) Tryz.isAgg23 Tryz.sizeOf23 rfl rfl (by first | omega | (simp; omega) | simp) rfl rfl) ?_
        refine DW.y rfl rfl (X.idxRowE (k := 0) x Tryz.runUnderlying28 Tryz.sizeOf23 rfl rfl rfl (by omega) (by first | omega | (simp; omega) | simp)) ?_
        refine DW.ts rfl rfl rfl rfl (T.storeFp (k := 0) (i := x) (off := 0) (us := [.int .i64 (((gt R (x - 1))).Lo), .int .i64 (((gt R (x - 1))).Hi)]) (gt R (x - 1)) Tryz.sizeOf23 rfl rfl rfl rfl (Nat.zero_lt_succ _) rfl (by first | omega | (simp; omega) | simp) rfl rfl (one_cons rfl (one_cons rfl one_nil))) ?_
        refine DW.y rfl rfl (X.idxRowE (k := 0) (x - 1) Tryz.runUnderlying28 Tryz.sizeOf23 rfl rfl rfl (by omega) (by first | omega | (simp; omega) | simp)) ?_
        refine DW.ts rfl rfl rfl rfl (T.storeFp (k := 0) (i := x - 1) (off := 0) (us := [.int .i64 (((gt R x)).Lo), .int .i64 (((gt R x)).Hi)]) (gt R x) Tryz.sizeOf23 rfl rfl rfl rfl (Nat.zero_lt_succ _) rfl (by first | omega | (simp; omega) | simp) rfl rfl (one_cons rfl (one_cons rfl one_nil))) ?_
        refine DW.nil ?_
        refine WK.nThen ?_
        refine WC.cut (G := List Span) (fun R2 => m) (fun R2 => [rowF (v) 23 (R2)]) (fun R2 => [(0, v), (1, .int .i64 (↑a)), (2, .int .i64 (↑b)), (3, .func (.func fc) #[] #[]), (9, .int .i64 (↑x)), (10, .int .i64 (↑k))]) (fun R2 => Seg L R2 a b ∧ Srt Span.Lo R2 a x) ?_ ?_
        ·refine WC.seq ?_
         obtain ⟨R1, hR1⟩ : ∃ qq__ : List Span, qq__ = (R.set x (gt R (x - 1))).set (x - 1) (gt R x) := ⟨_, rfl⟩
         have hS1 : Seg L R1 a b := (by rw [hR1]; exact hS.tsw (by omega) (by omega) (by omega))
         have hT1 : Srt Span.Lo R1 a (x - 1) := (by rw [hR1]; exact hX.swp (by omega))
         have he10 : ((R.set x (gt R (x - 1))).set (x - 1) (gt R x)) = R1 := hR1.symm
         rw [he10]
         have hSl1 := hS1.len
         have hBR1 := bdS_perm hB hS1.perm
         refine WC.region ?_
         refine WL.mv rfl ?_
         refine WL.mv rfl ?_
         refine WL.y (X.sub rfl rfl (by omega) (by omega)) ?_
         refine WL.cond (X.geq rfl rfl) (by decide) (fun h11 => ?_) (fun h11 => ?_)
         ·refine WL.z ?_
          refine WC.condT rfl ?_
          refine WC.r ?_
          refine WL.mv rfl ?_
          refine WL.y (X.sub rfl rfl (by omega) (by omega)) ?_
          refine WL.ag rfl ?_
          refine WL.z ?_
          refine WC.block ?_
          obtain ⟨y0_, hy0_⟩ : ∃ qq__ : Nat, (↑x - 1 : Int) = (qq__ : Int) := ⟨(↑x - 1 : Int).toNat, (by omega)⟩
          rw [hy0_]
          obtain rfl : y0_ = x - 1 := (by omega)
          refine WC.loop (G := Nat × List Span) (fun (y, R) => y) (fun (y, R) => m) (fun (y, R) => [rowF (v) 23 (R)]) (fun (y, R) => [(0, v), (1, .int .i64 (↑a)), (2, .int .i64 (↑b)), (3, .func (.func fc) #[] #[]), (9, .int .i64 (↑x)), (10, .int .i64 (↑k)), (11, .int .i64 (↑y))]) (fun (y, R) => InsS Span.Lo L R a b (x - 1) y) ((x - 1, R1)) rfl (.refl _) (.cons rfl (.cons rfl (.cons rfl (.cons rfl (.cons rfl (.cons rfl (.cons rfl .nil))))))) ?_ ?_
          ·exact insS_start hS1 hT1 (by omega)
          ·rintro ⟨y, R⟩ hF12
           show WK _ _ m [rowF (v) 23 (R)] [(0, v), (1, .int .i64 (↑a)), (2, .int .i64 (↑b)), (3, .func (.func fc) #[] #[]), (9, .int .i64 (↑x)), (10, .int .i64 (↑k)), (11, .int .i64 (↑y))] _
           replace hF12 : InsS Span.Lo L R a b (x - 1) y := hF12
           have hI := hF12
           have hIl := hI.seg.len
           have hIb := hI.bd
           have hBR := bdS_perm hB hI.seg.perm
           refine WC.seq ?_
           refine WC.r ?_
           refine WL.mv rfl ?_
           refine WL.cond (X.geq rfl rfl) (by decide) (fun h13 => ?_) (fun h13 => ?_)
           ·refine WL.z ?_
            refine WC.condT rfl ?_
            refine WC.skip ?_
            refine WK.nThen ?_
            refine WC.seq ?_
            refine WC.block ?_
            refine WC.seq ?_
            refine WC.seq ?_
            refine WC.draw (π := (.cons 0 (.cons 1 (.cons 2 (.cons 3 (.cons 4 (.cons 5 (.cons 6 (.cons 7 (.cons 8 (.cons 9 (.cons 10 (.cons 11 (.cons 12 .done)))))))))))))) [] [] rfl (by kernel_rfl) ?_
            refine DW.y rfl rfl (X.move rfl) ?_
            refine DW.y rfl rfl (X.move rfl) ?_
            refine DW.y rfl rfl (X.move rfl) ?_
            refine DW.y rfl rfl (X.idxRowE (k := 0) y Tryz.runUnderlying28 Tryz.sizeOf23 rfl rfl rfl (by omega) (by first | omega | (simp; omega) | simp)) ?_
            refine DW.y rfl rfl (X.loadFs (k := 0) (i := y) (off := 0) (us := [.int .i64 (((gt R y)).Lo), .int .i64 (((gt R y)).Hi)]) Tryz.isAgg23 Tryz.sizeOf23 rfl rfl (by first | omega | (simp; omega) | simp) rfl rfl) ?_
            refine DW.y rfl rfl (X.move rfl) ?_
            refine DW.y rfl rfl (X.move rfl) ?_
            refine DW.y rfl rfl (X.sub rfl rfl (by omega) (by omega)) ?_
            refine DW.y rfl rfl (X.idxRowE (k := 0) (y - 1) Tryz.runUnderlying28 Tryz.sizeOf23 rfl rfl rfl (by omega) (by first | omega | (simp; omega) | simp)) ?_
            refine DW.y rfl rfl (X.loadFs (k := 0) (i := y - 1) (off := 0) (us := [.int .i64 (((gt R (y - 1))).Lo), .int .i64 (((gt R (y - 1))).Hi)]) Tryz.isAgg23 Tryz.sizeOf23 rfl rfl (by first | omega | (simp; omega) | simp) rfl rfl) ?_
            refine DW.y rfl rfl (X.callc hC.1 rfl rfl (hC.2.1 _ (gt R y) (gt R (y - 1)))) ?_
            refine DW.cond rfl rfl (X.lss rfl rfl) (by decide) (fun h14 => ?_) (fun h14 => ?_)
            ·refine DW.y rfl rfl (X.not rfl) ?_
             refine DW.nil ?_
             refine WK.nThen ?_
             refine WC.condF rfl ?_
             refine WC.skip ?_
             refine WK.nThen ?_
             refine WC.draw (π := (.cons 0 (.cons 1 (.cons 2 (.cons 3 (.cons 4 (.cons 5 (.cons 6 (.cons 7 (.cons 8 (.cons 9 (.cons 10 (.cons 11 (.cons 12 (.cons 13 (.cons 14 (.cons 15 (.cons 16 (.cons 17 .done))))))))))))))))))) [15, 17] [15, 17, 100004] rfl (by kernel_rfl) ?_
             refine DW.y rfl rfl (X.move rfl) ?_
             refine DW.y rfl rfl (X.move rfl) ?_
             refine DW.y rfl rfl (X.move rfl) ?_
             refine DW.y rfl rfl (X.move rfl) ?_
             refine DW.xf rfl rfl rfl (fun _ _ hle_ => (X.sub rfl rfl (by omega) (by omega))) (by decide) ?_
             refine DW.y rfl rfl (X.move rfl) ?_
             refine DW.y rfl rfl (X.move rfl) ?_
             refine DW.y rfl rfl (X.sub rfl rfl (by omega) (by omega)) ?_
             refine DW.y rfl rfl (X.idxRowE (k := 0) (y - 1) Tryz.runUnderlying28 Tryz.sizeOf23 rfl rfl rfl (by omega) (by first | omega | (simp; omega) | simp)) ?_
             refine DW.y rfl rfl (X.loadFs (k := 0) (i := y - 1) (off := 0) (us := [.int .i64 (((gt R (y - 1))).Lo), .int .i64 (((gt R (y - 1))).Hi)]) Tryz.isAgg23 Tryz.sizeOf23 rfl rfl (by first | omega | (simp; omega) | simp) rfl rfl) ?_
             refine DW.y rfl rfl (X.move rfl) ?_
             refine DW.y rfl rfl (X.move rfl) ?_
             refine DW.y rfl rfl (X.idxRowE (k := 0) y Tryz.runUnderlying28 Tryz.sizeOf23 rfl rfl rfl (by omega) (by first | omega | (simp; omega) | simp)) ?_
             refine DW.y rfl rfl (X.loadFs (k := 0) (i := y) (off := 0) (us := [.int .i64 (((gt R y)).Lo), .int .i64 (((gt R y)).Hi)]) Tryz.isAgg23 Tryz.sizeOf23 rfl rfl (by first | omega | (simp; omega) | simp) rfl rfl) ?_
             refine DW.y rfl rfl (X.idxRowE (k := 0) y Tryz.runUnderlying28 Tryz.sizeOf23 rfl rfl rfl (by omega) (by first | omega | (simp; omega) | simp)) ?_
             refine DW.ts rfl rfl rfl rfl (T.storeFp (k := 0) (i := y) (off := 0) (us := [.int .i64 (((gt R (y - 1))).Lo), .int .i64 (((gt R (y - 1))).Hi)]) (gt R (y - 1)) Tryz.sizeOf23 rfl rfl rfl rfl (Nat.zero_lt_succ _) rfl (by first | omega | (simp; omega) | simp) rfl rfl (one_cons rfl (one_cons rfl one_nil))) ?_
             refine DW.y rfl rfl (X.idxRowE (k := 0) (y - 1) Tryz.runUnderlying28 Tryz.sizeOf23 rfl rfl rfl (by omega) (by first | omega | (simp; omega) | simp)) ?_
             refine DW.ts rfl rfl rfl rfl (T.storeFp (k := 0) (i := y - 1) (off := 0) (us := [.int .i64 (((gt R y)).Lo), .int .i64 (((gt R y)).Hi)]) (gt R y) Tryz.sizeOf23 rfl rfl rfl rfl (Nat.zero_lt_succ _) rfl (by first | omega | (simp; omega) | simp) rfl rfl (one_cons rfl (one_cons rfl one_nil))) ?_
             refine DW.nil ?_
             refine WK.nBlock ?_
             refine WK.nThen ?_
             refine WC.region ?_
             refine WL.mv rfl ?_
             refine WL.y (X.sub rfl rfl (by omega) (by omega)) ?_
             refine WL.ag rfl ?_
             refine WL.z ?_
             obtain ⟨y1_, hy1_⟩ : ∃ qq__ : Nat, (↑y - 1 : Int) = (qq__ : Int) := ⟨(↑y - 1 : Int).toNat, (by omega)⟩
             rw [hy1_]
             obtain rfl : y1_ = y - 1 := (by omega)
             refine WK.next ((y - 1, (R.set y (gt R (y - 1))).set (y - 1) (gt R y))) rfl (.refl _) (.cons rfl (.cons rfl (.cons rfl (.cons rfl (.cons rfl (.cons rfl (.cons rfl .nil))))))) ?_ ?_
             ·exact insS_step hI hbl (hI.stop hLb hbl (by omega) ((hC.cl hBR).1 (by assumption))) ((hC.cl hBR).1 (by assumption))
             ·((try dsimp only); omega)
            ·refine DW.y rfl rfl (X.not rfl) ?_
             refine DW.nil ?_
             refine WK.nThen ?_
             refine WC.condT rfl ?_
             refine WC.exit ?_
             refine WK.eThen ?_
             refine WK.eMiss rfl ?_
             refine WK.eThen ?_
             refine WK.eThen ?_
             refine WK.eHit ?_
             refine WK.nThen ?_
             refine WK.meet R rfl (.refl _) (.cons rfl (.cons rfl (.cons rfl (.cons rfl (.cons rfl (.cons rfl .nil)))))) ?_
             have hfin_ := insS_end hI (fun h_ hc_ => by first | omega | (have h1_ := (hC.cl hBR).2 hc_; contradiction))
             exact ⟨hfin_.1, by have h2_ := hfin_.2; rwa [show x - 1 + 1 = x by omega] at h2_⟩
           ·refine WL.z ?_
            refine WC.condF rfl ?_
            refine WC.exit ?_
            refine WK.eThen ?_
            refine WK.eThen ?_
            refine WK.eHit ?_
            refine WK.nThen ?_
            refine WK.meet R rfl (.refl _) (.cons rfl (.cons rfl (.cons rfl (.cons rfl (.cons rfl (.cons rfl .nil)))))) ?_
            have hfin_ := insS_end hI (fun h_ hc_ => by first | omega | (have h1_ := (hC.cl hBR).2 hc_; contradiction))
            exact ⟨hfin_.1, by have h2_ := hfin_.2; rwa [show x - 1 + 1 = x by omega] at h2_⟩
         ·refine WL.z ?_
          refine WC.condF rfl ?_
          refine WC.skip ?_
          refine WK.nThen ?_
          refine WK.meet R1 rfl (.refl _) (.cons rfl (.cons rfl (.cons rfl (.cons rfl (.cons rfl (.cons rfl .nil)))))) ?_
          exact ⟨hS1, by obtain rfl : x = a + 1 := (by omega); exact .one _ _ _⟩
        ·rintro R2 hF15
         show WK _ _ m [rowF (v) 23 (R2)] [(0, v), (1, .int .i64 (↑a)), (2, .int .i64 (↑b)), (3, .func (.func fc) #[] #[]), (9, .int .i64 (↑x)), (10, .int .i64 (↑k))] _
         replace hF15 : Seg L R2 a b ∧ Srt Span.Lo R2 a x := hF15
         obtain ⟨hS2, hT2⟩ := hF15
         have hSl2 := hS2.len
         have hBR2 := bdS_perm hB hS2.perm
         refine WC.r ?_
         refine WL.mv rfl ?_
         refine WL.mv rfl ?_
         refine WL.y (X.sub rfl rfl (by omega) (by omega)) ?_
         refine WL.cond (X.geq rfl rfl) (by decide) (fun h16 => ?_) (fun h16 => ?_)
         ·refine WL.z ?_
          refine WC.condT rfl ?_
          refine WC.r ?_
          refine WL.mv rfl ?_
          refine WL.y (X.add rfl rfl (by omega) (by omega)) ?_
          refine WL.ag rfl ?_
          refine WL.z ?_
          refine WC.block ?_
          refine WC.loop (G := Nat × List Span) (fun (z, R) => b - z) (fun (z, R) => m) (fun (z, R) => [rowF (v) 23 (R)]) (fun (z, R) => [(0, v), (1, .int .i64 (↑a)), (2, .int .i64 (↑b)), (3, .func (.func fc) #[] #[]), (9, .int .i64 (↑x)), (10, .int .i64 (↑k)), (12, .int .i64 (↑z))]) (fun (z, R) => x + 1 ≤ z ∧ Seg L R a b ∧ Srt Span.Lo R a x) ((x + 1, R2)) rfl (.refl _) (.cons rfl (.cons rfl (.cons rfl (.cons rfl (.cons rfl (.cons rfl (.cons rfl .nil))))))) ?_ ?_
          ·exact ⟨by omega, hS2, hT2⟩
          ·rintro ⟨z, R⟩ hF17
           show WK _ _ m [rowF (v) 23 (R)] [(0, v), (1, .int .i64 (↑a)), (2, .int .i64 (↑b)), (3, .func (.func fc) #[] #[]), (9, .int .i64 (↑x)), (10, .int .i64 (↑k)), (12, .int .i64 (↑z))] _
           replace hF17 : x + 1 ≤ z ∧ Seg L R a b ∧ Srt Span.Lo R a x := hF17
           obtain ⟨hz, hSz, hTz⟩ := hF17
           have hSlz := hSz.len
           have hBR := bdS_perm hB hSz.perm
           refine WC.seq ?_
           refine WC.r ?_
           refine WL.mv rfl ?_
           refine WL.mv rfl ?_
           refine WL.cond (X.lss rfl rfl) (by decide) (fun h18 => ?_) (fun h18 => ?_)
           ·refine WL.z ?_
            refine WC.condT rfl ?_
            refine WC.skip ?_
            refine WK.nThen ?_
            refine WC.seq ?_
            refine WC.block ?_
            refine WC.seq ?_
            refine WC.seq ?_
            refine WC.draw (π := (.cons 0 (.cons 1 (.cons 2 (.cons 3 (.cons 4 (.cons 5 (.cons 6 (.cons 7 (.cons 8 (.cons 9 (.cons 10 (.cons 11 (.cons 12 .done)))))))))))))) [] [] rfl (by kernel_rfl) ?_
            refine DW.y rfl rfl (X.move rfl) ?_
            refine DW.y rfl rfl (X.move rfl) ?_
            refine DW.y rfl rfl (X.move rfl) ?_
            refine DW.y rfl rfl (X.idxRowE (k := 0) z Tryz.runUnderlying28 Tryz.sizeOf23 rfl rfl rfl (by omega) (by first | omega | (simp; omega) | simp)) ?_
            refine DW.y rfl rfl (X.loadFs (k := 0) (i := z) (off := 0) (us := [.int .i64 (((gt R z)).Lo), .int .i64 (((gt R z)).Hi)]) Tryz.isAgg23 Tryz.sizeOf23 rfl rfl (by first | omega | (simp; omega) | simp) rfl rfl) ?_
            refine DW.y rfl rfl (X.move rfl) ?_
            refine DW.y rfl rfl (X.move rfl) ?_
            refine DW.y rfl rfl (X.sub rfl rfl (by omega) (by omega)) ?_
            refine DW.y rfl rfl (X.idxRowE (k := 0) (z - 1) Tryz.runUnderlying28 Tryz.sizeOf23 rfl rfl rfl (by omega) (by first | omega | (simp; omega) | simp)) ?_
            refine DW.y rfl rfl (X.loadFs (k := 0) (i := z - 1) (off := 0) (us := [.int .i64 (((gt R (z - 1))).Lo), .int .i64 (((gt R (z - 1))).Hi)]) Tryz.isAgg23 Tryz.sizeOf23 rfl rfl (by first | omega | (simp; omega) | simp) rfl rfl) ?_
            refine DW.y rfl rfl (X.callc hC.1 rfl rfl (hC.2.1 _ (gt R z) (gt R (z - 1)))) ?_
            refine DW.cond rfl rfl (X.lss rfl rfl) (by decide) (fun h19 => ?_) (fun h19 => ?_)
            ·refine DW.y rfl rfl (X.not rfl) ?_
             refine DW.nil ?_
             refine WK.nThen ?_
             refine WC.condF rfl ?_
             refine WC.skip ?_
             refine WK.nThen ?_
             refine WC.draw (π := (.cons 0 (.cons 1 (.cons 2 (.cons 3 (.cons 4 (.cons 5 (.cons 6 (.cons 7 (.cons 8 (.cons 9 (.cons 10 (.cons 11 (.cons 12 (.cons 13 (.cons 14 (.cons 15 (.cons 16 (.cons 17 .done))))))))))))))))))) [15, 17] [15, 17, 100004] rfl (by kernel_rfl) ?_
             refine DW.y rfl rfl (X.move rfl) ?_
             refine DW.y rfl rfl (X.move rfl) ?_
             refine DW.y rfl rfl (X.move rfl) ?_
             refine DW.y rfl rfl (X.move rfl) ?_
             refine DW.xf rfl rfl rfl (fun _ _ hle_ => (X.sub rfl rfl (by omega) (by omega))) (by decide) ?_
             refine DW.y rfl rfl (X.move rfl) ?_
             refine DW.y rfl rfl (X.move rfl) ?_
             refine DW.y rfl rfl (X.sub rfl rfl (by omega) (by omega)) ?_
             refine DW.y rfl rfl (X.idxRowE (k := 0) (z - 1) Tryz.runUnderlying28 Tryz.sizeOf23 rfl rfl rfl (by omega) (by first | omega | (simp; omega) | simp)) ?_
             refine DW.y rfl rfl (X.loadFs (k := 0) (i := z - 1) (off := 0) (us := [.int .i64 (((gt R (z - 1))).Lo), .int .i64 (((gt R (z - 1))).Hi)]) Tryz.isAgg23 Tryz.sizeOf23 rfl rfl (by first | omega | (simp; omega) | simp) rfl rfl) ?_
             refine DW.y rfl rfl (X.move rfl) ?_
             refine DW.y rfl rfl (X.move rfl) ?_
             refine DW.y rfl rfl (X.idxRowE (k := 0) z Tryz.runUnderlying28 Tryz.sizeOf23 rfl rfl rfl (by omega) (by first | omega | (simp; omega) | simp)) ?_
             refine DW.y rfl rfl (X.loadFs (k := 0) (i := z) (off := 0) (us := [.int .i64 (((gt R z)).Lo), .int .i64 (((gt R z)).Hi)]) Tryz.isAgg23 Tryz.sizeOf23 rfl rfl (by first | omega | (simp; omega) | simp) rfl rfl) ?_
             refine DW.y rfl rfl (X.idxRowE (k := 0) z Tryz.runUnderlying28 Tryz.sizeOf23 rfl rfl rfl (by omega) (by first | omega | (simp; omega) | simp)) ?_
             refine DW.ts rfl rfl rfl rfl (T.storeFp (k := 0) (i := z) (off := 0) (us := [.int .i64 (((gt R (z - 1))).Lo), .int .i64 (((gt R (z - 1))).Hi)]) (gt R (z - 1)) Tryz.sizeOf23 rfl rfl rfl rfl (Nat.zero_lt_succ _) rfl (by first | omega | (simp; omega) | simp) rfl rfl (one_cons rfl (one_cons rfl one_nil))) ?_
             refine DW.y rfl rfl (X.idxRowE (k := 0) (z - 1) Tryz.runUnderlying28 Tryz.sizeOf23 rfl rfl rfl (by omega) (by first | omega | (simp; omega) | simp)) ?_
             refine DW.ts rfl rfl rfl rfl (T.storeFp (k := 0) (i := z - 1) (off := 0) (us := [.int .i64 (((gt R z)).Lo), .int .i64 (((gt R z)).Hi)]) (gt R z) Tryz.sizeOf23 rfl rfl rfl rfl (Nat.zero_lt_succ _) rfl (by first | omega | (simp; omega) | simp) rfl rfl (one_cons rfl (one_cons rfl one_nil))) ?_
             refine DW.nil ?_
             refine WK.nBlock ?_
             refine WK.nThen ?_
             refine WC.region ?_
             refine WL.mv rfl ?_
             refine WL.y (X.add rfl rfl (by omega) (by omega)) ?_
             refine WL.ag rfl ?_
             refine WL.z ?_
             refine WK.next ((z + 1, (R.set z (gt R (z - 1))).set (z - 1) (gt R z))) rfl (.refl _) (.cons rfl (.cons rfl (.cons rfl (.cons rfl (.cons rfl (.cons rfl (.cons rfl .nil))))))) ?_ ?_
             ·exact ⟨by omega, hSz.tsw (by omega) (by omega) hbl, hTz.out (b := b) (by omega) (by omega) (by omega)⟩
             ·((try dsimp only); omega)
            ·refine DW.y rfl rfl (X.not rfl) ?_
             refine DW.nil ?_
             refine WK.nThen ?_
             refine WC.condT rfl ?_
             refine WC.exit ?_
             refine WK.eThen ?_
             refine WK.eMiss rfl ?_
             refine WK.eThen ?_
             refine WK.eThen ?_
             refine WK.eHit ?_
             refine WK.nBlock ?_
             refine WK.nThen ?_
             refine WC.region ?_
             refine WL.mv rfl ?_
             refine WL.y (X.add rfl rfl (by omega) (by omega)) ?_
             refine WL.ag rfl ?_
             refine WL.z ?_
             refine WK.next ((k + 1, x, R)) rfl (.refl _) (.cons rfl (.cons rfl (.cons rfl (.cons rfl (.cons rfl (.cons rfl .nil)))))) ?_ ?_
             ·exact ⟨by omega, by omega, by omega, hSz, hTz⟩
             ·((try dsimp only); omega)
           ·refine WL.z ?_
            refine WC.condF rfl ?_
            refine WC.exit ?_
            refine WK.eThen ?_
            refine WK.eThen ?_
            refine WK.eHit ?_
            refine WK.nBlock ?_
            refine WK.nThen ?_
            refine WC.region ?_
            refine WL.mv rfl ?_
            refine WL.y (X.add rfl rfl (by omega) (by omega)) ?_
            refine WL.ag rfl ?_
            refine WL.z ?_
            refine WK.next ((k + 1, x, R)) rfl (.refl _) (.cons rfl (.cons rfl (.cons rfl (.cons rfl (.cons rfl (.cons rfl .nil)))))) ?_ ?_
            ·exact ⟨by omega, by omega, by omega, hSz, hTz⟩
            ·((try dsimp only); omega)
         ·refine WL.z ?_
          refine WC.condF rfl ?_
          refine WC.skip ?_
          refine WK.nBlock ?_
          refine WK.nThen ?_
          refine WC.region ?_
          refine WL.mv rfl ?_
          refine WL.y (X.add rfl rfl (by omega) (by omega)) ?_
          refine WL.ag rfl ?_
          refine WL.z ?_
          refine WK.next ((k + 1, x, R2)) rfl (.refl _) (.cons rfl (.cons rfl (.cons rfl (.cons rfl (.cons rfl (.cons rfl .nil)))))) ?_ ?_
          ·exact ⟨by omega, by omega, by omega, hS2, hT2⟩
          ·((try dsimp only); omega)
  ·refine WL.z ?_
   refine WC.condF rfl ?_
   refine WC.exit ?_
   refine WK.eThen ?_
   refine WK.eThen ?_
   refine WK.eHit ?_
   refine WK.nThen ?_
   refine WC.r ?_
   refine WL.ag rfl ?_
   refine WL.z ?_
   refine WC.ret ?_
   refine WK.ret1 rfl rfl (fun w' hw' => Ret.mut hw' ?_)
   exact ⟨_, rfl, _, rfl, hS, fun h_ => by first | (cases h_; done) | (obtain rfl : x = b := (by omega); exact hX) | contradiction⟩

end Go.Proofs.T10
