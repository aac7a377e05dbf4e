import Derived.Test.YtooomcigmleneaaGreatKxW
import Derived.Test.YtooomcigmleneaaGreatKxZ
import Derived.Test.YtooomcigmleneaaGreatT10W8
import Derived.Test.YtooomcigmleneaaGreatT10KLaw
import Derived.KernelRfl
/- Top: walks, tenth part, by program. -/
namespace Go.Proofs.T10
open Go Go.Kx
set_option linter.unusedSimpArgs false
set_option linter.unusedVariables false

set_option maxHeartbeats 1000000 in
theorem next307 (m : Mem) {b0 : Nat} {z : Int} (hpz : u64P z) : Mut Tryz.prog 307 #[.pointer (some ⟨b0, 0, none⟩)] m [blk b0 439 [.int .u64 z]] (fun _ Es u => ∃ r : Int, u = .int .u64 r ∧ Es = [blk b0 439 [.int .u64 r]] ∧ u64P r) := by
 refine Mut.start Tryz.func307 rfl Tryz.ntmps307 rfl fun wld => ?_
 refine WC.r ?_
 refine WL.ag rfl ?_
 refine WL.z ?_
 refine WC.seq ?_
 refine WC.draw (π := (.cons 0 (.cons 1 (.cons 2 (.cons 3 (.cons 4 (.cons 5 (.cons 6 (.cons 7 (.cons 8 (.cons 9 .done))))))))))) [9] [9] rfl (by kernel_rfl) ?_
 refine DW.y rfl rfl (X.move rfl) ?_
 refine DW.y rfl rfl (X.nilCheck rfl) ?_
 refine DW.y rfl rfl (X.loadB (k := 0) Tryz.isAgg439 rfl rfl rfl) ?_
 refine DW.y rfl rfl (X.move rfl) ?_
 refine DW.y rfl rfl (X.nilCheck rfl) ?_
 refine DW.y rfl rfl (X.loadB (k := 0) Tryz.isAgg439 rfl rfl rfl) ?_
 refine DW.xe rfl rfl (E.shlU rfl rfl (by decide)) (by decide) (fun z1 hu2 => ?_)
 refine DW.xe rfl rfl (E.xorU rfl rfl) (by decide) (fun z3 hu4 => ?_)
 refine DW.y rfl rfl (X.nilCheck rfl) ?_
 refine DW.ts rfl rfl rfl rfl (T.storeB (k := 0) Tryz.sizeOf439 rfl rfl rfl rfl (Nat.le_of_ble_eq_true rfl)) ?_
 refine DW.nil ?_
 refine WK.nThen ?_
 refine WC.seq ?_
 refine WC.draw (π := (.cons 0 (.cons 1 (.cons 2 (.cons 3 (.cons 4 (.cons 5 (.cons 6 (.cons 7 (.cons 8 (.cons 9 .done))))))))))) [9] [9] rfl (by kernel_rfl) ?_
 refine DW.y rfl rfl (X.move rfl) ?_
 refine DW.y rfl rfl (X.nilCheck rfl) ?_
 refine DW.y rfl rfl (X.loadB (k := 0) Tryz.isAgg439 rfl rfl rfl) ?_
 refine DW.y rfl rfl (X.move rfl) ?_
 refine DW.y rfl rfl (X.nilCheck rfl) ?_
 refine DW.y rfl rfl (X.loadB (k := 0) Tryz.isAgg439 rfl rfl rfl) ?_
 refine DW.xe rfl rfl (E.shrU rfl rfl (by decide) hu4) (by decide) (fun z5 hu6 => ?_)
 refine DW.xe rfl rfl (E.xorU rfl rfl) (by decide) (fun z7 hu8 => ?_)
 refine DW.y rfl rfl (X.nilCheck rfl) ?_
 refine DW.ts rfl rfl rfl rfl (T.storeB (k := 0) Tryz.sizeOf439 rfl rfl rfl rfl (Nat.le_of_ble_eq_true rfl)) ?_
 refine DW.nil ?_
 refine WK.nThen ?_
 refine WC.seq ?_
 refine WC.draw (π := (.cons 0 (.cons 1 (.cons 2 (.cons 3 (.cons 4 (.cons 5 (.cons 6 (.cons 7 (.cons 8 (.cons 9 .done))))))))))) [9] [9] rfl (by kernel_rfl) ?_
 refine DW.y rfl rfl (X.move rfl) ?_
 refine DW.y rfl rfl (X.nilCheck rfl) ?_
 refine DW.y rfl rfl (X.loadB (k := 0) Tryz.isAgg439 rfl rfl rfl) ?_
 refine DW.y rfl rfl (X.move rfl) ?_
 refine DW.y rfl rfl (X.nilCheck rfl) ?_
 refine DW.y rfl rfl (X.loadB (k := 0) Tryz.isAgg439 rfl rfl rfl) ?_
 refine DW.xe rfl rfl (E.shlU rfl rfl (by decide)) (by decide) (fun z9 hu10 => ?_)
 refine DW.xe rfl rfl (E.xorU rfl rfl) (by decide) (fun z11 hu12 => ?_)
 refine DW.y rfl rfl (X.nilCheck rfl) ?_
 refine DW.ts rfl rfl rfl rfl (T.storeB (k := 0) Tryz.sizeOf439 rfl rfl rfl rfl (Nat.le_of_ble_eq_true rfl)) ?_
 refine DW.nil ?_
 refine WK.nThen ?_
 refine WC.r ?_
 refine WL.mv rfl ?_
 refine WL.y (X.nilCheck rfl) ?_
 refine WL.y (X.loadB (k := 0) Tryz.isAgg439 rfl rfl rfl) ?_
 refine WL.ag rfl ?_
 refine WL.z ?_
 refine WC.ret ?_
 refine WK.ret1 rfl rfl (fun w' hw' => Ret.mut hw' ?_)
 exact ⟨_, rfl, rfl, hu12⟩

end Go.Proofs.T10
/- Top: walks, eleventh part, by program. -/
namespace Go.Proofs.T10
open Go Go.Kx
set_option linter.unusedSimpArgs false
set_option linter.unusedVariables false

theorem lenG273 (m : Mem) {z : Int} (hz : 0 ≤ z ∧ z ≤ 4294967295) : Pure Tryz.prog 273 #[.int .u64 z] m (fun _ u => ∃ r : Nat, u = .int .i64 r ∧ r ≤ 32 ∧ (1 ≤ z → (2 : Int) ^ r ≤ 2 * z)) := by
 refine Pure.start Tryz.func273 rfl Tryz.ntmps273 rfl fun wld => ?_
 refine WC.r ?_
 refine WL.ag rfl ?_
 refine WL.z ?_
 refine WC.seq ?_
 refine WC.r ?_
 refine WL.mv rfl ?_
 refine WL.y (OpX.f (X.geq rfl rfl) (by omega)) ?_
 refine WL.z ?_
 refine WC.condF rfl ?_
 refine WC.skip ?_
 refine WK.nThen ?_
 refine WC.seq ?_
 refine WC.r ?_
 refine WL.mv rfl ?_
 refine WL.cond (X.geq rfl rfl) (by decide) (fun h1 => ?_) (fun h1 => ?_)
 ·refine WL.z ?_
  refine WC.condT rfl ?_
  refine WC.r ?_
  refine WL.mv rfl ?_
  refine WL.y (X.shrC 65536 rfl rfl (by decide) (by decide)) ?_
  refine WL.ag rfl ?_
  refine WL.z ?_
  refine WC.region ?_
  refine WL.mv rfl ?_
  refine WL.y (X.add rfl rfl (by omega) (by omega)) ?_
  refine WL.ag rfl ?_
  refine WL.z ?_
  refine WC.seq ?_
  refine WC.r ?_
  refine WL.mv rfl ?_
  refine WL.cond (X.geq rfl rfl) (by decide) (fun h2 => ?_) (fun h2 => ?_)
  ·refine WL.z ?_
   refine WC.condT rfl ?_
   refine WC.r ?_
   refine WL.mv rfl ?_
   refine WL.y (X.shrC 256 rfl rfl (by decide) (by decide)) ?_
   refine WL.ag rfl ?_
   refine WL.z ?_
   refine WC.region ?_
   refine WL.mv rfl ?_
   refine WL.y (X.add rfl rfl (by omega) (by omega)) ?_
   refine WL.ag rfl ?_
   refine WL.z ?_
   refine WC.r ?_
   refine WL.mv rfl ?_
   refine WL.mv rfl ?_
   refine WL.y (X.conv Tryz.runUnderlying410 Tryz.runUnderlying5 rfl (wrap_u8 (by omega) (by omega))) ?_
   refine WL.xe (E.idxStrQ 256 lenQ Tryz.runUnderlying9 rfl rfl (by kernel_rfl) (by kernel_rfl) (by omega) (by omega)) (by decide) (fun x3 hq4 => ?_)
   obtain ⟨hlb_, hlp_⟩ := lenQ_bd hq4.1
   refine WL.y (X.conv Tryz.runUnderlying5 Tryz.runUnderlying3 rfl (wrap_in (by omega) (by omega))) ?_
   refine WL.y (X.add rfl rfl (by omega) (by omega)) ?_
   refine WL.ag rfl ?_
   refine WL.z ?_
   refine WC.ret ?_
   refine WK.ret1 rfl rfl (fun w' hw' => Ret.mem hw' ?_)
   exact ⟨24 + x3, int_eq (by omega), by omega, fun h_ => len_pow 24 (c := 16777216) (by decide) (x := (z / 65536) / 256) (by have h1_ := hlp_ (by omega); have h2_ : ((((z / 65536) / 256 : Int).toNat : Nat) : Int) = (z / 65536) / 256 := (by omega); rw [h2_] at h1_; exact h1_) (by omega) (by omega)⟩
  ·refine WL.z ?_
   refine WC.condF rfl ?_
   refine WC.skip ?_
   refine WK.nThen ?_
   refine WC.r ?_
   refine WL.mv rfl ?_
   refine WL.mv rfl ?_
   refine WL.y (X.conv Tryz.runUnderlying410 Tryz.runUnderlying5 rfl (wrap_u8 (by omega) (by omega))) ?_
   refine WL.xe (E.idxStrQ 256 lenQ Tryz.runUnderlying9 rfl rfl (by kernel_rfl) (by kernel_rfl) (by omega) (by omega)) (by decide) (fun x5 hq6 => ?_)
   obtain ⟨hlb_, hlp_⟩ := lenQ_bd hq6.1
   refine WL.y (X.conv Tryz.runUnderlying5 Tryz.runUnderlying3 rfl (wrap_in (by omega) (by omega))) ?_
   refine WL.y (X.add rfl rfl (by omega) (by omega)) ?_
   refine WL.ag rfl ?_
   refine WL.z ?_
   refine WC.ret ?_
   refine WK.ret1 rfl rfl (fun w' hw' => Ret.mem hw' ?_)
   exact ⟨16 + x5, int_eq (by omega), by omega, fun h_ => len_pow 16 (c := 65536) (by decide) (x := z / 65536) (by have h1_ := hlp_ (by omega); have h2_ : (((z / 65536 : Int).toNat : Nat) : Int) = z / 65536 := (by omega); rw [h2_] at h1_; exact h1_) (by omega) (by omega)⟩
 ·refine WL.z ?_
  refine WC.condF rfl ?_
  refine WC.skip ?_
  refine WK.nThen ?_
  refine WC.seq ?_
  refine WC.r ?_
  refine WL.mv rfl ?_
  refine WL.cond (X.geq rfl rfl) (by decide) (fun h7 => ?_) (fun h7 => ?_)
  ·refine WL.z ?_
   refine WC.condT rfl ?_
   refine WC.r ?_
   refine WL.mv rfl ?_
   refine WL.y (X.shrC 256 rfl rfl (by decide) (by decide)) ?_
   refine WL.ag rfl ?_
   refine WL.z ?_
   refine WC.region ?_
   refine WL.mv rfl ?_
   refine WL.y (X.add rfl rfl (by omega) (by omega)) ?_
   refine WL.ag rfl ?_
   refine WL.z ?_
   refine WC.r ?_
   refine WL.mv rfl ?_
   refine WL.mv rfl ?_
   refine WL.y (X.conv Tryz.runUnderlying410 Tryz.runUnderlying5 rfl (wrap_u8 (by omega) (by omega))) ?_
   refine WL.xe (E.idxStrQ 256 lenQ Tryz.runUnderlying9 rfl rfl (by kernel_rfl) (by kernel_rfl) (by omega) (by omega)) (by decide) (fun x8 hq9 => ?_)
   obtain ⟨hlb_, hlp_⟩ := lenQ_bd hq9.1
   refine WL.y (X.conv Tryz.runUnderlying5 Tryz.runUnderlying3 rfl (wrap_in (by omega) (by omega))) ?_
   refine WL.y (X.add rfl rfl (by omega) (by omega)) ?_
   refine WL.ag rfl ?_
   refine WL.z ?_
   refine WC.ret ?_
   refine WK.ret1 rfl rfl (fun w' hw' => Ret.mem hw' ?_)
   exact ⟨8 + x8, int_eq (by omega), by omega, fun h_ => len_pow 8 (c := 256) (by decide) (x := z / 256) (by have h1_ := hlp_ (by omega); have h2_ : (((z / 256 : Int).toNat : Nat) : Int) = z / 256 := (by omega); rw [h2_] at h1_; exact h1_) (by omega) (by omega)⟩
  ·refine WL.z ?_
   refine WC.condF rfl ?_
   refine WC.skip ?_
   refine WK.nThen ?_
   refine WC.r ?_
   refine WL.mv rfl ?_
   refine WL.mv rfl ?_
   refine WL.y (X.conv Tryz.runUnderlying410 Tryz.runUnderlying5 rfl (wrap_u8 (by omega) (by omega))) ?_
   refine WL.xe (E.idxStrQ 256 lenQ Tryz.runUnderlying9 rfl rfl (by kernel_rfl) (by kernel_rfl) (by omega) (by omega)) (by decide) (fun x10 hq11 => ?_)
   obtain ⟨hlb_, hlp_⟩ := lenQ_bd hq11.1
   refine WL.y (X.conv Tryz.runUnderlying5 Tryz.runUnderlying3 rfl (wrap_in (by omega) (by omega))) ?_
   refine WL.y (X.add rfl rfl (by omega) (by omega)) ?_
   refine WL.ag rfl ?_
   refine WL.z ?_
   refine WC.ret ?_
   refine WK.ret1 rfl rfl (fun w' hw' => Ret.mem hw' ?_)
   exact ⟨x10, int_eq (by omega), by omega, fun h_ => by have h1_ := hlp_ (by omega); have h2_ : (((z : Int).toNat : Nat) : Int) = z := (by omega); rw [h2_] at h1_; exact h1_⟩

theorem lenG225 (m : Mem) {z : Int} (hz : 0 ≤ z ∧ z ≤ 4294967295) : Pure Tryz.prog 225 #[.int .u64 z] m (fun _ u => ∃ r : Nat, u = .int .i64 r ∧ r ≤ 32 ∧ (1 ≤ z → (2 : Int) ^ r ≤ 2 * z)) := by
 refine Pure.start Tryz.func225 rfl Tryz.ntmps225 rfl fun wld => ?_
 refine WC.r ?_
 refine WL.ag rfl ?_
 refine WL.z ?_
 refine WC.seq ?_
 refine WC.condF rfl ?_
 refine WC.skip ?_
 refine WK.nThen ?_
 refine WC.r ?_
 refine WL.mv rfl ?_
 refine WL.tm (T.call Tryz.call273 rfl (lenG273 _ (z := z) (by omega))) (by decide) (fun m1 _ hle2 hR_ => ?_)
 obtain ⟨x3, rfl, hr4, hr5⟩ := hR_
 refine WL.ag rfl ?_
 refine WL.z ?_
 refine WC.ret ?_
 refine WK.ret1 rfl rfl (fun w' hw' => Ret.mem hw' ?_)
 exact ⟨_, rfl, hr4, hr5⟩

end Go.Proofs.T10
/- Top: walks, twelfth part, by program. -/
namespace Go.Proofs.T10
open Go Go.Kx
set_option linter.unusedSimpArgs false
set_option linter.unusedVariables false

theorem pow306 (m : Mem) {z : Int} (hz : 1 ≤ z ∧ z ≤ 1000000) : Pure Tryz.prog 306 #[.int .i64 z] m (fun _ u => ∃ M : Int, u = .int .u64 M ∧ 1 ≤ M ∧ M ≤ 2 * z) := by
 refine Pure.start Tryz.func306 rfl Tryz.ntmps306 rfl fun wld => ?_
 refine WC.r ?_
 refine WL.ag rfl ?_
 refine WL.z ?_
 refine WC.r ?_
 refine WL.mv rfl ?_
 refine WL.y (X.conv Tryz.runUnderlying3 Tryz.runUnderlying358 rfl (wrap_u64 (by omega) (by omega))) ?_
 refine WL.tm (T.call Tryz.call225 rfl (lenG225 _ (z := z) (by omega))) (by decide) (fun m1 _ hle2 hR_ => ?_)
 obtain ⟨x3, rfl, hr4, hr5⟩ := hR_
 refine WL.y (X.shlPow (r := x3) rfl rfl (by omega)) ?_
 refine WL.ag rfl ?_
 refine WL.z ?_
 refine WC.ret ?_
 refine WK.ret1 rfl rfl (fun w' hw' => Ret.mem hw' ?_)
 refine ⟨_, rfl, ?_, hr5 hz.1⟩
 have hp_ : (0 : Int) < 2 ^ x3 := Int.pow_pos (by decide)
 omega

set_option maxRecDepth 20000 in
set_option maxHeartbeats 2000000 in
theorem break266 (m : Mem) {v : Value} {L : List Span} (hL : L.length ≤ 1000000) (hB : bdS L) {fc : Nat} {cf : Span → Span → Int} (hC : CmpOk fc cf) {a b : Nat} {za zb : Int} (hza : za = a) (hzb : zb = b) (hab : a + 12 < b) (hbl : b ≤ L.length) : Mut Tryz.prog 266 #[v, .int .i64 za, .int .i64 zb, .func (.func fc) #[] #[]] m [rowF v 23 L] (fun _ Es u => u = .tuple #[] ∧ ∃ R, Es = [rowF v 23 R] ∧ Seg L R a b) := by
 subst hza
 subst hzb
 refine Mut.start Tryz.func266 rfl Tryz.ntmps266 rfl fun wld => ?_
 refine WC.r ?_
 refine WL.mv rfl ?_
 refine WL.mv rfl ?_
 refine WL.y (X.sub rfl rfl (by omega) (by omega)) ?_
 refine WL.ag rfl ?_
 refine WL.z ?_
 refine WC.seq ?_
 obtain ⟨ln_, hln_⟩ : ∃ qq__ : Nat, (↑b - ↑a : Int) = (qq__ : Int) := ⟨(↑b - ↑a : Int).toNat, (by omega)⟩
 rw [hln_]
 refine WC.region ?_
 refine WL.mv rfl ?_
 refine WL.y (OpX.t (X.geq rfl rfl) (by omega)) ?_
 refine WL.z ?_
 refine WC.condT rfl ?_
 refine WC.r ?_
 refine WL.mv rfl ?_
 refine WL.y (X.conv Tryz.runUnderlying3 Tryz.runUnderlying439 rfl (wrap_u64 (by omega) (by omega))) ?_
 refine WL.tn (T.alloc Tryz.zeroValue439 rfl) (by decide) fun b1 => ?_
 refine WL.ts (T.storeB (k := 0) Tryz.sizeOf439 rfl rfl rfl rfl (Nat.le_of_ble_eq_true rfl)) ?_
 refine WL.z ?_
 refine WC.r ?_
 refine WL.mv rfl ?_
 refine WL.tm (T.call Tryz.call306 rfl (pow306 _ (z := (↑ln_ : Int)) (by omega))) (by decide) (fun m2 _ hle3 hR_ => ?_)
 obtain ⟨w4, rfl, hr5, hr6⟩ := hR_
 refine WL.ag rfl ?_
 refine WL.z ?_
 refine WC.r ?_
 refine WL.mv rfl ?_
 refine WL.mv rfl ?_
 refine WL.y (X.quo rfl rfl (by omega) (by omega) (by omega)) ?_
 refine WL.y (X.mul rfl rfl (by omega) (by omega)) ?_
 refine WL.y (X.add rfl rfl (by omega) (by omega)) ?_
 refine WL.y (X.sub rfl rfl (by omega) (by omega)) ?_
 refine WL.ag rfl ?_
 refine WL.z ?_
 refine WC.block ?_
 obtain ⟨x0_, hx0_⟩ : ∃ qq__ : Nat, ((↑a + ((↑ln_ / 4) * 2)) - 1 : Int) = (qq__ : Int) := ⟨((↑a + ((↑ln_ / 4) * 2)) - 1 : Int).toNat, (by omega)⟩
 rw [hx0_]
 refine WC.loop (G := Nat × Int × List Span) (fun (x, w, R) => b + 2 - x) (fun (x, w, R) => m2) (fun (x, w, R) => [blk b1 439 [.int .u64 (w)], rowF (v) 23 (R)]) (fun (x, w, R) => [(0, v), (1, .int .i64 (↑a)), (8, .int .i64 (↑ln_)), (9, .pointer (some ⟨b1, 0, none⟩)), (10, .int .u64 (w4)), (11, .int .i64 (↑x))]) (fun (x, w, R) => (a ≤ x ∧ (x : Int) ≤ a + (ln_ : Int) / 4 * 2 + 2) ∧ u64P w ∧ Seg L R a b) ((x0_, ↑ln_, L)) rfl (.refl _) (.cons rfl (.cons rfl (.cons rfl (.cons rfl (.cons rfl (.cons rfl .nil)))))) ?_ ?_
 ·exact ⟨by omega, by unfold u64P; omega, .refl _ _ _⟩
 ·rintro ⟨x, w, R⟩ hF7
  show WK _ _ m2 [blk b1 439 [.int .u64 (w)], rowF (v) 23 (R)] [(0, v), (1, .int .i64 (↑a)), (8, .int .i64 (↑ln_)), (9, .pointer (some ⟨b1, 0, none⟩)), (10, .int .u64 (w4)), (11, .int .i64 (↑x))] _
  replace hF7 : (a ≤ x ∧ (x : Int) ≤ a + (ln_ : Int) / 4 * 2 + 2) ∧ u64P w ∧ Seg L R a b := hF7
  obtain ⟨hx, hw0_, hS⟩ := hF7
  refine WK.good (fun hgood0 => ?_)
  have hSl := hS.len
  have hBR := bdS_perm hB hS.perm
  refine WC.seq ?_
  refine WC.r ?_
  refine WL.mv rfl ?_
  refine WL.mv rfl ?_
  refine WL.mv rfl ?_
  refine WL.y (X.quo rfl rfl (by omega) (by omega) (by omega)) ?_
  refine WL.y (X.mul rfl rfl (by omega) (by omega)) ?_
  refine WL.y (X.add rfl rfl (by omega) (by omega)) ?_
  refine WL.y (X.add rfl rfl (by omega) (by omega)) ?_
  refine WL.cond (X.leq rfl rfl) (by decide) (fun h8 => ?_) (fun h8 => ?_)
  ·refine WL.z ?_
   refine WC.condT rfl ?_
   refine WC.skip ?_
   refine WK.nThen ?_
   refine WC.seq ?_
   refine WC.block ?_
   refine WC.r ?_
   refine WL.tM (T.callP (A := [rowF (v) 23 (R)]) Tryz.call307 rfl (.refl _) (next307 _ (z := w) hw0_)) (by decide) (fun m9 Es_ u_ hle10 hR_ => ?_)
   obtain ⟨w11, rfl, rfl, hr12⟩ := hR_
   refine WL.mv rfl ?_
   refine WL.y (X.subU rfl rfl (by omega) (by omega)) ?_
   refine WL.xe (E.andU rfl rfl (by unfold u64P; omega)) (by decide) (fun w13 hr14 => ?_)
   refine WL.y (X.conv Tryz.runUnderlying358 Tryz.runUnderlying3 rfl (wrap_in (by omega) (by omega))) ?_
   refine WL.ag rfl ?_
   refine WL.z ?_
   refine WC.seq ?_
   refine WC.r ?_
   refine WL.mv rfl ?_
   refine WL.mv rfl ?_
   refine WL.cond (X.geq rfl rfl) (by decide) (fun h15 => ?_) (fun h15 => ?_)
   ·refine WL.z ?_
    refine WC.condT rfl ?_
    refine WC.region ?_
    refine WL.mv rfl ?_
    refine WL.mv rfl ?_
    refine WL.y (X.sub rfl rfl (by omega) (by omega)) ?_
    refine WL.ag rfl ?_
    refine WL.nil ?_
    obtain ⟨o1_, ho1_⟩ : ∃ qq__ : Nat, (w13 - ↑ln_ : Int) = (qq__ : Int) := ⟨(w13 - ↑ln_ : Int).toNat, (by omega)⟩
    rw [ho1_]
    refine WK.nThen ?_
    refine WC.draw (π := (.cons 0 (.cons 1 (.cons 2 (.cons 3 (.cons 4 (.cons 5 (.cons 6 (.cons 7 (.cons 8 (.cons 9 (.cons 10 (.cons 11 (.cons 12 (.cons 13 (.cons 14 (.cons 15 (.cons 16 (.cons 17 (.cons 18 (.cons 19 .done))))))))))))))))))))) [17, 19] [17, 19, 100005] rfl (by kernel_rfl) ?_
    refine DW.y rfl rfl (X.move rfl) ?_
    refine DW.y rfl rfl (X.move rfl) ?_
    refine DW.y rfl rfl (X.move rfl) ?_
    refine DW.y rfl rfl (X.move rfl) ?_
    refine DW.y rfl rfl (X.move rfl) ?_
    refine DW.xf rfl rfl rfl (fun _ _ hle_ => (X.add rfl rfl (by omega) (by omega))) (by decide) ?_
    refine DW.y rfl rfl (X.move rfl) ?_
    refine DW.y rfl rfl (X.move rfl) ?_
    refine DW.y rfl rfl (X.move rfl) ?_
    refine DW.y rfl rfl (X.add rfl rfl (by omega) (by omega)) ?_
    refine DW.y rfl rfl (X.idxRowE (k := 1) (a + o1_) Tryz.runUnderlying28 Tryz.sizeOf23 rfl rfl rfl (by omega) (by first | omega | (simp; omega) | simp)) ?_
    refine DW.y rfl rfl (X.loadFs (k := 1) (i := a + o1_) (off := 0) (us := [.int .i64 (((gt R (a + o1_))).Lo), .int .i64 (((gt R (a + o1_))).Hi)]) Tryz.isAgg23 Tryz.sizeOf23 rfl rfl (by first | omega | (simp; omega) | simp) rfl rfl) ?_
    refine DW.y rfl rfl (X.move rfl) ?_
    refine DW.y rfl rfl (X.move rfl) ?_
    refine DW.y rfl rfl (X.idxRowE (k := 1) x Tryz.runUnderlying28 Tryz.sizeOf23 rfl rfl rfl (by omega) (by first | omega | (simp; omega) | simp)) ?_
    refine DW.y rfl rfl (X.loadFs (k := 1) (i := x) (off := 0) (us := [.int .i64 (((gt R x)).Lo), .int .i64 (((gt R x)).Hi)]) Tryz.isAgg23 Tryz.sizeOf23 rfl rfl (by first | omega | (simp; omega) | simp) rfl rfl) ?_
    refine DW.y rfl rfl (X.idxRowE (k := 1) x Tryz.runUnderlying28 Tryz.sizeOf23 rfl rfl rfl (by omega) (by first | omega | (simp; omega) | simp)) ?_
    refine DW.ts rfl rfl rfl rfl (T.storeFp (k := 1) (i := x) (off := 0) (us := [.int .i64 (((gt R (a + o1_))).Lo), .int .i64 (((gt R (a + o1_))).Hi)]) (gt R (a + o1_)) Tryz.sizeOf23 rfl rfl rfl rfl (Nat.zero_lt_succ _) rfl (by first | omega | (simp; omega) | simp) rfl rfl (one_cons rfl (one_cons rfl one_nil))) ?_
    refine DW.y rfl rfl (X.idxRowE (k := 1) (a + o1_) Tryz.runUnderlying28 Tryz.sizeOf23 rfl rfl rfl (by omega) (by first | omega | (simp; omega) | simp)) ?_
    refine DW.ts rfl rfl rfl rfl (T.storeFp (k := 1) (i := a + o1_) (off := 0) (us := [.int .i64 (((gt R x)).Lo), .int .i64 (((gt R x)).Hi)]) (gt R x) Tryz.sizeOf23 rfl rfl rfl rfl (Nat.zero_lt_succ _) rfl (by first | omega | (simp; omega) | simp) rfl rfl (one_cons rfl (one_cons rfl one_nil))) ?_
    refine DW.nil ?_
    refine WK.nBlock ?_
    refine WK.nThen ?_
    refine WC.region ?_
    refine WL.mv rfl ?_
    refine WL.y (X.add rfl rfl (by omega) (by omega)) ?_
    refine WL.ag rfl ?_
    refine WL.z ?_
    obtain ⟨x1_, hx1_⟩ : ∃ qq__ : Nat, (↑x + 1 : Int) = (qq__ : Int) := ⟨(↑x + 1 : Int).toNat, (by omega)⟩
    rw [hx1_]
    refine WK.back hgood0 hle10 ?_
    refine WK.next ((x1_, w11, (R.set x (gt R (a + o1_))).set (a + o1_) (gt R x))) rfl (.refl _) (.cons rfl (.cons rfl (.cons rfl (.cons rfl (.cons rfl (.cons rfl .nil)))))) ?_ ?_
    ·exact ⟨by omega, hr12, hS.tsw (by omega) (by omega) (by omega)⟩
    ·((try dsimp only); omega)
   ·refine WL.z ?_
    refine WC.condF rfl ?_
    refine WC.skip ?_
    refine WK.nThen ?_
    obtain ⟨o2_, ho2_⟩ : ∃ qq__ : Nat, (w13 : Int) = (qq__ : Int) := ⟨(w13 : Int).toNat, (by omega)⟩
    rw [ho2_]
    refine WC.draw (π := (.cons 0 (.cons 1 (.cons 2 (.cons 3 (.cons 4 (.cons 5 (.cons 6 (.cons 7 (.cons 8 (.cons 9 (.cons 10 (.cons 11 (.cons 12 (.cons 13 (.cons 14 (.cons 15 (.cons 16 (.cons 17 (.cons 18 (.cons 19 .done))))))))))))))))))))) [17, 19] [17, 19, 100005] rfl (by kernel_rfl) ?_
    refine DW.y rfl rfl (X.move rfl) ?_
    refine DW.y rfl rfl (X.move rfl) ?_
    refine DW.y rfl rfl (X.move rfl) ?_
    refine DW.y rfl rfl (X.move rfl) ?_
    refine DW.y rfl rfl (X.move rfl) ?_
    refine DW.xf rfl rfl rfl (fun _ _ hle_ => (X.add rfl rfl (by omega) (by omega))) (by decide) ?_
    refine DW.y rfl rfl (X.move rfl) ?_
    refine DW.y rfl rfl (X.move rfl) ?_
    refine DW.y rfl rfl (X.move rfl) ?_
    refine DW.y rfl rfl (X.add rfl rfl (by omega) (by omega)) ?_
    refine DW.y rfl rfl (X.idxRowE (k := 1) (a + o2_) Tryz.runUnderlying28 Tryz.sizeOf23 rfl rfl rfl (by omega) (by first | omega | (simp; omega) | simp)) ?_
    refine DW.y rfl rfl (X.loadFs (k := 1) (i := a + o2_) (off := 0) (us := [.int .i64 (((gt R (a + o2_))).Lo), .int .i64 (((gt R (a + o2_))).Hi)]) Tryz.isAgg23 Tryz.sizeOf23 rfl rfl (by first | omega | (simp; omega) | simp) rfl rfl) ?_
    refine DW.y rfl rfl (X.move rfl) ?_
    refine DW.y rfl rfl (X.move rfl) ?_
    refine DW.y rfl rfl (X.idxRowE (k := 1) x Tryz.runUnderlying28 Tryz.sizeOf23 rfl rfl rfl (by omega) (by first | omega | (simp; omega) | simp)) ?_
    refine DW.y rfl rfl (X.loadFs (k := 1) (i := x) (off := 0) (us := [.int .i64 (((gt R x)).Lo), .int .i64 (((gt R x)).Hi)]) Tryz.isAgg23 Tryz.sizeOf23 rfl rfl (by first | omega | (simp; omega) | simp) rfl rfl) ?_
    refine DW.y rfl rfl (X.idxRowE (k := 1) x Tryz.runUnderlying28 Tryz.sizeOf23 rfl rfl rfl (by omega) (by first | omega | (simp; omega) | simp)) ?_
    refine DW.ts rfl rfl rfl rfl (T.storeFp (k := 1) (i := x) (off := 0) (us := [.int .i64 (((gt R (a + o2_))).Lo), .int .i64 (((gt R (a + o2_))).Hi)]) (gt R (a + o2_)) Tryz.sizeOf23 rfl rfl rfl rfl (Nat.zero_lt_succ _) rfl (by first | omega | (simp; omega) | simp) rfl rfl (one_cons rfl (one_cons rfl one_nil))) ?_
    refine DW.y rfl rfl (X.idxRowE (k := 1) (a + o2_) Tryz.runUnderlying28 Tryz.sizeOf23 rfl rfl rfl (by omega) (by first | omega | (simp; omega) | simp)) ?_
    refine DW.ts rfl rfl rfl rfl (T.storeFp (k := 1) (i := a + o2_) (off := 0) (us := [.int .i64 (((gt R x)).Lo), .int .i64 (((gt R x)).Hi)]) (gt R x) Tryz.sizeOf23 rfl rfl rfl rfl (Nat.zero_lt_succ _) rfl (by first | omega | (simp; omega) | simp) rfl rfl (one_cons rfl (one_cons rfl one_nil))) ?_
    refine DW.nil ?_
    refine WK.nBlock ?_
    refine WK.nThen ?_
    refine WC.region ?_
    refine WL.mv rfl ?_
    refine WL.y (X.add rfl rfl (by omega) (by omega)) ?_
    refine WL.ag rfl ?_
    refine WL.z ?_
    obtain ⟨x1_, hx1_⟩ : ∃ qq__ : Nat, (↑x + 1 : Int) = (qq__ : Int) := ⟨(↑x + 1 : Int).toNat, (by omega)⟩
    rw [hx1_]
    refine WK.back hgood0 hle10 ?_
    refine WK.next ((x1_, w11, (R.set x (gt R (a + o2_))).set (a + o2_) (gt R x))) rfl (.refl _) (.cons rfl (.cons rfl (.cons rfl (.cons rfl (.cons rfl (.cons rfl .nil)))))) ?_ ?_
    ·exact ⟨by omega, hr12, hS.tsw (by omega) (by omega) (by omega)⟩
    ·((try dsimp only); omega)
  ·refine WL.z ?_
   refine WC.condF rfl ?_
   refine WC.exit ?_
   refine WK.eThen ?_
   refine WK.eThen ?_
   refine WK.eHit ?_
   refine WK.end0 rfl (fun w' hw' => Ret.mut (hw'.weaken (.cons _ (.cons_cons _ .slnil))) ?_)
   exact ⟨rfl, _, rfl, hS⟩

end Go.Proofs.T10
