import Derived.Test.YtooomcigmleneaaGreatKxW
import Derived.Test.YtooomcigmleneaaGreatT10Seg
/- Top: walks, first part, by program. -/
namespace Go.Proofs.T10
open Go Go.Kx
set_option linter.unusedSimpArgs false
set_option linter.unusedVariables false

theorem within26 (m : Mem) (n : Int) (lo : Int) (hi : Int)   : Exact Tryz.prog 26 #[.int .i64 (n), .int .i64 (lo), .int .i64 (hi)] m (.bool (decide (lo ≤ n ∧ n ≤ hi))) := by
 refine Exact.start Tryz.func26 rfl Tryz.ntmps26 rfl fun wld => ?_
 refine WC.r ?_
 refine WL.ag rfl ?_
 refine WL.z ?_
 refine WC.r ?_
 refine WL.mv rfl ?_
 refine WL.mv rfl ?_
 refine WL.cond (X.geq rfl rfl) (by decide) (fun h1 => ?_) (fun h1 => ?_)
 ·refine WL.mv rfl ?_
  refine WL.yes rfl rfl ?_
  refine WL.mv rfl ?_
  refine WL.yes rfl rfl ?_
  refine WL.mv rfl ?_
  refine WL.yes rfl rfl ?_
  refine WL.y (X.leq rfl rfl) ?_
  refine WL.y (X.pickT rfl rfl rfl) ?_
  refine WL.ag rfl ?_
  refine WL.z ?_
  refine WC.ret ?_
  refine WK.ret1 rfl rfl (fun w' hw' => Ret.exact hw' ?_)
  first | exact bool_true (by omega) | exact bool_false (by omega) | exact dec_eq (by omega)
 ·refine WL.mv rfl ?_
  refine WL.no rfl rfl rfl (by decide) ?_
  refine WL.no rfl rfl rfl (by decide) ?_
  refine WL.no rfl rfl rfl (by decide) ?_
  refine WL.y (X.pickF rfl rfl rfl) ?_
  refine WL.ag rfl ?_
  refine WL.z ?_
  refine WC.ret ?_
  refine WK.ret1 rfl rfl (fun w' hw' => Ret.exact hw' ?_)
  first | exact bool_true (by omega) | exact bool_false (by omega) | exact dec_eq (by omega)

theorem check8 (m : Mem) (cp : List Value) (p : Pen) (hp : Enc.rd m cp p)   : Exact Tryz.prog 8 #[.agg cp.toArray] m (.int .i64 (penE p)) := by
 obtain rfl := hp
 refine Exact.start Tryz.func8 rfl Tryz.ntmps8 rfl fun wld => ?_
 refine WC.r ?_
 refine WL.tn (T.boxB rfl rfl) (by decide) fun b1 => ?_
 refine WL.ag rfl ?_
 refine WL.z ?_
 refine WC.r ?_
 refine WL.y (X.field Tryz.runUnderlying33 rfl Tryz.sizeOf23 rfl) ?_
 refine WL.y (X.loadBP (k := 0) (vs := [.int .i64 (p.Zero.Lo), .int .i64 (p.Zero.Hi)]) Tryz.isAgg23 Tryz.sizeOf23 rfl rfl rfl rfl) ?_
 refine WL.tn (T.alloc Tryz.zeroValue23 rfl) (by decide) fun b2 => ?_
 refine WL.ts (T.storeBA (k := 0) Tryz.sizeOf23 rfl rfl rfl (one_cons rfl (one_cons rfl one_nil)) rfl rfl) ?_
 refine WL.z ?_
 refine WC.seq ?_
 refine WC.r ?_
 refine WL.y (X.field Tryz.runUnderlying33 rfl Tryz.sizeOf3 rfl) ?_
 refine WL.y (X.loadB (k := 1) Tryz.isAgg3 rfl rfl rfl) ?_
 refine WL.cond (X.call Tryz.call26 rfl (within26 _ _ _ _ )) (by decide) (fun h3 => ?_) (fun h3 => ?_)
 ·refine WL.y (X.not rfl) ?_
  refine WL.mv rfl ?_
  refine WL.yes rfl rfl ?_
  refine WL.y (X.field Tryz.runUnderlying23 rfl Tryz.sizeOf3 rfl) ?_
  refine WL.yes rfl rfl ?_
  refine WL.y (X.loadB (k := 0) Tryz.isAgg3 rfl rfl rfl) ?_
  refine WL.yes rfl rfl ?_
  refine WL.y (X.field Tryz.runUnderlying23 rfl Tryz.sizeOf3 rfl) ?_
  refine WL.yes rfl rfl ?_
  refine WL.y (X.loadB (k := 0) Tryz.isAgg3 rfl rfl rfl) ?_
  refine WL.yes rfl rfl ?_
  refine WL.cond (X.call Tryz.call26 rfl (within26 _ _ _ _ )) (by decide) (fun h4 => ?_) (fun h4 => ?_)
  ·refine WL.yes rfl rfl ?_
   refine WL.y (X.not rfl) ?_
   refine WL.y (X.pickF rfl rfl rfl) ?_
   refine WL.mv rfl ?_
   refine WL.yes rfl rfl ?_
   refine WL.y (X.field Tryz.runUnderlying23 rfl Tryz.sizeOf3 rfl) ?_
   refine WL.yes rfl rfl ?_
   refine WL.y (X.loadB (k := 0) Tryz.isAgg3 rfl rfl rfl) ?_
   refine WL.yes rfl rfl ?_
   refine WL.cond (X.gtr rfl rfl) (by decide) (fun h5 => ?_) (fun h5 => ?_)
   ·refine WL.y (X.pickF rfl rfl rfl) ?_
    refine WL.mv rfl ?_
    refine WL.no rfl rfl rfl (by decide) ?_
    refine WL.no rfl rfl rfl (by decide) ?_
    refine WL.no rfl rfl rfl (by decide) ?_
    refine WL.no rfl rfl rfl (by decide) ?_
    refine WL.no rfl rfl rfl (by decide) ?_
    refine WL.no rfl rfl rfl (by decide) ?_
    refine WL.y (X.pickT rfl rfl rfl) ?_
    refine WL.mv rfl ?_
    refine WL.no rfl rfl rfl (by decide) ?_
    refine WL.no rfl rfl rfl (by decide) ?_
    refine WL.no rfl rfl rfl (by decide) ?_
    refine WL.no rfl rfl rfl (by decide) ?_
    refine WL.y (X.pickT rfl rfl rfl) ?_
    refine WL.z ?_
    refine WC.condT rfl ?_
    refine WC.r ?_
    refine WL.ag rfl ?_
    refine WL.z ?_
    refine WC.ret ?_
    refine WK.rThen ?_
    refine WK.ret1 rfl rfl (fun w' hw' => Ret.exact hw' ?_)
    first | exact int_eq (penE_no (by unfold penP; omega)).symm | exact int_eq (penE_yes (by unfold penP; omega)).symm
   ·refine WL.y (X.pickF rfl rfl rfl) ?_
    refine WL.mv rfl ?_
    refine WL.yes rfl rfl ?_
    refine WL.y (X.field Tryz.runUnderlying23 rfl Tryz.sizeOf3 rfl) ?_
    refine WL.yes rfl rfl ?_
    refine WL.y (X.loadB (k := 0) Tryz.isAgg3 rfl rfl rfl) ?_
    refine WL.yes rfl rfl ?_
    refine WL.y (X.field Tryz.runUnderlying23 rfl Tryz.sizeOf3 rfl) ?_
    refine WL.yes rfl rfl ?_
    refine WL.y (X.loadB (k := 0) Tryz.isAgg3 rfl rfl rfl) ?_
    refine WL.yes rfl rfl ?_
    refine WL.y (X.sub rfl rfl (by omega) (by omega)) ?_
    refine WL.yes rfl rfl ?_
    refine WL.cond (X.gtr rfl rfl) (by decide) (fun h6 => ?_) (fun h6 => ?_)
    ·refine WL.y (X.pickF rfl rfl rfl) ?_
     refine WL.mv rfl ?_
     refine WL.no rfl rfl rfl (by decide) ?_
     refine WL.no rfl rfl rfl (by decide) ?_
     refine WL.no rfl rfl rfl (by decide) ?_
     refine WL.no rfl rfl rfl (by decide) ?_
     refine WL.y (X.pickT rfl rfl rfl) ?_
     refine WL.z ?_
     refine WC.condT rfl ?_
     refine WC.r ?_
     refine WL.ag rfl ?_
     refine WL.z ?_
     refine WC.ret ?_
     refine WK.rThen ?_
     refine WK.ret1 rfl rfl (fun w' hw' => Ret.exact hw' ?_)
     first | exact int_eq (penE_no (by unfold penP; omega)).symm | exact int_eq (penE_yes (by unfold penP; omega)).symm
    ·refine WL.y (X.pickF rfl rfl rfl) ?_
     refine WL.mv rfl ?_
     refine WL.yes rfl rfl ?_
     refine WL.y (X.field Tryz.runUnderlying33 rfl Tryz.sizeOf3 rfl) ?_
     refine WL.yes rfl rfl ?_
     refine WL.y (X.loadB (k := 1) Tryz.isAgg3 rfl rfl rfl) ?_
     refine WL.yes rfl rfl ?_
     refine WL.cond (X.call Tryz.call26 rfl (within26 _ _ _ _ )) (by decide) (fun h7 => ?_) (fun h7 => ?_)
     ·refine WL.yes rfl rfl ?_
      refine WL.y (X.not rfl) ?_
      refine WL.y (X.pickF rfl rfl rfl) ?_
      refine WL.z ?_
      refine WC.condF rfl ?_
      refine WC.skip ?_
      refine WK.nThen ?_
      refine WC.r ?_
      refine WL.ag rfl ?_
      refine WL.z ?_
      refine WC.ret ?_
      refine WK.ret1 rfl rfl (fun w' hw' => Ret.exact hw' ?_)
      first | exact int_eq (penE_no (by unfold penP; omega)).symm | exact int_eq (penE_yes (by unfold penP; omega)).symm
     ·refine WL.yes rfl rfl ?_
      refine WL.y (X.not rfl) ?_
      refine WL.y (X.pickF rfl rfl rfl) ?_
      refine WL.z ?_
      refine WC.condT rfl ?_
      refine WC.r ?_
      refine WL.ag rfl ?_
      refine WL.z ?_
      refine WC.ret ?_
      refine WK.rThen ?_
      refine WK.ret1 rfl rfl (fun w' hw' => Ret.exact hw' ?_)
      first | exact int_eq (penE_no (by unfold penP; omega)).symm | exact int_eq (penE_yes (by unfold penP; omega)).symm
  ·refine WL.yes rfl rfl ?_
   refine WL.y (X.not rfl) ?_
   refine WL.y (X.pickF rfl rfl rfl) ?_
   refine WL.mv rfl ?_
   refine WL.no rfl rfl rfl (by decide) ?_
   refine WL.no rfl rfl rfl (by decide) ?_
   refine WL.no rfl rfl rfl (by decide) ?_
   refine WL.y (X.pickT rfl rfl rfl) ?_
   refine WL.mv rfl ?_
   refine WL.no rfl rfl rfl (by decide) ?_
   refine WL.no rfl rfl rfl (by decide) ?_
   refine WL.no rfl rfl rfl (by decide) ?_
   refine WL.no rfl rfl rfl (by decide) ?_
   refine WL.no rfl rfl rfl (by decide) ?_
   refine WL.no rfl rfl rfl (by decide) ?_
   refine WL.y (X.pickT rfl rfl rfl) ?_
   refine WL.mv rfl ?_
   refine WL.no rfl rfl rfl (by decide) ?_
   refine WL.no rfl rfl rfl (by decide) ?_
   refine WL.no rfl rfl rfl (by decide) ?_
   refine WL.no rfl rfl rfl (by decide) ?_
   refine WL.y (X.pickT rfl rfl rfl) ?_
   refine WL.z ?_
   refine WC.condT rfl ?_
   refine WC.r ?_
   refine WL.ag rfl ?_
   refine WL.z ?_
   refine WC.ret ?_
   refine WK.rThen ?_
   refine WK.ret1 rfl rfl (fun w' hw' => Ret.exact hw' ?_)
   first | exact int_eq (penE_no (by unfold penP; omega)).symm | exact int_eq (penE_yes (by unfold penP; omega)).symm
 ·refine WL.y (X.not rfl) ?_
  refine WL.mv rfl ?_
  refine WL.no rfl rfl rfl (by decide) ?_
  refine WL.no rfl rfl rfl (by decide) ?_
  refine WL.no rfl rfl rfl (by decide) ?_
  refine WL.no rfl rfl rfl (by decide) ?_
  refine WL.no rfl rfl rfl (by decide) ?_
  refine WL.no rfl rfl rfl (by decide) ?_
  refine WL.y (X.pickT rfl rfl rfl) ?_
  refine WL.mv rfl ?_
  refine WL.no rfl rfl rfl (by decide) ?_
  refine WL.no rfl rfl rfl (by decide) ?_
  refine WL.no rfl rfl rfl (by decide) ?_
  refine WL.y (X.pickT rfl rfl rfl) ?_
  refine WL.mv rfl ?_
  refine WL.no rfl rfl rfl (by decide) ?_
  refine WL.no rfl rfl rfl (by decide) ?_
  refine WL.no rfl rfl rfl (by decide) ?_
  refine WL.no rfl rfl rfl (by decide) ?_
  refine WL.no rfl rfl rfl (by decide) ?_
  refine WL.no rfl rfl rfl (by decide) ?_
  refine WL.y (X.pickT rfl rfl rfl) ?_
  refine WL.mv rfl ?_
  refine WL.no rfl rfl rfl (by decide) ?_
  refine WL.no rfl rfl rfl (by decide) ?_
  refine WL.no rfl rfl rfl (by decide) ?_
  refine WL.no rfl rfl rfl (by decide) ?_
  refine WL.y (X.pickT rfl rfl rfl) ?_
  refine WL.z ?_
  refine WC.condT rfl ?_
  refine WC.r ?_
  refine WL.ag rfl ?_
  refine WL.z ?_
  refine WC.ret ?_
  refine WK.rThen ?_
  refine WK.ret1 rfl rfl (fun w' hw' => Ret.exact hw' ?_)
  first | exact int_eq (penE_no (by unfold penP; omega)).symm | exact int_eq (penE_yes (by unfold penP; omega)).symm

theorem apart32 (m : Mem) (a : Int) (b : Int)  (ha : -200000 ≤ a ∧ a ≤ 200000) (hb : -200000 ≤ b ∧ b ≤ 200000) : Exact Tryz.prog 32 #[.int .i64 (a), .int .i64 (b)] m (.int .i64 (apartI a b)) := by
 refine Exact.start Tryz.func32 rfl Tryz.ntmps32 rfl fun wld => ?_
 refine WC.r ?_
 refine WL.ag rfl ?_
 refine WL.z ?_
 refine WC.r ?_
 refine WL.mv rfl ?_
 refine WL.mv rfl ?_
 refine WL.y (X.sub rfl rfl (by omega) (by omega)) ?_
 refine WL.mv rfl ?_
 refine WL.mv rfl ?_
 refine WL.y (X.sub rfl rfl (by omega) (by omega)) ?_
 refine WL.y (X.mx rfl rfl) ?_
 refine WL.ag rfl ?_
 refine WL.z ?_
 refine WC.ret ?_
 refine WK.ret1 rfl rfl (fun w' hw' => Ret.exact hw' ?_)
 first | rfl | (simp [*]; done)

theorem shows30 (m : Mem) (b : Int) (s : Int) (r : Int)  (hb : -200000 ≤ b ∧ b ≤ 200000) (hr : -200000 ≤ r ∧ r ≤ 200000) : Exact Tryz.prog 30 #[.int .i64 (b), .int .i64 (s), .int .i64 (r)] m (.int .i64 (clampN b s r)) := by
 refine Exact.start Tryz.func30 rfl Tryz.ntmps30 rfl fun wld => ?_
 refine WC.r ?_
 refine WL.ag rfl ?_
 refine WL.z ?_
 refine WC.r ?_
 refine WL.mv rfl ?_
 refine WL.mv rfl ?_
 refine WL.mv rfl ?_
 refine WL.y (X.sub rfl rfl (by omega) (by omega)) ?_
 refine WL.y (X.mx rfl rfl) ?_
 refine WL.mv rfl ?_
 refine WL.mv rfl ?_
 refine WL.y (X.add rfl rfl (by omega) (by omega)) ?_
 refine WL.y (X.mn rfl rfl) ?_
 refine WL.ag rfl ?_
 refine WL.z ?_
 refine WC.ret ?_
 refine WK.ret1 rfl rfl (fun w' hw' => Ret.exact hw' ?_)
 first | rfl | (simp [*]; done)

theorem in29 (m : Mem) (vl : Value) (l : List Span) (hl : Sl m vl l) (n : Int)   : Exact Tryz.prog 29 #[vl, .int .i64 (n)] m (.bool (decide (inP l n))) := by
 have ll := hl.le
 refine Exact.start Tryz.func29 rfl Tryz.ntmps29 rfl fun wld => ?_
 refine WC.r ?_
 refine WL.ag rfl ?_
 refine WL.z ?_
 refine WC.seq ?_
 refine WC.r ?_
 refine WL.ag rfl ?_
 refine WL.z ?_
 refine WC.block ?_
 refine WC.loop (G := Nat) (fun k => l.length - k) (fun k => m) (fun k => []) (fun k => [(0, vl), (1, .int .i64 (n)), (5, .int .i64 (↑k))]) (fun k => k ≤ l.length ∧ (∀ j, j < k → ¬ ((gt l j).Lo ≤ n ∧ n ≤ (gt l j).Hi))) 0 rfl (.refl _) (.cons rfl (.cons rfl (.cons rfl .nil))) ?_ ?_
 ·exact ⟨Nat.zero_le _, fun j hj => absurd hj (Nat.not_lt_zero _)⟩
 ·rintro k hF1
  show WK _ _ m [] [(0, vl), (1, .int .i64 (n)), (5, .int .i64 (↑k))] _
  replace hF1 : k ≤ l.length ∧ (∀ j, j < k → ¬ ((gt l j).Lo ≤ n ∧ n ≤ (gt l j).Hi)) := hF1
  obtain ⟨hk, hall⟩ := hF1
  refine WC.seq ?_
  refine WC.r ?_
  refine WL.mv rfl ?_
  refine WL.mv rfl ?_
  refine WL.y (X.len Tryz.runUnderlying28 rfl hl) ?_
  refine WL.cond (X.lss rfl rfl) (by decide) (fun h2 => ?_) (fun h2 => ?_)
  ·refine WL.z ?_
   refine WC.condT rfl ?_
   refine WC.skip ?_
   refine WK.nThen ?_
   refine WC.seq ?_
   refine WC.block ?_
   refine WC.r ?_
   refine WL.mv rfl ?_
   refine WL.mv rfl ?_
   refine WL.xe (E.idxN k Tryz.runUnderlying28 Tryz.sizeOf23 rfl rfl hl (by omega)) (by decide) (fun p3 hp4 => ?_)
   have hp5 := At.Span_0 hp4
   refine WL.y (X.field Tryz.runUnderlying23 rfl Tryz.sizeOf3 rfl) ?_
   refine WL.y (X.loadInt Tryz.isAgg3 rfl hp5) ?_
   refine WL.mv rfl ?_
   refine WL.cond (X.leq rfl rfl) (by decide) (fun h6 => ?_) (fun h6 => ?_)
   ·refine WL.mv rfl ?_
    refine WL.yes rfl rfl ?_
    refine WL.mv rfl ?_
    refine WL.yes rfl rfl ?_
    refine WL.mv rfl ?_
    refine WL.yes rfl rfl ?_
    refine WL.mv rfl ?_
    refine WL.yes rfl rfl ?_
    refine WL.xe (E.idxN k Tryz.runUnderlying28 Tryz.sizeOf23 rfl rfl hl (by omega)) (by decide) (fun p7 hp8 => ?_)
    refine WL.yes rfl rfl ?_
    have hp9 := At.Span_1 hp8
    refine WL.y (X.field Tryz.runUnderlying23 rfl Tryz.sizeOf3 rfl) ?_
    refine WL.yes rfl rfl ?_
    refine WL.y (X.loadInt Tryz.isAgg3 rfl hp9) ?_
    refine WL.yes rfl rfl ?_
    refine WL.cond (X.leq rfl rfl) (by decide) (fun h10 => ?_) (fun h10 => ?_)
    ·refine WL.y (X.pickT rfl rfl rfl) ?_
     refine WL.z ?_
     refine WC.condT rfl ?_
     refine WC.r ?_
     refine WL.ag rfl ?_
     refine WL.z ?_
     refine WC.ret ?_
     refine WK.rBlock ?_
     refine WK.rThen ?_
     refine WK.rThen ?_
     refine WK.rBlock ?_
     refine WK.rThen ?_
     refine WK.ret1 rfl rfl (fun w' hw' => Ret.exact hw' ?_)
     first | exact bool_true ⟨k, by omega, by omega⟩ | exact bool_false (fun ⟨j, hj, h_⟩ => hall j (by omega) h_)
    ·refine WL.y (X.pickT rfl rfl rfl) ?_
     refine WL.z ?_
     refine WC.condF rfl ?_
     refine WC.skip ?_
     refine WK.nBlock ?_
     refine WK.nThen ?_
     refine WC.region ?_
     refine WL.mv rfl ?_
     refine WL.y (X.add rfl rfl (by omega) (by omega)) ?_
     refine WL.ag rfl ?_
     refine WL.z ?_
     refine WK.next (k + 1) rfl (.refl _) (.cons rfl (.cons rfl (.cons rfl .nil))) ?_ ?_
     ·exact ⟨by omega, fun j hj => by rcases Nat.lt_succ_iff_lt_or_eq.1 hj with h | h; exact hall j h; subst h; omega⟩
     ·omega
   ·refine WL.mv rfl ?_
    refine WL.no rfl rfl rfl (by decide) ?_
    refine WL.no rfl rfl rfl (by decide) ?_
    refine WL.no rfl rfl rfl (by decide) ?_
    refine WL.no rfl rfl rfl (by decide) ?_
    refine WL.no rfl rfl rfl (by decide) ?_
    refine WL.no rfl rfl rfl (by decide) ?_
    refine WL.no rfl rfl rfl (by decide) ?_
    refine WL.y (X.pickF rfl rfl rfl) ?_
    refine WL.z ?_
    refine WC.condF rfl ?_
    refine WC.skip ?_
    refine WK.nBlock ?_
    refine WK.nThen ?_
    refine WC.region ?_
    refine WL.mv rfl ?_
    refine WL.y (X.add rfl rfl (by omega) (by omega)) ?_
    refine WL.ag rfl ?_
    refine WL.z ?_
    refine WK.next (k + 1) rfl (.refl _) (.cons rfl (.cons rfl (.cons rfl .nil))) ?_ ?_
    ·exact ⟨by omega, fun j hj => by rcases Nat.lt_succ_iff_lt_or_eq.1 hj with h | h; exact hall j h; subst h; omega⟩
    ·omega
  ·refine WL.z ?_
   refine WC.condF rfl ?_
   refine WC.exit ?_
   refine WK.eThen ?_
   refine WK.eThen ?_
   refine WK.eHit ?_
   refine WK.nThen ?_
   refine WC.r ?_
   refine WL.ag rfl ?_
   refine WL.z ?_
   refine WC.ret ?_
   refine WK.ret1 rfl rfl (fun w' hw' => Ret.exact hw' ?_)
   first | exact bool_true ⟨k, by omega, by omega⟩ | exact bool_false (fun ⟨j, hj, h_⟩ => hall j (by omega) h_)

theorem same27 (m : Mem) (va : Value) (a : List Int) (ha : Sl m va a) (vb : Value) (b : List Int) (hb : Sl m vb b)   : Exact Tryz.prog 27 #[va, vb] m (.bool (decide (a = b))) := by
 have la := ha.le
 have lb := hb.le
 refine Exact.start Tryz.func27 rfl Tryz.ntmps27 rfl fun wld => ?_
 refine WC.r ?_
 refine WL.ag rfl ?_
 refine WL.z ?_
 refine WC.seq ?_
 refine WC.r ?_
 refine WL.mv rfl ?_
 refine WL.y (X.len Tryz.runUnderlying27 rfl ha) ?_
 refine WL.mv rfl ?_
 refine WL.y (X.len Tryz.runUnderlying27 rfl hb) ?_
 refine WL.condn (X.neq rfl rfl) (by decide) (fun h1 => ?_) (fun h1 => ?_)
 ·refine WL.z ?_
  refine WC.condT rfl ?_
  refine WC.r ?_
  refine WL.ag rfl ?_
  refine WL.z ?_
  refine WC.ret ?_
  refine WK.rThen ?_
  refine WK.ret1 rfl rfl (fun w' hw' => Ret.exact hw' ?_)
  exact bool_false (fun e => by subst e; omega)
 ·refine WL.z ?_
  refine WC.condF rfl ?_
  refine WC.skip ?_
  refine WK.nThen ?_
  refine WC.seq ?_
  refine WC.r ?_
  refine WL.ag rfl ?_
  refine WL.z ?_
  refine WC.block ?_
  refine WC.loop (G := Nat) (fun k => a.length - k) (fun k => m) (fun k => []) (fun k => [(0, va), (1, vb), (5, .int .i64 (↑k))]) (fun k => k ≤ a.length ∧ (∀ j, j < k → gt a j = gt b j)) 0 rfl (.refl _) (.cons rfl (.cons rfl (.cons rfl .nil))) ?_ ?_
  ·exact ⟨Nat.zero_le _, fun j hj => absurd hj (Nat.not_lt_zero _)⟩
  ·rintro k hF2
   show WK _ _ m [] [(0, va), (1, vb), (5, .int .i64 (↑k))] _
   replace hF2 : k ≤ a.length ∧ (∀ j, j < k → gt a j = gt b j) := hF2
   obtain ⟨hk, hall⟩ := hF2
   refine WC.seq ?_
   refine WC.r ?_
   refine WL.mv rfl ?_
   refine WL.mv rfl ?_
   refine WL.y (X.len Tryz.runUnderlying27 rfl ha) ?_
   refine WL.cond (X.lss rfl rfl) (by decide) (fun h3 => ?_) (fun h3 => ?_)
   ·refine WL.z ?_
    refine WC.condT rfl ?_
    refine WC.skip ?_
    refine WK.nThen ?_
    refine WC.seq ?_
    refine WC.block ?_
    refine WC.seq ?_
    refine WC.draw (π := (.cons 0 (.cons 1 (.cons 2 (.cons 3 (.cons 4 (.cons 5 (.cons 6 (.cons 7 (.cons 8 .done)))))))))) [] [] rfl (by kernel_rfl) ?_
    refine DW.y rfl rfl (X.move rfl) ?_
    refine DW.y rfl rfl (X.move rfl) ?_
    refine DW.xe rfl rfl (E.idxN k Tryz.runUnderlying27 Tryz.sizeOf3 rfl rfl ha (by omega)) (by decide) (fun p4 hp5 => ?_)
    refine DW.y rfl rfl (X.loadInt Tryz.isAgg3 rfl hp5) ?_
    refine DW.y rfl rfl (X.move rfl) ?_
    refine DW.y rfl rfl (X.move rfl) ?_
    refine DW.xe rfl rfl (E.idxN k Tryz.runUnderlying27 Tryz.sizeOf3 rfl rfl hb (by omega)) (by decide) (fun p6 hp7 => ?_)
    refine DW.y rfl rfl (X.loadInt Tryz.isAgg3 rfl hp7) ?_
    refine DW.condn rfl rfl (X.neq rfl rfl) (by decide) (fun h8 => ?_) (fun h8 => ?_)
    ·refine DW.nil ?_
     refine WK.nThen ?_
     refine WC.condT rfl ?_
     refine WC.r ?_
     refine WL.ag rfl ?_
     refine WL.z ?_
     refine WC.ret ?_
     refine WK.rBlock ?_
     refine WK.rThen ?_
     refine WK.rThen ?_
     refine WK.rBlock ?_
     refine WK.rThen ?_
     refine WK.ret1 rfl rfl (fun w' hw' => Ret.exact hw' ?_)
     exact bool_false (fun e => by subst e; contradiction)
    ·refine DW.nil ?_
     refine WK.nThen ?_
     refine WC.condF rfl ?_
     refine WC.skip ?_
     refine WK.nBlock ?_
     refine WK.nThen ?_
     refine WC.region ?_
     refine WL.mv rfl ?_
     refine WL.y (X.add rfl rfl (by omega) (by omega)) ?_
     refine WL.ag rfl ?_
     refine WL.z ?_
     refine WK.next (k + 1) rfl (.refl _) (.cons rfl (.cons rfl (.cons rfl .nil))) ?_ ?_
     ·exact ⟨by omega, fun j hj => by rcases Nat.lt_succ_iff_lt_or_eq.1 hj with h | h; exact hall j h; subst h; (first | assumption | (apply Classical.byContradiction; assumption))⟩
     ·omega
   ·refine WL.z ?_
    refine WC.condF rfl ?_
    refine WC.exit ?_
    refine WK.eThen ?_
    refine WK.eThen ?_
    refine WK.eHit ?_
    refine WK.nThen ?_
    refine WC.r ?_
    refine WL.ag rfl ?_
    refine WL.z ?_
    refine WC.ret ?_
    refine WK.ret1 rfl rfl (fun w' hw' => Ret.exact hw' ?_)
    exact bool_true (ext_gt (by omega) (fun j hj => hall j (by omega)))

theorem same9 (m : Mem) (va : Value) (a : List Int) (ha : Sl m va a) (vb : Value) (b : List Int) (hb : Sl m vb b)   : Exact Tryz.prog 9 #[va, vb] m (.bool (decide (a = b))) := by
 have la := ha.le
 have lb := hb.le
 refine Exact.start Tryz.func9 rfl Tryz.ntmps9 rfl fun wld => ?_
 refine WC.r ?_
 refine WL.ag rfl ?_
 refine WL.z ?_
 refine WC.r ?_
 refine WL.mv rfl ?_
 refine WL.mv rfl ?_
 refine WL.y (X.call Tryz.call27 rfl (same27 _ _ _ ha _ _ hb )) ?_
 refine WL.ag rfl ?_
 refine WL.z ?_
 refine WC.ret ?_
 refine WK.ret1 rfl rfl (fun w' hw' => Ret.exact hw' ?_)
 first | rfl | (simp [*]; done)

theorem few10 (m : Mem) (cx : List Value) (x : Sheet) (hx : Enc.rd m cx x)  (hpe : penP x.Pen) : Exact Tryz.prog 10 #[.agg cx.toArray] m (.bool (decide (fewP x))) := by
 obtain ⟨v1, v3, v5, v7, rfl, hs2, hs4, hs6, hs8⟩ := hx
 have hl9 := hs2.le
 have hl10 := hs4.le
 have hl11 := hs6.le
 have hl12 := hs8.le
 have hpe_ := hpe
 unfold penP at hpe_
 refine Exact.start Tryz.func10 rfl Tryz.ntmps10 rfl fun wld => ?_
 refine WC.r ?_
 refine WL.tn (T.boxB rfl rfl) (by decide) fun b13 => ?_
 refine WL.ag rfl ?_
 refine WL.z ?_
 refine WC.seq ?_
 refine WC.r ?_
 refine WL.y (X.field Tryz.runUnderlying35 rfl Tryz.sizeOf26 rfl) ?_
 refine WL.y (X.loadB (k := 0) Tryz.isAgg26 rfl rfl rfl) ?_
 refine WL.y (X.len Tryz.runUnderlying26 rfl hs2) ?_
 refine WL.cond (X.gtr rfl rfl) (by decide) (fun h14 => ?_) (fun h14 => ?_)
 ·refine WL.mv rfl ?_
  refine WL.no rfl rfl rfl (by decide) ?_
  refine WL.no rfl rfl rfl (by decide) ?_
  refine WL.no rfl rfl rfl (by decide) ?_
  refine WL.no rfl rfl rfl (by decide) ?_
  refine WL.y (X.pickT rfl rfl rfl) ?_
  refine WL.mv rfl ?_
  refine WL.no rfl rfl rfl (by decide) ?_
  refine WL.no rfl rfl rfl (by decide) ?_
  refine WL.no rfl rfl rfl (by decide) ?_
  refine WL.no rfl rfl rfl (by decide) ?_
  refine WL.no rfl rfl rfl (by decide) ?_
  refine WL.y (X.pickT rfl rfl rfl) ?_
  refine WL.mv rfl ?_
  refine WL.no rfl rfl rfl (by decide) ?_
  refine WL.no rfl rfl rfl (by decide) ?_
  refine WL.no rfl rfl rfl (by decide) ?_
  refine WL.no rfl rfl rfl (by decide) ?_
  refine WL.no rfl rfl rfl (by decide) ?_
  refine WL.y (X.pickT rfl rfl rfl) ?_
  refine WL.mv rfl ?_
  refine WL.no rfl rfl rfl (by decide) ?_
  refine WL.no rfl rfl rfl (by decide) ?_
  refine WL.no rfl rfl rfl (by decide) ?_
  refine WL.no rfl rfl rfl (by decide) ?_
  refine WL.y (X.pickT rfl rfl rfl) ?_
  refine WL.mv rfl ?_
  refine WL.no rfl rfl rfl (by decide) ?_
  refine WL.no rfl rfl rfl (by decide) ?_
  refine WL.no rfl rfl rfl (by decide) ?_
  refine WL.no rfl rfl rfl (by decide) ?_
  refine WL.no rfl rfl rfl (by decide) ?_
  refine WL.no rfl rfl rfl (by decide) ?_
  refine WL.no rfl rfl rfl (by decide) ?_
  refine WL.no rfl rfl rfl (by decide) ?_
  refine WL.no rfl rfl rfl (by decide) ?_
  refine WL.no rfl rfl rfl (by decide) ?_
  refine WL.y (X.pickT rfl rfl rfl) ?_
  refine WL.z ?_
  refine WC.condT rfl ?_
  refine WC.r ?_
  refine WL.ag rfl ?_
  refine WL.z ?_
  refine WC.ret ?_
  refine WK.rThen ?_
  refine WK.ret1 rfl rfl (fun w' hw' => Ret.exact hw' ?_)
  first | exact bool_false (fun h_ => by have h1_ := h_.1; omega) | exact bool_false (fun h_ => by have h1_ := h_.2.1 k (by omega); omega) | exact dec_eq ⟨fun h_ => ⟨by omega, fun j hj => hall j (by omega), by omega⟩, fun h_ => by have h1_ := h_.2.2; omega⟩ | exact bool_false (fun h_ => by have h1_ := h_.2.2; omega)
 ·refine WL.mv rfl ?_
  refine WL.yes rfl rfl ?_
  refine WL.y (X.field Tryz.runUnderlying35 rfl Tryz.sizeOf27 rfl) ?_
  refine WL.yes rfl rfl ?_
  refine WL.y (X.loadB (k := 0) Tryz.isAgg27 rfl rfl rfl) ?_
  refine WL.yes rfl rfl ?_
  refine WL.y (X.len Tryz.runUnderlying27 rfl hs4) ?_
  refine WL.yes rfl rfl ?_
  refine WL.cond (X.gtr rfl rfl) (by decide) (fun h15 => ?_) (fun h15 => ?_)
  ·refine WL.y (X.pickF rfl rfl rfl) ?_
   refine WL.mv rfl ?_
   refine WL.no rfl rfl rfl (by decide) ?_
   refine WL.no rfl rfl rfl (by decide) ?_
   refine WL.no rfl rfl rfl (by decide) ?_
   refine WL.no rfl rfl rfl (by decide) ?_
   refine WL.no rfl rfl rfl (by decide) ?_
   refine WL.y (X.pickT rfl rfl rfl) ?_
   refine WL.mv rfl ?_
   refine WL.no rfl rfl rfl (by decide) ?_
   refine WL.no rfl rfl rfl (by decide) ?_
   refine WL.no rfl rfl rfl (by decide) ?_
   refine WL.no rfl rfl rfl (by decide) ?_
   refine WL.no rfl rfl rfl (by decide) ?_
   refine WL.y (X.pickT rfl rfl rfl) ?_
   refine WL.mv rfl ?_
   refine WL.no rfl rfl rfl (by decide) ?_
   refine WL.no rfl rfl rfl (by decide) ?_
   refine WL.no rfl rfl rfl (by decide) ?_
   refine WL.no rfl rfl rfl (by decide) ?_
   refine WL.y (X.pickT rfl rfl rfl) ?_
   refine WL.mv rfl ?_
   refine WL.no rfl rfl rfl (by decide) ?_
   refine WL.no rfl rfl rfl (by decide) ?_
   refine WL.no rfl rfl rfl (by decide) ?_
   refine WL.no rfl rfl rfl (by decide) ?_
   refine WL.no rfl rfl rfl (by decide) ?_
   refine WL.no rfl rfl rfl (by decide) ?_
   refine WL.no rfl rfl rfl (by decide) ?_
   refine WL.no rfl rfl rfl (by decide) ?_
   refine WL.no rfl rfl rfl (by decide) ?_
   refine WL.no rfl rfl rfl (by decide) ?_
   refine WL.y (X.pickT rfl rfl rfl) ?_
   refine WL.z ?_
   refine WC.condT rfl ?_
   refine WC.r ?_
   refine WL.ag rfl ?_
   refine WL.z ?_
   refine WC.ret ?_
   refine WK.rThen ?_
   refine WK.ret1 rfl rfl (fun w' hw' => Ret.exact hw' ?_)
   first | exact bool_false (fun h_ => by have h1_ := h_.1; omega) | exact bool_false (fun h_ => by have h1_ := h_.2.1 k (by omega); omega) | exact dec_eq ⟨fun h_ => ⟨by omega, fun j hj => hall j (by omega), by omega⟩, fun h_ => by have h1_ := h_.2.2; omega⟩ | exact bool_false (fun h_ => by have h1_ := h_.2.2; omega)
  ·refine WL.y (X.pickF rfl rfl rfl) ?_
   refine WL.mv rfl ?_
   refine WL.yes rfl rfl ?_
   refine WL.y (X.field Tryz.runUnderlying35 rfl Tryz.sizeOf31 rfl) ?_
   refine WL.yes rfl rfl ?_
   refine WL.y (X.field Tryz.runUnderlying31 rfl Tryz.sizeOf28 rfl) ?_
   refine WL.yes rfl rfl ?_
   refine WL.y (X.loadB (k := 0) Tryz.isAgg28 rfl rfl rfl) ?_
   refine WL.yes rfl rfl ?_
   refine WL.y (X.len Tryz.runUnderlying28 rfl hs6) ?_
   refine WL.yes rfl rfl ?_
   refine WL.cond (X.gtr rfl rfl) (by decide) (fun h16 => ?_) (fun h16 => ?_)
   ·refine WL.y (X.pickF rfl rfl rfl) ?_
    refine WL.mv rfl ?_
    refine WL.no rfl rfl rfl (by decide) ?_
    refine WL.no rfl rfl rfl (by decide) ?_
    refine WL.no rfl rfl rfl (by decide) ?_
    refine WL.no rfl rfl rfl (by decide) ?_
    refine WL.no rfl rfl rfl (by decide) ?_
    refine WL.y (X.pickT rfl rfl rfl) ?_
    refine WL.mv rfl ?_
    refine WL.no rfl rfl rfl (by decide) ?_
    refine WL.no rfl rfl rfl (by decide) ?_
    refine WL.no rfl rfl rfl (by decide) ?_
    refine WL.no rfl rfl rfl (by decide) ?_
    refine WL.y (X.pickT rfl rfl rfl) ?_
    refine WL.mv rfl ?_
    refine WL.no rfl rfl rfl (by decide) ?_
    refine WL.no rfl rfl rfl (by decide) ?_
    refine WL.no rfl rfl rfl (by decide) ?_
    refine WL.no rfl rfl rfl (by decide) ?_
    refine WL.no rfl rfl rfl (by decide) ?_
    refine WL.no rfl rfl rfl (by decide) ?_
    refine WL.no rfl rfl rfl (by decide) ?_
    refine WL.no rfl rfl rfl (by decide) ?_
    refine WL.no rfl rfl rfl (by decide) ?_
    refine WL.no rfl rfl rfl (by decide) ?_
    refine WL.y (X.pickT rfl rfl rfl) ?_
    refine WL.z ?_
    refine WC.condT rfl ?_
    refine WC.r ?_
    refine WL.ag rfl ?_
    refine WL.z ?_
    refine WC.ret ?_
    refine WK.rThen ?_
    refine WK.ret1 rfl rfl (fun w' hw' => Ret.exact hw' ?_)
    first | exact bool_false (fun h_ => by have h1_ := h_.1; omega) | exact bool_false (fun h_ => by have h1_ := h_.2.1 k (by omega); omega) | exact dec_eq ⟨fun h_ => ⟨by omega, fun j hj => hall j (by omega), by omega⟩, fun h_ => by have h1_ := h_.2.2; omega⟩ | exact bool_false (fun h_ => by have h1_ := h_.2.2; omega)
   ·refine WL.y (X.pickF rfl rfl rfl) ?_
    refine WL.mv rfl ?_
    refine WL.yes rfl rfl ?_
    refine WL.y (X.field Tryz.runUnderlying35 rfl Tryz.sizeOf31 rfl) ?_
    refine WL.yes rfl rfl ?_
    refine WL.y (X.field Tryz.runUnderlying31 rfl Tryz.sizeOf29 rfl) ?_
    refine WL.yes rfl rfl ?_
    refine WL.y (X.loadB (k := 0) Tryz.isAgg29 rfl rfl rfl) ?_
    refine WL.yes rfl rfl ?_
    refine WL.y (X.len Tryz.runUnderlying29 rfl hs8) ?_
    refine WL.yes rfl rfl ?_
    refine WL.cond (X.gtr rfl rfl) (by decide) (fun h17 => ?_) (fun h17 => ?_)
    ·refine WL.y (X.pickF rfl rfl rfl) ?_
     refine WL.mv rfl ?_
     refine WL.no rfl rfl rfl (by decide) ?_
     refine WL.no rfl rfl rfl (by decide) ?_
     refine WL.no rfl rfl rfl (by decide) ?_
     refine WL.no rfl rfl rfl (by decide) ?_
     refine WL.y (X.pickT rfl rfl rfl) ?_
     refine WL.mv rfl ?_
     refine WL.no rfl rfl rfl (by decide) ?_
     refine WL.no rfl rfl rfl (by decide) ?_
     refine WL.no rfl rfl rfl (by decide) ?_
     refine WL.no rfl rfl rfl (by decide) ?_
     refine WL.no rfl rfl rfl (by decide) ?_
     refine WL.no rfl rfl rfl (by decide) ?_
     refine WL.no rfl rfl rfl (by decide) ?_
     refine WL.no rfl rfl rfl (by decide) ?_
     refine WL.no rfl rfl rfl (by decide) ?_
     refine WL.no rfl rfl rfl (by decide) ?_
     refine WL.y (X.pickT rfl rfl rfl) ?_
     refine WL.z ?_
     refine WC.condT rfl ?_
     refine WC.r ?_
     refine WL.ag rfl ?_
     refine WL.z ?_
     refine WC.ret ?_
     refine WK.rThen ?_
     refine WK.ret1 rfl rfl (fun w' hw' => Ret.exact hw' ?_)
     first | exact bool_false (fun h_ => by have h1_ := h_.1; omega) | exact bool_false (fun h_ => by have h1_ := h_.2.1 k (by omega); omega) | exact dec_eq ⟨fun h_ => ⟨by omega, fun j hj => hall j (by omega), by omega⟩, fun h_ => by have h1_ := h_.2.2; omega⟩ | exact bool_false (fun h_ => by have h1_ := h_.2.2; omega)
    ·refine WL.y (X.pickF rfl rfl rfl) ?_
     refine WL.mv rfl ?_
     refine WL.yes rfl rfl ?_
     refine WL.y (X.field Tryz.runUnderlying35 rfl Tryz.sizeOf33 rfl) ?_
     refine WL.yes rfl rfl ?_
     refine WL.y (X.field Tryz.runUnderlying33 rfl Tryz.sizeOf3 rfl) ?_
     refine WL.yes rfl rfl ?_
     refine WL.y (X.loadB (k := 0) Tryz.isAgg3 rfl rfl rfl) ?_
     refine WL.yes rfl rfl ?_
     refine WL.cond (X.gtr rfl rfl) (by decide) (fun h18 => ?_) (fun h18 => ?_)
     ·refine WL.y (X.pickF rfl rfl rfl) ?_
      refine WL.mv rfl ?_
      refine WL.no rfl rfl rfl (by decide) ?_
      refine WL.no rfl rfl rfl (by decide) ?_
      refine WL.no rfl rfl rfl (by decide) ?_
      refine WL.no rfl rfl rfl (by decide) ?_
      refine WL.no rfl rfl rfl (by decide) ?_
      refine WL.no rfl rfl rfl (by decide) ?_
      refine WL.no rfl rfl rfl (by decide) ?_
      refine WL.no rfl rfl rfl (by decide) ?_
      refine WL.no rfl rfl rfl (by decide) ?_
      refine WL.no rfl rfl rfl (by decide) ?_
      refine WL.y (X.pickT rfl rfl rfl) ?_
      refine WL.z ?_
      refine WC.condT rfl ?_
      refine WC.r ?_
      refine WL.ag rfl ?_
      refine WL.z ?_
      refine WC.ret ?_
      refine WK.rThen ?_
      refine WK.ret1 rfl rfl (fun w' hw' => Ret.exact hw' ?_)
      first | exact bool_false (fun h_ => by have h1_ := h_.1; omega) | exact bool_false (fun h_ => by have h1_ := h_.2.1 k (by omega); omega) | exact dec_eq ⟨fun h_ => ⟨by omega, fun j hj => hall j (by omega), by omega⟩, fun h_ => by have h1_ := h_.2.2; omega⟩ | exact bool_false (fun h_ => by have h1_ := h_.2.2; omega)
     ·refine WL.y (X.pickF rfl rfl rfl) ?_
      refine WL.mv rfl ?_
      refine WL.yes rfl rfl ?_
      refine WL.y (X.field Tryz.runUnderlying35 rfl Tryz.sizeOf33 rfl) ?_
      refine WL.yes rfl rfl ?_
      refine WL.y (X.field Tryz.runUnderlying33 rfl Tryz.sizeOf23 rfl) ?_
      refine WL.yes rfl rfl ?_
      refine WL.y (X.field Tryz.runUnderlying23 rfl Tryz.sizeOf3 rfl) ?_
      refine WL.yes rfl rfl ?_
      refine WL.y (X.loadB (k := 0) Tryz.isAgg3 rfl rfl rfl) ?_
      refine WL.yes rfl rfl ?_
      refine WL.y (X.field Tryz.runUnderlying35 rfl Tryz.sizeOf33 rfl) ?_
      refine WL.yes rfl rfl ?_
      refine WL.y (X.field Tryz.runUnderlying33 rfl Tryz.sizeOf23 rfl) ?_
      refine WL.yes rfl rfl ?_
      refine WL.y (X.field Tryz.runUnderlying23 rfl Tryz.sizeOf3 rfl) ?_
      refine WL.yes rfl rfl ?_
      refine WL.y (X.loadB (k := 0) Tryz.isAgg3 rfl rfl rfl) ?_
      refine WL.yes rfl rfl ?_
      refine WL.y (X.sub rfl rfl (by omega) (by omega)) ?_
      refine WL.yes rfl rfl ?_
      refine WL.cond (X.gtr rfl rfl) (by decide) (fun h19 => ?_) (fun h19 => ?_)
      ·refine WL.y (X.pickF rfl rfl rfl) ?_
       refine WL.z ?_
       refine WC.condT rfl ?_
       refine WC.r ?_
       refine WL.ag rfl ?_
       refine WL.z ?_
       refine WC.ret ?_
       refine WK.rThen ?_
       refine WK.ret1 rfl rfl (fun w' hw' => Ret.exact hw' ?_)
       first | exact bool_false (fun h_ => by have h1_ := h_.1; omega) | exact bool_false (fun h_ => by have h1_ := h_.2.1 k (by omega); omega) | exact dec_eq ⟨fun h_ => ⟨by omega, fun j hj => hall j (by omega), by omega⟩, fun h_ => by have h1_ := h_.2.2; omega⟩ | exact bool_false (fun h_ => by have h1_ := h_.2.2; omega)
      ·refine WL.y (X.pickF rfl rfl rfl) ?_
       refine WL.z ?_
       refine WC.condF rfl ?_
       refine WC.skip ?_
       refine WK.nThen ?_
       refine WC.seq ?_
       refine WC.r ?_
       refine WL.ag rfl ?_
       refine WL.z ?_
       refine WC.block ?_
       refine WC.loop (G := Nat) (fun k => x.Trace.length - k) (fun k => m) (fun k => [blk b13 35 [.int .i64 (x.Paper.Pitch), .int .i64 (x.Paper.Height), .int .i64 (x.Paper.Radius), .int .i64 (x.Paper.Low), .int .i64 (x.Paper.High), .int .i64 (x.Paper.Columns), .int .i64 (x.Paper.Along.Lo), .int .i64 (x.Paper.Along.Hi), .int .i64 (x.Paper.Across.Lo), .int .i64 (x.Paper.Across.Hi), v1, v3, v5, v7, .int .i64 (x.Pen.Band), .int .i64 (x.Pen.Zero.Lo), .int .i64 (x.Pen.Zero.Hi), .int .i64 (x.Pen.Rate)]]) (fun k => [(1, .pointer (some ⟨b13, 0, none⟩)), (3, .int .i64 (↑k))]) (fun k => k ≤ x.Trace.length ∧ (∀ j, j < k → (gt x.Trace j).Half ≤ 2000)) 0 rfl (.refl _) (.cons rfl (.cons rfl .nil)) ?_ ?_
       ·exact ⟨Nat.zero_le _, fun j hj => absurd hj (Nat.not_lt_zero _)⟩
       ·rintro k hF20
        show WK _ _ m [blk b13 35 [.int .i64 (x.Paper.Pitch), .int .i64 (x.Paper.Height), .int .i64 (x.Paper.Radius), .int .i64 (x.Paper.Low), .int .i64 (x.Paper.High), .int .i64 (x.Paper.Columns), .int .i64 (x.Paper.Along.Lo), .int .i64 (x.Paper.Along.Hi), .int .i64 (x.Paper.Across.Lo), .int .i64 (x.Paper.Across.Hi), v1, v3, v5, v7, .int .i64 (x.Pen.Band), .int .i64 (x.Pen.Zero.Lo), .int .i64 (x.Pen.Zero.Hi), .int .i64 (x.Pen.Rate)]] [(1, .pointer (some ⟨b13, 0, none⟩)), (3, .int .i64 (↑k))] _
        replace hF20 : k ≤ x.Trace.length ∧ (∀ j, j < k → (gt x.Trace j).Half ≤ 2000) := hF20
        obtain ⟨hk, hall⟩ := hF20
        refine WC.seq ?_
        refine WC.r ?_
        refine WL.mv rfl ?_
        refine WL.y (X.field Tryz.runUnderlying35 rfl Tryz.sizeOf26 rfl) ?_
        refine WL.y (X.loadB (k := 0) Tryz.isAgg26 rfl rfl rfl) ?_
        refine WL.y (X.len Tryz.runUnderlying26 rfl hs2) ?_
        refine WL.cond (X.lss rfl rfl) (by decide) (fun h21 => ?_) (fun h21 => ?_)
        ·refine WL.z ?_
         refine WC.condT rfl ?_
         refine WC.skip ?_
         refine WK.nThen ?_
         refine WC.seq ?_
         refine WC.block ?_
         refine WC.r ?_
         refine WL.y (X.field Tryz.runUnderlying35 rfl Tryz.sizeOf26 rfl) ?_
         refine WL.y (X.loadB (k := 0) Tryz.isAgg26 rfl rfl rfl) ?_
         refine WL.mv rfl ?_
         refine WL.xe (E.idxN k Tryz.runUnderlying26 Tryz.sizeOf102 rfl rfl hs2 (by omega)) (by decide) (fun p22 hp23 => ?_)
         have hp24 := At.Point_2 hp23
         refine WL.y (X.field Tryz.runUnderlying102 rfl Tryz.sizeOf3 rfl) ?_
         refine WL.y (X.loadInt Tryz.isAgg3 rfl hp24) ?_
         refine WL.cond (X.gtr rfl rfl) (by decide) (fun h25 => ?_) (fun h25 => ?_)
         ·refine WL.z ?_
          refine WC.condT rfl ?_
          refine WC.r ?_
          refine WL.ag rfl ?_
          refine WL.z ?_
          refine WC.ret ?_
          refine WK.rBlock ?_
          refine WK.rThen ?_
          refine WK.rThen ?_
          refine WK.rBlock ?_
          refine WK.rThen ?_
          refine WK.ret1 rfl rfl (fun w' hw' => Ret.exact hw' ?_)
          first | exact bool_false (fun h_ => by have h1_ := h_.1; omega) | exact bool_false (fun h_ => by have h1_ := h_.2.1 k (by omega); omega) | exact dec_eq ⟨fun h_ => ⟨by omega, fun j hj => hall j (by omega), by omega⟩, fun h_ => by have h1_ := h_.2.2; omega⟩ | exact bool_false (fun h_ => by have h1_ := h_.2.2; omega)
         ·refine WL.z ?_
          refine WC.condF rfl ?_
          refine WC.skip ?_
          refine WK.nBlock ?_
          refine WK.nThen ?_
          refine WC.region ?_
          refine WL.mv rfl ?_
          refine WL.y (X.add rfl rfl (by omega) (by omega)) ?_
          refine WL.ag rfl ?_
          refine WL.z ?_
          refine WK.next (k + 1) rfl (.refl _) (.cons rfl (.cons rfl .nil)) ?_ ?_
          ·exact ⟨by omega, fun j hj => by rcases Nat.lt_succ_iff_lt_or_eq.1 hj with h | h; exact hall j h; subst h; omega⟩
          ·omega
        ·refine WL.z ?_
         refine WC.condF rfl ?_
         refine WC.exit ?_
         refine WK.eThen ?_
         refine WK.eThen ?_
         refine WK.eHit ?_
         refine WK.nThen ?_
         refine WC.r ?_
         refine WL.y (X.field Tryz.runUnderlying35 rfl Tryz.sizeOf25 rfl) ?_
         refine WL.y (X.field Tryz.runUnderlying25 rfl Tryz.sizeOf3 rfl) ?_
         refine WL.y (X.loadB (k := 0) Tryz.isAgg3 rfl rfl rfl) ?_
         refine WL.cond (X.leq rfl rfl) (by decide) (fun h26 => ?_) (fun h26 => ?_)
         ·refine WL.mv rfl ?_
          refine WL.yes rfl rfl ?_
          refine WL.y (X.field Tryz.runUnderlying35 rfl Tryz.sizeOf25 rfl) ?_
          refine WL.yes rfl rfl ?_
          refine WL.y (X.field Tryz.runUnderlying25 rfl Tryz.sizeOf3 rfl) ?_
          refine WL.yes rfl rfl ?_
          refine WL.y (X.loadB (k := 0) Tryz.isAgg3 rfl rfl rfl) ?_
          refine WL.yes rfl rfl ?_
          refine WL.y (X.leq rfl rfl) ?_
          refine WL.y (X.pickT rfl rfl rfl) ?_
          refine WL.ag rfl ?_
          refine WL.z ?_
          refine WC.ret ?_
          refine WK.ret1 rfl rfl (fun w' hw' => Ret.exact hw' ?_)
          first | exact bool_false (fun h_ => by have h1_ := h_.1; omega) | exact bool_false (fun h_ => by have h1_ := h_.2.1 k (by omega); omega) | exact dec_eq ⟨fun h_ => ⟨by omega, fun j hj => hall j (by omega), by omega⟩, fun h_ => by have h1_ := h_.2.2; omega⟩ | exact bool_false (fun h_ => by have h1_ := h_.2.2; omega)
         ·refine WL.mv rfl ?_
          refine WL.no rfl rfl rfl (by decide) ?_
          refine WL.no rfl rfl rfl (by decide) ?_
          refine WL.no rfl rfl rfl (by decide) ?_
          refine WL.no rfl rfl rfl (by decide) ?_
          refine WL.y (X.pickF rfl rfl rfl) ?_
          refine WL.ag rfl ?_
          refine WL.z ?_
          refine WC.ret ?_
          refine WK.ret1 rfl rfl (fun w' hw' => Ret.exact hw' ?_)
          first | exact bool_false (fun h_ => by have h1_ := h_.1; omega) | exact bool_false (fun h_ => by have h1_ := h_.2.1 k (by omega); omega) | exact dec_eq ⟨fun h_ => ⟨by omega, fun j hj => hall j (by omega), by omega⟩, fun h_ => by have h1_ := h_.2.2; omega⟩ | exact bool_false (fun h_ => by have h1_ := h_.2.2; omega)

theorem level130 (m : Mem) (n : Int)   : Exact Tryz.prog 130 #[.int .i64 (n)] m (.bool (decide (-50000 ≤ n ∧ n ≤ 50000))) := by
 refine Exact.start Tryz.func130 rfl Tryz.ntmps130 rfl fun wld => ?_
 refine WC.r ?_
 refine WL.ag rfl ?_
 refine WL.z ?_
 refine WC.r ?_
 refine WL.mv rfl ?_
 refine WL.y (X.call Tryz.call26 rfl (within26 _ _ _ _ )) ?_
 refine WL.ag rfl ?_
 refine WL.z ?_
 refine WC.ret ?_
 refine WK.ret1 rfl rfl (fun w' hw' => Ret.exact hw' ?_)
 first | rfl | (simp [*]; done)

theorem nolevel129 (m : Mem) (n : Int)   : Exact Tryz.prog 129 #[.int .i64 (n)] m (.bool (decide (¬ (-50000 ≤ n ∧ n ≤ 50000)))) := by
 refine Exact.start Tryz.func129 rfl Tryz.ntmps129 rfl fun wld => ?_
 refine WC.r ?_
 refine WL.ag rfl ?_
 refine WL.z ?_
 refine WC.r ?_
 refine WL.mv rfl ?_
 refine WL.y (X.call Tryz.call130 rfl (level130 _ _ )) ?_
 refine WL.y (X.notp rfl) ?_
 refine WL.ag rfl ?_
 refine WL.z ?_
 refine WC.ret ?_
 refine WK.ret1 rfl rfl (fun w' hw' => Ret.exact hw' ?_)
 first | rfl | (simp [*]; done)

theorem nolevel131 (m : Mem) (n : Int)   : Exact Tryz.prog 131 #[.int .i64 (n)] m (.bool (decide (¬ (-50000 ≤ n ∧ n ≤ 50000)))) := by
 refine Exact.start Tryz.func131 rfl Tryz.ntmps131 rfl fun wld => ?_
 refine WC.r ?_
 refine WL.ag rfl ?_
 refine WL.z ?_
 refine WC.r ?_
 refine WL.mv rfl ?_
 refine WL.y (X.call Tryz.call130 rfl (level130 _ _ )) ?_
 refine WL.y (X.notp rfl) ?_
 refine WL.ag rfl ?_
 refine WL.z ?_
 refine WC.ret ?_
 refine WK.ret1 rfl rfl (fun w' hw' => Ret.exact hw' ?_)
 first | rfl | (simp [*]; done)

theorem index176_129 (m : Mem) {v : Value} {l : List Int} (hl : Sl m v l) : Exact Tryz.prog 176 #[v, .func (.func 129) #[] #[]] m (.int .i64 (fstBad l)) := by
 have hll := hl.le
 refine Exact.start Tryz.func176 rfl Tryz.ntmps176 rfl fun wld => ?_
 refine WC.r ?_
 refine WL.ag rfl ?_
 refine WL.z ?_
 refine WC.seq ?_
 refine WC.r ?_
 refine WL.mv rfl ?_
 refine WL.y (X.len Tryz.runUnderlying27 rfl hl) ?_
 refine WL.mv rfl ?_
 refine WL.z ?_
 refine WC.block ?_
 refine WC.loop (G := Nat) (fun k => l.length - k) (fun k => m) (fun k => []) (fun k => [(0, v), (1, .func (.func 129) #[] [].toArray), (7, .int .i64 (↑l.length)), (8, .int .i64 (↑k))]) (fun k => k ≤ l.length ∧ (∀ j, j < k → -50000 ≤ gt l j ∧ gt l j ≤ 50000)) 0 rfl (.refl _) (.cons rfl (.cons rfl (.cons rfl (.cons rfl .nil)))) ?_ ?_
 ·exact ⟨Nat.zero_le _, fun j hj => absurd hj (Nat.not_lt_zero _)⟩
 ·rintro k hF1
  show WK _ _ m [] [(0, v), (1, .func (.func 129) #[] [].toArray), (7, .int .i64 (↑l.length)), (8, .int .i64 (↑k))] _
  replace hF1 : k ≤ l.length ∧ (∀ j, j < k → -50000 ≤ gt l j ∧ gt l j ≤ 50000) := hF1
  obtain ⟨hk, hall⟩ := hF1
  refine WC.r ?_
  refine WL.cond (X.lss rfl rfl) (by decide) (fun h2 => ?_) (fun h2 => ?_)
  ·refine WL.z ?_
   refine WC.seq ?_
   refine WC.condT rfl ?_
   refine WC.skip ?_
   refine WK.nThen ?_
   refine WC.seq ?_
   refine WC.block ?_
   refine WC.r ?_
   refine WL.mv rfl ?_
   refine WL.ag rfl ?_
   refine WL.z ?_
   refine WC.r ?_
   refine WL.mv rfl ?_
   refine WL.mv rfl ?_
   refine WL.mv rfl ?_
   refine WL.xe (E.idxN k Tryz.runUnderlying27 Tryz.sizeOf3 rfl rfl hl (by omega)) (by decide) (fun p3 hp4 => ?_)
   refine WL.y (X.loadInt Tryz.isAgg3 rfl hp4) ?_
   refine WL.condn (X.callc Tryz.call129 rfl rfl (nolevel129 _ (gt l k))) (by decide) (fun h5 => ?_) (fun h5 => ?_)
   ·refine WL.z ?_
    refine WC.condT rfl ?_
    refine WC.r ?_
    refine WL.mv rfl ?_
    refine WL.ag rfl ?_
    refine WL.z ?_
    refine WC.ret ?_
    refine WK.rBlock ?_
    refine WK.rThen ?_
    refine WK.rThen ?_
    refine WK.rBlock ?_
    refine WK.rThen ?_
    refine WK.ret1 rfl rfl (fun w' hw' => Ret.exact hw' ?_)
    first | exact int_eq (fstBad_yes (by omega) hall (by assumption)).symm | exact int_eq (fstBad_no (fun j hj => hall j (by omega))).symm
   ·refine WL.z ?_
    refine WC.condF rfl ?_
    refine WC.skip ?_
    refine WK.nBlock ?_
    refine WK.nThen ?_
    refine WC.region ?_
    refine WL.y (X.add rfl rfl (by omega) (by omega)) ?_
    refine WL.mv rfl ?_
    refine WL.z ?_
    refine WK.next (k + 1) rfl (.refl _) (.cons rfl (.cons rfl (.cons rfl (.cons rfl .nil)))) ?_ ?_
    ·exact ⟨by omega, fun j hj => by rcases Nat.lt_succ_iff_lt_or_eq.1 hj with h | h; exact hall j h; subst h; (first | assumption | (apply Classical.byContradiction; assumption))⟩
    ·omega
  ·refine WL.z ?_
   refine WC.seq ?_
   refine WC.condF rfl ?_
   refine WC.exit ?_
   refine WK.eThen ?_
   refine WK.eThen ?_
   refine WK.eHit ?_
   refine WK.nThen ?_
   refine WC.r ?_
   refine WL.ag rfl ?_
   refine WL.z ?_
   refine WC.ret ?_
   refine WK.ret1 rfl rfl (fun w' hw' => Ret.exact hw' ?_)
   first | exact int_eq (fstBad_yes (by omega) hall (by assumption)).symm | exact int_eq (fstBad_no (fun j hj => hall j (by omega))).symm

theorem index176_131 (m : Mem) {v : Value} {l : List Int} (hl : Sl m v l) : Exact Tryz.prog 176 #[v, .func (.func 131) #[] #[]] m (.int .i64 (fstBad l)) := by
 have hll := hl.le
 refine Exact.start Tryz.func176 rfl Tryz.ntmps176 rfl fun wld => ?_
 refine WC.r ?_
 refine WL.ag rfl ?_
 refine WL.z ?_
 refine WC.seq ?_
 refine WC.r ?_
 refine WL.mv rfl ?_
 refine WL.y (X.len Tryz.runUnderlying27 rfl hl) ?_
 refine WL.mv rfl ?_
 refine WL.z ?_
 refine WC.block ?_
 refine WC.loop (G := Nat) (fun k => l.length - k) (fun k => m) (fun k => []) (fun k => [(0, v), (1, .func (.func 131) #[] [].toArray), (7, .int .i64 (↑l.length)), (8, .int .i64 (↑k))]) (fun k => k ≤ l.length ∧ (∀ j, j < k → -50000 ≤ gt l j ∧ gt l j ≤ 50000)) 0 rfl (.refl _) (.cons rfl (.cons rfl (.cons rfl (.cons rfl .nil)))) ?_ ?_
 ·exact ⟨Nat.zero_le _, fun j hj => absurd hj (Nat.not_lt_zero _)⟩
 ·rintro k hF1
  show WK _ _ m [] [(0, v), (1, .func (.func 131) #[] [].toArray), (7, .int .i64 (↑l.length)), (8, .int .i64 (↑k))] _
  replace hF1 : k ≤ l.length ∧ (∀ j, j < k → -50000 ≤ gt l j ∧ gt l j ≤ 50000) := hF1
  obtain ⟨hk, hall⟩ := hF1
  refine WC.r ?_
  refine WL.cond (X.lss rfl rfl) (by decide) (fun h2 => ?_) (fun h2 => ?_)
  ·refine WL.z ?_
   refine WC.seq ?_
   refine WC.condT rfl ?_
   refine WC.skip ?_
   refine WK.nThen ?_
   refine WC.seq ?_
   refine WC.block ?_
   refine WC.r ?_
   refine WL.mv rfl ?_
   refine WL.ag rfl ?_
   refine WL.z ?_
   refine WC.r ?_
   refine WL.mv rfl ?_
   refine WL.mv rfl ?_
   refine WL.mv rfl ?_
   refine WL.xe (E.idxN k Tryz.runUnderlying27 Tryz.sizeOf3 rfl rfl hl (by omega)) (by decide) (fun p3 hp4 => ?_)
   refine WL.y (X.loadInt Tryz.isAgg3 rfl hp4) ?_
   refine WL.condn (X.callc Tryz.call131 rfl rfl (nolevel131 _ (gt l k))) (by decide) (fun h5 => ?_) (fun h5 => ?_)
   ·refine WL.z ?_
    refine WC.condT rfl ?_
    refine WC.r ?_
    refine WL.mv rfl ?_
    refine WL.ag rfl ?_
    refine WL.z ?_
    refine WC.ret ?_
    refine WK.rBlock ?_
    refine WK.rThen ?_
    refine WK.rThen ?_
    refine WK.rBlock ?_
    refine WK.rThen ?_
    refine WK.ret1 rfl rfl (fun w' hw' => Ret.exact hw' ?_)
    first | exact int_eq (fstBad_yes (by omega) hall (by assumption)).symm | exact int_eq (fstBad_no (fun j hj => hall j (by omega))).symm
   ·refine WL.z ?_
    refine WC.condF rfl ?_
    refine WC.skip ?_
    refine WK.nBlock ?_
    refine WK.nThen ?_
    refine WC.region ?_
    refine WL.y (X.add rfl rfl (by omega) (by omega)) ?_
    refine WL.mv rfl ?_
    refine WL.z ?_
    refine WK.next (k + 1) rfl (.refl _) (.cons rfl (.cons rfl (.cons rfl (.cons rfl .nil)))) ?_ ?_
    ·exact ⟨by omega, fun j hj => by rcases Nat.lt_succ_iff_lt_or_eq.1 hj with h | h; exact hall j h; subst h; (first | assumption | (apply Classical.byContradiction; assumption))⟩
    ·omega
  ·refine WL.z ?_
   refine WC.seq ?_
   refine WC.condF rfl ?_
   refine WC.exit ?_
   refine WK.eThen ?_
   refine WK.eThen ?_
   refine WK.eHit ?_
   refine WK.nThen ?_
   refine WC.r ?_
   refine WL.ag rfl ?_
   refine WL.z ?_
   refine WC.ret ?_
   refine WK.ret1 rfl rfl (fun w' hw' => Ret.exact hw' ?_)
   first | exact int_eq (fstBad_yes (by omega) hall (by assumption)).symm | exact int_eq (fstBad_no (fun j hj => hall j (by omega))).symm

theorem contains97_129 (m : Mem) {v : Value} {l : List Int} (hl : Sl m v l) : Exact Tryz.prog 97 #[v, .func (.func 129) #[] #[]] m (.bool (decide (¬ lvlP l))) := by
 refine Exact.start Tryz.func97 rfl Tryz.ntmps97 rfl fun wld => ?_
 refine WC.r ?_
 refine WL.ag rfl ?_
 refine WL.z ?_
 refine WC.r ?_
 refine WL.mv rfl ?_
 refine WL.mv rfl ?_
 refine WL.y (X.call Tryz.call176 rfl (index176_129 _ hl)) ?_
 refine WL.y (X.geq rfl rfl) ?_
 refine WL.ag rfl ?_
 refine WL.z ?_
 refine WC.ret ?_
 refine WK.ret1 rfl rfl (fun w' hw' => Ret.exact hw' ?_)
 exact dec_eq (fstBad_iff l)

theorem contains97_131 (m : Mem) {v : Value} {l : List Int} (hl : Sl m v l) : Exact Tryz.prog 97 #[v, .func (.func 131) #[] #[]] m (.bool (decide (¬ lvlP l))) := by
 refine Exact.start Tryz.func97 rfl Tryz.ntmps97 rfl fun wld => ?_
 refine WC.r ?_
 refine WL.ag rfl ?_
 refine WL.z ?_
 refine WC.r ?_
 refine WL.mv rfl ?_
 refine WL.mv rfl ?_
 refine WL.y (X.call Tryz.call176 rfl (index176_131 _ hl)) ?_
 refine WL.y (X.geq rfl rfl) ?_
 refine WL.ag rfl ?_
 refine WL.z ?_
 refine WC.ret ?_
 refine WK.ret1 rfl rfl (fun w' hw' => Ret.exact hw' ?_)
 exact dec_eq (fstBad_iff l)

theorem list69 (m : Mem) (vl : Value) (l : List Int) (hl : Sl m vl l)   : Exact Tryz.prog 69 #[vl] m (.int .i64 (listE l)) := by
 have ll := hl.le
 refine Exact.start Tryz.func69 rfl Tryz.ntmps69 rfl fun wld => ?_
 refine WC.r ?_
 refine WL.ag rfl ?_
 refine WL.z ?_
 refine WC.seq ?_
 refine WC.r ?_
 refine WL.mv rfl ?_
 refine WL.y (X.len Tryz.runUnderlying27 rfl hl) ?_
 refine WL.cond (X.call Tryz.call26 rfl (within26 _ _ _ _ )) (by decide) (fun h1 => ?_) (fun h1 => ?_)
 ·refine WL.y (X.not rfl) ?_
  refine WL.mv rfl ?_
  refine WL.yes rfl rfl ?_
  refine WL.mv rfl ?_
  refine WL.yes rfl rfl ?_
  refine WL.condn (X.call Tryz.call97 rfl (contains97_131 _ hl)) (by decide) (fun h2 => ?_) (fun h2 => ?_)
  ·refine WL.y (X.pickF rfl rfl rfl) ?_
   refine WL.z ?_
   refine WC.condT rfl ?_
   refine WC.r ?_
   refine WL.ag rfl ?_
   refine WL.z ?_
   refine WC.ret ?_
   refine WK.rThen ?_
   refine WK.ret1 rfl rfl (fun w' hw' => Ret.exact hw' ?_)
   first | exact int_eq (by unfold listE; rw [if_pos ⟨by omega, by first | assumption | (apply Classical.byContradiction; assumption)⟩]) | exact int_eq (by unfold listE; rw [if_neg (fun h_ => by have h1_ := h_.1; omega)]) | exact int_eq (by unfold listE; rw [if_neg (fun h_ => absurd h_.2 (by assumption))])
  ·refine WL.y (X.pickF rfl rfl rfl) ?_
   refine WL.z ?_
   refine WC.condF rfl ?_
   refine WC.skip ?_
   refine WK.nThen ?_
   refine WC.r ?_
   refine WL.ag rfl ?_
   refine WL.z ?_
   refine WC.ret ?_
   refine WK.ret1 rfl rfl (fun w' hw' => Ret.exact hw' ?_)
   first | exact int_eq (by unfold listE; rw [if_pos ⟨by omega, by first | assumption | (apply Classical.byContradiction; assumption)⟩]) | exact int_eq (by unfold listE; rw [if_neg (fun h_ => by have h1_ := h_.1; omega)]) | exact int_eq (by unfold listE; rw [if_neg (fun h_ => absurd h_.2 (by assumption))])
 ·refine WL.y (X.not rfl) ?_
  refine WL.mv rfl ?_
  refine WL.no rfl rfl rfl (by decide) ?_
  refine WL.no rfl rfl rfl (by decide) ?_
  refine WL.y (X.pickT rfl rfl rfl) ?_
  refine WL.z ?_
  refine WC.condT rfl ?_
  refine WC.r ?_
  refine WL.ag rfl ?_
  refine WL.z ?_
  refine WC.ret ?_
  refine WK.rThen ?_
  refine WK.ret1 rfl rfl (fun w' hw' => Ret.exact hw' ?_)
  first | exact int_eq (by unfold listE; rw [if_pos ⟨by omega, by first | assumption | (apply Classical.byContradiction; assumption)⟩]) | exact int_eq (by unfold listE; rw [if_neg (fun h_ => by have h1_ := h_.1; omega)]) | exact int_eq (by unfold listE; rw [if_neg (fun h_ => absurd h_.2 (by assumption))])

theorem listed31 (m : Mem) (cp : List Value) (p : Pen) (hp : Enc.rd m cp p) (vl : Value) (l : List Int) (hl : Sl m vl l)   : Exact Tryz.prog 31 #[.agg cp.toArray, vl] m (.int .i64 (listedE p l)) := by
 obtain rfl := hp
 have ll := hl.le
 refine Exact.start Tryz.func31 rfl Tryz.ntmps31 rfl fun wld => ?_
 refine WC.r ?_
 refine WL.tn (T.boxB rfl rfl) (by decide) fun b1 => ?_
 refine WL.ag rfl ?_
 refine WL.z ?_
 refine WC.seq ?_
 refine WC.r ?_
 refine WL.y (X.loadBA (k := 0) Tryz.isAgg33 Tryz.sizeOf33 rfl rfl rfl) ?_
 refine WL.y (X.call Tryz.call8 rfl (check8 _ _ p rfl )) ?_
 refine WL.ag rfl ?_
 refine WL.z ?_
 refine WC.r ?_
 refine WL.mv rfl ?_
 refine WL.condn (X.neq rfl rfl) (by decide) (fun h2 => ?_) (fun h2 => ?_)
 ·refine WL.z ?_
  refine WC.condT rfl ?_
  refine WC.r ?_
  refine WL.mv rfl ?_
  refine WL.ag rfl ?_
  refine WL.z ?_
  refine WC.ret ?_
  refine WK.rThen ?_
  refine WK.ret1 rfl rfl (fun w' hw' => Ret.exact hw' ?_)
  first | exact int_eq (by unfold listedE; rw [if_pos (by omega)]) | exact int_eq (by unfold listedE; rw [if_neg (by omega)])
 ·refine WL.z ?_
  refine WC.condF rfl ?_
  refine WC.skip ?_
  refine WK.nThen ?_
  refine WC.r ?_
  refine WL.mv rfl ?_
  refine WL.y (X.call Tryz.call69 rfl (list69 _ _ _ hl )) ?_
  refine WL.ag rfl ?_
  refine WL.z ?_
  refine WC.ret ?_
  refine WK.ret1 rfl rfl (fun w' hw' => Ret.exact hw' ?_)
  first | exact int_eq (by unfold listedE; rw [if_pos (by omega)]) | exact int_eq (by unfold listedE; rw [if_neg (by omega)])

theorem asked68 (m : Mem) (cp : List Value) (p : Pen) (hp : Enc.rd m cp p) (vl : Value) (l : List Int) (hl : Sl m vl l)   : Exact Tryz.prog 68 #[.agg cp.toArray, vl] m (.int .i64 (askE p l)) := by
 obtain rfl := hp
 have ll := hl.le
 refine Exact.start Tryz.func68 rfl Tryz.ntmps68 rfl fun wld => ?_
 refine WC.r ?_
 refine WL.tn (T.boxB rfl rfl) (by decide) fun b1 => ?_
 refine WL.ag rfl ?_
 refine WL.z ?_
 refine WC.seq ?_
 refine WC.r ?_
 refine WL.y (X.loadBA (k := 0) Tryz.isAgg33 Tryz.sizeOf33 rfl rfl rfl) ?_
 refine WL.y (X.call Tryz.call8 rfl (check8 _ _ p rfl )) ?_
 refine WL.ag rfl ?_
 refine WL.z ?_
 refine WC.r ?_
 refine WL.mv rfl ?_
 refine WL.condn (X.neq rfl rfl) (by decide) (fun h2 => ?_) (fun h2 => ?_)
 ·refine WL.z ?_
  refine WC.condT rfl ?_
  refine WC.r ?_
  refine WL.mv rfl ?_
  refine WL.ag rfl ?_
  refine WL.z ?_
  refine WC.ret ?_
  refine WK.rThen ?_
  refine WK.ret1 rfl rfl (fun w' hw' => Ret.exact hw' ?_)
  first | exact int_eq (by unfold askE; rw [if_pos (by omega)]) | exact int_eq (by unfold askE; rw [if_neg (by omega), if_pos (by first | assumption | (apply Classical.byContradiction; assumption))]) | exact int_eq (by unfold askE; rw [if_neg (by omega), if_neg (by assumption)])
 ·refine WL.z ?_
  refine WC.condF rfl ?_
  refine WC.skip ?_
  refine WK.nThen ?_
  refine WC.seq ?_
  refine WC.r ?_
  refine WL.mv rfl ?_
  refine WL.condn (X.call Tryz.call97 rfl (contains97_129 _ hl)) (by decide) (fun h3 => ?_) (fun h3 => ?_)
  ·refine WL.z ?_
   refine WC.condT rfl ?_
   refine WC.r ?_
   refine WL.ag rfl ?_
   refine WL.z ?_
   refine WC.ret ?_
   refine WK.rThen ?_
   refine WK.ret1 rfl rfl (fun w' hw' => Ret.exact hw' ?_)
   first | exact int_eq (by unfold askE; rw [if_pos (by omega)]) | exact int_eq (by unfold askE; rw [if_neg (by omega), if_pos (by first | assumption | (apply Classical.byContradiction; assumption))]) | exact int_eq (by unfold askE; rw [if_neg (by omega), if_neg (by assumption)])
  ·refine WL.z ?_
   refine WC.condF rfl ?_
   refine WC.skip ?_
   refine WK.nThen ?_
   refine WC.r ?_
   refine WL.ag rfl ?_
   refine WL.z ?_
   refine WC.ret ?_
   refine WK.ret1 rfl rfl (fun w' hw' => Ret.exact hw' ?_)
   first | exact int_eq (by unfold askE; rw [if_pos (by omega)]) | exact int_eq (by unfold askE; rw [if_neg (by omega), if_pos (by first | assumption | (apply Classical.byContradiction; assumption))]) | exact int_eq (by unfold askE; rw [if_neg (by omega), if_neg (by assumption)])

theorem nan169 (m : Mem) (x : Int)   : Exact Tryz.prog 169 #[.int .i64 (x)] m (.bool false) := by
 refine Exact.start Tryz.func169 rfl Tryz.ntmps169 rfl fun wld => ?_
 refine WC.r ?_
 refine WL.ag rfl ?_
 refine WL.z ?_
 refine WC.r ?_
 refine WL.mv rfl ?_
 refine WL.mv rfl ?_
 refine WL.y (OpX.f (X.neq rfl rfl) (fun h => h rfl)) ?_
 refine WL.ag rfl ?_
 refine WL.z ?_
 refine WC.ret ?_
 refine WK.ret1 rfl rfl (fun w' hw' => Ret.exact hw' ?_)
 first | rfl | (simp [*]; done)

theorem less280 (m : Mem) (x : Int) (y : Int)   : Exact Tryz.prog 280 #[.int .i64 (x), .int .i64 (y)] m (.bool (decide (x < y))) := by
 refine Exact.start Tryz.func280 rfl Tryz.ntmps280 rfl fun wld => ?_
 refine WC.r ?_
 refine WL.ag rfl ?_
 refine WL.z ?_
 refine WC.r ?_
 refine WL.mv rfl ?_
 refine WL.y (X.call Tryz.call169 rfl (nan169 _ _ )) ?_
 refine WL.mv rfl ?_
 refine WL.no rfl rfl rfl (by decide) ?_
 refine WL.no rfl rfl rfl (by decide) ?_
 refine WL.no rfl rfl rfl (by decide) ?_
 refine WL.y (X.pickF rfl rfl rfl) ?_
 refine WL.mv rfl ?_
 refine WL.yes rfl rfl ?_
 refine WL.mv rfl ?_
 refine WL.yes rfl rfl ?_
 refine WL.mv rfl ?_
 refine WL.yes rfl rfl ?_
 refine WL.y (X.lss rfl rfl) ?_
 refine WL.y (X.pickF rfl rfl rfl) ?_
 refine WL.ag rfl ?_
 refine WL.z ?_
 refine WC.ret ?_
 refine WK.ret1 rfl rfl (fun w' hw' => Ret.exact hw' ?_)
 first | rfl | (simp [*]; done)

end Go.Proofs.T10
