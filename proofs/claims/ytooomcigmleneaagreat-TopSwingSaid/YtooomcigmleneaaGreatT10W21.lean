import Derived.Test.YtooomcigmleneaaGreatKxW
import Derived.Test.YtooomcigmleneaaGreatT10KLaw
import Derived.Test.YtooomcigmleneaaGreatT10W20
import Derived.Test.YtooomcigmleneaaGreatKxQ
/- Top: walks, twenty-first part, by program. -/
namespace Go.Proofs.T10
open Go Go.Kx
set_option linter.unusedSimpArgs false
set_option linter.unusedVariables false

theorem within137 (m : Mem) (n : Int) (lo : Int) (hi : Int)   : Exact Tryz.prog 137 #[.int .i64 (n), .int .i64 (lo), .int .i64 (hi)] m (.bool (decide (lo ≤ n ∧ n ≤ hi))) := by
 refine Exact.start Tryz.func137 rfl Tryz.ntmps137 rfl fun wld => ?_
 refine WC.r ?_
 refine WL.ag rfl ?_
 refine WL.z ?_
 refine WC.r ?_
 refine WL.mv rfl ?_
 refine WL.mv rfl ?_
 refine WL.cond (X.geq rfl rfl) (by decide) (fun h1 => ?_) (fun h1 => ?_)
 ·refine WL.mv rfl ?_
  refine WL.yes rfl rfl ?_
  refine WL.mv rfl ?_
  refine WL.yes rfl rfl ?_
  refine WL.mv rfl ?_
  refine WL.yes rfl rfl ?_
  refine WL.y (X.leq rfl rfl) ?_
  refine WL.y (X.pickT rfl rfl rfl) ?_
  refine WL.ag rfl ?_
  refine WL.z ?_
  refine WC.ret ?_
  refine WK.ret1 rfl rfl (fun w' hw' => Ret.exact hw' ?_)
  first | exact bool_true (by omega) | exact bool_false (by omega) | exact dec_eq (by omega)
 ·refine WL.mv rfl ?_
  refine WL.no rfl rfl rfl (by decide) ?_
  refine WL.no rfl rfl rfl (by decide) ?_
  refine WL.no rfl rfl rfl (by decide) ?_
  refine WL.y (X.pickF rfl rfl rfl) ?_
  refine WL.ag rfl ?_
  refine WL.z ?_
  refine WC.ret ?_
  refine WK.ret1 rfl rfl (fun w' hw' => Ret.exact hw' ?_)
  first | exact bool_true (by omega) | exact bool_false (by omega) | exact dec_eq (by omega)

theorem span242 (m : Mem) (cs : List Value) (s : Span) (hs : Enc.rd m cs s) (lo : Int) (hi : Int)   : Exact Tryz.prog 242 #[.agg cs.toArray, .int .i64 (lo), .int .i64 (hi)] m (.bool (decide (spOk s lo hi))) := by
 obtain rfl := hs
 refine Exact.start Tryz.func242 rfl Tryz.ntmps242 rfl fun wld => ?_
 refine WC.r ?_
 refine WL.tn (T.boxB rfl rfl) (by decide) fun b1 => ?_
 refine WL.ag rfl ?_
 refine WL.z ?_
 refine WC.r ?_
 refine WL.y (X.field Tryz.runUnderlying23 rfl Tryz.sizeOf3 rfl) ?_
 refine WL.y (X.loadB (k := 0) Tryz.isAgg3 rfl rfl rfl) ?_
 refine WL.mv rfl ?_
 refine WL.y (X.field Tryz.runUnderlying23 rfl Tryz.sizeOf3 rfl) ?_
 refine WL.y (X.loadB (k := 0) Tryz.isAgg3 rfl rfl rfl) ?_
 refine WL.cond (X.call Tryz.call137 rfl (within137 _ _ _ _ )) (by decide) (fun h2 => ?_) (fun h2 => ?_)
 ·refine WL.mv rfl ?_
  refine WL.yes rfl rfl ?_
  refine WL.y (X.field Tryz.runUnderlying23 rfl Tryz.sizeOf3 rfl) ?_
  refine WL.yes rfl rfl ?_
  refine WL.y (X.loadB (k := 0) Tryz.isAgg3 rfl rfl rfl) ?_
  refine WL.yes rfl rfl ?_
  refine WL.mv rfl ?_
  refine WL.yes rfl rfl ?_
  refine WL.y (X.leq rfl rfl) ?_
  refine WL.y (X.pickT rfl rfl rfl) ?_
  refine WL.ag rfl ?_
  refine WL.z ?_
  refine WC.ret ?_
  refine WK.ret1 rfl rfl (fun w' hw' => Ret.exact hw' ?_)
  first | exact bool_true (by unfold spOk; omega) | exact bool_false (by unfold spOk; omega) | exact dec_eq (by unfold spOk; omega)
 ·refine WL.mv rfl ?_
  refine WL.no rfl rfl rfl (by decide) ?_
  refine WL.no rfl rfl rfl (by decide) ?_
  refine WL.no rfl rfl rfl (by decide) ?_
  refine WL.no rfl rfl rfl (by decide) ?_
  refine WL.y (X.pickF rfl rfl rfl) ?_
  refine WL.ag rfl ?_
  refine WL.z ?_
  refine WC.ret ?_
  refine WK.ret1 rfl rfl (fun w' hw' => Ret.exact hw' ?_)
  first | exact bool_true (by unfold spOk; omega) | exact bool_false (by unfold spOk; omega) | exact dec_eq (by unfold spOk; omega)

theorem rate241 (m : Mem) (cs : List Value) (s : Span) (hs : Enc.rd m cs s)   : Exact Tryz.prog 241 #[.agg cs.toArray] m (.bool (decide (¬ (spOk s 1 40)))) := by
 obtain rfl := hs
 refine Exact.start Tryz.func241 rfl Tryz.ntmps241 rfl fun wld => ?_
 refine WC.r ?_
 refine WL.tn (T.boxB rfl rfl) (by decide) fun b1 => ?_
 refine WL.ag rfl ?_
 refine WL.z ?_
 refine WC.r ?_
 refine WL.y (X.loadBA (k := 0) Tryz.isAgg23 Tryz.sizeOf23 rfl rfl rfl) ?_
 refine WL.y (X.call Tryz.call242 rfl (span242 _ _ s rfl _ _ )) ?_
 refine WL.y (X.notp rfl) ?_
 refine WL.ag rfl ?_
 refine WL.z ?_
 refine WC.ret ?_
 refine WK.ret1 rfl rfl (fun w' hw' => Ret.exact hw' ?_)
 first | rfl | (simp [*]; done)

theorem stop243 (m : Mem) {cs : List Value} {s : Stp} (hs : Enc.rd m cs s) {pd : Addr} {d : Drum} (hpd : At m pd d) : Exact Tryz.prog 243 #[.agg cs.toArray, .pointer (some pd)] m (.bool (decide (¬ ((0 ≤ s.Column ∧ s.Column ≤ (d.Rates.length : Int) - 1) ∧ spOk s.Ticks 0 400)))) := by
 obtain rfl := hs
 refine Exact.start Tryz.func243 rfl Tryz.ntmps243 rfl fun wld => ?_
 refine WC.r ?_
 refine WL.tn (T.boxB rfl rfl) (by decide) fun b1 => ?_
 refine WL.ag rfl ?_
 refine WL.z ?_
 refine WC.r ?_
 refine WL.y (X.field Tryz.runUnderlying108 rfl Tryz.sizeOf3 rfl) ?_
 refine WL.y (X.loadB (k := 0) Tryz.isAgg3 rfl rfl rfl) ?_
 have hp2 := At.Drum_0 hpd
 refine WL.y (X.field Tryz.runUnderlying31 rfl Tryz.sizeOf28 rfl) ?_
 refine WL.xe (E.loadSl Tryz.isAgg28 rfl hp2) (by decide) (fun v3 hs4 => ?_)
 have hl5 := hs4.le
 refine WL.y (X.len Tryz.runUnderlying28 rfl hs4) ?_
 refine WL.y (X.sub rfl rfl (by omega) (by omega)) ?_
 refine WL.cond (X.call Tryz.call137 rfl (within137 _ _ _ _ )) (by decide) (fun h6 => ?_) (fun h6 => ?_)
 ·refine WL.y (X.not rfl) ?_
  refine WL.mv rfl ?_
  refine WL.yes rfl rfl ?_
  refine WL.y (X.field Tryz.runUnderlying108 rfl Tryz.sizeOf23 rfl) ?_
  refine WL.yes rfl rfl ?_
  refine WL.y (X.loadBP (k := 0) (vs := [.int .i64 (s.Ticks.Lo), .int .i64 (s.Ticks.Hi)]) Tryz.isAgg23 Tryz.sizeOf23 rfl rfl rfl rfl) ?_
  refine WL.yes rfl rfl ?_
  refine WL.y (X.call Tryz.call242 rfl (span242 _ _ s.Ticks rfl _ _ )) ?_
  refine WL.yes rfl rfl ?_
  refine WL.y (X.notp rfl) ?_
  refine WL.y (X.pickF rfl rfl rfl) ?_
  refine WL.ag rfl ?_
  refine WL.z ?_
  refine WC.ret ?_
  refine WK.ret1 rfl rfl (fun w' hw' => Ret.exact hw' ?_)
  first | exact bool_true (by omega) | exact bool_false (by omega) | exact dec_eq (by omega) | exact bool_true (fun h => by have := h.1; omega) | exact bool_false (fun h => by have := h.1; omega) | exact dec_eq ⟨fun h h2 => h h2.2, fun h h2 => h ⟨by omega, h2⟩⟩ | exact dec_eq ⟨fun h => ⟨by omega, h⟩, fun h => h.2⟩
 ·refine WL.y (X.not rfl) ?_
  refine WL.mv rfl ?_
  refine WL.no rfl rfl rfl (by decide) ?_
  refine WL.no rfl rfl rfl (by decide) ?_
  refine WL.no rfl rfl rfl (by decide) ?_
  refine WL.no rfl rfl rfl (by decide) ?_
  refine WL.y (X.pickT rfl rfl rfl) ?_
  refine WL.ag rfl ?_
  refine WL.z ?_
  refine WC.ret ?_
  refine WK.ret1 rfl rfl (fun w' hw' => Ret.exact hw' ?_)
  first | exact bool_true (by omega) | exact bool_false (by omega) | exact dec_eq (by omega) | exact bool_true (fun h => by have := h.1; omega) | exact bool_false (fun h => by have := h.1; omega) | exact dec_eq ⟨fun h h2 => h h2.2, fun h h2 => h ⟨by omega, h2⟩⟩ | exact dec_eq ⟨fun h => ⟨by omega, h⟩, fun h => h.2⟩

theorem right247 (m : Mem) (cd : List Value) (d : Drum) (hd : Enc.rd m cd d) (cx : List Value) (x : Mark) (hx : Enc.rd m cx x)   : Exact Tryz.prog 247 #[.agg cd.toArray, .agg cx.toArray] m (.bool (decide ((0 ≤ x.Column ∧ x.Column ≤ (d.Rates.length : Int)) ∧ spOk x.Ticks 0 400))) := by
 obtain ⟨v1, v3, rfl, hs2, hs4⟩ := hd
 have hl5 := hs2.le
 have hl6 := hs4.le
 obtain rfl := hx
 refine Exact.start Tryz.func247 rfl Tryz.ntmps247 rfl fun wld => ?_
 refine WC.r ?_
 refine WL.tn (T.boxB rfl rfl) (by decide) fun b7 => ?_
 refine WL.tn (T.boxB rfl rfl) (by decide) fun b8 => ?_
 refine WL.ag rfl ?_
 refine WL.z ?_
 refine WC.r ?_
 refine WL.y (X.field Tryz.runUnderlying98 rfl Tryz.sizeOf3 rfl) ?_
 refine WL.y (X.loadB (k := 0) Tryz.isAgg3 rfl rfl rfl) ?_
 refine WL.y (X.field Tryz.runUnderlying31 rfl Tryz.sizeOf28 rfl) ?_
 refine WL.y (X.loadB (k := 1) Tryz.isAgg28 rfl rfl rfl) ?_
 refine WL.y (X.len Tryz.runUnderlying28 rfl hs2) ?_
 refine WL.cond (X.call Tryz.call137 rfl (within137 _ _ _ _ )) (by decide) (fun h9 => ?_) (fun h9 => ?_)
 ·refine WL.mv rfl ?_
  refine WL.yes rfl rfl ?_
  refine WL.y (X.field Tryz.runUnderlying98 rfl Tryz.sizeOf23 rfl) ?_
  refine WL.yes rfl rfl ?_
  refine WL.y (X.loadBP (k := 0) (vs := [.int .i64 (x.Ticks.Lo), .int .i64 (x.Ticks.Hi)]) Tryz.isAgg23 Tryz.sizeOf23 rfl rfl rfl rfl) ?_
  refine WL.yes rfl rfl ?_
  refine WL.y (X.call Tryz.call242 rfl (span242 _ _ x.Ticks rfl _ _ )) ?_
  refine WL.y (X.pickT rfl rfl rfl) ?_
  refine WL.ag rfl ?_
  refine WL.z ?_
  refine WC.ret ?_
  refine WK.ret1 rfl rfl (fun w' hw' => Ret.exact hw' ?_)
  first | exact bool_true (by omega) | exact bool_false (by omega) | exact dec_eq (by omega) | exact bool_true (fun h => by have := h.1; omega) | exact bool_false (fun h => by have := h.1; omega) | exact dec_eq ⟨fun h h2 => h h2.2, fun h h2 => h ⟨by omega, h2⟩⟩ | exact dec_eq ⟨fun h => ⟨by omega, h⟩, fun h => h.2⟩
 ·refine WL.mv rfl ?_
  refine WL.no rfl rfl rfl (by decide) ?_
  refine WL.no rfl rfl rfl (by decide) ?_
  refine WL.no rfl rfl rfl (by decide) ?_
  refine WL.y (X.pickF rfl rfl rfl) ?_
  refine WL.ag rfl ?_
  refine WL.z ?_
  refine WC.ret ?_
  refine WK.ret1 rfl rfl (fun w' hw' => Ret.exact hw' ?_)
  first | exact bool_true (by omega) | exact bool_false (by omega) | exact dec_eq (by omega) | exact bool_true (fun h => by have := h.1; omega) | exact bool_false (fun h => by have := h.1; omega) | exact dec_eq ⟨fun h h2 => h h2.2, fun h h2 => h ⟨by omega, h2⟩⟩ | exact dec_eq ⟨fun h => ⟨by omega, h⟩, fun h => h.2⟩

theorem mark246 (m : Mem) {cx : List Value} {x : Mark} (hx : Enc.rd m cx x) {pd : Addr} {d : Drum} (hpd : At m pd d) : Exact Tryz.prog 246 #[.agg cx.toArray, .pointer (some pd)] m (.bool (decide (¬ ((0 ≤ x.Column ∧ x.Column ≤ (d.Rates.length : Int)) ∧ spOk x.Ticks 0 400)))) := by
 obtain rfl := hx
 refine Exact.start Tryz.func246 rfl Tryz.ntmps246 rfl fun wld => ?_
 refine WC.r ?_
 refine WL.tn (T.boxB rfl rfl) (by decide) fun b1 => ?_
 refine WL.ag rfl ?_
 refine WL.z ?_
 refine WC.r ?_
 refine WL.xe (E.loadAgg Tryz.isAgg31 Tryz.sizeOf31 rfl hpd) (by decide) (fun c2 hc3 => ?_)
 obtain ⟨v4, v6, rfl, hs5, hs7⟩ := hc3
 have hl8 := hs5.le
 have hl9 := hs7.le
 refine WL.y (X.loadBA (k := 0) Tryz.isAgg98 Tryz.sizeOf98 rfl rfl rfl) ?_
 refine WL.y (X.call Tryz.call247 rfl (right247 _ _ d ⟨_, _, rfl, hs5, hs7⟩ _ x rfl )) ?_
 refine WL.y (X.notp rfl) ?_
 refine WL.ag rfl ?_
 refine WL.z ?_
 refine WC.ret ?_
 refine WK.ret1 rfl rfl (fun w' hw' => Ret.exact hw' ?_)
 first | rfl | (simp [*]; done)

theorem bad219 (m : Mem) (cs : List Value) (s : Span) (hs : Enc.rd m cs s)   : Exact Tryz.prog 219 #[.agg cs.toArray] m (.bool (decide (s.Hi < s.Lo))) := by
 obtain rfl := hs
 refine Exact.start Tryz.func219 rfl Tryz.ntmps219 rfl fun wld => ?_
 refine WC.r ?_
 refine WL.tn (T.boxB rfl rfl) (by decide) fun b1 => ?_
 refine WL.ag rfl ?_
 refine WL.z ?_
 refine WC.r ?_
 refine WL.y (X.field Tryz.runUnderlying23 rfl Tryz.sizeOf3 rfl) ?_
 refine WL.y (X.loadB (k := 0) Tryz.isAgg3 rfl rfl rfl) ?_
 refine WL.y (X.field Tryz.runUnderlying23 rfl Tryz.sizeOf3 rfl) ?_
 refine WL.y (X.loadB (k := 0) Tryz.isAgg3 rfl rfl rfl) ?_
 refine WL.y (X.gtr rfl rfl) ?_
 refine WL.ag rfl ?_
 refine WL.z ?_
 refine WC.ret ?_
 refine WK.ret1 rfl rfl (fun w' hw' => Ret.exact hw' ?_)
 first | rfl | (simp [*]; done)

theorem tick138 (m : Mem) (n : Int)   : Exact Tryz.prog 138 #[.int .i64 (n)] m (.bool (decide (¬ (0 ≤ n ∧ n ≤ 400)))) := by
 refine Exact.start Tryz.func138 rfl Tryz.ntmps138 rfl fun wld => ?_
 refine WC.r ?_
 refine WL.ag rfl ?_
 refine WL.z ?_
 refine WC.r ?_
 refine WL.mv rfl ?_
 refine WL.y (X.call Tryz.call137 rfl (within137 _ _ _ _ )) ?_
 refine WL.y (X.notp rfl) ?_
 refine WL.ag rfl ?_
 refine WL.z ?_
 refine WC.ret ?_
 refine WK.ret1 rfl rfl (fun w' hw' => Ret.exact hw' ?_)
 first | exact bool_true (by omega) | exact bool_false (by omega) | exact dec_eq (by omega)

theorem col136 (m : Mem) (n : Int) {pd : Addr} {d : Drum} (hpd : At m pd d) : Exact Tryz.prog 136 #[.int .i64 n, .pointer (some pd)] m (.bool (decide (¬ (0 ≤ n ∧ n ≤ (d.Rates.length : Int))))) := by
 refine Exact.start Tryz.func136 rfl Tryz.ntmps136 rfl fun wld => ?_
 refine WC.r ?_
 refine WL.ag rfl ?_
 refine WL.z ?_
 refine WC.r ?_
 refine WL.mv rfl ?_
 have hp1 := At.Drum_0 hpd
 refine WL.y (X.field Tryz.runUnderlying31 rfl Tryz.sizeOf28 rfl) ?_
 refine WL.xe (E.loadSl Tryz.isAgg28 rfl hp1) (by decide) (fun v2 hs3 => ?_)
 have hl4 := hs3.le
 refine WL.y (X.len Tryz.runUnderlying28 rfl hs3) ?_
 refine WL.y (X.call Tryz.call137 rfl (within137 _ _ _ _ )) ?_
 refine WL.y (X.notp rfl) ?_
 refine WL.ag rfl ?_
 refine WL.z ?_
 refine WC.ret ?_
 refine WK.ret1 rfl rfl (fun w' hw' => Ret.exact hw' ?_)
 first | exact bool_true (by omega) | exact bool_false (by omega) | exact dec_eq (by omega)

theorem idx248 (m : Mem) {vl : Value} {l : List Span} (hl : Sl m vl l) {fn : Nat} {caps : List Value} {p : Nat → Prop} [DecidablePred p] (hE : Enters Tryz.prog fn) (hcl : (∀ i, i < l.length → Exact Tryz.prog fn (#[.agg (Flat.enc (gt l i)).toArray] ++ caps.toArray) m (.bool (decide (p i))))) : Exact Tryz.prog 248 #[vl, .func (.func fn) #[] caps.toArray] m (.int .i64 (idxF p l.length)) := by
 have hll := hl.le
 refine Exact.start Tryz.func248 rfl Tryz.ntmps248 rfl fun wld => ?_
 refine WC.r ?_
 refine WL.ag rfl ?_
 refine WL.z ?_
 refine WC.seq ?_
 refine WC.r ?_
 refine WL.mv rfl ?_
 refine WL.y (X.len Tryz.runUnderlying28 rfl hl) ?_
 refine WL.mv rfl ?_
 refine WL.z ?_
 refine WC.block ?_
 refine WC.loop (G := Nat) (fun k => l.length - k) (fun k => m) (fun k => []) (fun k => [(0, vl), (1, .func (.func fn) #[] caps.toArray), (7, .int .i64 (↑l.length)), (8, .int .i64 (↑k))]) (fun k => k ≤ l.length ∧ (∀ j, j < k → ¬ p j)) 0 rfl (.refl _) (.cons rfl (.cons rfl (.cons rfl (.cons rfl .nil)))) ?_ ?_
 ·exact ⟨Nat.zero_le _, fun j hj => absurd hj (Nat.not_lt_zero _)⟩
 ·rintro k hF1
  show WK _ _ m [] [(0, vl), (1, .func (.func fn) #[] caps.toArray), (7, .int .i64 (↑l.length)), (8, .int .i64 (↑k))] _
  replace hF1 : k ≤ l.length ∧ (∀ j, j < k → ¬ p j) := hF1
  obtain ⟨hk, hall⟩ := hF1
  refine WC.r ?_
  refine WL.cond (X.lss rfl rfl) (by decide) (fun h2 => ?_) (fun h2 => ?_)
  ·refine WL.z ?_
   refine WC.seq ?_
   refine WC.condT rfl ?_
   refine WC.skip ?_
   refine WK.nThen ?_
   refine WC.seq ?_
   refine WC.block ?_
   refine WC.r ?_
   refine WL.mv rfl ?_
   refine WL.ag rfl ?_
   refine WL.z ?_
   refine WC.r ?_
   refine WL.mv rfl ?_
   refine WL.mv rfl ?_
   refine WL.mv rfl ?_
   refine WL.xe (E.idxN k Tryz.runUnderlying28 Tryz.sizeOf23 rfl rfl hl (by omega)) (by decide) (fun p3 hp4 => ?_)
   refine WL.xe (E.loadAgg Tryz.isAgg23 Tryz.sizeOf23 rfl hp4) (by decide) (fun c5 hc6 => ?_)
   obtain rfl := hc6
   refine WL.cond (X.callc hE rfl rfl (hcl k (by omega))) (by decide) (fun h7 => ?_) (fun h7 => ?_)
   ·refine WL.z ?_
    refine WC.condT rfl ?_
    refine WC.r ?_
    refine WL.mv rfl ?_
    refine WL.ag rfl ?_
    refine WL.z ?_
    refine WC.ret ?_
    refine WK.rBlock ?_
    refine WK.rThen ?_
    refine WK.rThen ?_
    refine WK.rBlock ?_
    refine WK.rThen ?_
    refine WK.ret1 rfl rfl (fun w' hw' => Ret.exact hw' ?_)
    first | exact int_eq (idxF_yes (by omega) hall (by assumption)).symm | exact int_eq (idxF_no (fun j hj => hall j (by omega))).symm
   ·refine WL.z ?_
    refine WC.condF rfl ?_
    refine WC.skip ?_
    refine WK.nBlock ?_
    refine WK.nThen ?_
    refine WC.region ?_
    refine WL.y (X.add rfl rfl (by omega) (by omega)) ?_
    refine WL.mv rfl ?_
    refine WL.z ?_
    refine WK.next (k + 1) rfl (.refl _) (.cons rfl (.cons rfl (.cons rfl (.cons rfl .nil)))) ?_ ?_
    ·exact ⟨by omega, fun j hj => by rcases Nat.lt_succ_iff_lt_or_eq.1 hj with h | h; exact hall j h; subst h; assumption⟩
    ·omega
  ·refine WL.z ?_
   refine WC.seq ?_
   refine WC.condF rfl ?_
   refine WC.exit ?_
   refine WK.eThen ?_
   refine WK.eThen ?_
   refine WK.eHit ?_
   refine WK.nThen ?_
   refine WC.r ?_
   refine WL.ag rfl ?_
   refine WL.z ?_
   refine WC.ret ?_
   refine WK.ret1 rfl rfl (fun w' hw' => Ret.exact hw' ?_)
   first | exact int_eq (idxF_yes (by omega) hall (by assumption)).symm | exact int_eq (idxF_no (fun j hj => hall j (by omega))).symm

theorem cont178 (m : Mem) {vl : Value} {l : List Span} (hl : Sl m vl l) {fn : Nat} {caps : List Value} {p : Nat → Prop} [DecidablePred p] (hE : Enters Tryz.prog fn) (hcl : (∀ i, i < l.length → Exact Tryz.prog fn (#[.agg (Flat.enc (gt l i)).toArray] ++ caps.toArray) m (.bool (decide (p i))))) : Exact Tryz.prog 178 #[vl, .func (.func fn) #[] caps.toArray] m (.bool (decide (¬ ∀ i, i < l.length → ¬ p i))) := by
 have hll := hl.le
 refine Exact.start Tryz.func178 rfl Tryz.ntmps178 rfl fun wld => ?_
 refine WC.r ?_
 refine WL.ag rfl ?_
 refine WL.z ?_
 refine WC.r ?_
 refine WL.mv rfl ?_
 refine WL.mv rfl ?_
 refine WL.y (X.call Tryz.call248 rfl (idx248 _ hl hE hcl)) ?_
 refine WL.y (X.geq rfl rfl) ?_
 refine WL.ag rfl ?_
 refine WL.z ?_
 refine WC.ret ?_
 refine WK.ret1 rfl rfl (fun w' hw' => Ret.exact hw' ?_)
 exact dec_eq (idxF_nn p l.length)

theorem idx295 (m : Mem) {vl : Value} {l : List Stp} (hl : Sl m vl l) {fn : Nat} {caps : List Value} {p : Nat → Prop} [DecidablePred p] (hE : Enters Tryz.prog fn) (hcl : (∀ i, i < l.length → Exact Tryz.prog fn (#[.agg (Flat.enc (gt l i)).toArray] ++ caps.toArray) m (.bool (decide (p i))))) : Exact Tryz.prog 295 #[vl, .func (.func fn) #[] caps.toArray] m (.int .i64 (idxF p l.length)) := by
 have hll := hl.le
 refine Exact.start Tryz.func295 rfl Tryz.ntmps295 rfl fun wld => ?_
 refine WC.r ?_
 refine WL.ag rfl ?_
 refine WL.z ?_
 refine WC.seq ?_
 refine WC.r ?_
 refine WL.mv rfl ?_
 refine WL.y (X.len Tryz.runUnderlying29 rfl hl) ?_
 refine WL.mv rfl ?_
 refine WL.z ?_
 refine WC.block ?_
 refine WC.loop (G := Nat) (fun k => l.length - k) (fun k => m) (fun k => []) (fun k => [(0, vl), (1, .func (.func fn) #[] caps.toArray), (7, .int .i64 (↑l.length)), (8, .int .i64 (↑k))]) (fun k => k ≤ l.length ∧ (∀ j, j < k → ¬ p j)) 0 rfl (.refl _) (.cons rfl (.cons rfl (.cons rfl (.cons rfl .nil)))) ?_ ?_
 ·exact ⟨Nat.zero_le _, fun j hj => absurd hj (Nat.not_lt_zero _)⟩
 ·rintro k hF1
  show WK _ _ m [] [(0, vl), (1, .func (.func fn) #[] caps.toArray), (7, .int .i64 (↑l.length)), (8, .int .i64 (↑k))] _
  replace hF1 : k ≤ l.length ∧ (∀ j, j < k → ¬ p j) := hF1
  obtain ⟨hk, hall⟩ := hF1
  refine WC.r ?_
  refine WL.cond (X.lss rfl rfl) (by decide) (fun h2 => ?_) (fun h2 => ?_)
  ·refine WL.z ?_
   refine WC.seq ?_
   refine WC.condT rfl ?_
   refine WC.skip ?_
   refine WK.nThen ?_
   refine WC.seq ?_
   refine WC.block ?_
   refine WC.r ?_
   refine WL.mv rfl ?_
   refine WL.ag rfl ?_
   refine WL.z ?_
   refine WC.r ?_
   refine WL.mv rfl ?_
   refine WL.mv rfl ?_
   refine WL.mv rfl ?_
   refine WL.xe (E.idxN k Tryz.runUnderlying29 Tryz.sizeOf108 rfl rfl hl (by omega)) (by decide) (fun p3 hp4 => ?_)
   refine WL.xe (E.loadAgg Tryz.isAgg108 Tryz.sizeOf108 rfl hp4) (by decide) (fun c5 hc6 => ?_)
   obtain rfl := hc6
   refine WL.cond (X.callc hE rfl rfl (hcl k (by omega))) (by decide) (fun h7 => ?_) (fun h7 => ?_)
   ·refine WL.z ?_
    refine WC.condT rfl ?_
    refine WC.r ?_
    refine WL.mv rfl ?_
    refine WL.ag rfl ?_
    refine WL.z ?_
    refine WC.ret ?_
    refine WK.rBlock ?_
    refine WK.rThen ?_
    refine WK.rThen ?_
    refine WK.rBlock ?_
    refine WK.rThen ?_
    refine WK.ret1 rfl rfl (fun w' hw' => Ret.exact hw' ?_)
    first | exact int_eq (idxF_yes (by omega) hall (by assumption)).symm | exact int_eq (idxF_no (fun j hj => hall j (by omega))).symm
   ·refine WL.z ?_
    refine WC.condF rfl ?_
    refine WC.skip ?_
    refine WK.nBlock ?_
    refine WK.nThen ?_
    refine WC.region ?_
    refine WL.y (X.add rfl rfl (by omega) (by omega)) ?_
    refine WL.mv rfl ?_
    refine WL.z ?_
    refine WK.next (k + 1) rfl (.refl _) (.cons rfl (.cons rfl (.cons rfl (.cons rfl .nil)))) ?_ ?_
    ·exact ⟨by omega, fun j hj => by rcases Nat.lt_succ_iff_lt_or_eq.1 hj with h | h; exact hall j h; subst h; assumption⟩
    ·omega
  ·refine WL.z ?_
   refine WC.seq ?_
   refine WC.condF rfl ?_
   refine WC.exit ?_
   refine WK.eThen ?_
   refine WK.eThen ?_
   refine WK.eHit ?_
   refine WK.nThen ?_
   refine WC.r ?_
   refine WL.ag rfl ?_
   refine WL.z ?_
   refine WC.ret ?_
   refine WK.ret1 rfl rfl (fun w' hw' => Ret.exact hw' ?_)
   first | exact int_eq (idxF_yes (by omega) hall (by assumption)).symm | exact int_eq (idxF_no (fun j hj => hall j (by omega))).symm

theorem cont244 (m : Mem) {vl : Value} {l : List Stp} (hl : Sl m vl l) {fn : Nat} {caps : List Value} {p : Nat → Prop} [DecidablePred p] (hE : Enters Tryz.prog fn) (hcl : (∀ i, i < l.length → Exact Tryz.prog fn (#[.agg (Flat.enc (gt l i)).toArray] ++ caps.toArray) m (.bool (decide (p i))))) : Exact Tryz.prog 244 #[vl, .func (.func fn) #[] caps.toArray] m (.bool (decide (¬ ∀ i, i < l.length → ¬ p i))) := by
 have hll := hl.le
 refine Exact.start Tryz.func244 rfl Tryz.ntmps244 rfl fun wld => ?_
 refine WC.r ?_
 refine WL.ag rfl ?_
 refine WL.z ?_
 refine WC.r ?_
 refine WL.mv rfl ?_
 refine WL.mv rfl ?_
 refine WL.y (X.call Tryz.call295 rfl (idx295 _ hl hE hcl)) ?_
 refine WL.y (X.geq rfl rfl) ?_
 refine WL.ag rfl ?_
 refine WL.z ?_
 refine WC.ret ?_
 refine WK.ret1 rfl rfl (fun w' hw' => Ret.exact hw' ?_)
 exact dec_eq (idxF_nn p l.length)

theorem idx245 (m : Mem) {vl : Value} {l : List Mark} (hl : Sl m vl l) {fn : Nat} {caps : List Value} {p : Nat → Prop} [DecidablePred p] (hE : Enters Tryz.prog fn) (hcl : (∀ i, i < l.length → Exact Tryz.prog fn (#[.agg (Flat.enc (gt l i)).toArray] ++ caps.toArray) m (.bool (decide (p i))))) : Exact Tryz.prog 245 #[vl, .func (.func fn) #[] caps.toArray] m (.int .i64 (idxF p l.length)) := by
 have hll := hl.le
 refine Exact.start Tryz.func245 rfl Tryz.ntmps245 rfl fun wld => ?_
 refine WC.r ?_
 refine WL.ag rfl ?_
 refine WL.z ?_
 refine WC.seq ?_
 refine WC.r ?_
 refine WL.mv rfl ?_
 refine WL.y (X.len Tryz.runUnderlying74 rfl hl) ?_
 refine WL.mv rfl ?_
 refine WL.z ?_
 refine WC.block ?_
 refine WC.loop (G := Nat) (fun k => l.length - k) (fun k => m) (fun k => []) (fun k => [(0, vl), (1, .func (.func fn) #[] caps.toArray), (7, .int .i64 (↑l.length)), (8, .int .i64 (↑k))]) (fun k => k ≤ l.length ∧ (∀ j, j < k → ¬ p j)) 0 rfl (.refl _) (.cons rfl (.cons rfl (.cons rfl (.cons rfl .nil)))) ?_ ?_
 ·exact ⟨Nat.zero_le _, fun j hj => absurd hj (Nat.not_lt_zero _)⟩
 ·rintro k hF1
  show WK _ _ m [] [(0, vl), (1, .func (.func fn) #[] caps.toArray), (7, .int .i64 (↑l.length)), (8, .int .i64 (↑k))] _
  replace hF1 : k ≤ l.length ∧ (∀ j, j < k → ¬ p j) := hF1
  obtain ⟨hk, hall⟩ := hF1
  refine WC.r ?_
  refine WL.cond (X.lss rfl rfl) (by decide) (fun h2 => ?_) (fun h2 => ?_)
  ·refine WL.z ?_
   refine WC.seq ?_
   refine WC.condT rfl ?_
   refine WC.skip ?_
   refine WK.nThen ?_
   refine WC.seq ?_
   refine WC.block ?_
   refine WC.r ?_
   refine WL.mv rfl ?_
   refine WL.ag rfl ?_
   refine WL.z ?_
   refine WC.r ?_
   refine WL.mv rfl ?_
   refine WL.mv rfl ?_
   refine WL.mv rfl ?_
   refine WL.xe (E.idxN k Tryz.runUnderlying74 Tryz.sizeOf98 rfl rfl hl (by omega)) (by decide) (fun p3 hp4 => ?_)
   refine WL.xe (E.loadAgg Tryz.isAgg98 Tryz.sizeOf98 rfl hp4) (by decide) (fun c5 hc6 => ?_)
   obtain rfl := hc6
   refine WL.cond (X.callc hE rfl rfl (hcl k (by omega))) (by decide) (fun h7 => ?_) (fun h7 => ?_)
   ·refine WL.z ?_
    refine WC.condT rfl ?_
    refine WC.r ?_
    refine WL.mv rfl ?_
    refine WL.ag rfl ?_
    refine WL.z ?_
    refine WC.ret ?_
    refine WK.rBlock ?_
    refine WK.rThen ?_
    refine WK.rThen ?_
    refine WK.rBlock ?_
    refine WK.rThen ?_
    refine WK.ret1 rfl rfl (fun w' hw' => Ret.exact hw' ?_)
    first | exact int_eq (idxF_yes (by omega) hall (by assumption)).symm | exact int_eq (idxF_no (fun j hj => hall j (by omega))).symm
   ·refine WL.z ?_
    refine WC.condF rfl ?_
    refine WC.skip ?_
    refine WK.nBlock ?_
    refine WK.nThen ?_
    refine WC.region ?_
    refine WL.y (X.add rfl rfl (by omega) (by omega)) ?_
    refine WL.mv rfl ?_
    refine WL.z ?_
    refine WK.next (k + 1) rfl (.refl _) (.cons rfl (.cons rfl (.cons rfl (.cons rfl .nil)))) ?_ ?_
    ·exact ⟨by omega, fun j hj => by rcases Nat.lt_succ_iff_lt_or_eq.1 hj with h | h; exact hall j h; subst h; assumption⟩
    ·omega
  ·refine WL.z ?_
   refine WC.seq ?_
   refine WC.condF rfl ?_
   refine WC.exit ?_
   refine WK.eThen ?_
   refine WK.eThen ?_
   refine WK.eHit ?_
   refine WK.nThen ?_
   refine WC.r ?_
   refine WL.ag rfl ?_
   refine WL.z ?_
   refine WC.ret ?_
   refine WK.ret1 rfl rfl (fun w' hw' => Ret.exact hw' ?_)
   first | exact int_eq (idxF_yes (by omega) hall (by assumption)).symm | exact int_eq (idxF_no (fun j hj => hall j (by omega))).symm

theorem idx176 (m : Mem) {vl : Value} {l : List Int} (hl : Sl m vl l) {fn : Nat} {caps : List Value} {p : Nat → Prop} [DecidablePred p] (hE : Enters Tryz.prog fn) (hcl : (∀ i, i < l.length → Exact Tryz.prog fn (#[.int .i64 (gt l i)] ++ caps.toArray) m (.bool (decide (p i))))) : Exact Tryz.prog 176 #[vl, .func (.func fn) #[] caps.toArray] m (.int .i64 (idxF p l.length)) := by
 have hll := hl.le
 refine Exact.start Tryz.func176 rfl Tryz.ntmps176 rfl fun wld => ?_
 refine WC.r ?_
 refine WL.ag rfl ?_
 refine WL.z ?_
 refine WC.seq ?_
 refine WC.r ?_
 refine WL.mv rfl ?_
 refine WL.y (X.len Tryz.runUnderlying27 rfl hl) ?_
 refine WL.mv rfl ?_
 refine WL.z ?_
 refine WC.block ?_
 refine WC.loop (G := Nat) (fun k => l.length - k) (fun k => m) (fun k => []) (fun k => [(0, vl), (1, .func (.func fn) #[] caps.toArray), (7, .int .i64 (↑l.length)), (8, .int .i64 (↑k))]) (fun k => k ≤ l.length ∧ (∀ j, j < k → ¬ p j)) 0 rfl (.refl _) (.cons rfl (.cons rfl (.cons rfl (.cons rfl .nil)))) ?_ ?_
 ·exact ⟨Nat.zero_le _, fun j hj => absurd hj (Nat.not_lt_zero _)⟩
 ·rintro k hF1
  show WK _ _ m [] [(0, vl), (1, .func (.func fn) #[] caps.toArray), (7, .int .i64 (↑l.length)), (8, .int .i64 (↑k))] _
  replace hF1 : k ≤ l.length ∧ (∀ j, j < k → ¬ p j) := hF1
  obtain ⟨hk, hall⟩ := hF1
  refine WC.r ?_
  refine WL.cond (X.lss rfl rfl) (by decide) (fun h2 => ?_) (fun h2 => ?_)
  ·refine WL.z ?_
   refine WC.seq ?_
   refine WC.condT rfl ?_
   refine WC.skip ?_
   refine WK.nThen ?_
   refine WC.seq ?_
   refine WC.block ?_
   refine WC.r ?_
   refine WL.mv rfl ?_
   refine WL.ag rfl ?_
   refine WL.z ?_
   refine WC.r ?_
   refine WL.mv rfl ?_
   refine WL.mv rfl ?_
   refine WL.mv rfl ?_
   refine WL.xe (E.idxN k Tryz.runUnderlying27 Tryz.sizeOf3 rfl rfl hl (by omega)) (by decide) (fun p3 hp4 => ?_)
   refine WL.y (X.loadInt Tryz.isAgg3 rfl hp4) ?_
   refine WL.cond (X.callc hE rfl rfl (hcl k (by omega))) (by decide) (fun h5 => ?_) (fun h5 => ?_)
   ·refine WL.z ?_
    refine WC.condT rfl ?_
    refine WC.r ?_
    refine WL.mv rfl ?_
    refine WL.ag rfl ?_
    refine WL.z ?_
    refine WC.ret ?_
    refine WK.rBlock ?_
    refine WK.rThen ?_
    refine WK.rThen ?_
    refine WK.rBlock ?_
    refine WK.rThen ?_
    refine WK.ret1 rfl rfl (fun w' hw' => Ret.exact hw' ?_)
    first | exact int_eq (idxF_yes (by omega) hall (by assumption)).symm | exact int_eq (idxF_no (fun j hj => hall j (by omega))).symm
   ·refine WL.z ?_
    refine WC.condF rfl ?_
    refine WC.skip ?_
    refine WK.nBlock ?_
    refine WK.nThen ?_
    refine WC.region ?_
    refine WL.y (X.add rfl rfl (by omega) (by omega)) ?_
    refine WL.mv rfl ?_
    refine WL.z ?_
    refine WK.next (k + 1) rfl (.refl _) (.cons rfl (.cons rfl (.cons rfl (.cons rfl .nil)))) ?_ ?_
    ·exact ⟨by omega, fun j hj => by rcases Nat.lt_succ_iff_lt_or_eq.1 hj with h | h; exact hall j h; subst h; assumption⟩
    ·omega
  ·refine WL.z ?_
   refine WC.seq ?_
   refine WC.condF rfl ?_
   refine WC.exit ?_
   refine WK.eThen ?_
   refine WK.eThen ?_
   refine WK.eHit ?_
   refine WK.nThen ?_
   refine WC.r ?_
   refine WL.ag rfl ?_
   refine WL.z ?_
   refine WC.ret ?_
   refine WK.ret1 rfl rfl (fun w' hw' => Ret.exact hw' ?_)
   first | exact int_eq (idxF_yes (by omega) hall (by assumption)).symm | exact int_eq (idxF_no (fun j hj => hall j (by omega))).symm

theorem cont97 (m : Mem) {vl : Value} {l : List Int} (hl : Sl m vl l) {fn : Nat} {caps : List Value} {p : Nat → Prop} [DecidablePred p] (hE : Enters Tryz.prog fn) (hcl : (∀ i, i < l.length → Exact Tryz.prog fn (#[.int .i64 (gt l i)] ++ caps.toArray) m (.bool (decide (p i))))) : Exact Tryz.prog 97 #[vl, .func (.func fn) #[] caps.toArray] m (.bool (decide (¬ ∀ i, i < l.length → ¬ p i))) := by
 have hll := hl.le
 refine Exact.start Tryz.func97 rfl Tryz.ntmps97 rfl fun wld => ?_
 refine WC.r ?_
 refine WL.ag rfl ?_
 refine WL.z ?_
 refine WC.r ?_
 refine WL.mv rfl ?_
 refine WL.mv rfl ?_
 refine WL.y (X.call Tryz.call176 rfl (idx176 _ hl hE hcl)) ?_
 refine WL.y (X.geq rfl rfl) ?_
 refine WL.ag rfl ?_
 refine WL.z ?_
 refine WC.ret ?_
 refine WK.ret1 rfl rfl (fun w' hw' => Ret.exact hw' ?_)
 exact dec_eq (idxF_nn p l.length)

theorem check172 (m : Mem) (cd : List Value) (d : Drum) (hd : Enc.rd m cd d)   : Exact Tryz.prog 172 #[.agg cd.toArray] m (.int .i64 (drumE d)) := by
 obtain ⟨v1, v3, rfl, hs2, hs4⟩ := hd
 have hl5 := hs2.le
 have hl6 := hs4.le
 refine Exact.start Tryz.func172 rfl Tryz.ntmps172 rfl fun wld => ?_
 refine WC.r ?_
 refine WL.tn (T.boxB rfl rfl) (by decide) fun b7 => ?_
 refine WL.ag rfl ?_
 refine WL.z ?_
 refine WC.r ?_
 refine WL.ag rfl ?_
 refine WL.z ?_
 refine WC.seq ?_
 refine WK.freezeS (α := Drum) (x := d) 0 rfl rfl (show Enc.rd (α := Drum) m [v1, v3] d from ⟨_, _, rfl, hs2, hs4⟩) (fun m8 hle9 hp10 => ?_)
 replace hs2 := hs2.mono hle9
 replace hs4 := hs4.mono hle9
 refine WC.region ?_
 refine WL.y (X.makeFunc (by intro x hx; simp at hx; subst hx; all_goals exact ⟨_, rfl⟩) rfl) ?_
 refine WL.ag rfl ?_
 refine WL.z ?_
 refine WC.seq ?_
 refine WC.r ?_
 have hp11 := At.Drum_0 hp10
 refine WL.y (X.field Tryz.runUnderlying31 rfl Tryz.sizeOf28 rfl) ?_
 refine WL.xe (E.loadSl Tryz.isAgg28 rfl hp11) (by decide) (fun v12 hs13 => ?_)
 have hl14 := hs13.le
 refine WL.y (X.len Tryz.runUnderlying28 rfl hs13) ?_
 refine WL.cond (X.call Tryz.call137 rfl (within137 _ _ _ _ )) (by decide) (fun h15 => ?_) (fun h15 => ?_)
 ·refine WL.y (X.not rfl) ?_
  refine WL.mv rfl ?_
  refine WL.yes rfl rfl ?_
  have hp16 := At.Drum_1 hp10
  refine WL.y (X.field Tryz.runUnderlying31 rfl Tryz.sizeOf29 rfl) ?_
  refine WL.yes rfl rfl ?_
  refine WL.xe (E.loadSl Tryz.isAgg29 rfl hp16) (by decide) (fun v17 hs18 => ?_)
  have hl19 := hs18.le
  refine WL.yes rfl rfl ?_
  refine WL.y (X.len Tryz.runUnderlying29 rfl hs18) ?_
  refine WL.yes rfl rfl ?_
  refine WL.cond (X.gtr rfl rfl) (by decide) (fun h20 => ?_) (fun h20 => ?_)
  ·refine WL.y (X.pickF rfl rfl rfl) ?_
   refine WL.mv rfl ?_
   refine WL.no rfl rfl rfl (by decide) ?_
   refine WL.no rfl rfl rfl (by decide) ?_
   refine WL.no rfl rfl rfl (by decide) ?_
   refine WL.no rfl rfl rfl (by decide) ?_
   refine WL.y (X.pickT rfl rfl rfl) ?_
   refine WL.mv rfl ?_
   refine WL.no rfl rfl rfl (by decide) ?_
   refine WL.no rfl rfl rfl (by decide) ?_
   refine WL.no rfl rfl rfl (by decide) ?_
   refine WL.no rfl rfl rfl (by decide) ?_
   refine WL.y (X.pickT rfl rfl rfl) ?_
   refine WL.z ?_
   refine WC.condT rfl ?_
   refine WC.r ?_
   refine WL.ag rfl ?_
   refine WL.z ?_
   refine WC.ret ?_
   refine WK.rThen ?_
   refine WK.ret1 rfl rfl (fun w' hw' => Ret.exact hw' ?_)
   first | exact int_eq (drumE_bad (fun h => by have h1 := h.1; have h2 := h.2.1; have h3 := h.2.2; first | omega | contradiction)).symm | exact int_eq (drumE_ok ⟨by omega, Classical.byContradiction (fun h => by contradiction), Classical.byContradiction (fun h => by contradiction)⟩).symm
  ·refine WL.y (X.pickF rfl rfl rfl) ?_
   refine WL.mv rfl ?_
   refine WL.yes rfl rfl ?_
   have hp21 := At.Drum_0 hp10
   refine WL.y (X.field Tryz.runUnderlying31 rfl Tryz.sizeOf28 rfl) ?_
   refine WL.yes rfl rfl ?_
   refine WL.xe (E.loadSl Tryz.isAgg28 rfl hp21) (by decide) (fun v22 hs23 => ?_)
   have hl24 := hs23.le
   refine WL.yes rfl rfl ?_
   refine WL.mv rfl ?_
   refine WL.yes rfl rfl ?_
   refine WL.cond (X.call Tryz.call178 rfl (cont178 (p := fun i => ¬ spOk (gt d.Rates i) 1 40) _ hs23 (caps := []) Tryz.call241 (fun i _ => rate241 _ _ (gt d.Rates i) rfl))) (by decide) (fun h25 => ?_) (fun h25 => ?_)
   ·refine WL.y (X.pickF rfl rfl rfl) ?_
    refine WL.mv rfl ?_
    refine WL.no rfl rfl rfl (by decide) ?_
    refine WL.no rfl rfl rfl (by decide) ?_
    refine WL.no rfl rfl rfl (by decide) ?_
    refine WL.no rfl rfl rfl (by decide) ?_
    refine WL.y (X.pickT rfl rfl rfl) ?_
    refine WL.z ?_
    refine WC.condT rfl ?_
    refine WC.r ?_
    refine WL.ag rfl ?_
    refine WL.z ?_
    refine WC.ret ?_
    refine WK.rThen ?_
    refine WK.ret1 rfl rfl (fun w' hw' => Ret.exact hw' ?_)
    first | exact int_eq (drumE_bad (fun h => by have h1 := h.1; have h2 := h.2.1; have h3 := h.2.2; first | omega | contradiction)).symm | exact int_eq (drumE_ok ⟨by omega, Classical.byContradiction (fun h => by contradiction), Classical.byContradiction (fun h => by contradiction)⟩).symm
   ·refine WL.y (X.pickF rfl rfl rfl) ?_
    refine WL.mv rfl ?_
    refine WL.yes rfl rfl ?_
    have hp26 := At.Drum_1 hp10
    refine WL.y (X.field Tryz.runUnderlying31 rfl Tryz.sizeOf29 rfl) ?_
    refine WL.yes rfl rfl ?_
    refine WL.xe (E.loadSl Tryz.isAgg29 rfl hp26) (by decide) (fun v27 hs28 => ?_)
    have hl29 := hs28.le
    refine WL.yes rfl rfl ?_
    refine WL.mv rfl ?_
    refine WL.yes rfl rfl ?_
    refine WL.cond (X.call Tryz.call244 rfl (cont244 (p := fun i => ¬ ((0 ≤ (gt d.Stops i).Column ∧ (gt d.Stops i).Column ≤ (d.Rates.length : Int) - 1) ∧ spOk (gt d.Stops i).Ticks 0 400)) _ hs28 (caps := [.pointer (some ((⟨b7, 0, none⟩ : Addr)))]) Tryz.call243 (fun i _ => stop243 _ (s := gt d.Stops i) rfl hp10))) (by decide) (fun h30 => ?_) (fun h30 => ?_)
    ·refine WL.y (X.pickF rfl rfl rfl) ?_
     refine WL.z ?_
     refine WC.condT rfl ?_
     refine WC.r ?_
     refine WL.ag rfl ?_
     refine WL.z ?_
     refine WC.ret ?_
     refine WK.rThen ?_
     refine WK.ret1 rfl rfl (fun w' hw' => Ret.exact hw' ?_)
     first | exact int_eq (drumE_bad (fun h => by have h1 := h.1; have h2 := h.2.1; have h3 := h.2.2; first | omega | contradiction)).symm | exact int_eq (drumE_ok ⟨by omega, Classical.byContradiction (fun h => by contradiction), Classical.byContradiction (fun h => by contradiction)⟩).symm
    ·refine WL.y (X.pickF rfl rfl rfl) ?_
     refine WL.z ?_
     refine WC.condF rfl ?_
     refine WC.skip ?_
     refine WK.nThen ?_
     refine WC.r ?_
     refine WL.ag rfl ?_
     refine WL.z ?_
     refine WC.ret ?_
     refine WK.ret1 rfl rfl (fun w' hw' => Ret.exact hw' ?_)
     first | exact int_eq (drumE_bad (fun h => by have h1 := h.1; have h2 := h.2.1; have h3 := h.2.2; first | omega | contradiction)).symm | exact int_eq (drumE_ok ⟨by omega, Classical.byContradiction (fun h => by contradiction), Classical.byContradiction (fun h => by contradiction)⟩).symm
 ·refine WL.y (X.not rfl) ?_
  refine WL.mv rfl ?_
  refine WL.no rfl rfl rfl (by decide) ?_
  refine WL.no rfl rfl rfl (by decide) ?_
  refine WL.no rfl rfl rfl (by decide) ?_
  refine WL.no rfl rfl rfl (by decide) ?_
  refine WL.y (X.pickT rfl rfl rfl) ?_
  refine WL.mv rfl ?_
  refine WL.no rfl rfl rfl (by decide) ?_
  refine WL.no rfl rfl rfl (by decide) ?_
  refine WL.no rfl rfl rfl (by decide) ?_
  refine WL.no rfl rfl rfl (by decide) ?_
  refine WL.y (X.pickT rfl rfl rfl) ?_
  refine WL.mv rfl ?_
  refine WL.no rfl rfl rfl (by decide) ?_
  refine WL.no rfl rfl rfl (by decide) ?_
  refine WL.no rfl rfl rfl (by decide) ?_
  refine WL.no rfl rfl rfl (by decide) ?_
  refine WL.y (X.pickT rfl rfl rfl) ?_
  refine WL.z ?_
  refine WC.condT rfl ?_
  refine WC.r ?_
  refine WL.ag rfl ?_
  refine WL.z ?_
  refine WC.ret ?_
  refine WK.rThen ?_
  refine WK.ret1 rfl rfl (fun w' hw' => Ret.exact hw' ?_)
  first | exact int_eq (drumE_bad (fun h => by have h1 := h.1; have h2 := h.2.1; have h3 := h.2.2; first | omega | contradiction)).symm | exact int_eq (drumE_ok ⟨by omega, Classical.byContradiction (fun h => by contradiction), Classical.byContradiction (fun h => by contradiction)⟩).symm

theorem marks173 (m : Mem) (cd : List Value) (d : Drum) (hd : Enc.rd m cd d) (vm_ : Value) (m_ : List Mark) (hm_ : Sl m vm_ m_)   : Exact Tryz.prog 173 #[.agg cd.toArray, vm_] m (.tuple #[.int .i64 ((marksR d m_).1), .int .i64 ((marksR d m_).2)]) := by
 obtain ⟨v1, v3, rfl, hs2, hs4⟩ := hd
 have hl5 := hs2.le
 have hl6 := hs4.le
 have lm_ := hm_.le
 refine Exact.start Tryz.func173 rfl Tryz.ntmps173 rfl fun wld => ?_
 refine WC.r ?_
 refine WL.tn (T.boxB rfl rfl) (by decide) fun b7 => ?_
 refine WL.ag rfl ?_
 refine WL.ag rfl ?_
 refine WL.z ?_
 refine WC.seq ?_
 refine WC.block ?_
 refine WC.r ?_
 refine WL.y (X.loadBA (k := 0) Tryz.isAgg31 Tryz.sizeOf31 rfl rfl rfl) ?_
 refine WL.y (X.call Tryz.call172 rfl (check172 _ _ d ⟨_, _, rfl, hs2, hs4⟩ )) ?_
 refine WL.condn (X.neq rfl rfl) (by decide) (fun h8 => ?_) (fun h8 => ?_)
 ·refine WL.ag rfl ?_
  refine WL.z ?_
  refine WC.condT rfl ?_
  refine WC.r ?_
  refine WL.ag rfl ?_
  refine WL.ag rfl ?_
  refine WL.z ?_
  refine WC.ret ?_
  refine WK.rBlock ?_
  refine WK.rThen ?_
  refine WK.ret2 rfl rfl rfl (fun w' hw' => Ret.exact hw' ?_)
  first | exact tup2 (int_eq (by rw [marksR_drum (by omega)])) (int_eq (by rw [marksR_drum (by omega)])) | exact tup2 (int_eq (by rw [marksR_big (by omega) (by omega)])) (int_eq (by rw [marksR_big (by omega) (by omega)])) | exact tup2 (int_eq (by rw [marksR_ok (by omega) (by omega) (idxF_neg (by omega))])) (int_eq (by rw [marksR_ok (by omega) (by omega) (idxF_neg (by omega))])) | exact tup2 (int_eq (by rw [marksR_idx (by omega) (by omega) (by omega)])) (int_eq (by rw [marksR_idx (by omega) (by omega) (by omega)]))
 ·refine WL.ag rfl ?_
  refine WL.z ?_
  refine WC.condF rfl ?_
  refine WC.r ?_
  refine WL.mv rfl ?_
  refine WL.y (X.len Tryz.runUnderlying74 rfl hm_) ?_
  refine WL.cond (X.gtr rfl rfl) (by decide) (fun h9 => ?_) (fun h9 => ?_)
  ·refine WL.ag rfl ?_
   refine WL.z ?_
   refine WC.condT rfl ?_
   refine WC.r ?_
   refine WL.ag rfl ?_
   refine WL.ag rfl ?_
   refine WL.z ?_
   refine WC.ret ?_
   refine WK.rBlock ?_
   refine WK.rThen ?_
   refine WK.ret2 rfl rfl rfl (fun w' hw' => Ret.exact hw' ?_)
   first | exact tup2 (int_eq (by rw [marksR_drum (by omega)])) (int_eq (by rw [marksR_drum (by omega)])) | exact tup2 (int_eq (by rw [marksR_big (by omega) (by omega)])) (int_eq (by rw [marksR_big (by omega) (by omega)])) | exact tup2 (int_eq (by rw [marksR_ok (by omega) (by omega) (idxF_neg (by omega))])) (int_eq (by rw [marksR_ok (by omega) (by omega) (idxF_neg (by omega))])) | exact tup2 (int_eq (by rw [marksR_idx (by omega) (by omega) (by omega)])) (int_eq (by rw [marksR_idx (by omega) (by omega) (by omega)]))
  ·refine WL.ag rfl ?_
   refine WL.z ?_
   refine WC.condF rfl ?_
   refine WC.skip ?_
   refine WK.nBlock ?_
   refine WK.nThen ?_
   refine WC.seq ?_
   refine WC.seq ?_
   refine WK.freezeS (α := Drum) (x := d) 0 rfl rfl (show Enc.rd (α := Drum) m [v1, v3] d from ⟨_, _, rfl, hs2, hs4⟩) (fun m10 hle11 hp12 => ?_)
   replace hs2 := hs2.mono hle11
   replace hs4 := hs4.mono hle11
   replace hm_ := hm_.mono hle11
   refine WC.region ?_
   refine WL.mv rfl ?_
   refine WL.y (X.makeFunc (by intro x hx; simp at hx; subst hx; all_goals exact ⟨_, rfl⟩) rfl) ?_
   refine WL.y (X.call Tryz.call245 rfl (idx245 (p := markB d m_) _ hm_ (caps := [.pointer (some ((⟨b7, 0, none⟩ : Addr)))]) Tryz.call246 (fun i _ => mark246 _ (x := gt m_ i) rfl hp12))) ?_
   refine WL.ag rfl ?_
   refine WL.z ?_
   refine WC.r ?_
   refine WL.mv rfl ?_
   refine WL.cond (X.geq rfl rfl) (by decide) (fun h13 => ?_) (fun h13 => ?_)
   ·refine WL.z ?_
    refine WC.condT rfl ?_
    refine WC.r ?_
    refine WL.mv rfl ?_
    refine WL.ag rfl ?_
    refine WL.ag rfl ?_
    refine WL.z ?_
    refine WC.ret ?_
    refine WK.rThen ?_
    refine WK.ret2 rfl rfl rfl (fun w' hw' => Ret.exact hw' ?_)
    first | exact tup2 (int_eq (by rw [marksR_drum (by omega)])) (int_eq (by rw [marksR_drum (by omega)])) | exact tup2 (int_eq (by rw [marksR_big (by omega) (by omega)])) (int_eq (by rw [marksR_big (by omega) (by omega)])) | exact tup2 (int_eq (by rw [marksR_ok (by omega) (by omega) (idxF_neg (by omega))])) (int_eq (by rw [marksR_ok (by omega) (by omega) (idxF_neg (by omega))])) | exact tup2 (int_eq (by rw [marksR_idx (by omega) (by omega) (by omega)])) (int_eq (by rw [marksR_idx (by omega) (by omega) (by omega)]))
   ·refine WL.z ?_
    refine WC.condF rfl ?_
    refine WC.skip ?_
    refine WK.nThen ?_
    refine WC.r ?_
    refine WL.ag rfl ?_
    refine WL.ag rfl ?_
    refine WL.z ?_
    refine WC.ret ?_
    refine WK.ret2 rfl rfl rfl (fun w' hw' => Ret.exact hw' ?_)
    first | exact tup2 (int_eq (by rw [marksR_drum (by omega)])) (int_eq (by rw [marksR_drum (by omega)])) | exact tup2 (int_eq (by rw [marksR_big (by omega) (by omega)])) (int_eq (by rw [marksR_big (by omega) (by omega)])) | exact tup2 (int_eq (by rw [marksR_ok (by omega) (by omega) (idxF_neg (by omega))])) (int_eq (by rw [marksR_ok (by omega) (by omega) (idxF_neg (by omega))])) | exact tup2 (int_eq (by rw [marksR_idx (by omega) (by omega) (by omega)])) (int_eq (by rw [marksR_idx (by omega) (by omega) (by omega)]))

theorem checked135 (m : Mem) (cd : List Value) (d : Drum) (hd : Enc.rd m cd d) (vm_ : Value) (m_ : List Mark) (hm_ : Sl m vm_ m_)   : Exact Tryz.prog 135 #[.agg cd.toArray, vm_] m (.int .i64 (chkE d m_)) := by
 obtain ⟨v1, v3, rfl, hs2, hs4⟩ := hd
 have hl5 := hs2.le
 have hl6 := hs4.le
 have lm_ := hm_.le
 refine Exact.start Tryz.func135 rfl Tryz.ntmps135 rfl fun wld => ?_
 refine WC.r ?_
 refine WL.tn (T.boxB rfl rfl) (by decide) fun b7 => ?_
 refine WL.ag rfl ?_
 refine WL.z ?_
 refine WC.r ?_
 refine WL.y (X.loadBA (k := 0) Tryz.isAgg31 Tryz.sizeOf31 rfl rfl rfl) ?_
 refine WL.mv rfl ?_
 refine WL.y (X.call Tryz.call173 rfl (marks173 _ _ d ⟨_, _, rfl, hs2, hs4⟩ _ _ hm_ )) ?_
 refine WL.mv rfl ?_
 refine WL.y (X.extract rfl rfl) ?_
 refine WL.y (X.extract rfl rfl) ?_
 refine WL.ag rfl ?_
 refine WL.ag rfl ?_
 refine WL.z ?_
 refine WC.seq ?_
 refine WC.r ?_
 refine WL.mv rfl ?_
 refine WL.cond (X.eql rfl rfl) (by decide) (fun h8 => ?_) (fun h8 => ?_)
 ·refine WL.z ?_
  refine WC.condT rfl ?_
  refine WC.r ?_
  refine WL.ag rfl ?_
  refine WL.z ?_
  refine WC.ret ?_
  refine WK.rThen ?_
  refine WK.ret1 rfl rfl (fun w' hw' => Ret.exact hw' ?_)
  first | exact int_eq (by unfold chkE; rw [if_pos (by assumption)]) | exact int_eq (by unfold chkE; rw [if_neg (by assumption)])
 ·refine WL.z ?_
  refine WC.condF rfl ?_
  refine WC.skip ?_
  refine WK.nThen ?_
  refine WC.r ?_
  refine WL.mv rfl ?_
  refine WL.ag rfl ?_
  refine WL.z ?_
  refine WC.ret ?_
  refine WK.ret1 rfl rfl (fun w' hw' => Ret.exact hw' ?_)
  first | exact int_eq (by unfold chkE; rw [if_pos (by assumption)]) | exact int_eq (by unfold chkE; rw [if_neg (by assumption)])

theorem clone207 (m : Mem) {v : Value} {L : List Span} (hL : Sl m v L) (hn : L.length ≤ 1000) : Mut Tryz.prog 207 #[v] m [] (fun _ Es u => Es = [rowF u 23 L] ∧ u.oneCell' = true) := by
 refine Mut.start Tryz.func207 rfl Tryz.ntmps207 rfl fun wld => ?_
 refine WC.r ?_
 refine WL.ag rfl ?_
 refine WL.z ?_
 refine WC.seq ?_
 refine WC.r ?_
 refine WL.mv rfl ?_
 refine WL.condb (X.eqlNil Tryz.underlying28 rfl rfl hL) (by decide) (fun h1 => ?_) (fun h1 => ?_)
 ·refine WL.z ?_
  refine WC.condT rfl ?_
  refine WC.seq ?_
  obtain rfl := hL.nil_of (by assumption)
  refine WK.ownF Span 23 ?_
  refine WC.region ?_
  refine WL.ag rfl ?_
  refine WL.z ?_
  refine WC.ret ?_
  refine WK.rThen ?_
  refine WK.ret1 rfl rfl (fun w' hw' => Ret.mut hw' ?_)
  first | exact ⟨rfl, rfl⟩ | exact ⟨rfl, ho_⟩
 ·refine WL.z ?_
  refine WC.condF rfl ?_
  refine WC.skip ?_
  refine WK.nThen ?_
  refine WC.r ?_
  refine WL.ta (T.lit0 (α := Span) sl28 rfl) (by decide) (fun v2 => ?_)
  refine WL.mv rfl ?_
  refine WL.ta (T.appendFl (α := Span) (fun _ _ _ h => h) (k := 0) sl28 rfl rfl hL rfl (by first | omega | (simp; omega)) (by first | omega | (simp; omega))) (by decide) (fun v3 => ?_)
  refine WL.own1 (k := 0) rfl (fun ho_ => ?_)
  refine WL.ag rfl ?_
  refine WL.z ?_
  refine WC.ret ?_
  refine WK.ret1 rfl rfl (fun w' hw' => Ret.mut hw' ?_)
  first | exact ⟨rfl, rfl⟩ | exact ⟨rfl, ho_⟩

theorem equal220 (m : Mem) (va : Value) (a : List Span) (ha : Sl m va a) (vb : Value) (b : List Span) (hb : Sl m vb b)   : Exact Tryz.prog 220 #[va, vb] m (.bool (decide (a = b))) := by
 have la := ha.le
 have lb := hb.le
 refine Exact.start Tryz.func220 rfl Tryz.ntmps220 rfl fun wld => ?_
 refine WC.r ?_
 refine WL.ag rfl ?_
 refine WL.z ?_
 refine WC.seq ?_
 refine WC.r ?_
 refine WL.mv rfl ?_
 refine WL.y (X.len Tryz.runUnderlying28 rfl ha) ?_
 refine WL.mv rfl ?_
 refine WL.y (X.len Tryz.runUnderlying28 rfl hb) ?_
 refine WL.condn (X.neq rfl rfl) (by decide) (fun h1 => ?_) (fun h1 => ?_)
 ·refine WL.z ?_
  refine WC.condT rfl ?_
  refine WC.r ?_
  refine WL.ag rfl ?_
  refine WL.z ?_
  refine WC.ret ?_
  refine WK.rThen ?_
  refine WK.ret1 rfl rfl (fun w' hw' => Ret.exact hw' ?_)
  first | exact bool_false (fun e => by subst e; omega) | exact bool_false (fun e => by subst e; contradiction) | exact bool_true (ext_gt (by omega) (fun j hj => hall j (by omega)))
 ·refine WL.z ?_
  refine WC.condF rfl ?_
  refine WC.skip ?_
  refine WK.nThen ?_
  refine WC.seq ?_
  refine WC.r ?_
  refine WL.mv rfl ?_
  refine WL.y (X.len Tryz.runUnderlying28 rfl ha) ?_
  refine WL.mv rfl ?_
  refine WL.z ?_
  refine WC.block ?_
  refine WC.loop (G := Nat) (fun k => a.length - k) (fun k => m) (fun k => []) (fun k => [(0, va), (1, vb), (12, .int .i64 (↑a.length)), (13, .int .i64 (↑k))]) (fun k => k ≤ a.length ∧ (∀ j, j < k → gt a j = gt b j)) 0 rfl (.refl _) (.cons rfl (.cons rfl (.cons rfl (.cons rfl .nil)))) ?_ ?_
  ·exact ⟨Nat.zero_le _, fun j hj => absurd hj (Nat.not_lt_zero _)⟩
  ·rintro k hF2
   show WK _ _ m [] [(0, va), (1, vb), (12, .int .i64 (↑a.length)), (13, .int .i64 (↑k))] _
   replace hF2 : k ≤ a.length ∧ (∀ j, j < k → gt a j = gt b j) := hF2
   obtain ⟨hk, hall⟩ := hF2
   refine WC.r ?_
   refine WL.cond (X.lss rfl rfl) (by decide) (fun h3 => ?_) (fun h3 => ?_)
   ·refine WL.z ?_
    refine WC.seq ?_
    refine WC.condT rfl ?_
    refine WC.skip ?_
    refine WK.nThen ?_
    refine WC.seq ?_
    refine WC.block ?_
    refine WC.r ?_
    refine WL.mv rfl ?_
    refine WL.ag rfl ?_
    refine WL.z ?_
    refine WC.seq ?_
    refine WC.draw (π := (.cons 0 (.cons 1 (.cons 2 (.cons 3 (.cons 4 (.cons 5 (.cons 6 (.cons 7 (.cons 8 .done)))))))))) [] [] rfl (by kernel_rfl) ?_
    refine DW.y rfl rfl (X.move rfl) ?_
    refine DW.y rfl rfl (X.move rfl) ?_
    refine DW.xe rfl rfl (E.idxN k Tryz.runUnderlying28 Tryz.sizeOf23 rfl rfl ha (by omega)) (by decide) (fun p4 hp5 => ?_)
    refine DW.xe rfl rfl (E.loadAgg Tryz.isAgg23 Tryz.sizeOf23 rfl hp5) (by decide) (fun c6 hc7 => ?_)
    obtain rfl := hc7
    refine DW.y rfl rfl (X.move rfl) ?_
    refine DW.y rfl rfl (X.move rfl) ?_
    refine DW.xe rfl rfl (E.idxN k Tryz.runUnderlying28 Tryz.sizeOf23 rfl rfl hb (by omega)) (by decide) (fun p8 hp9 => ?_)
    refine DW.xe rfl rfl (E.loadAgg Tryz.isAgg23 Tryz.sizeOf23 rfl hp9) (by decide) (fun c10 hc11 => ?_)
    obtain rfl := hc11
    refine DW.condn rfl rfl (X.neqS (a := gt a k) (b := gt b k) gd23 (fun w => eqS23 9998 _ _ w) rfl rfl) (by decide) (fun h12 => ?_) (fun h12 => ?_)
    ·refine DW.nil ?_
     refine WK.nThen ?_
     refine WC.condT rfl ?_
     refine WC.r ?_
     refine WL.ag rfl ?_
     refine WL.z ?_
     refine WC.ret ?_
     refine WK.rBlock ?_
     refine WK.rThen ?_
     refine WK.rThen ?_
     refine WK.rBlock ?_
     refine WK.rThen ?_
     refine WK.ret1 rfl rfl (fun w' hw' => Ret.exact hw' ?_)
     first | exact bool_false (fun e => by subst e; omega) | exact bool_false (fun e => by subst e; contradiction) | exact bool_true (ext_gt (by omega) (fun j hj => hall j (by omega)))
    ·refine DW.nil ?_
     refine WK.nThen ?_
     refine WC.condF rfl ?_
     refine WC.skip ?_
     refine WK.nBlock ?_
     refine WK.nThen ?_
     refine WC.region ?_
     refine WL.y (X.add rfl rfl (by omega) (by omega)) ?_
     refine WL.mv rfl ?_
     refine WL.z ?_
     refine WK.next (k + 1) rfl (.refl _) (.cons rfl (.cons rfl (.cons rfl (.cons rfl .nil)))) ?_ ?_
     ·exact ⟨by omega, fun j hj => by rcases Nat.lt_succ_iff_lt_or_eq.1 hj with h | h; exact hall j h; subst h; assumption⟩
     ·omega
   ·refine WL.z ?_
    refine WC.seq ?_
    refine WC.condF rfl ?_
    refine WC.exit ?_
    refine WK.eThen ?_
    refine WK.eThen ?_
    refine WK.eHit ?_
    refine WK.nThen ?_
    refine WC.r ?_
    refine WL.ag rfl ?_
    refine WL.z ?_
    refine WC.ret ?_
    refine WK.ret1 rfl rfl (fun w' hw' => Ret.exact hw' ?_)
    first | exact bool_false (fun e => by subst e; omega) | exact bool_false (fun e => by subst e; contradiction) | exact bool_true (ext_gt (by omega) (fun j hj => hall j (by omega)))

theorem ends261 (m : Mem) (a : Int) (b : Int)   : Exact Tryz.prog 261 #[.int .i64 (a), .int .i64 (b)] m (.tuple #[.int .i64 (min a b), .int .i64 (max a b)]) := by
 refine Exact.start Tryz.func261 rfl Tryz.ntmps261 rfl fun wld => ?_
 refine WC.r ?_
 refine WL.ag rfl ?_
 refine WL.ag rfl ?_
 refine WL.z ?_
 refine WC.r ?_
 refine WL.mv rfl ?_
 refine WL.mv rfl ?_
 refine WL.y (X.mn rfl rfl) ?_
 refine WL.mv rfl ?_
 refine WL.mv rfl ?_
 refine WL.y (X.mx rfl rfl) ?_
 refine WL.ag rfl ?_
 refine WL.ag rfl ?_
 refine WL.z ?_
 refine WC.ret ?_
 refine WK.ret2 rfl rfl rfl (fun w' hw' => Ret.exact hw' ?_)
 first | rfl | (simp [*]; done)

theorem mul304 (m : Mem) (y : Int) (h0 : 0 ≤ y) (h1 : y ≤ 100000) : Exact Tryz.prog 304 #[.int .u64 1, .int .u64 y] m (.tuple #[.int .u64 0, .int .u64 y]) := by
 refine Exact.start Tryz.func304 rfl Tryz.ntmps304 rfl fun wld => ?_
 refine WC.r ?_
 refine WL.ag rfl ?_
 refine WL.ag rfl ?_
 refine WL.z ?_
 refine WC.r ?_
 refine WL.mv rfl ?_
 refine WL.y (X.andU rfl rfl (by first | omega | (simp; omega) | (simp; done)) (by first | omega | (simp; omega) | (simp; done))) ?_
 refine WL.ag rfl ?_
 refine WL.z ?_
 refine WC.r ?_
 refine WL.mv rfl ?_
 refine WL.y (X.shr32 rfl rfl (by first | omega | (simp; omega) | (simp; done)) (by first | omega | (simp; omega) | (simp; done))) ?_
 refine WL.ag rfl ?_
 refine WL.z ?_
 refine WC.r ?_
 refine WL.mv rfl ?_
 refine WL.y (X.andU rfl rfl (by first | omega | (simp; omega) | (simp; done)) (by first | omega | (simp; omega) | (simp; done))) ?_
 refine WL.ag rfl ?_
 refine WL.z ?_
 refine WC.r ?_
 refine WL.mv rfl ?_
 refine WL.y (X.shr32 rfl rfl (by first | omega | (simp; omega) | (simp; done)) (by first | omega | (simp; omega) | (simp; done))) ?_
 refine WL.ag rfl ?_
 refine WL.z ?_
 refine WC.r ?_
 refine WL.mv rfl ?_
 refine WL.mv rfl ?_
 refine WL.y (X.mulU rfl rfl (by first | omega | (simp; omega) | (simp; done)) (by first | omega | (simp; omega) | (simp; done))) ?_
 refine WL.ag rfl ?_
 refine WL.z ?_
 refine WC.r ?_
 refine WL.mv rfl ?_
 refine WL.mv rfl ?_
 refine WL.y (X.mulU rfl rfl (by first | omega | (simp; omega) | (simp; done)) (by first | omega | (simp; omega) | (simp; done))) ?_
 refine WL.mv rfl ?_
 refine WL.y (X.shr32 rfl rfl (by first | omega | (simp; omega) | (simp; done)) (by first | omega | (simp; omega) | (simp; done))) ?_
 refine WL.y (X.addU rfl rfl (by first | omega | (simp; omega) | (simp; done)) (by first | omega | (simp; omega) | (simp; done))) ?_
 refine WL.ag rfl ?_
 refine WL.z ?_
 refine WC.r ?_
 refine WL.mv rfl ?_
 refine WL.y (X.andU rfl rfl (by first | omega | (simp; omega) | (simp; done)) (by first | omega | (simp; omega) | (simp; done))) ?_
 refine WL.ag rfl ?_
 refine WL.z ?_
 refine WC.r ?_
 refine WL.mv rfl ?_
 refine WL.y (X.shr32 rfl rfl (by first | omega | (simp; omega) | (simp; done)) (by first | omega | (simp; omega) | (simp; done))) ?_
 refine WL.ag rfl ?_
 refine WL.z ?_
 refine WC.r ?_
 refine WL.mv rfl ?_
 refine WL.mv rfl ?_
 refine WL.mv rfl ?_
 refine WL.y (X.mulU rfl rfl (by first | omega | (simp; omega) | (simp; done)) (by first | omega | (simp; omega) | (simp; done))) ?_
 refine WL.y (X.addU rfl rfl (by first | omega | (simp; omega) | (simp; done)) (by first | omega | (simp; omega) | (simp; done))) ?_
 refine WL.ag rfl ?_
 refine WL.z ?_
 refine WC.r ?_
 refine WL.mv rfl ?_
 refine WL.mv rfl ?_
 refine WL.y (X.mulU rfl rfl (by first | omega | (simp; omega) | (simp; done)) (by first | omega | (simp; omega) | (simp; done))) ?_
 refine WL.mv rfl ?_
 refine WL.y (X.addU rfl rfl (by first | omega | (simp; omega) | (simp; done)) (by first | omega | (simp; omega) | (simp; done))) ?_
 refine WL.mv rfl ?_
 refine WL.y (X.shr32 rfl rfl (by first | omega | (simp; omega) | (simp; done)) (by first | omega | (simp; omega) | (simp; done))) ?_
 refine WL.y (X.addU rfl rfl (by first | omega | (simp; omega) | (simp; done)) (by first | omega | (simp; omega) | (simp; done))) ?_
 refine WL.ag rfl ?_
 refine WL.z ?_
 refine WC.r ?_
 refine WL.mv rfl ?_
 refine WL.mv rfl ?_
 refine WL.y (X.mulU rfl rfl (by first | omega | (simp; omega) | (simp; done)) (by first | omega | (simp; omega) | (simp; done))) ?_
 refine WL.ag rfl ?_
 refine WL.z ?_
 refine WC.ret ?_
 refine WK.ret2 rfl rfl rfl (fun w' hw' => Ret.exact hw' ?_)
 exact tup2 (by simp) (by simp)

theorem mul260 (m : Mem) (y : Int) (h0 : 0 ≤ y) (h1 : y ≤ 100000) : Exact Tryz.prog 260 #[.int .u64 1, .int .u64 y] m (.tuple #[.int .u64 0, .int .u64 y]) := by
 refine Exact.start Tryz.func260 rfl Tryz.ntmps260 rfl fun wld => ?_
 refine WC.r ?_
 refine WL.ag rfl ?_
 refine WL.ag rfl ?_
 refine WL.z ?_
 refine WC.seq ?_
 refine WC.condF rfl ?_
 refine WC.skip ?_
 refine WK.nThen ?_
 refine WC.r ?_
 refine WL.mv rfl ?_
 refine WL.mv rfl ?_
 refine WL.y (X.call Tryz.call304 rfl (mul304 _ y h0 h1)) ?_
 refine WL.mv rfl ?_
 refine WL.y (X.extract rfl rfl) ?_
 refine WL.y (X.extract rfl rfl) ?_
 refine WL.ag rfl ?_
 refine WL.ag rfl ?_
 refine WL.z ?_
 refine WC.r ?_
 refine WL.mv rfl ?_
 refine WL.mv rfl ?_
 refine WL.ag rfl ?_
 refine WL.ag rfl ?_
 refine WL.z ?_
 refine WC.ret ?_
 refine WK.ret2 rfl rfl rfl (fun w' hw' => Ret.exact hw' ?_)
 first | rfl | (simp [*]; done)

theorem repeat215 (m : Mem) {vx : Value} {x : Span} (hx : Sl m vx [x]) {i : Int} {n : Nat} (hi : i = n) (hn : 0 < n ∧ n ≤ 1000) : Mut Tryz.prog 215 #[vx, .int .i64 i] m [] (fun _ Es u => Es = [rowF u 23 (List.replicate n x)] ∧ u.oneCell' = true) := by
 subst hi
 have hx1_ : ([x] : List Span).length = 1 := rfl
 refine Mut.start Tryz.func215 rfl Tryz.ntmps215 rfl fun wld => ?_
 refine WC.r ?_
 refine WL.ag rfl ?_
 refine WL.z ?_
 refine WC.seq ?_
 refine WC.r ?_
 refine WL.mv rfl ?_
 refine WL.y (OpX.f (X.lss rfl rfl) (by omega)) ?_
 refine WL.z ?_
 refine WC.condF rfl ?_
 refine WC.skip ?_
 refine WK.nThen ?_
 refine WC.r ?_
 refine WL.mv rfl ?_
 refine WL.y (X.len Tryz.runUnderlying28 rfl hx) ?_
 refine WL.y (X.conv Tryz.runUnderlying3 Tryz.runUnderlying358 rfl (wrap_u64 (by omega) (by omega))) ?_
 refine WL.mv rfl ?_
 refine WL.y (X.conv Tryz.runUnderlying3 Tryz.runUnderlying358 rfl (wrap_u64 (by omega) (by omega))) ?_
 refine WL.y (X.call Tryz.call260 rfl (mul260 _ ↑n (by omega) (by omega))) ?_
 refine WL.mv rfl ?_
 refine WL.y (X.extract rfl rfl) ?_
 refine WL.y (X.extract rfl rfl) ?_
 refine WL.ag rfl ?_
 refine WL.ag rfl ?_
 refine WL.z ?_
 refine WC.seq ?_
 refine WC.r ?_
 refine WL.mv rfl ?_
 refine WL.y (X.gtr rfl rfl) ?_
 refine WL.mv rfl ?_
 refine WL.yes rfl rfl ?_
 refine WL.mv rfl ?_
 refine WL.yes rfl rfl ?_
 refine WL.y (OpX.f (X.gtr rfl rfl) (by omega)) ?_
 refine WL.y (X.pickF rfl rfl rfl) ?_
 refine WL.z ?_
 refine WC.condF rfl ?_
 refine WC.skip ?_
 refine WK.nThen ?_
 refine WC.r ?_
 refine WL.mv rfl ?_
 refine WL.y (X.conv Tryz.runUnderlying358 Tryz.runUnderlying3 rfl (wrap_in (by omega) (by omega))) ?_
 refine WL.ta (T.makeN n (a := (Span.mk (0) (0))) sl28 rfl rfl rfl (by omega) (by decide)) (by decide) (fun v1 => ?_)
 refine WL.ag rfl ?_
 refine WL.z ?_
 refine WC.seq ?_
 refine WK.form (k := 0) rfl (by simp; omega) (fun g_ c_ hv_ hc_ => ?_)
 simp only [List.length_replicate] at hv_ hc_
 subst hv_
 refine WC.region ?_
 refine WL.mv rfl ?_
 refine WL.mv rfl ?_
 refine WL.tv (T.copyM (α := Span) (fun _ _ _ h => h) (k := 0) Tryz.underlying28 Tryz.sizeOf23 rfl rfl hx rfl (by simp) (by simp) (by simp; omega)) (by decide) ?_
 refine WL.ag rfl ?_
 refine WL.z ?_
 refine WC.seq ?_
 refine WC.block ?_
 have he2 : ([x] ++ (List.replicate n (Span.mk (0) (0))).drop [x].length) = (repL x (Span.mk 0 0) n 1) := rep_start _ _ (by omega)
 rw [he2]
 refine WC.loop (G := Nat) (fun k => n - k) (fun k => m) (fun k => [rowF (.slice (some ⟨g_, 0, none⟩) n c_) 23 (repL x (Span.mk 0 0) n k)]) (fun k => [(7, .slice (some ⟨g_, 0, none⟩) n c_), (8, .int .i64 (↑k))]) (fun k => 1 ≤ k ∧ k ≤ n) 1 rfl (.refl _) (.cons rfl (.cons rfl .nil)) ?_ ?_
 ·omega
 ·rintro k hF3
  show WK _ _ m [rowF (.slice (some ⟨g_, 0, none⟩) n c_) 23 (repL x (Span.mk 0 0) n k)] [(7, .slice (some ⟨g_, 0, none⟩) n c_), (8, .int .i64 (↑k))] _
  replace hF3 : 1 ≤ k ∧ k ≤ n := hF3
  have hk := hF3
  have hrl := repL_len (x := x) (z := (Span.mk 0 0)) hk.2
  refine WC.seq ?_
  refine WC.r ?_
  refine WL.mv rfl ?_
  refine WL.mv rfl ?_
  refine WL.y (X.lenF (k := 0) Tryz.runUnderlying28 rfl rfl) ?_
  refine WL.cond (X.lss rfl rfl) (by decide) (fun h4 => ?_) (fun h4 => ?_)
  ·refine WL.z ?_
   refine WC.condT rfl ?_
   refine WC.skip ?_
   refine WK.nThen ?_
   refine WC.block ?_
   refine WC.draw (π := (.cons 0 (.cons 1 (.cons 2 (.cons 3 (.cons 4 (.cons 5 (.cons 6 (.cons 7 (.cons 8 (.cons 9 .done))))))))))) [7] [7] rfl (by kernel_rfl) ?_
   refine DW.y rfl rfl (X.move rfl) ?_
   refine DW.y rfl rfl (X.move rfl) ?_
   refine DW.y rfl rfl (X.move rfl) ?_
   refine DW.y rfl rfl (X.slLo (n := n) (c := c_) k Tryz.underlying28 Tryz.sizeOf23 rfl rfl (by omega) (by omega) hc_) ?_
   refine DW.y rfl rfl (X.move rfl) ?_
   refine DW.y rfl rfl (X.move rfl) ?_
   refine DW.y rfl rfl (X.slHi (n := n) (c := c_) k Tryz.underlying28 Tryz.sizeOf23 rfl rfl (by omega) (by omega) hc_) ?_
   refine DW.tv rfl rfl rfl rfl (T.copyS (α := Span) (a := k) (k := 0) Tryz.underlying28 Tryz.sizeOf23 rfl rfl rfl (repL_len (by omega)) (by omega) (by omega)) (by decide) ?_
   refine DW.y rfl rfl (X.add rfl rfl (by omega) (by omega)) ?_
   refine DW.y rfl rfl (X.assign rfl) ?_
   refine DW.nil ?_
   refine WK.nBlock ?_
   refine WK.nThen ?_
   have he5 : ((repL x (Span.mk 0 0) n k).take k ++ (repL x (Span.mk 0 0) n k).take (min k (n - k)) ++ (repL x (Span.mk 0 0) n k).drop (k + min k (n - k))) = (repL x (Span.mk 0 0) n (k + min k (n - k))) := rep_step
   rw [he5]
   refine WK.next (k + min k (n - k)) rfl (.refl _) (.cons rfl (.cons rfl .nil)) ?_ ?_
   ·omega
   ·omega
  ·refine WL.z ?_
   refine WC.condF rfl ?_
   refine WC.exit ?_
   refine WK.eThen ?_
   refine WK.eThen ?_
   refine WK.eHit ?_
   refine WK.nThen ?_
   refine WC.seq ?_
   have he6 : (repL x (Span.mk 0 0) n k) = (List.replicate n x) := (by rw [show k = n by omega]; exact rep_end _ _ _)
   rw [he6]
   refine WC.region ?_
   refine WL.mv rfl ?_
   refine WL.ag rfl ?_
   refine WL.z ?_
   refine WC.ret ?_
   refine WK.ret1 rfl rfl (fun w' hw' => Ret.mut hw' ?_)
   exact ⟨rfl, rfl⟩

theorem narrow216 (m : Mem) {b : Nat} {vg va : Value} {L : List Span} {k : Nat} {ik : Int} (hik : ik = k) (hk : k < L.length) (s : Span) : Mut Tryz.prog 216 #[.pointer (some ⟨b, 0, none⟩), .int .i64 ik, .agg [.int .i64 s.Lo, .int .i64 s.Hi].toArray] m [blk b 174 [vg, va], rowF va 23 L] (fun _ Es v => v = .tuple #[] ∧ Es = [blk b 174 [vg, va], rowF va 23 (L.set k (meet (gt L k) s))]) := by
 subst hik
 refine Mut.start Tryz.func216 rfl Tryz.ntmps216 rfl fun wld => ?_
 refine WC.r ?_
 refine WL.tn (T.boxB rfl rfl) (by decide) fun b1 => ?_
 refine WL.z ?_
 refine WC.r ?_
 refine WL.mv rfl ?_
 refine WL.y (X.nilCheck rfl) ?_
 refine WL.y (X.field Tryz.runUnderlying174 rfl Tryz.sizeOf28 rfl) ?_
 refine WL.y (X.loadB (k := 1) Tryz.isAgg28 rfl rfl rfl) ?_
 refine WL.mv rfl ?_
 refine WL.y (X.idxRowE (k := 2) k Tryz.runUnderlying28 Tryz.sizeOf23 rfl rfl rfl (by omega) (by first | omega | (simp; omega) | simp)) ?_
 refine WL.ag rfl ?_
 refine WL.z ?_
 refine WC.seq ?_
 refine WC.draw (π := (.cons 0 (.cons 1 (.cons 2 (.cons 3 (.cons 4 (.cons 5 (.cons 6 (.cons 7 (.cons 8 (.cons 9 (.cons 10 (.cons 11 (.cons 12 (.cons 13 .done))))))))))))))) [13] [13] rfl (by kernel_rfl) ?_
 refine DW.y rfl rfl (X.move rfl) ?_
 refine DW.y rfl rfl (X.move rfl) ?_
 refine DW.y rfl rfl (X.nilCheck rfl) ?_
 refine DW.y rfl rfl (X.field Tryz.runUnderlying23 rfl Tryz.sizeOf3 rfl) ?_
 refine DW.y rfl rfl (X.loadFp (k := 2) (i := k) (off := 0) (u := .int .i64 (((gt L k)).Lo)) Tryz.isAgg3 rfl rfl (by first | omega | (simp; omega) | simp) rfl) ?_
 refine DW.y rfl rfl (X.field Tryz.runUnderlying23 rfl Tryz.sizeOf3 rfl) ?_
 refine DW.y rfl rfl (X.loadB (k := 0) Tryz.isAgg3 rfl rfl rfl) ?_
 refine DW.y rfl rfl (X.call Tryz.call261 rfl (ends261 _ _ _ )) ?_
 refine DW.y rfl rfl (X.move rfl) ?_
 refine DW.y rfl rfl (X.extract rfl rfl) ?_
 refine DW.y rfl rfl (X.extract rfl rfl) ?_
 refine DW.y rfl rfl (X.nilCheck rfl) ?_
 refine DW.y rfl rfl (X.field Tryz.runUnderlying23 rfl Tryz.sizeOf3 rfl) ?_
 refine DW.ts rfl rfl rfl rfl (T.storeFp (k := 2) (i := k) (off := 0) (us := [.int .i64 (max (((gt L k)).Lo) s.Lo)]) ((Span.mk (max (((gt L k)).Lo) s.Lo) (((gt L k)).Hi))) Tryz.sizeOf3 rfl rfl rfl rfl (Nat.zero_lt_succ _) rfl (by first | omega | (simp; omega) | simp) rfl rfl (one_cons rfl one_nil)) ?_
 refine DW.nil ?_
 refine WK.nThen ?_
 have he2 : (L.set k ((Span.mk (max (((gt L k)).Lo) s.Lo) (((gt L k)).Hi)))) = (L.set k ⟨max (gt L k).Lo s.Lo, (gt L k).Hi⟩) := rfl
 rw [he2]
 have hs1_ := gt_set L (a := k) (⟨max (gt L k).Lo s.Lo, (gt L k).Hi⟩ : Span) hk
 rw [if_pos rfl] at hs1_
 have hl1_ : (L.set k ⟨max (gt L k).Lo s.Lo, (gt L k).Hi⟩).length = L.length := (by simp)
 refine WC.draw (π := (.cons 0 (.cons 1 (.cons 2 (.cons 3 (.cons 4 (.cons 5 (.cons 6 (.cons 7 (.cons 8 (.cons 9 (.cons 10 (.cons 11 (.cons 12 (.cons 13 .done))))))))))))))) [13] [13] rfl (by kernel_rfl) ?_
 refine DW.y rfl rfl (X.move rfl) ?_
 refine DW.y rfl rfl (X.move rfl) ?_
 refine DW.y rfl rfl (X.nilCheck rfl) ?_
 refine DW.y rfl rfl (X.field Tryz.runUnderlying23 rfl Tryz.sizeOf3 rfl) ?_
 refine DW.y rfl rfl (X.loadFp (k := 2) (i := k) (off := 1) (u := .int .i64 (((gt (L.set k ⟨max (gt L k).Lo s.Lo, (gt L k).Hi⟩) k)).Hi)) Tryz.isAgg3 rfl rfl (by first | omega | (simp; omega) | simp) rfl) ?_
 refine DW.y rfl rfl (X.field Tryz.runUnderlying23 rfl Tryz.sizeOf3 rfl) ?_
 refine DW.y rfl rfl (X.loadB (k := 0) Tryz.isAgg3 rfl rfl rfl) ?_
 refine DW.y rfl rfl (X.call Tryz.call261 rfl (ends261 _ _ _ )) ?_
 refine DW.y rfl rfl (X.move rfl) ?_
 refine DW.y rfl rfl (X.extract rfl rfl) ?_
 refine DW.y rfl rfl (X.extract rfl rfl) ?_
 refine DW.y rfl rfl (X.nilCheck rfl) ?_
 refine DW.y rfl rfl (X.field Tryz.runUnderlying23 rfl Tryz.sizeOf3 rfl) ?_
 refine DW.ts rfl rfl rfl rfl (T.storeFp (k := 2) (i := k) (off := 1) (us := [.int .i64 (min (((gt (L.set k ⟨max (gt L k).Lo s.Lo, (gt L k).Hi⟩) k)).Hi) s.Hi)]) ((Span.mk (((gt (L.set k ⟨max (gt L k).Lo s.Lo, (gt L k).Hi⟩) k)).Lo) (min (((gt (L.set k ⟨max (gt L k).Lo s.Lo, (gt L k).Hi⟩) k)).Hi) s.Hi))) Tryz.sizeOf3 rfl rfl rfl rfl (Nat.zero_lt_succ _) rfl (by first | omega | (simp; omega) | simp) rfl rfl (one_cons rfl one_nil)) ?_
 refine DW.nil ?_
 refine WK.end0 rfl (fun w' hw' => Ret.mut (hw'.weaken (.cons _ (.refl _))) ?_)
 refine ⟨rfl, ?_⟩
 rw [hs1_, List.set_set]
 rfl

theorem gaps175 (m : Mem) (cd : List Value) (d : Drum) (hd : Enc.rd m cd d)  (hdp : drumP d) : Pure Tryz.prog 175 #[.agg cd.toArray] m (fun m' v => ∃ r0, v = r0 ∧ Sl m' r0 (gapL d)) := by
 obtain ⟨v1, v3, rfl, hs2, hs4⟩ := hd
 have hl5 := hs2.le
 have hl6 := hs4.le
 have hd1 := hdp.1
 refine Pure.start Tryz.func175 rfl Tryz.ntmps175 rfl fun wld => ?_
 refine WC.r ?_
 refine WL.tn (T.boxB rfl rfl) (by decide) fun b7 => ?_
 refine WL.ag rfl ?_
 refine WL.z ?_
 refine WC.r ?_
 refine WL.y (X.field Tryz.runUnderlying31 rfl Tryz.sizeOf28 rfl) ?_
 refine WL.y (X.loadB (k := 0) Tryz.isAgg28 rfl rfl rfl) ?_
 refine WL.tM (T.callO Tryz.call207 rfl (clone207 _ hs2 (by omega))) (by decide) (fun m8 Es9 v10 hle11 hR_ => ?_)
 obtain ⟨rfl, ho12⟩ := hR_
 replace hs2 := hs2.mono hle11
 replace hs4 := hs4.mono hle11
 refine WL.ag rfl ?_
 refine WL.z ?_
 refine WC.seq ?_
 refine WC.r ?_
 refine WL.y (X.field Tryz.runUnderlying31 rfl Tryz.sizeOf29 rfl) ?_
 refine WL.y (X.loadB (k := 1) Tryz.isAgg29 rfl rfl rfl) ?_
 refine WL.y (X.len Tryz.runUnderlying29 rfl hs4) ?_
 refine WL.mv rfl ?_
 refine WL.z ?_
 refine WC.block ?_
 have he13 : d.Rates = ((List.range d.Rates.length).map (fun c => gapN d c 0)) := (map_gt d.Rates).symm
 rw [he13]
 refine WC.loop (G := Nat) (fun k => d.Stops.length - k) (fun k => m8) (fun k => [rowF (v10) 23 ((List.range d.Rates.length).map (fun c => gapN d c k)), blk b7 31 [v1, v3]]) (fun k => [(3, v10), (10, v3), (11, .int .i64 (↑d.Stops.length)), (12, .int .i64 (↑k))]) (fun k => k ≤ d.Stops.length) 0 rfl (.refl _) (.cons rfl (.cons rfl (.cons rfl (.cons rfl .nil)))) ?_ ?_
 ·exact Nat.zero_le _
 ·rintro k hF14
  show WK _ _ m8 [rowF (v10) 23 ((List.range d.Rates.length).map (fun c => gapN d c k)), blk b7 31 [v1, v3]] [(3, v10), (10, v3), (11, .int .i64 (↑d.Stops.length)), (12, .int .i64 (↑k))] _
  replace hF14 : k ≤ d.Stops.length := hF14
  have hk := hF14
  have hso := fun h => stop_ok hdp (i := k) h
  have hll : ((List.range d.Rates.length).map (fun c => gapN d c k)).length = d.Rates.length := (by simp)
  refine WC.r ?_
  refine WL.cond (X.lss rfl rfl) (by decide) (fun h15 => ?_) (fun h15 => ?_)
  ·refine WL.z ?_
   refine WC.seq ?_
   refine WC.condT rfl ?_
   refine WC.skip ?_
   refine WK.nThen ?_
   refine WC.seq ?_
   refine WC.block ?_
   refine WC.r ?_
   refine WL.xe (E.idxN k Tryz.runUnderlying29 Tryz.sizeOf108 rfl rfl hs4 (by omega)) (by decide) (fun p16 hp17 => ?_)
   refine WL.xe (E.loadAgg Tryz.isAgg108 Tryz.sizeOf108 rfl hp17) (by decide) (fun c18 hc19 => ?_)
   obtain rfl := hc19
   refine WL.tn (T.alloc Tryz.zeroValue108 rfl) (by decide) fun b20 => ?_
   refine WL.ts (T.storeBA (k := 0) Tryz.sizeOf108 rfl rfl rfl (one_cons rfl (one_cons rfl (one_cons rfl one_nil))) rfl rfl) ?_
   refine WL.z ?_
   refine WC.seq ?_
   have hso1 := hso (by omega)
   have hso2 := hso1.1
   have hso3 := hso1.2
   unfold spOk at hso3
   have hgb := gapN_bd hdp (c := ((gt d.Stops k).Column : Int).toNat) (by omega) k (by omega)
   have hgc0 := gt_map (f := fun c => gapN d c k) (n := d.Rates.length) (i := ((gt d.Stops k).Column : Int).toNat) (by omega)
   have hg1_ := congrArg Span.Lo hgc0
   have hg2_ := congrArg Span.Hi hgc0
   try dsimp only at hg1_ hg2_
   refine WC.draw (π := (.cons 0 (.cons 1 (.cons 2 (.cons 3 (.cons 4 (.cons 5 (.cons 6 (.cons 7 (.cons 8 (.cons 9 (.cons 10 (.cons 11 (.cons 12 .done)))))))))))))) [12] [12] rfl (by kernel_rfl) ?_
   refine DW.y rfl rfl (X.move rfl) ?_
   refine DW.y rfl rfl (X.field Tryz.runUnderlying108 rfl Tryz.sizeOf3 rfl) ?_
   refine DW.y rfl rfl (X.loadB (k := 0) Tryz.isAgg3 rfl rfl rfl) ?_
   refine DW.y rfl rfl (X.idxRow (k := 1) Tryz.runUnderlying28 Tryz.sizeOf23 rfl rfl rfl (by first | omega | (simp; omega) | simp) (by first | omega | (simp; omega) | simp)) ?_
   refine DW.y rfl rfl (X.field Tryz.runUnderlying23 rfl Tryz.sizeOf3 rfl) ?_
   refine DW.y rfl rfl (X.loadFp (k := 1) (i := ((gt d.Stops k).Column : Int).toNat) (off := 0) (u := .int .i64 (((gt ((List.range d.Rates.length).map (fun c => gapN d c k)) (((gt d.Stops k).Column : Int).toNat))).Lo)) Tryz.isAgg3 rfl rfl (by first | omega | (simp; omega) | simp) rfl) ?_
   refine DW.y rfl rfl (X.field Tryz.runUnderlying108 rfl Tryz.sizeOf23 rfl) ?_
   refine DW.y rfl rfl (X.field Tryz.runUnderlying23 rfl Tryz.sizeOf3 rfl) ?_
   refine DW.y rfl rfl (X.loadB (k := 0) Tryz.isAgg3 rfl rfl rfl) ?_
   refine DW.y rfl rfl (X.add rfl rfl (by omega) (by omega)) ?_
   refine DW.y rfl rfl (X.idxRow (k := 1) Tryz.runUnderlying28 Tryz.sizeOf23 rfl rfl rfl (by first | omega | (simp; omega) | simp) (by first | omega | (simp; omega) | simp)) ?_
   refine DW.y rfl rfl (X.field Tryz.runUnderlying23 rfl Tryz.sizeOf3 rfl) ?_
   refine DW.ts rfl rfl rfl rfl (T.storeFp (k := 1) (i := ((gt d.Stops k).Column : Int).toNat) (off := 0) (us := [.int .i64 ((((gt ((List.range d.Rates.length).map (fun c => gapN d c k)) (((gt d.Stops k).Column : Int).toNat))).Lo) + (((gt d.Stops k).Ticks).Lo))]) ((Span.mk ((((gt ((List.range d.Rates.length).map (fun c => gapN d c k)) (((gt d.Stops k).Column : Int).toNat))).Lo) + (((gt d.Stops k).Ticks).Lo)) (((gt ((List.range d.Rates.length).map (fun c => gapN d c k)) (((gt d.Stops k).Column : Int).toNat))).Hi))) Tryz.sizeOf3 rfl rfl rfl rfl (Nat.zero_lt_succ _) rfl (by first | omega | (simp; omega) | simp) rfl rfl (one_cons rfl one_nil)) ?_
   refine DW.nil ?_
   refine WK.nThen ?_
   have hgc := gt_map (f := fun c => gapN d c k) (n := d.Rates.length) (i := ((gt d.Stops k).Column : Int).toNat) (by omega)
   have hs1_ := gt_set ((List.range d.Rates.length).map (fun c => gapN d c k)) (a := ((gt d.Stops k).Column : Int).toNat) (b := ((gt d.Stops k).Column : Int).toNat) (Span.mk ((gapN d ((gt d.Stops k).Column : Int).toNat k).Lo + (gt d.Stops k).Ticks.Lo) (gapN d ((gt d.Stops k).Column : Int).toNat k).Hi) (by simp; omega)
   rw [if_pos rfl] at hs1_
   have hl1_ : (((List.range d.Rates.length).map (fun c => gapN d c k)).set ((gt d.Stops k).Column : Int).toNat (Span.mk ((gapN d ((gt d.Stops k).Column : Int).toNat k).Lo + (gt d.Stops k).Ticks.Lo) (gapN d ((gt d.Stops k).Column : Int).toNat k).Hi)).length = d.Rates.length := (by simp)
   have he21 : (((List.range d.Rates.length).map (fun c => gapN d c k)).set (((gt d.Stops k).Column : Int).toNat) ((Span.mk ((((gt ((List.range d.Rates.length).map (fun c => gapN d c k)) (((gt d.Stops k).Column : Int).toNat))).Lo) + (((gt d.Stops k).Ticks).Lo)) (((gt ((List.range d.Rates.length).map (fun c => gapN d c k)) (((gt d.Stops k).Column : Int).toNat))).Hi)))) = (((List.range d.Rates.length).map (fun c => gapN d c k)).set ((gt d.Stops k).Column : Int).toNat (Span.mk ((gapN d ((gt d.Stops k).Column : Int).toNat k).Lo + (gt d.Stops k).Ticks.Lo) (gapN d ((gt d.Stops k).Column : Int).toNat k).Hi)) := (by rw [hgc])
   rw [he21]
   have hs2_ := congrArg Span.Lo hs1_
   have hs3_ := congrArg Span.Hi hs1_
   try dsimp only at hs2_ hs3_
   refine WC.draw (π := (.cons 0 (.cons 1 (.cons 2 (.cons 3 (.cons 4 (.cons 5 (.cons 6 (.cons 7 (.cons 8 (.cons 9 (.cons 10 (.cons 11 (.cons 12 .done)))))))))))))) [12] [12] rfl (by kernel_rfl) ?_
   refine DW.y rfl rfl (X.move rfl) ?_
   refine DW.y rfl rfl (X.field Tryz.runUnderlying108 rfl Tryz.sizeOf3 rfl) ?_
   refine DW.y rfl rfl (X.loadB (k := 0) Tryz.isAgg3 rfl rfl rfl) ?_
   refine DW.y rfl rfl (X.idxRow (k := 1) Tryz.runUnderlying28 Tryz.sizeOf23 rfl rfl rfl (by first | omega | (simp; omega) | simp) (by first | omega | (simp; omega) | simp)) ?_
   refine DW.y rfl rfl (X.field Tryz.runUnderlying23 rfl Tryz.sizeOf3 rfl) ?_
   refine DW.y rfl rfl (X.loadFp (k := 1) (i := ((gt d.Stops k).Column : Int).toNat) (off := 1) (u := .int .i64 (((gt (((List.range d.Rates.length).map (fun c => gapN d c k)).set ((gt d.Stops k).Column : Int).toNat (Span.mk ((gapN d ((gt d.Stops k).Column : Int).toNat k).Lo + (gt d.Stops k).Ticks.Lo) (gapN d ((gt d.Stops k).Column : Int).toNat k).Hi)) (((gt d.Stops k).Column : Int).toNat))).Hi)) Tryz.isAgg3 rfl rfl (by first | omega | (simp; omega) | simp) rfl) ?_
   refine DW.y rfl rfl (X.field Tryz.runUnderlying108 rfl Tryz.sizeOf23 rfl) ?_
   refine DW.y rfl rfl (X.field Tryz.runUnderlying23 rfl Tryz.sizeOf3 rfl) ?_
   refine DW.y rfl rfl (X.loadB (k := 0) Tryz.isAgg3 rfl rfl rfl) ?_
   refine DW.y rfl rfl (X.add rfl rfl (by omega) (by omega)) ?_
   refine DW.y rfl rfl (X.idxRow (k := 1) Tryz.runUnderlying28 Tryz.sizeOf23 rfl rfl rfl (by first | omega | (simp; omega) | simp) (by first | omega | (simp; omega) | simp)) ?_
   refine DW.y rfl rfl (X.field Tryz.runUnderlying23 rfl Tryz.sizeOf3 rfl) ?_
   refine DW.ts rfl rfl rfl rfl (T.storeFp (k := 1) (i := ((gt d.Stops k).Column : Int).toNat) (off := 1) (us := [.int .i64 ((((gt (((List.range d.Rates.length).map (fun c => gapN d c k)).set ((gt d.Stops k).Column : Int).toNat (Span.mk ((gapN d ((gt d.Stops k).Column : Int).toNat k).Lo + (gt d.Stops k).Ticks.Lo) (gapN d ((gt d.Stops k).Column : Int).toNat k).Hi)) (((gt d.Stops k).Column : Int).toNat))).Hi) + (((gt d.Stops k).Ticks).Hi))]) ((Span.mk (((gt (((List.range d.Rates.length).map (fun c => gapN d c k)).set ((gt d.Stops k).Column : Int).toNat (Span.mk ((gapN d ((gt d.Stops k).Column : Int).toNat k).Lo + (gt d.Stops k).Ticks.Lo) (gapN d ((gt d.Stops k).Column : Int).toNat k).Hi)) (((gt d.Stops k).Column : Int).toNat))).Lo) ((((gt (((List.range d.Rates.length).map (fun c => gapN d c k)).set ((gt d.Stops k).Column : Int).toNat (Span.mk ((gapN d ((gt d.Stops k).Column : Int).toNat k).Lo + (gt d.Stops k).Ticks.Lo) (gapN d ((gt d.Stops k).Column : Int).toNat k).Hi)) (((gt d.Stops k).Column : Int).toNat))).Hi) + (((gt d.Stops k).Ticks).Hi)))) Tryz.sizeOf3 rfl rfl rfl rfl (Nat.zero_lt_succ _) rfl (by first | omega | (simp; omega) | simp) rfl rfl (one_cons rfl one_nil)) ?_
   refine DW.nil ?_
   refine WK.nBlock ?_
   refine WK.nThen ?_
   refine WC.region ?_
   refine WL.y (X.add rfl rfl (by omega) (by omega)) ?_
   refine WL.mv rfl ?_
   refine WL.z ?_
   have he22 : ((((List.range d.Rates.length).map (fun c => gapN d c k)).set ((gt d.Stops k).Column : Int).toNat (Span.mk ((gapN d ((gt d.Stops k).Column : Int).toNat k).Lo + (gt d.Stops k).Ticks.Lo) (gapN d ((gt d.Stops k).Column : Int).toNat k).Hi)).set (((gt d.Stops k).Column : Int).toNat) ((Span.mk (((gt (((List.range d.Rates.length).map (fun c => gapN d c k)).set ((gt d.Stops k).Column : Int).toNat (Span.mk ((gapN d ((gt d.Stops k).Column : Int).toNat k).Lo + (gt d.Stops k).Ticks.Lo) (gapN d ((gt d.Stops k).Column : Int).toNat k).Hi)) (((gt d.Stops k).Column : Int).toNat))).Lo) ((((gt (((List.range d.Rates.length).map (fun c => gapN d c k)).set ((gt d.Stops k).Column : Int).toNat (Span.mk ((gapN d ((gt d.Stops k).Column : Int).toNat k).Lo + (gt d.Stops k).Ticks.Lo) (gapN d ((gt d.Stops k).Column : Int).toNat k).Hi)) (((gt d.Stops k).Column : Int).toNat))).Hi) + (((gt d.Stops k).Ticks).Hi))))) = ((List.range d.Rates.length).map (fun c => gapN d c (k + 1))) := (by rw [hs1_, List.set_set]; exact gap_step hdp (by omega))
   rw [he22]
   refine WK.next (k + 1) rfl (.cons _ (.cons_cons _ (.cons_cons _ .slnil))) (.cons rfl (.cons rfl (.cons rfl (.cons rfl .nil)))) ?_ ?_
   ·omega
   ·omega
  ·refine WL.z ?_
   refine WC.seq ?_
   refine WC.condF rfl ?_
   refine WC.exit ?_
   refine WK.eThen ?_
   refine WK.eThen ?_
   refine WK.eHit ?_
   refine WK.nThen ?_
   refine WC.seq ?_
   have he23 : ((List.range d.Rates.length).map (fun c => gapN d c k)) = (gapL d) := (by rw [show k = d.Stops.length by omega]; rfl)
   rw [he23]
   refine WC.region ?_
   refine WL.mv rfl ?_
   refine WL.ag rfl ?_
   refine WL.z ?_
   refine WC.ret ?_
   refine WK.freezeF 0 rfl rfl (by simp [gapL, lenB]; omega) (fun m24 hle25 hs26 => ?_)
   replace hs2 := hs2.mono hle25
   replace hs4 := hs4.mono hle25
   refine WK.ret1 rfl rfl (fun w' hw' => Ret.mem hw' ?_)
   exact ⟨_, rfl, hs26⟩

theorem clockOf139 (m : Mem) (cd : List Value) (d : Drum) (hd : Enc.rd m cd d) (vm_ : Value) (m_ : List Mark) (hm_ : Sl m vm_ m_)  (hok : Ok d m_) : Pure Tryz.prog 139 #[.agg cd.toArray, vm_] m (fun m' v => ∃ r0, v = .agg r0.toArray ∧ Enc.rd m' r0 (Clk.mk (gapL d) (atL d m_))) := by
 obtain ⟨v1, v3, rfl, hs2, hs4⟩ := hd
 have hl5 := hs2.le
 have hl6 := hs4.le
 have lm_ := hm_.le
 have hd1 := hok.dr.1
 have hn_ := hok.n
 refine Pure.start Tryz.func139 rfl Tryz.ntmps139 rfl fun wld => ?_
 refine WC.r ?_
 refine WL.tn (T.boxB rfl rfl) (by decide) fun b7 => ?_
 refine WL.tn (T.alloc Tryz.zeroValue174 rfl) (by decide) fun b8 => ?_
 refine WL.z ?_
 refine WC.r ?_
 refine WL.y (X.loadBA (k := 1) Tryz.isAgg31 Tryz.sizeOf31 rfl rfl rfl) ?_
 refine WL.tm (T.call Tryz.call175 rfl (gaps175 _ _ d ⟨_, _, rfl, hs2, hs4⟩ hok.dr)) (by decide) fun m9 r10 hle11 hR12 => ?_
 obtain ⟨v13, hv_, hs14⟩ := hR12
 rw [← hv_] at hs14
 clear hv_ v13
 replace hs2 := hs2.mono hle11
 replace hs4 := hs4.mono hle11
 replace hm_ := hm_.mono hle11
 have hl15 := hs14.le
 refine WL.y (V := Value.agg [r10, .slice none 0 0].toArray) (X.build Tryz.zeroValue174 Tryz.runUnderlying174 (places174 _ Tryz.underlying174) rfl (by simp only [Instr.fill, one_cells hs14.one]; rfl)) ?_
 refine WL.tn (T.alloc Tryz.zeroValue174 rfl) (by decide) fun b16 => ?_
 refine WL.ts (T.storeBA (k := 0) Tryz.sizeOf174 rfl rfl rfl (one_cons hs14.one (one_cons rfl one_nil)) rfl rfl) ?_
 refine WL.z ?_
 refine WC.r ?_
 refine WL.y (V := Value.agg [.int .i64 (0), .int .i64 (400)].toArray) (X.build Tryz.zeroValue23 Tryz.runUnderlying23 (places23 _ Tryz.underlying23) rfl rfl) ?_
 refine WL.tm (T.litM (α := Span) (vals := [.agg [.int .i64 (0), .int .i64 (400)].toArray]) (L := [(Span.mk (0) (400))]) sl28 rfl (.cons rfl rfl .nil) rfl rfl) (by decide) (fun m17 v18 hle19 hs20 => ?_)
 replace hs2 := hs2.mono hle19
 replace hs4 := hs4.mono hle19
 replace hm_ := hm_.mono hle19
 replace hs14 := hs14.mono hle19
 refine WL.y (X.field Tryz.runUnderlying31 rfl Tryz.sizeOf28 rfl) ?_
 refine WL.y (X.loadB (k := 2) Tryz.isAgg28 rfl rfl rfl) ?_
 refine WL.y (X.len Tryz.runUnderlying28 rfl hs2) ?_
 refine WL.y (X.add rfl rfl (by omega) (by omega)) ?_
 refine WL.tM (T.callO Tryz.call215 rfl (repeat215 _ hs20 (n := d.Rates.length + 1) (by omega) (by omega))) (by decide) (fun m21 _ v22 hle23 hR_ => ?_)
 obtain ⟨rfl, ho24⟩ := hR_
 replace hs2 := hs2.mono hle23
 replace hs4 := hs4.mono hle23
 replace hm_ := hm_.mono hle23
 replace hs14 := hs14.mono hle23
 replace hs20 := hs20.mono hle23
 refine WL.y (X.field Tryz.runUnderlying174 rfl Tryz.sizeOf28 rfl) ?_
 refine WL.ts (T.storeB (k := 1) Tryz.sizeOf28 rfl rfl rfl ho24 (Nat.le_of_ble_eq_true rfl)) ?_
 refine WL.z ?_
 refine WC.seq ?_
 refine WC.r ?_
 refine WL.mv rfl ?_
 refine WL.y (X.len Tryz.runUnderlying74 rfl hm_) ?_
 refine WL.mv rfl ?_
 refine WL.z ?_
 refine WC.block ?_
 have he25 : (List.replicate (d.Rates.length + 1) ((Span.mk (0) (400)))) = ((List.range (d.Rates.length + 1)).map (fun c => atN m_ 0 c)) := (rep_map _ _)
 rw [he25]
 refine WC.loop (G := Nat) (fun k => m_.length - k) (fun k => m21) (fun k => [rowF (v22) 23 ((List.range (d.Rates.length + 1)).map (fun c => atN m_ k c)), blk b16 174 [r10, v22], blk b8 174 [.slice none 0 0, .slice none 0 0], blk b7 31 [v1, v3]]) (fun k => [(4, .pointer (some ⟨b8, 0, none⟩)), (5, .pointer (some ⟨b16, 0, none⟩)), (19, vm_), (20, .int .i64 (↑m_.length)), (21, .int .i64 (↑k))]) (fun k => k ≤ m_.length) 0 rfl (.refl _) (.cons rfl (.cons rfl (.cons rfl (.cons rfl (.cons rfl .nil))))) ?_ ?_
 ·exact Nat.zero_le _
 ·rintro k hF26
  show WK _ _ m21 [rowF (v22) 23 ((List.range (d.Rates.length + 1)).map (fun c => atN m_ k c)), blk b16 174 [r10, v22], blk b8 174 [.slice none 0 0, .slice none 0 0], blk b7 31 [v1, v3]] [(4, .pointer (some ⟨b8, 0, none⟩)), (5, .pointer (some ⟨b16, 0, none⟩)), (19, vm_), (20, .int .i64 (↑m_.length)), (21, .int .i64 (↑k))] _
  replace hF26 : k ≤ m_.length := hF26
  have hk := hF26
  refine WK.good (fun hgood0 => ?_)
  have hco := fun h => hok.col (j := k) h
  have hll : ((List.range (d.Rates.length + 1)).map (fun c => atN m_ k c)).length = d.Rates.length + 1 := (by simp)
  refine WC.r ?_
  refine WL.cond (X.lss rfl rfl) (by decide) (fun h27 => ?_) (fun h27 => ?_)
  ·refine WL.z ?_
   refine WC.seq ?_
   refine WC.condT rfl ?_
   refine WC.skip ?_
   refine WK.nThen ?_
   refine WC.seq ?_
   refine WC.block ?_
   refine WC.r ?_
   refine WL.xe (E.idxN k Tryz.runUnderlying74 Tryz.sizeOf98 rfl rfl hm_ (by omega)) (by decide) (fun p28 hp29 => ?_)
   refine WL.xe (E.loadAgg Tryz.isAgg98 Tryz.sizeOf98 rfl hp29) (by decide) (fun c30 hc31 => ?_)
   obtain rfl := hc31
   refine WL.tn (T.alloc Tryz.zeroValue98 rfl) (by decide) fun b32 => ?_
   refine WL.ts (T.storeBA (k := 0) Tryz.sizeOf98 rfl rfl rfl (one_cons rfl (one_cons rfl (one_cons rfl one_nil))) rfl rfl) ?_
   refine WL.z ?_
   have hco1 := (hco (by omega)).1
   refine WC.region ?_
   refine WL.y (X.field Tryz.runUnderlying98 rfl Tryz.sizeOf3 rfl) ?_
   refine WL.y (X.loadB (k := 0) Tryz.isAgg3 rfl rfl rfl) ?_
   refine WL.y (X.field Tryz.runUnderlying98 rfl Tryz.sizeOf23 rfl) ?_
   refine WL.y (X.loadBP (k := 0) (vs := [.int .i64 (((gt m_ k).Ticks).Lo), .int .i64 (((gt m_ k).Ticks).Hi)]) Tryz.isAgg23 Tryz.sizeOf23 rfl rfl rfl rfl) ?_
   refine WL.tM (T.callP (A := [blk b32 98 [.int .i64 ((gt m_ k).Column), .int .i64 (((gt m_ k).Ticks).Lo), .int .i64 (((gt m_ k).Ticks).Hi)], blk b8 174 [.slice none 0 0, .slice none 0 0], blk b7 31 [v1, v3]]) Tryz.call216 rfl ((List.Perm.cons _ ((List.Perm.cons _ (.refl _)).trans (List.perm_middle (l₁ := [blk b32 98 [.int .i64 ((gt m_ k).Column), .int .i64 (((gt m_ k).Ticks).Lo), .int .i64 (((gt m_ k).Ticks).Hi)]]) (l₂ := [blk b8 174 [.slice none 0 0, .slice none 0 0], blk b7 31 [v1, v3]]) (a := rowF (v22) 23 ((List.range (d.Rates.length + 1)).map (fun c => atN m_ k c)))).symm)).trans (List.perm_middle (l₁ := [blk b32 98 [.int .i64 ((gt m_ k).Column), .int .i64 (((gt m_ k).Ticks).Lo), .int .i64 (((gt m_ k).Ticks).Hi)], rowF (v22) 23 ((List.range (d.Rates.length + 1)).map (fun c => atN m_ k c))]) (l₂ := [blk b8 174 [.slice none 0 0, .slice none 0 0], blk b7 31 [v1, v3]]) (a := blk b16 174 [r10, v22])).symm) (narrow216 _ (k := (((gt m_ k).Column : Int).toNat)) (by omega) (by omega) ((gt m_ k).Ticks))) (by decide) (fun m33 Es_ v_ hle34 hR_ => ?_)
   obtain ⟨rfl, rfl⟩ := hR_
   replace hs2 := hs2.mono hle34
   replace hs4 := hs4.mono hle34
   replace hm_ := hm_.mono hle34
   replace hs14 := hs14.mono hle34
   replace hs20 := hs20.mono hle34
   replace hp29 := hp29.mono hle34
   refine WL.nil ?_
   refine WK.nBlock ?_
   refine WK.nThen ?_
   refine WC.region ?_
   refine WL.y (X.add rfl rfl (by omega) (by omega)) ?_
   refine WL.mv rfl ?_
   refine WL.z ?_
   have hgc := gt_map (f := fun c => atN m_ k c) (n := d.Rates.length + 1) (i := ((gt m_ k).Column : Int).toNat) (by omega)
   have he35 : (((List.range (d.Rates.length + 1)).map (fun c => atN m_ k c)).set (((gt m_ k).Column : Int).toNat) (meet (gt ((List.range (d.Rates.length + 1)).map (fun c => atN m_ k c)) (((gt m_ k).Column : Int).toNat)) ((gt m_ k).Ticks))) = ((List.range (d.Rates.length + 1)).map (fun c => atN m_ (k + 1) c)) := (by rw [hgc]; exact at_step hok.ma (by omega))
   rw [he35]
   refine WK.back hgood0 hle34 ?_
   refine WK.perm [blk b32 98 [.int .i64 ((gt m_ k).Column), .int .i64 (((gt m_ k).Ticks).Lo), .int .i64 (((gt m_ k).Ticks).Hi)], rowF (v22) 23 ((List.range (d.Rates.length + 1)).map (fun c => atN m_ (k + 1) c)), blk b16 174 [r10, v22], blk b8 174 [.slice none 0 0, .slice none 0 0], blk b7 31 [v1, v3]] ((List.Perm.cons _ ((List.Perm.cons _ (.refl _)).trans (List.perm_middle (l₁ := [blk b16 174 [r10, v22]]) (l₂ := [blk b8 174 [.slice none 0 0, .slice none 0 0], blk b7 31 [v1, v3]]) (a := rowF (v22) 23 ((List.range (d.Rates.length + 1)).map (fun c => atN m_ (k + 1) c)))).symm)).trans (List.perm_middle (l₁ := [blk b16 174 [r10, v22], rowF (v22) 23 ((List.range (d.Rates.length + 1)).map (fun c => atN m_ (k + 1) c))]) (l₂ := [blk b8 174 [.slice none 0 0, .slice none 0 0], blk b7 31 [v1, v3]]) (a := blk b32 98 [.int .i64 ((gt m_ k).Column), .int .i64 (((gt m_ k).Ticks).Lo), .int .i64 (((gt m_ k).Ticks).Hi)])).symm) ?_
   refine WK.next (k + 1) rfl (.cons _ (.cons_cons _ (.cons_cons _ (.cons_cons _ (.cons_cons _ .slnil))))) (.cons rfl (.cons rfl (.cons rfl (.cons rfl (.cons rfl .nil))))) ?_ ?_
   ·omega
   ·omega
  ·refine WL.z ?_
   refine WC.seq ?_
   refine WC.condF rfl ?_
   refine WC.exit ?_
   refine WK.eThen ?_
   refine WK.eThen ?_
   refine WK.eHit ?_
   refine WK.nThen ?_
   refine WC.seq ?_
   have he36 : ((List.range (d.Rates.length + 1)).map (fun c => atN m_ k c)) = (atL d m_) := (by rw [show k = m_.length by omega]; rfl)
   rw [he36]
   refine WC.region ?_
   refine WL.y (X.loadBA (k := 1) Tryz.isAgg174 Tryz.sizeOf174 rfl rfl rfl) ?_
   refine WL.ts (T.storeBA (k := 2) Tryz.sizeOf174 rfl rfl rfl (one_cons hs14.one (one_cons ho24 one_nil)) rfl rfl) ?_
   refine WL.z ?_
   refine WC.ret ?_
   refine WK.freezeF 0 rfl rfl (by rw [atL_len]; unfold lenB; omega) (fun m37 hle38 hs39 => ?_)
   replace hs2 := hs2.mono hle38
   replace hs4 := hs4.mono hle38
   replace hm_ := hm_.mono hle38
   replace hs14 := hs14.mono hle38
   replace hs20 := hs20.mono hle38
   refine WK.retC1 1 rfl rfl rfl Tryz.isAgg174 Tryz.sizeOf174 (fun w' hw' => Ret.mem hw' ?_)
   exact ⟨_, rfl, ⟨_, _, rfl, hs14, hs39⟩⟩

theorem fwd217 (m : Mem) (vg va : Value) : Pure Tryz.prog 217 #[.agg [vg, va].toArray] m (fun m' v => ∃ pc : Addr, v = .func (.func 262) #[] [.pointer (some pc)].toArray ∧ Cells m' pc [vg, va]) := by
 refine Pure.start Tryz.func217 rfl Tryz.ntmps217 rfl fun wld => ?_
 refine WC.r ?_
 refine WL.tn (T.boxB rfl rfl) (by decide) fun b1 => ?_
 refine WL.ag rfl ?_
 refine WL.z ?_
 refine WC.seq ?_
 refine WK.freezeB 0 rfl rfl (fun m2 hle3 hc4 => ?_)
 refine WC.region ?_
 refine WL.y (X.makeFunc (by intro x hx; simp at hx; subst hx; all_goals exact ⟨_, rfl⟩) rfl) ?_
 refine WL.ag rfl ?_
 refine WL.z ?_
 refine WC.ret ?_
 refine WK.ret1 rfl rfl (fun w' hw' => Ret.mem hw' ?_)
 exact ⟨_, rfl, hc4⟩

theorem bwd218 (m : Mem) (vg va : Value) : Pure Tryz.prog 218 #[.agg [vg, va].toArray] m (fun m' v => ∃ pc : Addr, v = .func (.func 263) #[] [.pointer (some pc)].toArray ∧ Cells m' pc [vg, va]) := by
 refine Pure.start Tryz.func218 rfl Tryz.ntmps218 rfl fun wld => ?_
 refine WC.r ?_
 refine WL.tn (T.boxB rfl rfl) (by decide) fun b1 => ?_
 refine WL.ag rfl ?_
 refine WL.z ?_
 refine WC.seq ?_
 refine WK.freezeB 0 rfl rfl (fun m2 hle3 hc4 => ?_)
 refine WC.region ?_
 refine WL.y (X.makeFunc (by intro x hx; simp at hx; subst hx; all_goals exact ⟨_, rfl⟩) rfl) ?_
 refine WL.ag rfl ?_
 refine WL.z ?_
 refine WC.ret ?_
 refine WK.ret1 rfl rfl (fun w' hw' => Ret.mem hw' ?_)
 exact ⟨_, rfl, hc4⟩

theorem iter262 (m : Mem) {pc : Addr} {vg va : Value} {G : List Span} (hc : Cells m pc [vg, va]) (hG : Sl m vg G) : Iter Tryz.prog 262 [.pointer (some pc)] m false G.length (fun i _ args => args = #[.int .i64 ((i : Nat) : Int), .agg [.int .i64 (gt G i).Lo, .int .i64 (gt G i).Hi].toArray]) := by
 intro lo S HS I Ix s0 hone hmono hy h0
 have hlg := hG.le
 refine Mut.start Tryz.func262 rfl Tryz.ntmps262 rfl fun wld => ?_
 refine WC.r ?_
 have hp1 : Cells m (pc.add 0) [vg] := hc.part 0 (by intro j v hj; cases j with | zero => exact hj | succ j => simp at hj)
 refine WL.y (X.field Tryz.runUnderlying174 rfl Tryz.sizeOf28 rfl) ?_
 refine WL.y (X.loadV Tryz.isAgg28 rfl hp1) ?_
 refine WL.y (X.len Tryz.runUnderlying28 rfl hG) ?_
 refine WL.mv rfl ?_
 refine WL.z ?_
 refine WC.block ?_
 refine WC.loop (G := Nat × Int × Mem × S) (fun (k, q, mm, s) => G.length - k) (fun (k, q, mm, s) => mm) (fun (k, q, mm, s) => ([] ++ HS s)) (fun (k, q, mm, s) => [(0, .func (.yield lo) #[] #[]), (6, vg), (7, .int .i64 (↑G.length)), (8, .int .i64 (↑k))]) (fun (k, q, mm, s) => m.le mm ∧ (k ≤ G.length) ∧ I k mm s) ((0, 0, m, s0)) rfl (.refl _) (.cons rfl (.cons rfl (.cons rfl (.cons rfl .nil)))) ?_ ?_
 ·exact ⟨Mem.le_refl _, by omega, h0⟩
 ·rintro ⟨k, q, mm, s⟩ hF2
  show WK _ _ mm ([] ++ HS s) [(0, .func (.yield lo) #[] #[]), (6, vg), (7, .int .i64 (↑G.length)), (8, .int .i64 (↑k))] _
  replace hF2 : m.le mm ∧ (k ≤ G.length) ∧ I k mm s := hF2
  obtain ⟨hmm, hk, hI0⟩ := hF2
  replace hc := hc.mono hmm
  replace hG := hG.mono hmm
  replace hp1 := hp1.mono hmm
  refine WC.r ?_
  refine WL.cond (X.lss rfl rfl) (by decide) (fun h3 => ?_) (fun h3 => ?_)
  ·refine WL.z ?_
   refine WC.seq ?_
   refine WC.condT rfl ?_
   refine WC.skip ?_
   refine WK.nThen ?_
   refine WC.seq ?_
   refine WC.block ?_
   refine WC.r ?_
   refine WL.mv rfl ?_
   refine WL.xe (E.idxN k Tryz.runUnderlying28 Tryz.sizeOf23 rfl rfl hG (by omega)) (by decide) (fun p4 hp5 => ?_)
   refine WL.xe (E.loadAgg Tryz.isAgg23 Tryz.sizeOf23 rfl hp5) (by decide) (fun c6 hc7 => ?_)
   obtain rfl := hc7
   refine WL.tn (T.alloc Tryz.zeroValue23 rfl) (by decide) fun b8 => ?_
   refine WL.ag rfl ?_
   refine WL.ts (T.storeBA (k := 0) Tryz.sizeOf23 rfl rfl rfl (one_cons rfl (one_cons rfl one_nil)) rfl rfl) ?_
   refine WL.z ?_
   refine WC.r ?_
   refine WL.mv rfl ?_
   refine WL.mv rfl ?_
   refine WL.y (X.loadBA (k := 0) Tryz.isAgg23 Tryz.sizeOf23 rfl rfl rfl) ?_
   refine WL.tY (T.yield (A := [blk b8 23 [.int .i64 ((gt G k).Lo), .int .i64 ((gt G k).Hi)]]) rfl rfl rfl (hy k _ s _ (by omega) hmm rfl hI0)) (by decide) (fun m9 H10 hT11 => ?_) (fun m9 H10 hT11 => ?_)
   ·obtain ⟨hle13, s12, rfl, hI14⟩ := hT11
    replace hc := hc.mono hle13
    replace hG := hG.mono hle13
    replace hp1 := hp1.mono hle13
    replace hp5 := hp5.mono hle13
    refine WL.y (X.not rfl) ?_
    refine WL.z ?_
    refine WC.condF rfl ?_
    refine WC.skip ?_
    refine WK.nBlock ?_
    refine WK.nThen ?_
    refine WC.region ?_
    refine WL.y (X.add rfl rfl (by omega) (by omega)) ?_
    refine WL.mv rfl ?_
    refine WL.z ?_
    refine WK.next ((k + 1, 0, m9, s12)) rfl (.cons _ (.refl _)) (.cons rfl (.cons rfl (.cons rfl (.cons rfl .nil)))) ?_ ?_
    ·exact ⟨Mem.le_trans hmm hle13, by omega, hI14⟩
    ·(dsimp only; omega)
   ·obtain ⟨hle13, s12, rfl, hI14⟩ := hT11
    replace hc := hc.mono hle13
    replace hG := hG.mono hle13
    replace hp1 := hp1.mono hle13
    replace hp5 := hp5.mono hle13
    refine WL.y (X.not rfl) ?_
    refine WL.z ?_
    refine WC.condT rfl ?_
    refine WC.ret ?_
    refine WK.rBlock ?_
    refine WK.rThen ?_
    refine WK.rThen ?_
    refine WK.rBlock ?_
    refine WK.ret0 rfl (fun w' hw' => Ret.mut (hw'.weaken (.cons _ (.refl _))) ?_)
    exact ⟨_, rfl, .inr ⟨k + 1, by omega, hI14⟩⟩
  ·refine WL.z ?_
   refine WC.seq ?_
   refine WC.condF rfl ?_
   refine WC.exit ?_
   refine WK.eThen ?_
   refine WK.eThen ?_
   refine WK.eHit ?_
   refine WK.end0 rfl (fun w' hw' => Ret.mut (hw'.weaken (.refl _)) ?_)
   refine ⟨_, rfl, .inl ?_⟩
   rw [show G.length = k by omega]
   exact hI0

theorem iter263 (m : Mem) {pc : Addr} {vg va : Value} {G : List Span} (hc : Cells m pc [vg, va]) (hG : Sl m vg G) : Iter Tryz.prog 263 [.pointer (some pc)] m false G.length (fun i _ args => args = #[.int .i64 (((G.length - 1 - i) : Nat) : Int), .agg [.int .i64 (gt G (G.length - 1 - i)).Lo, .int .i64 (gt G (G.length - 1 - i)).Hi].toArray]) := by
 intro lo S HS I Ix s0 hone hmono hy h0
 have hlg := hG.le
 refine Mut.start Tryz.func263 rfl Tryz.ntmps263 rfl fun wld => ?_
 refine WC.r ?_
 have hp1 : Cells m (pc.add 0) [vg] := hc.part 0 (by intro j v hj; cases j with | zero => exact hj | succ j => simp at hj)
 refine WL.y (X.field Tryz.runUnderlying174 rfl Tryz.sizeOf28 rfl) ?_
 refine WL.y (X.loadV Tryz.isAgg28 rfl hp1) ?_
 refine WL.y (X.len Tryz.runUnderlying28 rfl hG) ?_
 refine WL.y (X.sub rfl rfl (by omega) (by omega)) ?_
 refine WL.ag rfl ?_
 refine WL.z ?_
 refine WC.block ?_
 refine WC.loop (G := Nat × Int × Mem × S) (fun (k, q, mm, s) => G.length - k) (fun (k, q, mm, s) => mm) (fun (k, q, mm, s) => ([] ++ HS s)) (fun (k, q, mm, s) => [(0, .func (.yield lo) #[] #[]), (1, .pointer (some pc)), (3, .int .i64 (q))]) (fun (k, q, mm, s) => m.le mm ∧ (k ≤ G.length ∧ q = (G.length : Int) - 1 - k) ∧ I k mm s) ((0, (↑G.length - 1), m, s0)) rfl (.refl _) (.cons rfl (.cons rfl (.cons rfl .nil))) ?_ ?_
 ·exact ⟨Mem.le_refl _, by omega, h0⟩
 ·rintro ⟨k, q, mm, s⟩ hF2
  show WK _ _ mm ([] ++ HS s) [(0, .func (.yield lo) #[] #[]), (1, .pointer (some pc)), (3, .int .i64 (q))] _
  replace hF2 : m.le mm ∧ (k ≤ G.length ∧ q = (G.length : Int) - 1 - k) ∧ I k mm s := hF2
  obtain ⟨hmm, hk, hI0⟩ := hF2
  replace hc := hc.mono hmm
  replace hG := hG.mono hmm
  replace hp1 := hp1.mono hmm
  refine WC.seq ?_
  refine WC.r ?_
  refine WL.mv rfl ?_
  refine WL.cond (X.geq rfl rfl) (by decide) (fun h3 => ?_) (fun h3 => ?_)
  ·refine WL.z ?_
   refine WC.condT rfl ?_
   refine WC.skip ?_
   refine WK.nThen ?_
   refine WC.seq ?_
   refine WC.block ?_
   refine WC.r ?_
   refine WL.mv rfl ?_
   refine WL.mv rfl ?_
   have hp4 : Cells mm (pc.add 0) [vg] := hc.part 0 (by intro j v hj; cases j with | zero => exact hj | succ j => simp at hj)
   refine WL.y (X.field Tryz.runUnderlying174 rfl Tryz.sizeOf28 rfl) ?_
   refine WL.y (X.loadV Tryz.isAgg28 rfl hp4) ?_
   refine WL.mv rfl ?_
   refine WL.xe (E.idx Tryz.runUnderlying28 Tryz.sizeOf23 rfl rfl hG (by omega) (by omega)) (by decide) (fun p5 hp6 => ?_)
   refine WL.xe (E.loadAgg Tryz.isAgg23 Tryz.sizeOf23 rfl hp6) (by decide) (fun c7 hc8 => ?_)
   obtain rfl := hc8
   refine WL.tY (T.yield (A := []) rfl rfl rfl (hy k _ s _ (by omega) hmm (by show _ = _; rw [show ((G.length - 1 - k : Nat) : Int) = q by omega, show G.length - 1 - k = q.toNat by omega]; rfl) hI0)) (by decide) (fun m9 H10 hT11 => ?_) (fun m9 H10 hT11 => ?_)
   ·obtain ⟨hle13, s12, rfl, hI14⟩ := hT11
    replace hc := hc.mono hle13
    replace hG := hG.mono hle13
    replace hp1 := hp1.mono hle13
    replace hp4 := hp4.mono hle13
    replace hp6 := hp6.mono hle13
    refine WL.y (X.not rfl) ?_
    refine WL.z ?_
    refine WC.condF rfl ?_
    refine WC.skip ?_
    refine WK.nBlock ?_
    refine WK.nThen ?_
    refine WC.region ?_
    refine WL.mv rfl ?_
    refine WL.y (X.sub rfl rfl (by omega) (by omega)) ?_
    refine WL.ag rfl ?_
    refine WL.z ?_
    refine WK.next ((k + 1, q - 1, m9, s12)) rfl (.refl _) (.cons rfl (.cons rfl (.cons rfl .nil))) ?_ ?_
    ·exact ⟨Mem.le_trans hmm hle13, by omega, hI14⟩
    ·(dsimp only; omega)
   ·obtain ⟨hle13, s12, rfl, hI14⟩ := hT11
    replace hc := hc.mono hle13
    replace hG := hG.mono hle13
    replace hp1 := hp1.mono hle13
    replace hp4 := hp4.mono hle13
    replace hp6 := hp6.mono hle13
    refine WL.y (X.not rfl) ?_
    refine WL.z ?_
    refine WC.condT rfl ?_
    refine WC.ret ?_
    refine WK.rBlock ?_
    refine WK.rThen ?_
    refine WK.rThen ?_
    refine WK.rBlock ?_
    refine WK.ret0 rfl (fun w' hw' => Ret.mut (hw'.weaken (.refl _)) ?_)
    exact ⟨_, rfl, .inr ⟨k + 1, by omega, hI14⟩⟩
  ·refine WL.z ?_
   refine WC.condF rfl ?_
   refine WC.exit ?_
   refine WK.eThen ?_
   refine WK.eThen ?_
   refine WK.eHit ?_
   refine WK.end0 rfl (fun w' hw' => Ret.mut (hw'.weaken (.refl _)) ?_)
   refine ⟨_, rfl, .inl ?_⟩
   rw [show G.length = k by omega]
   exact hI0

set_option maxHeartbeats 1000000 in
theorem settled140 (m : Mem) (cc : List Value) (c : Clk) (hc : Enc.rd m cc c)  (hw : CkW c) : Pure Tryz.prog 140 #[.agg cc.toArray] m (fun m' v => ∃ r0, v = .tuple #[.agg r0.toArray, .bool (decide (okC c))] ∧ Enc.rd m' r0 (Clk.mk c.gaps (setL c))) := by
 obtain ⟨v1, v3, rfl, hs2, hs4⟩ := hc
 have hl5 := hs2.le
 have hl6 := hs4.le
 have hnn := hw.n
 have hlc := hw.l
 refine Pure.start Tryz.func140 rfl Tryz.ntmps140 rfl fun wld => ?_
 refine WC.r ?_
 refine WL.tn (T.boxB rfl rfl) (by decide) fun b7 => ?_
 refine WL.tn (T.alloc Tryz.zeroValue174 rfl) (by decide) fun b8 => ?_
 refine WL.ag rfl ?_
 refine WL.z ?_
 refine WC.scope ?_
 refine WC.r ?_
 refine WL.y (X.field Tryz.runUnderlying174 rfl Tryz.sizeOf28 rfl) ?_
 refine WL.y (X.loadB (k := 1) Tryz.isAgg28 rfl rfl rfl) ?_
 refine WL.tM (T.callO Tryz.call207 rfl (clone207 _ hs4 (by omega))) (by decide) (fun m9 Es10 v11 hle12 hR_ => ?_)
 obtain ⟨rfl, ho13⟩ := hR_
 replace hs2 := hs2.mono hle12
 replace hs4 := hs4.mono hle12
 refine WL.y (X.field Tryz.runUnderlying174 rfl Tryz.sizeOf28 rfl) ?_
 refine WL.ts (T.storeB (k := 2) Tryz.sizeOf28 rfl rfl rfl ho13 (Nat.le_of_ble_eq_true rfl)) ?_
 refine WL.z ?_
 refine WC.seq ?_
 refine WC.label ?_
 refine WK.nThen ?_
 refine WC.seq ?_
 refine WC.block ?_
 refine WC.loop (G := Nat × List Span) (fun (r, L) => 2 - r) (fun (r, L) => m9) (fun (r, L) => [rowF (v11) 23 (L), blk b8 174 [.slice none 0 0, .slice none 0 0], blk b7 174 [v1, v11]]) (fun (r, L) => [(1, .pointer (some ⟨b7, 0, none⟩)), (2, .pointer (some ⟨b8, 0, none⟩))]) (fun (r, L) => setI c L ∧ r ≤ 1 ∧ (r = 1 → L = setL c)) ((0, c.at_)) rfl (.refl _) (.cons rfl (.cons rfl .nil)) ?_ ?_
 ·exact ⟨.inl rfl, by omega, fun h => absurd h (by omega)⟩
 ·rintro ⟨r, L⟩ hF14
  show WK _ _ m9 [rowF (v11) 23 (L), blk b8 174 [.slice none 0 0, .slice none 0 0], blk b7 174 [v1, v11]] [(1, .pointer (some ⟨b7, 0, none⟩)), (2, .pointer (some ⟨b8, 0, none⟩))] _
  replace hF14 : setI c L ∧ r ≤ 1 ∧ (r = 1 → L = setL c) := hF14
  obtain ⟨hI, hr, hr1⟩ := hF14
  refine WK.good (fun hgood0 => ?_)
  have hlL := setI_len hw hI
  refine WC.block ?_
  refine WC.r ?_
  refine WL.y (X.field Tryz.runUnderlying174 rfl Tryz.sizeOf28 rfl) ?_
  refine WL.y (X.loadB (k := 2) Tryz.isAgg28 rfl rfl rfl) ?_
  refine WL.tM (T.callOL (R := fun Es_ u_ => Es_ = [rowF u_ 23 L] ∧ u_.oneCell' = true) Tryz.call207 rfl (fun _ w_ hw_ => clone207 _ (hw_.rowFSl (k := 0) rfl (by unfold lenB; omega)) (by omega))) (by decide) (fun m15 Es16 v17 hle18 hR_ => ?_)
  obtain ⟨rfl, ho19⟩ := hR_
  replace hs2 := hs2.mono hle18
  replace hs4 := hs4.mono hle18
  refine WL.ag rfl ?_
  refine WL.z ?_
  refine WC.seq ?_
  refine WC.r ?_
  refine WL.y (X.loadBA (k := 3) Tryz.isAgg174 Tryz.sizeOf174 rfl rfl rfl) ?_
  refine WL.tm (T.call Tryz.call217 rfl (fwd217 _ v1 v11)) (by decide) (fun m20 r24 hle21 hR_ => ?_)
  obtain ⟨p22, rfl, hc23⟩ := hR_
  replace hs2 := hs2.mono hle21
  replace hs4 := hs4.mono hle21
  refine WL.z ?_
  refine WC.block ?_
  refine WK.perm [blk b7 174 [v1, v11], rowF (v11) 23 (L), rowF (v17) 23 (L), blk b8 174 [.slice none 0 0, .slice none 0 0]] ((List.Perm.cons _ ((List.Perm.cons _ (.refl _)).trans (List.perm_middle (l₁ := [rowF (v17) 23 (L)]) (l₂ := [blk b8 174 [.slice none 0 0, .slice none 0 0]]) (a := rowF (v11) 23 (L))).symm)).trans (List.perm_middle (l₁ := [rowF (v17) 23 (L), rowF (v11) 23 (L), blk b8 174 [.slice none 0 0, .slice none 0 0]]) (l₂ := []) (a := blk b7 174 [v1, v11])).symm) ?_
  refine WC.rangeFuncA (S := List Span) (G := Nat) (ps := [18, 19]) (n := c.gaps.length) (A := fun i _ args => args = [.int .i64 ((i : Nat) : Int), .agg [.int .i64 (gt c.gaps i).Lo, .int .i64 (gt c.gaps i).Hi].toArray].toArray) rfl Tryz.call262 (iter262 _ hc23 hs2) (fun x_ : List Span => [blk b7 174 [v1, v11], rowF (v11) 23 (x_), rowF (v17) 23 (L), blk b8 174 [.slice none 0 0, .slice none 0 0]]) (fun i _ x_ => x_ = fwP c.gaps L i) (fun _ _ _ _ => False) L rfl (fwP_zero hlL).symm (fun h => by cases h) (fun _ _ _ _ _ h => h) (by simp) (fun i m1 args h => by subst h; rfl) (fun b_ args gh => blk b_ 23 ((args.getD 1 undef).cells.toList) :: (fun x_ : List Span => [blk b7 174 [v1, v11], rowF (v11) 23 (x_), rowF (v17) 23 (L), blk b8 174 [.slice none 0 0, .slice none 0 0]]) gh) (fun b_ args => (5, args.headD undef) :: (6, .pointer (some ⟨b_, 0, none⟩)) :: [(1, .pointer (some ⟨b7, 0, none⟩)), (2, .pointer (some ⟨b8, 0, none⟩)), (13, .pointer (some ⟨b7, 1, none⟩)), (14, v11), (15, v17), (4, v17), (16, .agg [v1, v11].toArray), (17, .func (.func 262) #[] [.pointer (some p22)].toArray)]) ?_ ?_ ?_ ?_ ?_
  ·intro lo B1 i m1_2 gh args KK hlen hA1 hm1_2 hKK
   have hA2 : args = [.int .i64 ((i : Nat) : Int), .agg [.int .i64 (gt c.gaps i).Lo, .int .i64 (gt c.gaps i).Hi].toArray] := (by have := congrArg Array.toList hA1; simpa using this)
   subst hA2
   refine WC.r ?_
   refine WL.ag rfl ?_
   refine WL.z ?_
   refine WC.region ?_
   refine WL.tn (T.alloc Tryz.zeroValue23 rfl) (by decide) fun b25 => ?_
   refine WL.ts (T.storeBA (k := 0) Tryz.sizeOf23 rfl rfl rfl (one_cons rfl (one_cons rfl one_nil)) rfl rfl) ?_
   refine WL.z ?_
   exact WK.keep (.cons rfl (.cons rfl (.cons rfl (.cons rfl (.cons rfl (.cons rfl (.cons rfl (.cons rfl (.cons rfl (.cons rfl .nil)))))))))) (hKK b25)
  ·intro lo B1 i m1_2 gh args b_ hlen hi hm1_2 hA1 hI1
   have hA2 : args = [.int .i64 ((i : Nat) : Int), .agg [.int .i64 (gt c.gaps i).Lo, .int .i64 (gt c.gaps i).Hi].toArray] := (by have := congrArg Array.toList hA1; simpa using this)
   subst hA2
   obtain rfl := hI1
   replace hs2 := hs2.mono hm1_2
   replace hs4 := hs4.mono hm1_2
   replace hc23 := hc23.mono hm1_2
   show WK _ _ m1_2 [blk b_ 23 [.int .i64 ((gt c.gaps i).Lo), .int .i64 ((gt c.gaps i).Hi)], blk b7 174 [v1, v11], rowF (v11) 23 (fwP c.gaps L i), rowF (v17) 23 (L), blk b8 174 [.slice none 0 0, .slice none 0 0]] [(5, .int .i64 (↑i)), (6, .pointer (some ⟨b_, 0, none⟩)), (1, .pointer (some ⟨b7, 0, none⟩)), (2, .pointer (some ⟨b8, 0, none⟩)), (13, .pointer (some ⟨b7, 1, none⟩)), (14, v11), (15, v17), (4, v17), (16, .agg [v1, v11].toArray), (17, .func (.func 262) #[] [.pointer (some p22)].toArray)] _
   have hb1 := fwP_bd hw hI (i := i) (j := i) (by omega)
   have hg1 := hw.g i hi
   have hpl := fwP_len c.gaps L i
   refine WC.block ?_
   refine WC.draw (π := (.cons 0 (.cons 1 (.cons 2 (.cons 3 (.cons 4 (.cons 5 (.cons 6 (.cons 7 (.cons 8 (.cons 9 (.cons 10 (.cons 11 (.cons 12 (.cons 13 (.cons 14 (.cons 15 (.cons 16 (.cons 17 (.cons 18 (.cons 19 (.cons 20 (.cons 21 .done))))))))))))))))))))))) [21] [21] rfl (by kernel_rfl) ?_
   refine DW.y rfl rfl (X.move rfl) ?_
   refine DW.y rfl rfl (X.add rfl rfl (by omega) (by omega)) ?_
   refine DW.y rfl rfl (X.field Tryz.runUnderlying174 rfl Tryz.sizeOf28 rfl) ?_
   refine DW.y rfl rfl (X.loadB (k := 1) Tryz.isAgg28 rfl rfl rfl) ?_
   refine DW.y rfl rfl (X.move rfl) ?_
   refine DW.y rfl rfl (X.idxRowE (k := 2) i Tryz.runUnderlying28 Tryz.sizeOf23 rfl rfl rfl (by omega) (by first | omega | (simp; omega) | simp)) ?_
   refine DW.y rfl rfl (X.field Tryz.runUnderlying23 rfl Tryz.sizeOf3 rfl) ?_
   refine DW.y rfl rfl (X.loadFp (k := 2) (i := i) (off := 0) (u := .int .i64 (((gt (fwP c.gaps L i) i)).Lo)) Tryz.isAgg3 rfl rfl (by first | omega | (simp; omega) | simp) rfl) ?_
   refine DW.y rfl rfl (X.field Tryz.runUnderlying23 rfl Tryz.sizeOf3 rfl) ?_
   refine DW.y rfl rfl (X.loadB (k := 0) Tryz.isAgg3 rfl rfl rfl) ?_
   refine DW.y rfl rfl (X.add rfl rfl (by omega) (by omega)) ?_
   refine DW.y rfl rfl (X.field Tryz.runUnderlying174 rfl Tryz.sizeOf28 rfl) ?_
   refine DW.y rfl rfl (X.loadB (k := 1) Tryz.isAgg28 rfl rfl rfl) ?_
   refine DW.y rfl rfl (X.move rfl) ?_
   refine DW.y rfl rfl (X.idxRowE (k := 2) i Tryz.runUnderlying28 Tryz.sizeOf23 rfl rfl rfl (by omega) (by first | omega | (simp; omega) | simp)) ?_
   refine DW.y rfl rfl (X.field Tryz.runUnderlying23 rfl Tryz.sizeOf3 rfl) ?_
   refine DW.y rfl rfl (X.loadFp (k := 2) (i := i) (off := 1) (u := .int .i64 (((gt (fwP c.gaps L i) i)).Hi)) Tryz.isAgg3 rfl rfl (by first | omega | (simp; omega) | simp) rfl) ?_
   refine DW.y rfl rfl (X.field Tryz.runUnderlying23 rfl Tryz.sizeOf3 rfl) ?_
   refine DW.y rfl rfl (X.loadB (k := 0) Tryz.isAgg3 rfl rfl rfl) ?_
   refine DW.y rfl rfl (X.add rfl rfl (by omega) (by omega)) ?_
   refine DW.y (V := Value.agg [.int .i64 ((((gt (fwP c.gaps L i) i)).Lo) + ((gt c.gaps i).Lo)), .int .i64 ((((gt (fwP c.gaps L i) i)).Hi) + ((gt c.gaps i).Hi))].toArray) rfl rfl (X.build Tryz.zeroValue23 Tryz.runUnderlying23 (places23 _ Tryz.underlying23) rfl rfl) ?_
   refine DW.tM rfl rfl rfl rfl (T.callP (A := [blk b_ 23 [.int .i64 ((gt c.gaps i).Lo), .int .i64 ((gt c.gaps i).Hi)], rowF (v17) 23 (L), blk b8 174 [.slice none 0 0, .slice none 0 0]]) Tryz.call216 rfl ((List.Perm.cons _ ((List.Perm.cons _ (.refl _)).trans (List.perm_middle (l₁ := [blk b_ 23 [.int .i64 ((gt c.gaps i).Lo), .int .i64 ((gt c.gaps i).Hi)]]) (l₂ := [rowF (v17) 23 (L), blk b8 174 [.slice none 0 0, .slice none 0 0]]) (a := rowF (v11) 23 (fwP c.gaps L i))).symm)).trans (List.perm_middle (l₁ := [blk b_ 23 [.int .i64 ((gt c.gaps i).Lo), .int .i64 ((gt c.gaps i).Hi)]]) (l₂ := [rowF (v11) 23 (fwP c.gaps L i), rowF (v17) 23 (L), blk b8 174 [.slice none 0 0, .slice none 0 0]]) (a := blk b7 174 [v1, v11])).symm) (narrow216 _ (k := (i + 1)) (by omega) (by omega) ((Span.mk ((((gt (fwP c.gaps L i) i)).Lo) + ((gt c.gaps i).Lo)) ((((gt (fwP c.gaps L i) i)).Hi) + ((gt c.gaps i).Hi)))))) (by decide) (fun m26 Es_ v_ hle27 hR_ => ?_)
   obtain ⟨rfl, rfl⟩ := hR_
   replace hs2 := hs2.mono hle27
   replace hs4 := hs4.mono hle27
   replace hc23 := hc23.mono hle27
   refine DW.nil ?_
   refine WK.nBlock ?_
   have he28 : ((fwP c.gaps L i).set (i + 1) (meet (gt (fwP c.gaps L i) (i + 1)) ((Span.mk ((((gt (fwP c.gaps L i) i)).Lo) + ((gt c.gaps i).Lo)) ((((gt (fwP c.gaps L i) i)).Hi) + ((gt c.gaps i).Hi)))))) = (fwP c.gaps L (i + 1)) := (fwP_step hi)
   rw [he28]
   refine WK.perm [blk b_ 23 [.int .i64 ((gt c.gaps i).Lo), .int .i64 ((gt c.gaps i).Hi)], blk b7 174 [v1, v11], rowF (v11) 23 (fwP c.gaps L (i + 1)), rowF (v17) 23 (L), blk b8 174 [.slice none 0 0, .slice none 0 0]] ((List.Perm.cons _ (.refl _)).trans (List.perm_middle (l₁ := [blk b7 174 [v1, v11], rowF (v11) 23 (fwP c.gaps L (i + 1))]) (l₂ := [rowF (v17) 23 (L), blk b8 174 [.slice none 0 0, .slice none 0 0]]) (a := blk b_ 23 [.int .i64 ((gt c.gaps i).Lo), .int .i64 ((gt c.gaps i).Hi)])).symm) ?_
   exact WK.goOn (fwP c.gaps L (i + 1)) hle27 (.cons _ (.refl _)) rfl
  ·intro m1_2 gh hm1_2 hI1
   obtain rfl := hI1
   replace hs2 := hs2.mono hm1_2
   replace hs4 := hs4.mono hm1_2
   replace hc23 := hc23.mono hm1_2
   refine WK.keep (σ' := [(1, .pointer (some ⟨b7, 0, none⟩)), (2, .pointer (some ⟨b8, 0, none⟩)), (13, .pointer (some ⟨b7, 1, none⟩)), (14, v11), (15, v17), (4, v17), (16, .agg [v1, v11].toArray), (17, .func (.func 262) #[] [.pointer (some p22)].toArray)]) (.cons rfl (.cons rfl (.cons rfl (.cons rfl (.cons rfl (.cons rfl (.cons rfl (.cons rfl .nil)))))))) ?_
   show WK _ _ m1_2 [blk b7 174 [v1, v11], rowF (v11) 23 (fwP c.gaps L c.gaps.length), rowF (v17) 23 (L), blk b8 174 [.slice none 0 0, .slice none 0 0]] [(1, .pointer (some ⟨b7, 0, none⟩)), (2, .pointer (some ⟨b8, 0, none⟩)), (13, .pointer (some ⟨b7, 1, none⟩)), (14, v11), (15, v17), (4, v17), (16, .agg [v1, v11].toArray), (17, .func (.func 262) #[] [.pointer (some p22)].toArray)] _
   refine WK.nBlock ?_
   refine WK.nThen ?_
   refine WC.seq ?_
   refine WC.r ?_
   refine WL.y (X.loadBA (k := 0) Tryz.isAgg174 Tryz.sizeOf174 rfl rfl rfl) ?_
   refine WL.tm (T.call Tryz.call218 rfl (bwd218 _ v1 v11)) (by decide) (fun m29 r33 hle30 hR_ => ?_)
   obtain ⟨p31, rfl, hc32⟩ := hR_
   replace hs2 := hs2.mono hle30
   replace hs4 := hs4.mono hle30
   replace hc23 := hc23.mono hle30
   refine WL.z ?_
   refine WC.block ?_
   refine WC.rangeFuncA (S := List Span) (G := Nat) (ps := [44, 45]) (n := c.gaps.length) (A := fun i _ args => args = [.int .i64 (((c.gaps.length - 1 - i) : Nat) : Int), .agg [.int .i64 (gt c.gaps (c.gaps.length - 1 - i)).Lo, .int .i64 (gt c.gaps (c.gaps.length - 1 - i)).Hi].toArray].toArray) rfl Tryz.call263 (iter263 _ hc32 hs2) (fun x_ : List Span => [blk b7 174 [v1, v11], rowF (v11) 23 (x_), rowF (v17) 23 (L), blk b8 174 [.slice none 0 0, .slice none 0 0]]) (fun i _ x_ => x_ = bwP c.gaps L i) (fun _ _ _ _ => False) (fwP c.gaps L c.gaps.length) rfl (fwP_last _ _) (fun h => by cases h) (fun _ _ _ _ _ h => h) (by simp) (fun i m1 args h => by subst h; rfl) (fun b_ args gh => blk b_ 23 ((args.getD 1 undef).cells.toList) :: (fun x_ : List Span => [blk b7 174 [v1, v11], rowF (v11) 23 (x_), rowF (v17) 23 (L), blk b8 174 [.slice none 0 0, .slice none 0 0]]) gh) (fun b_ args => (7, args.headD undef) :: (8, .pointer (some ⟨b_, 0, none⟩)) :: [(1, .pointer (some ⟨b7, 0, none⟩)), (2, .pointer (some ⟨b8, 0, none⟩)), (13, .pointer (some ⟨b7, 1, none⟩)), (14, v11), (15, v17), (4, v17), (16, .agg [v1, v11].toArray), (17, .func (.func 262) #[] [.pointer (some p22)].toArray), (42, .agg [v1, v11].toArray), (43, .func (.func 263) #[] [.pointer (some p31)].toArray)]) ?_ ?_ ?_ ?_ ?_
   ·intro lo B1 i m1_3 gh args KK hlen hA1 hm1_3 hKK
    have hA2 : args = [.int .i64 (((c.gaps.length - 1 - i) : Nat) : Int), .agg [.int .i64 (gt c.gaps (c.gaps.length - 1 - i)).Lo, .int .i64 (gt c.gaps (c.gaps.length - 1 - i)).Hi].toArray] := (by have := congrArg Array.toList hA1; simpa using this)
    subst hA2
    refine WC.r ?_
    refine WL.ag rfl ?_
    refine WL.z ?_
    refine WC.region ?_
    refine WL.tn (T.alloc Tryz.zeroValue23 rfl) (by decide) fun b34 => ?_
    refine WL.ts (T.storeBA (k := 0) Tryz.sizeOf23 rfl rfl rfl (one_cons rfl (one_cons rfl one_nil)) rfl rfl) ?_
    refine WL.z ?_
    exact WK.keep (.cons rfl (.cons rfl (.cons rfl (.cons rfl (.cons rfl (.cons rfl (.cons rfl (.cons rfl (.cons rfl (.cons rfl (.cons rfl (.cons rfl .nil)))))))))))) (hKK b34)
   ·intro lo B1 i m1_3 gh args b_ hlen hi hm1_3 hA1 hI1
    have hA2 : args = [.int .i64 (((c.gaps.length - 1 - i) : Nat) : Int), .agg [.int .i64 (gt c.gaps (c.gaps.length - 1 - i)).Lo, .int .i64 (gt c.gaps (c.gaps.length - 1 - i)).Hi].toArray] := (by have := congrArg Array.toList hA1; simpa using this)
    subst hA2
    obtain ⟨q, hq⟩ : ∃ q, q = (c.gaps.length - 1 - i) := ⟨_, rfl⟩
    rw [← hq]
    obtain rfl := hI1
    replace hs2 := hs2.mono hm1_3
    replace hs4 := hs4.mono hm1_3
    replace hc23 := hc23.mono hm1_3
    replace hc32 := hc32.mono hm1_3
    show WK _ _ m1_3 [blk b_ 23 [.int .i64 ((gt c.gaps q).Lo), .int .i64 ((gt c.gaps q).Hi)], blk b7 174 [v1, v11], rowF (v11) 23 (bwP c.gaps L i), rowF (v17) 23 (L), blk b8 174 [.slice none 0 0, .slice none 0 0]] [(7, .int .i64 (↑q)), (8, .pointer (some ⟨b_, 0, none⟩)), (1, .pointer (some ⟨b7, 0, none⟩)), (2, .pointer (some ⟨b8, 0, none⟩)), (13, .pointer (some ⟨b7, 1, none⟩)), (14, v11), (15, v17), (4, v17), (16, .agg [v1, v11].toArray), (17, .func (.func 262) #[] [.pointer (some p22)].toArray), (42, .agg [v1, v11].toArray), (43, .func (.func 263) #[] [.pointer (some p31)].toArray)] _
    have hb1 := bwP_bd hw hI (i := i) (j := q + 1) (by omega)
    have hg1 := hw.g q (by omega)
    have hpl := bwP_len c.gaps L i
    refine WC.block ?_
    refine WC.draw (π := (.cons 0 (.cons 1 (.cons 2 (.cons 3 (.cons 4 (.cons 5 (.cons 6 (.cons 7 (.cons 8 (.cons 9 (.cons 10 (.cons 11 (.cons 12 (.cons 13 (.cons 14 (.cons 15 (.cons 16 (.cons 17 (.cons 18 (.cons 19 (.cons 20 (.cons 21 (.cons 22 .done)))))))))))))))))))))))) [22] [22] rfl (by kernel_rfl) ?_
    refine DW.y rfl rfl (X.move rfl) ?_
    refine DW.y rfl rfl (X.field Tryz.runUnderlying174 rfl Tryz.sizeOf28 rfl) ?_
    refine DW.y rfl rfl (X.loadB (k := 1) Tryz.isAgg28 rfl rfl rfl) ?_
    refine DW.y rfl rfl (X.move rfl) ?_
    refine DW.y rfl rfl (X.add rfl rfl (by omega) (by omega)) ?_
    refine DW.y rfl rfl (X.idxRowE (k := 2) (q + 1) Tryz.runUnderlying28 Tryz.sizeOf23 rfl rfl rfl (by omega) (by first | omega | (simp; omega) | simp)) ?_
    refine DW.y rfl rfl (X.field Tryz.runUnderlying23 rfl Tryz.sizeOf3 rfl) ?_
    refine DW.y rfl rfl (X.loadFp (k := 2) (i := q + 1) (off := 0) (u := .int .i64 (((gt (bwP c.gaps L i) (q + 1))).Lo)) Tryz.isAgg3 rfl rfl (by first | omega | (simp; omega) | simp) rfl) ?_
    refine DW.y rfl rfl (X.field Tryz.runUnderlying23 rfl Tryz.sizeOf3 rfl) ?_
    refine DW.y rfl rfl (X.loadB (k := 0) Tryz.isAgg3 rfl rfl rfl) ?_
    refine DW.y rfl rfl (X.sub rfl rfl (by omega) (by omega)) ?_
    refine DW.y rfl rfl (X.field Tryz.runUnderlying174 rfl Tryz.sizeOf28 rfl) ?_
    refine DW.y rfl rfl (X.loadB (k := 1) Tryz.isAgg28 rfl rfl rfl) ?_
    refine DW.y rfl rfl (X.move rfl) ?_
    refine DW.y rfl rfl (X.add rfl rfl (by omega) (by omega)) ?_
    refine DW.y rfl rfl (X.idxRowE (k := 2) (q + 1) Tryz.runUnderlying28 Tryz.sizeOf23 rfl rfl rfl (by omega) (by first | omega | (simp; omega) | simp)) ?_
    refine DW.y rfl rfl (X.field Tryz.runUnderlying23 rfl Tryz.sizeOf3 rfl) ?_
    refine DW.y rfl rfl (X.loadFp (k := 2) (i := q + 1) (off := 1) (u := .int .i64 (((gt (bwP c.gaps L i) (q + 1))).Hi)) Tryz.isAgg3 rfl rfl (by first | omega | (simp; omega) | simp) rfl) ?_
    refine DW.y rfl rfl (X.field Tryz.runUnderlying23 rfl Tryz.sizeOf3 rfl) ?_
    refine DW.y rfl rfl (X.loadB (k := 0) Tryz.isAgg3 rfl rfl rfl) ?_
    refine DW.y rfl rfl (X.sub rfl rfl (by omega) (by omega)) ?_
    refine DW.y (V := Value.agg [.int .i64 ((((gt (bwP c.gaps L i) (q + 1))).Lo) - ((gt c.gaps q).Hi)), .int .i64 ((((gt (bwP c.gaps L i) (q + 1))).Hi) - ((gt c.gaps q).Lo))].toArray) rfl rfl (X.build Tryz.zeroValue23 Tryz.runUnderlying23 (places23 _ Tryz.underlying23) rfl rfl) ?_
    refine DW.tM rfl rfl rfl rfl (T.callP (A := [blk b_ 23 [.int .i64 ((gt c.gaps q).Lo), .int .i64 ((gt c.gaps q).Hi)], rowF (v17) 23 (L), blk b8 174 [.slice none 0 0, .slice none 0 0]]) Tryz.call216 rfl ((List.Perm.cons _ ((List.Perm.cons _ (.refl _)).trans (List.perm_middle (l₁ := [blk b_ 23 [.int .i64 ((gt c.gaps q).Lo), .int .i64 ((gt c.gaps q).Hi)]]) (l₂ := [rowF (v17) 23 (L), blk b8 174 [.slice none 0 0, .slice none 0 0]]) (a := rowF (v11) 23 (bwP c.gaps L i))).symm)).trans (List.perm_middle (l₁ := [blk b_ 23 [.int .i64 ((gt c.gaps q).Lo), .int .i64 ((gt c.gaps q).Hi)]]) (l₂ := [rowF (v11) 23 (bwP c.gaps L i), rowF (v17) 23 (L), blk b8 174 [.slice none 0 0, .slice none 0 0]]) (a := blk b7 174 [v1, v11])).symm) (narrow216 _ (k := q) (by omega) (by omega) ((Span.mk ((((gt (bwP c.gaps L i) (q + 1))).Lo) - ((gt c.gaps q).Hi)) ((((gt (bwP c.gaps L i) (q + 1))).Hi) - ((gt c.gaps q).Lo)))))) (by decide) (fun m35 Es_ v_ hle36 hR_ => ?_)
    obtain ⟨rfl, rfl⟩ := hR_
    replace hs2 := hs2.mono hle36
    replace hs4 := hs4.mono hle36
    replace hc23 := hc23.mono hle36
    replace hc32 := hc32.mono hle36
    refine DW.nil ?_
    refine WK.nBlock ?_
    have he37 : ((bwP c.gaps L i).set q (meet (gt (bwP c.gaps L i) q) ((Span.mk ((((gt (bwP c.gaps L i) (q + 1))).Lo) - ((gt c.gaps q).Hi)) ((((gt (bwP c.gaps L i) (q + 1))).Hi) - ((gt c.gaps q).Lo)))))) = (bwP c.gaps L (i + 1)) := (bwP_step hi hq)
    rw [he37]
    refine WK.perm [blk b_ 23 [.int .i64 ((gt c.gaps q).Lo), .int .i64 ((gt c.gaps q).Hi)], blk b7 174 [v1, v11], rowF (v11) 23 (bwP c.gaps L (i + 1)), rowF (v17) 23 (L), blk b8 174 [.slice none 0 0, .slice none 0 0]] ((List.Perm.cons _ (.refl _)).trans (List.perm_middle (l₁ := [blk b7 174 [v1, v11], rowF (v11) 23 (bwP c.gaps L (i + 1))]) (l₂ := [rowF (v17) 23 (L), blk b8 174 [.slice none 0 0, .slice none 0 0]]) (a := blk b_ 23 [.int .i64 ((gt c.gaps q).Lo), .int .i64 ((gt c.gaps q).Hi)])).symm) ?_
    exact WK.goOn (bwP c.gaps L (i + 1)) hle36 (.cons _ (.refl _)) rfl
   ·intro m1_3 gh hm1_3 hI1
    obtain rfl := hI1
    replace hs2 := hs2.mono hm1_3
    replace hs4 := hs4.mono hm1_3
    replace hc23 := hc23.mono hm1_3
    replace hc32 := hc32.mono hm1_3
    refine WK.keep (σ' := [(1, .pointer (some ⟨b7, 0, none⟩)), (2, .pointer (some ⟨b8, 0, none⟩)), (13, .pointer (some ⟨b7, 1, none⟩)), (14, v11), (15, v17), (4, v17), (16, .agg [v1, v11].toArray), (17, .func (.func 262) #[] [.pointer (some p22)].toArray), (42, .agg [v1, v11].toArray), (43, .func (.func 263) #[] [.pointer (some p31)].toArray)]) (.cons rfl (.cons rfl (.cons rfl (.cons rfl (.cons rfl (.cons rfl (.cons rfl (.cons rfl (.cons rfl (.cons rfl .nil)))))))))) ?_
    show WK _ _ m1_3 [blk b7 174 [v1, v11], rowF (v11) 23 (bwP c.gaps L c.gaps.length), rowF (v17) 23 (L), blk b8 174 [.slice none 0 0, .slice none 0 0]] [(1, .pointer (some ⟨b7, 0, none⟩)), (2, .pointer (some ⟨b8, 0, none⟩)), (13, .pointer (some ⟨b7, 1, none⟩)), (14, v11), (15, v17), (4, v17), (16, .agg [v1, v11].toArray), (17, .func (.func 262) #[] [.pointer (some p22)].toArray), (42, .agg [v1, v11].toArray), (43, .func (.func 263) #[] [.pointer (some p31)].toArray)] _
    refine WK.nBlock ?_
    refine WK.nThen ?_
    refine WC.seq ?_
    refine WC.seq ?_
    have he38 : (bwP c.gaps L c.gaps.length) = (setL c) := ((bwP_last c L).trans (setI_set hw hI))
    rw [he38]
    have hsl := setL_len c
    refine WC.region ?_
    refine WL.y (X.field Tryz.runUnderlying174 rfl Tryz.sizeOf28 rfl) ?_
    refine WL.y (X.loadB (k := 0) Tryz.isAgg28 rfl rfl rfl) ?_
    refine WL.cond (X.callL Tryz.call178 rfl (fun w_ hw_ => cont178 (p := fun i => (gt (setL c) i).Hi < (gt (setL c) i).Lo) _ (hw_.rowFSl (k := 1) rfl (by unfold lenB; omega)) (caps := []) Tryz.call219 (fun i _ => bad219 _ _ (gt (setL c) i) rfl))) (by decide) (fun h39 => ?_) (fun h39 => ?_)
    ·refine WL.z ?_
     refine WC.condT rfl ?_
     refine WC.r ?_
     refine WL.y (X.loadBA (k := 0) Tryz.isAgg174 Tryz.sizeOf174 rfl rfl rfl) ?_
     refine WL.ts (T.storeBA (k := 3) Tryz.sizeOf174 rfl rfl rfl (one_cons hs2.one (one_cons ho13 one_nil)) rfl rfl) ?_
     refine WL.ag rfl ?_
     refine WL.z ?_
     refine WC.ret ?_
     refine WK.rThen ?_
     refine WK.rBlock ?_
     refine WK.rThen ?_
     refine WK.rBlock ?_
     refine WK.rThen ?_
     refine WK.rScope ?_
     refine WK.freezeF 1 rfl rfl (by rw [setL_len]; unfold lenB; omega) (fun m40 hle41 hs42 => ?_)
     replace hs2 := hs2.mono hle41
     replace hs4 := hs4.mono hle41
     replace hc23 := hc23.mono hle41
     replace hc32 := hc32.mono hle41
     refine WK.retC2 2 rfl rfl rfl rfl Tryz.isAgg174 Tryz.sizeOf174 (fun w' hw' => Ret.mem hw' ?_)
     first | exact ⟨_, tup2 rfl (bool_false (fun h_ => by have := ok_all.1 h_; contradiction)), ⟨_, _, rfl, hs2, hs42⟩⟩ | exact ⟨_, tup2 rfl (bool_true (ok_all.2 (Decidable.of_not_not (by assumption)))), ⟨_, _, rfl, hs2, hs42⟩⟩
    ·refine WL.z ?_
     refine WC.condF rfl ?_
     refine WC.skip ?_
     refine WK.nThen ?_
     refine WC.r ?_
     refine WL.mv rfl ?_
     refine WL.y (X.field Tryz.runUnderlying174 rfl Tryz.sizeOf28 rfl) ?_
     refine WL.y (X.loadB (k := 0) Tryz.isAgg28 rfl rfl rfl) ?_
     refine WL.cond (X.callL Tryz.call220 rfl (fun w_ hw_ => equal220 _ _ L (hw_.rowFSl (k := 2) rfl (by unfold lenB; omega)) _ (setL c) (hw_.rowFSl (k := 1) rfl (by unfold lenB; omega)))) (by decide) (fun h43 => ?_) (fun h43 => ?_)
     ·refine WL.z ?_
      refine WC.condT rfl ?_
      refine WC.exit ?_
      refine WK.eMiss rfl ?_
      refine WK.eThen ?_
      refine WK.eHit ?_
      refine WK.nThen ?_
      refine WC.r ?_
      refine WL.y (X.loadBA (k := 0) Tryz.isAgg174 Tryz.sizeOf174 rfl rfl rfl) ?_
      refine WL.ts (T.storeBA (k := 3) Tryz.sizeOf174 rfl rfl rfl (one_cons hs2.one (one_cons ho13 one_nil)) rfl rfl) ?_
      refine WL.ag rfl ?_
      refine WL.z ?_
      refine WC.ret ?_
      refine WK.rScope ?_
      refine WK.freezeF 1 rfl rfl (by rw [setL_len]; unfold lenB; omega) (fun m44 hle45 hs46 => ?_)
      replace hs2 := hs2.mono hle45
      replace hs4 := hs4.mono hle45
      replace hc23 := hc23.mono hle45
      replace hc32 := hc32.mono hle45
      refine WK.retC2 2 rfl rfl rfl rfl Tryz.isAgg174 Tryz.sizeOf174 (fun w' hw' => Ret.mem hw' ?_)
      first | exact ⟨_, tup2 rfl (bool_false (fun h_ => by have := ok_all.1 h_; contradiction)), ⟨_, _, rfl, hs2, hs46⟩⟩ | exact ⟨_, tup2 rfl (bool_true (ok_all.2 (Decidable.of_not_not (by assumption)))), ⟨_, _, rfl, hs2, hs46⟩⟩
     ·refine WL.z ?_
      refine WC.condF rfl ?_
      refine WC.skip ?_
      refine WK.nBlock ?_
      refine WK.nThen ?_
      refine WK.back hgood0 (Mem.le_trans hle18 (Mem.le_trans hle21 (Mem.le_trans hm1_2 (Mem.le_trans hle30 hm1_3)))) ?_
      refine WK.perm [rowF (v17) 23 (L), rowF (v11) 23 (setL c), blk b8 174 [.slice none 0 0, .slice none 0 0], blk b7 174 [v1, v11]] ((List.Perm.cons _ ((List.Perm.cons _ ((List.Perm.cons _ (.refl _)).trans (List.perm_middle (l₁ := [blk b7 174 [v1, v11]]) (l₂ := []) (a := blk b8 174 [.slice none 0 0, .slice none 0 0])).symm)).trans (List.perm_middle (l₁ := [blk b7 174 [v1, v11]]) (l₂ := [blk b8 174 [.slice none 0 0, .slice none 0 0]]) (a := rowF (v11) 23 (setL c))).symm)).trans (List.perm_middle (l₁ := [blk b7 174 [v1, v11], rowF (v11) 23 (setL c)]) (l₂ := [blk b8 174 [.slice none 0 0, .slice none 0 0]]) (a := rowF (v17) 23 (L))).symm) ?_
      refine WK.next ((1, setL c)) rfl (.cons _ (.refl _)) (.cons rfl (.cons rfl .nil)) ?_ ?_
      ·exact ⟨.inr ⟨rfl, ok_all.2 (Decidable.of_not_not (by assumption))⟩, by omega, fun _ => rfl⟩
      ·(by_cases hr0 : r = 1; exact absurd (hr1 hr0) (by assumption); (dsimp only; omega))
   ·intro i m1 gh hm1 hi hI1
    exact hI1.elim
   ·intro id i m1 gh hm1 hi hI1
    exact hI1.elim
  ·intro i m1 gh hm1 hi hI1
   exact hI1.elim
  ·intro id i m1 gh hm1 hi hI1
   exact hI1.elim

theorem earliest72 (m : Mem) (cc : List Value) (c : Clk) (hc : Enc.rd m cc c)  (hl : c.at_.length ≤ 1000) : Pure Tryz.prog 72 #[.agg cc.toArray] m (fun m' v => ∃ r0, v = r0 ∧ Sl m' r0 (losL c.at_)) := by
 obtain ⟨v1, v3, rfl, hs2, hs4⟩ := hc
 have hl5 := hs2.le
 have hl6 := hs4.le
 refine Pure.start Tryz.func72 rfl Tryz.ntmps72 rfl fun wld => ?_
 refine WC.r ?_
 refine WL.tn (T.boxB rfl rfl) (by decide) fun b7 => ?_
 refine WL.ag rfl ?_
 refine WL.z ?_
 refine WC.seq ?_
 refine WK.ownF Int 3 ?_
 refine WC.region ?_
 refine WL.ag rfl ?_
 refine WL.z ?_
 refine WC.seq ?_
 refine WC.r ?_
 refine WL.y (X.field Tryz.runUnderlying174 rfl Tryz.sizeOf28 rfl) ?_
 refine WL.y (X.loadB (k := 1) Tryz.isAgg28 rfl rfl rfl) ?_
 refine WL.y (X.len Tryz.runUnderlying28 rfl hs4) ?_
 refine WL.mv rfl ?_
 refine WL.z ?_
 refine WC.block ?_
 refine WC.loop (G := Nat × Value) (fun (k, vo) => c.at_.length - k) (fun (k, vo) => m) (fun (k, vo) => [rowF (vo) 3 ((List.range k).map (fun i => (gt c.at_ i).Lo)), blk b7 174 [v1, v3]]) (fun (k, vo) => [(3, vo), (7, v3), (8, .int .i64 (↑c.at_.length)), (9, .int .i64 (↑k))]) (fun (k, vo) => k ≤ c.at_.length) ((0, Value.slice none 0 0)) rfl (.refl _) (.cons rfl (.cons rfl (.cons rfl (.cons rfl .nil)))) ?_ ?_
 ·exact Nat.zero_le _
 ·rintro ⟨k, vo⟩ hF8
  show WK _ _ m [rowF (vo) 3 ((List.range k).map (fun i => (gt c.at_ i).Lo)), blk b7 174 [v1, v3]] [(3, vo), (7, v3), (8, .int .i64 (↑c.at_.length)), (9, .int .i64 (↑k))] _
  replace hF8 : k ≤ c.at_.length := hF8
  have hk := hF8
  refine WC.r ?_
  refine WL.cond (X.lss rfl rfl) (by decide) (fun h9 => ?_) (fun h9 => ?_)
  ·refine WL.z ?_
   refine WC.seq ?_
   refine WC.condT rfl ?_
   refine WC.skip ?_
   refine WK.nThen ?_
   refine WC.seq ?_
   refine WC.block ?_
   refine WC.r ?_
   refine WL.xe (E.idxN k Tryz.runUnderlying28 Tryz.sizeOf23 rfl rfl hs4 (by omega)) (by decide) (fun p10 hp11 => ?_)
   refine WL.xe (E.loadAgg Tryz.isAgg23 Tryz.sizeOf23 rfl hp11) (by decide) (fun c12 hc13 => ?_)
   obtain rfl := hc13
   refine WL.tn (T.alloc Tryz.zeroValue23 rfl) (by decide) fun b14 => ?_
   refine WL.ts (T.storeBA (k := 0) Tryz.sizeOf23 rfl rfl rfl (one_cons rfl (one_cons rfl one_nil)) rfl rfl) ?_
   refine WL.z ?_
   refine WC.region ?_
   refine WL.mv rfl ?_
   refine WL.y (X.field Tryz.runUnderlying23 rfl Tryz.sizeOf3 rfl) ?_
   refine WL.y (X.loadB (k := 0) Tryz.isAgg3 rfl rfl rfl) ?_
   refine WL.tl (T.lit1 sl27 rfl rfl rfl (by decide)) (by decide) fun b15 => ?_
   refine WL.ta (T.appendF (k := 1) (a := (gt c.at_ k).Lo) sl27 rfl rfl rfl rfl (by first | omega | (simp; done) | (simp; omega)) (by decide)) (by decide) (fun v16 => ?_)
   refine WL.ag rfl ?_
   refine WL.nil ?_
   refine WK.nBlock ?_
   refine WK.nThen ?_
   refine WC.region ?_
   refine WL.y (X.add rfl rfl (by omega) (by omega)) ?_
   refine WL.mv rfl ?_
   refine WL.z ?_
   have he17 : (((List.range k).map (fun i => (gt c.at_ i).Lo)) ++ [(gt c.at_ k).Lo]) = ((List.range (k + 1)).map (fun i => (gt c.at_ i).Lo)) := map_succ _ _
   rw [he17]
   refine WK.next ((k + 1, v16)) rfl (.cons _ (.cons_cons _ (.cons_cons _ .slnil))) (.cons rfl (.cons rfl (.cons rfl (.cons rfl .nil)))) ?_ ?_
   ·omega
   ·(dsimp only; omega)
  ·refine WL.z ?_
   refine WC.seq ?_
   refine WC.condF rfl ?_
   refine WC.exit ?_
   refine WK.eThen ?_
   refine WK.eThen ?_
   refine WK.eHit ?_
   refine WK.nThen ?_
   refine WC.seq ?_
   obtain rfl : k = c.at_.length := (by omega)
   refine WC.region ?_
   refine WL.mv rfl ?_
   refine WL.ag rfl ?_
   refine WL.z ?_
   refine WC.ret ?_
   refine WK.freezeF 0 rfl rfl (by first | (simp [lenB]; omega) | (unfold lenB; omega)) (fun m18 hle19 hs20 => ?_)
   replace hs2 := hs2.mono hle19
   replace hs4 := hs4.mono hle19
   refine WK.ret1 rfl rfl (fun w' hw' => Ret.mem hw' ?_)
   exact ⟨_, rfl, hs20⟩

theorem opened71 (m : Mem) (cd : List Value) (d : Drum) (hd : Enc.rd m cd d) (vm_ : Value) (m_ : List Mark) (hm_ : Sl m vm_ m_) (vcolumns : Value) (columns : List Int) (hcolumns : Sl m vcolumns columns) (vticks : Value) (ticks : List Int) (hticks : Sl m vticks ticks)   : Pure Tryz.prog 71 #[.agg cd.toArray, vm_, vcolumns, vticks] m (fun m' v => ∃ r0, v = .tuple #[.agg r0.toArray, .int .i64 (openE d m_ columns ticks)] ∧ Enc.rd m' r0 (openC d m_ columns ticks)) := by
 obtain ⟨v1, v3, rfl, hs2, hs4⟩ := hd
 have hl5 := hs2.le
 have hl6 := hs4.le
 have lm_ := hm_.le
 have lcolumns := hcolumns.le
 have lticks := hticks.le
 refine Pure.start Tryz.func71 rfl Tryz.ntmps71 rfl fun wld => ?_
 refine WC.r ?_
 refine WL.tn (T.boxB rfl rfl) (by decide) fun b7 => ?_
 refine WL.tn (T.alloc Tryz.zeroValue174 rfl) (by decide) fun b8 => ?_
 refine WL.ag rfl ?_
 refine WL.z ?_
 refine WC.seq ?_
 refine WC.r ?_
 refine WL.y (X.loadBA (k := 1) Tryz.isAgg31 Tryz.sizeOf31 rfl rfl rfl) ?_
 refine WL.mv rfl ?_
 refine WL.y (X.call Tryz.call135 rfl (checked135 _ _ d ⟨_, _, rfl, hs2, hs4⟩ _ _ hm_ )) ?_
 refine WL.ag rfl ?_
 refine WL.z ?_
 refine WC.r ?_
 refine WL.mv rfl ?_
 refine WL.condn (X.neq rfl rfl) (by decide) (fun h9 => ?_) (fun h9 => ?_)
 ·refine WL.z ?_
  refine WC.condT rfl ?_
  refine WC.r ?_
  refine WL.y (V := Value.agg [.slice none 0 0, .slice none 0 0].toArray) (X.build Tryz.zeroValue174 Tryz.runUnderlying174 (places174 _ Tryz.underlying174) rfl rfl) ?_
  refine WL.mv rfl ?_
  refine WL.ts (T.storeBA (k := 0) Tryz.sizeOf174 rfl rfl rfl (one_cons rfl (one_cons rfl one_nil)) rfl rfl) ?_
  refine WL.ag rfl ?_
  refine WL.z ?_
  refine WC.ret ?_
  refine WK.rThen ?_
  refine WK.retC2 0 rfl rfl rfl rfl Tryz.isAgg174 Tryz.sizeOf174 (fun w' hw' => Ret.mem hw' ?_)
  first | (have he_ := (openE_bad (by omega) : openE d m_ columns ticks = _); exact ⟨_, tup2 rfl (int_eq he_.symm), by rw [openC_bad (by rw [he_]; omega)]; exact ⟨_, _, rfl, .nil, .nil⟩⟩) | (have he_ := (openE_arg (by omega) (fun h_ => by have h1_ := h_.1; contradiction) : openE d m_ columns ticks = _); exact ⟨_, tup2 rfl (int_eq he_.symm), by rw [openC_bad (by rw [he_]; omega)]; exact ⟨_, _, rfl, .nil, .nil⟩⟩) | (have he_ := (openE_arg (by omega) (fun h_ => by have h1_ := h_.2; contradiction) : openE d m_ columns ticks = _); exact ⟨_, tup2 rfl (int_eq he_.symm), by rw [openC_bad (by rw [he_]; omega)]; exact ⟨_, _, rfl, .nil, .nil⟩⟩) | (have he_ := (openE_time (by omega) ⟨Decidable.of_not_not ‹_›, Decidable.of_not_not ‹_›⟩ (fun h_ => by have := (okC_clock d m_).2 h_; contradiction) : openE d m_ columns ticks = _); exact ⟨_, tup2 rfl (int_eq he_.symm), by rw [openC_bad (by rw [he_]; omega)]; exact ⟨_, _, rfl, .nil, .nil⟩⟩)
 ·refine WL.z ?_
  refine WC.condF rfl ?_
  refine WC.skip ?_
  refine WK.nThen ?_
  refine WC.seq ?_
  refine WK.freezeS (α := Drum) (x := d) 1 rfl rfl (show Enc.rd (α := Drum) m [v1, v3] d from ⟨_, _, rfl, hs2, hs4⟩) (fun m10 hle11 hp12 => ?_)
  replace hs2 := hs2.mono hle11
  replace hs4 := hs4.mono hle11
  replace hm_ := hm_.mono hle11
  replace hcolumns := hcolumns.mono hle11
  replace hticks := hticks.mono hle11
  refine WC.region ?_
  refine WL.y (X.makeFunc (by intro x hx; simp at hx; subst hx; all_goals exact ⟨_, rfl⟩) rfl) ?_
  refine WL.ag rfl ?_
  refine WL.z ?_
  refine WC.r ?_
  refine WL.ag rfl ?_
  refine WL.z ?_
  refine WC.seq ?_
  refine WC.r ?_
  refine WL.mv rfl ?_
  refine WL.mv rfl ?_
  refine WL.cond (X.call Tryz.call97 rfl (cont97 (p := fun i => ¬ (0 ≤ gt columns i ∧ gt columns i ≤ (d.Rates.length : Int))) _ hcolumns (caps := [.pointer (some ((⟨b7, 0, none⟩ : Addr)))]) Tryz.call136 (fun i _ => col136 _ (gt columns i) hp12))) (by decide) (fun h13 => ?_) (fun h13 => ?_)
  ·refine WL.mv rfl ?_
   refine WL.no rfl rfl rfl (by decide) ?_
   refine WL.no rfl rfl rfl (by decide) ?_
   refine WL.no rfl rfl rfl (by decide) ?_
   refine WL.y (X.pickT rfl rfl rfl) ?_
   refine WL.z ?_
   refine WC.condT rfl ?_
   refine WC.r ?_
   refine WL.y (V := Value.agg [.slice none 0 0, .slice none 0 0].toArray) (X.build Tryz.zeroValue174 Tryz.runUnderlying174 (places174 _ Tryz.underlying174) rfl rfl) ?_
   refine WL.ts (T.storeBA (k := 0) Tryz.sizeOf174 rfl rfl rfl (one_cons rfl (one_cons rfl one_nil)) rfl rfl) ?_
   refine WL.ag rfl ?_
   refine WL.z ?_
   refine WC.ret ?_
   refine WK.rThen ?_
   refine WK.retC2 0 rfl rfl rfl rfl Tryz.isAgg174 Tryz.sizeOf174 (fun w' hw' => Ret.mem hw' ?_)
   first | (have he_ := (openE_bad (by omega) : openE d m_ columns ticks = _); exact ⟨_, tup2 rfl (int_eq he_.symm), by rw [openC_bad (by rw [he_]; omega)]; exact ⟨_, _, rfl, .nil, .nil⟩⟩) | (have he_ := (openE_arg (by omega) (fun h_ => by have h1_ := h_.1; contradiction) : openE d m_ columns ticks = _); exact ⟨_, tup2 rfl (int_eq he_.symm), by rw [openC_bad (by rw [he_]; omega)]; exact ⟨_, _, rfl, .nil, .nil⟩⟩) | (have he_ := (openE_arg (by omega) (fun h_ => by have h1_ := h_.2; contradiction) : openE d m_ columns ticks = _); exact ⟨_, tup2 rfl (int_eq he_.symm), by rw [openC_bad (by rw [he_]; omega)]; exact ⟨_, _, rfl, .nil, .nil⟩⟩) | (have he_ := (openE_time (by omega) ⟨Decidable.of_not_not ‹_›, Decidable.of_not_not ‹_›⟩ (fun h_ => by have := (okC_clock d m_).2 h_; contradiction) : openE d m_ columns ticks = _); exact ⟨_, tup2 rfl (int_eq he_.symm), by rw [openC_bad (by rw [he_]; omega)]; exact ⟨_, _, rfl, .nil, .nil⟩⟩)
  ·refine WL.mv rfl ?_
   refine WL.yes rfl rfl ?_
   refine WL.mv rfl ?_
   refine WL.yes rfl rfl ?_
   refine WL.mv rfl ?_
   refine WL.yes rfl rfl ?_
   refine WL.cond (X.call Tryz.call97 rfl (cont97 (p := fun i => ¬ (0 ≤ gt ticks i ∧ gt ticks i ≤ 400)) _ hticks (caps := []) Tryz.call138 (fun i _ => tick138 _ (gt ticks i)))) (by decide) (fun h14 => ?_) (fun h14 => ?_)
   ·refine WL.y (X.pickF rfl rfl rfl) ?_
    refine WL.z ?_
    refine WC.condT rfl ?_
    refine WC.r ?_
    refine WL.y (V := Value.agg [.slice none 0 0, .slice none 0 0].toArray) (X.build Tryz.zeroValue174 Tryz.runUnderlying174 (places174 _ Tryz.underlying174) rfl rfl) ?_
    refine WL.ts (T.storeBA (k := 0) Tryz.sizeOf174 rfl rfl rfl (one_cons rfl (one_cons rfl one_nil)) rfl rfl) ?_
    refine WL.ag rfl ?_
    refine WL.z ?_
    refine WC.ret ?_
    refine WK.rThen ?_
    refine WK.retC2 0 rfl rfl rfl rfl Tryz.isAgg174 Tryz.sizeOf174 (fun w' hw' => Ret.mem hw' ?_)
    first | (have he_ := (openE_bad (by omega) : openE d m_ columns ticks = _); exact ⟨_, tup2 rfl (int_eq he_.symm), by rw [openC_bad (by rw [he_]; omega)]; exact ⟨_, _, rfl, .nil, .nil⟩⟩) | (have he_ := (openE_arg (by omega) (fun h_ => by have h1_ := h_.1; contradiction) : openE d m_ columns ticks = _); exact ⟨_, tup2 rfl (int_eq he_.symm), by rw [openC_bad (by rw [he_]; omega)]; exact ⟨_, _, rfl, .nil, .nil⟩⟩) | (have he_ := (openE_arg (by omega) (fun h_ => by have h1_ := h_.2; contradiction) : openE d m_ columns ticks = _); exact ⟨_, tup2 rfl (int_eq he_.symm), by rw [openC_bad (by rw [he_]; omega)]; exact ⟨_, _, rfl, .nil, .nil⟩⟩) | (have he_ := (openE_time (by omega) ⟨Decidable.of_not_not ‹_›, Decidable.of_not_not ‹_›⟩ (fun h_ => by have := (okC_clock d m_).2 h_; contradiction) : openE d m_ columns ticks = _); exact ⟨_, tup2 rfl (int_eq he_.symm), by rw [openC_bad (by rw [he_]; omega)]; exact ⟨_, _, rfl, .nil, .nil⟩⟩)
   ·refine WL.y (X.pickF rfl rfl rfl) ?_
    refine WL.z ?_
    refine WC.condF rfl ?_
    refine WC.skip ?_
    refine WK.nThen ?_
    refine WC.seq ?_
    have hok := Ok.of (d := d) (m := m_) (by omega)
    refine WC.region ?_
    refine WL.xe (E.loadAgg Tryz.isAgg31 Tryz.sizeOf31 rfl hp12) (by decide) (fun c15 hc16 => ?_)
    obtain ⟨v17, v19, rfl, hs18, hs20⟩ := hc16
    have hl21 := hs18.le
    have hl22 := hs20.le
    refine WL.mv rfl ?_
    refine WL.tm (T.call Tryz.call139 rfl (clockOf139 _ _ d ⟨_, _, rfl, hs18, hs20⟩ _ _ hm_ hok)) (by decide) fun m23 r24 hle25 hR26 => ?_
    obtain ⟨c27, rfl, hc28⟩ := hR26
    replace hs2 := hs2.mono hle25
    replace hs4 := hs4.mono hle25
    replace hm_ := hm_.mono hle25
    replace hcolumns := hcolumns.mono hle25
    replace hticks := hticks.mono hle25
    replace hp12 := hp12.mono hle25
    replace hs18 := hs18.mono hle25
    replace hs20 := hs20.mono hle25
    obtain ⟨v29, v31, rfl, hs30, hs32⟩ := hc28
    have hl33 := hs30.le
    have hl34 := hs32.le
    refine WL.tm (T.call Tryz.call140 rfl (settled140 _ _ (Clk.mk (gapL d) (atL d m_)) ⟨_, _, rfl, hs30, hs32⟩ (CkW.of hok))) (by decide) fun m35 r36 hle37 hR38 => ?_
    obtain ⟨c39, rfl, hc40⟩ := hR38
    replace hs2 := hs2.mono hle37
    replace hs4 := hs4.mono hle37
    replace hm_ := hm_.mono hle37
    replace hcolumns := hcolumns.mono hle37
    replace hticks := hticks.mono hle37
    replace hp12 := hp12.mono hle37
    replace hs18 := hs18.mono hle37
    replace hs20 := hs20.mono hle37
    replace hs30 := hs30.mono hle37
    replace hs32 := hs32.mono hle37
    obtain ⟨v41, v43, rfl, hs42, hs44⟩ := hc40
    have hl45 := hs42.le
    have hl46 := hs44.le
    refine WL.mv rfl ?_
    refine WL.y (X.extract rfl rfl) ?_
    refine WL.y (X.extract rfl rfl) ?_
    refine WL.tn (T.alloc Tryz.zeroValue174 rfl) (by decide) fun b47 => ?_
    refine WL.ts (T.storeBA (k := 0) Tryz.sizeOf174 rfl rfl rfl (one_cons hs42.one (one_cons hs44.one one_nil)) rfl rfl) ?_
    refine WL.ag rfl ?_
    refine WL.z ?_
    refine WC.seq ?_
    refine WC.r ?_
    refine WL.mv rfl ?_
    refine WL.condn (X.notp rfl) (by decide) (fun h48 => ?_) (fun h48 => ?_)
    ·refine WL.z ?_
     refine WC.condT rfl ?_
     refine WC.r ?_
     refine WL.y (V := Value.agg [.slice none 0 0, .slice none 0 0].toArray) (X.build Tryz.zeroValue174 Tryz.runUnderlying174 (places174 _ Tryz.underlying174) rfl rfl) ?_
     refine WL.ts (T.storeBA (k := 1) Tryz.sizeOf174 rfl rfl rfl (one_cons rfl (one_cons rfl one_nil)) rfl rfl) ?_
     refine WL.ag rfl ?_
     refine WL.z ?_
     refine WC.ret ?_
     refine WK.rThen ?_
     refine WK.retC2 1 rfl rfl rfl rfl Tryz.isAgg174 Tryz.sizeOf174 (fun w' hw' => Ret.mem hw' ?_)
     first | (have he_ := (openE_bad (by omega) : openE d m_ columns ticks = _); exact ⟨_, tup2 rfl (int_eq he_.symm), by rw [openC_bad (by rw [he_]; omega)]; exact ⟨_, _, rfl, .nil, .nil⟩⟩) | (have he_ := (openE_arg (by omega) (fun h_ => by have h1_ := h_.1; contradiction) : openE d m_ columns ticks = _); exact ⟨_, tup2 rfl (int_eq he_.symm), by rw [openC_bad (by rw [he_]; omega)]; exact ⟨_, _, rfl, .nil, .nil⟩⟩) | (have he_ := (openE_arg (by omega) (fun h_ => by have h1_ := h_.2; contradiction) : openE d m_ columns ticks = _); exact ⟨_, tup2 rfl (int_eq he_.symm), by rw [openC_bad (by rw [he_]; omega)]; exact ⟨_, _, rfl, .nil, .nil⟩⟩) | (have he_ := (openE_time (by omega) ⟨Decidable.of_not_not ‹_›, Decidable.of_not_not ‹_›⟩ (fun h_ => by have := (okC_clock d m_).2 h_; contradiction) : openE d m_ columns ticks = _); exact ⟨_, tup2 rfl (int_eq he_.symm), by rw [openC_bad (by rw [he_]; omega)]; exact ⟨_, _, rfl, .nil, .nil⟩⟩)
    ·refine WL.z ?_
     refine WC.condF rfl ?_
     refine WC.skip ?_
     refine WK.nThen ?_
     refine WC.r ?_
     refine WL.y (X.loadBA (k := 0) Tryz.isAgg174 Tryz.sizeOf174 rfl rfl rfl) ?_
     refine WL.ts (T.storeBA (k := 1) Tryz.sizeOf174 rfl rfl rfl (one_cons hs42.one (one_cons hs44.one one_nil)) rfl rfl) ?_
     refine WL.ag rfl ?_
     refine WL.z ?_
     refine WC.ret ?_
     refine WK.retC2 1 rfl rfl rfl rfl Tryz.isAgg174 Tryz.sizeOf174 (fun w' hw' => Ret.mem hw' ?_)
     first | (have he_ := (openE_ok (by omega) ⟨Decidable.of_not_not ‹_›, Decidable.of_not_not ‹_›⟩ ((okC_clock d m_).1 (by assumption)) : openE d m_ columns ticks = _); exact ⟨_, tup2 rfl (int_eq he_.symm), by rw [openC_ok he_]; unfold setC; rw [← setL_clock]; exact ⟨_, _, rfl, hs42, hs44⟩⟩)

theorem earliest24 (m : Mem) (cd : List Value) (d : Drum) (hd : Enc.rd m cd d) (vm_ : Value) (m_ : List Mark) (hm_ : Sl m vm_ m_)   : Pure Tryz.prog 24 #[.agg cd.toArray, vm_] m (fun m' v => ∃ r0, v = .tuple #[r0, .int .i64 ((earR d m_).2)] ∧ Sl m' r0 ((earR d m_).1)) := by
 obtain ⟨v1, v3, rfl, hs2, hs4⟩ := hd
 have hl5 := hs2.le
 have hl6 := hs4.le
 have lm_ := hm_.le
 refine Pure.start Tryz.func24 rfl Tryz.ntmps24 rfl fun wld => ?_
 refine WC.r ?_
 refine WL.tn (T.boxB rfl rfl) (by decide) fun b7 => ?_
 refine WL.ag rfl ?_
 refine WL.ag rfl ?_
 refine WL.z ?_
 refine WC.r ?_
 refine WL.y (X.loadBA (k := 0) Tryz.isAgg31 Tryz.sizeOf31 rfl rfl rfl) ?_
 refine WL.mv rfl ?_
 refine WL.tm (T.call Tryz.call71 rfl (opened71 _ _ d ⟨_, _, rfl, hs2, hs4⟩ _ _ hm_ _ _ .nil _ _ .nil )) (by decide) fun m8 r9 hle10 hR11 => ?_
 obtain ⟨c12, rfl, hc13⟩ := hR11
 replace hs2 := hs2.mono hle10
 replace hs4 := hs4.mono hle10
 replace hm_ := hm_.mono hle10
 obtain ⟨v14, v16, rfl, hs15, hs17⟩ := hc13
 have hl18 := hs15.le
 have hl19 := hs17.le
 refine WL.mv rfl ?_
 refine WL.y (X.extract rfl rfl) ?_
 refine WL.y (X.extract rfl rfl) ?_
 refine WL.tn (T.alloc Tryz.zeroValue174 rfl) (by decide) fun b20 => ?_
 refine WL.ts (T.storeBA (k := 0) Tryz.sizeOf174 rfl rfl rfl (one_cons hs15.one (one_cons hs17.one one_nil)) rfl rfl) ?_
 refine WL.ag rfl ?_
 refine WL.z ?_
 refine WC.seq ?_
 refine WC.r ?_
 refine WL.mv rfl ?_
 refine WL.condn (X.neq rfl rfl) (by decide) (fun h21 => ?_) (fun h21 => ?_)
 ·refine WL.z ?_
  refine WC.condT rfl ?_
  refine WC.r ?_
  refine WL.mv rfl ?_
  refine WL.ag rfl ?_
  refine WL.ag rfl ?_
  refine WL.z ?_
  refine WC.ret ?_
  refine WK.rThen ?_
  refine WK.ret2 rfl rfl rfl (fun w' hw' => Ret.mem hw' ?_)
  first | exact ⟨_, tup2 rfl (int_eq (by rw [earR_bad (by omega)])), by rw [earR_bad (by omega)]; exact .nil⟩ | exact ⟨_, tup2 rfl (int_eq (by rw [earR_ok he_])), by rw [earR_ok he_]; exact .nil⟩
 ·refine WL.z ?_
  refine WC.condF rfl ?_
  refine WC.skip ?_
  refine WK.nThen ?_
  refine WC.seq ?_
  have he_ : openE d m_ ([]) ([]) = 0 := (by omega)
  have hz := openE_zero he_
  have hoc := openC_ok he_
  have hok := hz.1
  have hod := hz.2.2
  have hw := setC_w hok hod
  have hsn := setC_n d m_
  have hsl := setC_l d m_
  have hd1 := hok.dr.1
  rw [hoc] at hs15
  rw [hoc] at hs17
  try rw [hoc]
  refine WC.region ?_
  refine WL.y (X.loadBA (k := 0) Tryz.isAgg174 Tryz.sizeOf174 rfl rfl rfl) ?_
  refine WL.tm (T.call Tryz.call72 rfl (earliest72 _ _ (setC d m_) ⟨_, _, rfl, hs15, hs17⟩ (by omega))) (by decide) fun m22 r23 hle24 hR25 => ?_
  obtain ⟨v26, hv_, hs27⟩ := hR25
  rw [← hv_] at hs27
  clear hv_ v26
  replace hs2 := hs2.mono hle24
  replace hs4 := hs4.mono hle24
  replace hm_ := hm_.mono hle24
  replace hs15 := hs15.mono hle24
  replace hs17 := hs17.mono hle24
  have hl28 := hs27.le
  refine WL.ag rfl ?_
  refine WL.ag rfl ?_
  refine WL.z ?_
  refine WC.ret ?_
  refine WK.ret2 rfl rfl rfl (fun w' hw' => Ret.mem hw' ?_)
  first | exact ⟨_, tup2 rfl (int_eq (by rw [earR_bad (by omega)])), by rw [earR_bad (by omega)]; exact hs27⟩ | exact ⟨_, tup2 rfl (int_eq (by rw [earR_ok he_])), by rw [earR_ok he_]; exact hs27⟩

end Go.Proofs.T10
