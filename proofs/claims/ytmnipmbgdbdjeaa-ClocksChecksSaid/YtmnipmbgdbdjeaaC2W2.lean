import Derived.Test.YtmnipmbgdbdjeaaC2W
import Derived.Test.YtmnipmbgdbdjeaaC2Walk
/- Clocks: walks, second part, by program. -/
namespace Go.Proofs.C2
open Go Go.Kx
set_option linter.unusedVariables false

theorem clone116 (m : Mem) {v : Value} {L : List Span} (hL : Sl m v L) (hn : L.length ≤ 1000) : Mut Try.prog 116 #[v] m [] (fun _ Es u => Es = [rowF u 31 L] ∧ u.oneCell' = true) := by
  refine Mut.start Try.func116 rfl Try.ntmps116 rfl fun wld => ?_
  refine WC.seq ?_
  refine WC.region ?_
  refine WL.x (X.assign rfl) (by decide) ?_
  refine WL.nil ?_
  refine WK.nThen ?_
  refine WC.seq ?_
  refine WC.seq ?_
  refine WC.region ?_
  refine WL.x (X.move rfl) (by decide) ?_
  refine WL.condb (X.eqlNil Try.underlying22 rfl rfl hL) (by decide) (fun h1 => ?_) (fun h1 => ?_)
  · refine WL.nil ?_
    refine WK.nThen ?_
    refine WC.condT rfl ?_
    refine WC.seq ?_
    obtain rfl := hL.nil_of (by assumption)
    refine WK.ownF Span 31 ?_
    refine WC.region ?_
    refine WL.x (X.assign rfl) (by decide) ?_
    refine WL.nil ?_
    refine WK.nThen ?_
    refine WC.ret ?_
    refine WK.rThen ?_
    refine WK.ret1 rfl rfl (fun w' hw' => Ret.mut hw' ?_)
    first | exact ⟨rfl, rfl⟩ | exact ⟨rfl, ho_⟩
  · refine WL.nil ?_
    refine WK.nThen ?_
    refine WC.condF rfl ?_
    refine WC.skip ?_
    refine WK.nThen ?_
    refine WC.seq ?_
    refine WC.region ?_
    refine WL.ta (T.lit0 (α := Span) sl22 rfl) (by decide) (fun v2 => ?_)
    refine WL.x (X.move rfl) (by decide) ?_
    refine WL.ta (T.appendFl (α := Span) (fun _ _ _ h => h) (k := 0) sl22 rfl rfl hL rfl (by first | omega | (simp; omega)) (by first | omega | (simp; omega))) (by decide) (fun v3 => ?_)
    refine WL.own1 (k := 0) rfl (fun ho_ => ?_)
    refine WL.x (X.assign rfl) (by decide) ?_
    refine WL.nil ?_
    refine WK.nThen ?_
    refine WC.ret ?_
    refine WK.ret1 rfl rfl (fun w' hw' => Ret.mut hw' ?_)
    first | exact ⟨rfl, rfl⟩ | exact ⟨rfl, ho_⟩

theorem clone117 (m : Mem) {v : Value} {L : List Stop} (hL : Sl m v L) (hn : L.length ≤ 1000) : Mut Try.prog 117 #[v] m [] (fun _ Es u => Es = [rowF u 34 L] ∧ u.oneCell' = true) := by
  refine Mut.start Try.func117 rfl Try.ntmps117 rfl fun wld => ?_
  refine WC.seq ?_
  refine WC.region ?_
  refine WL.x (X.assign rfl) (by decide) ?_
  refine WL.nil ?_
  refine WK.nThen ?_
  refine WC.seq ?_
  refine WC.seq ?_
  refine WC.region ?_
  refine WL.x (X.move rfl) (by decide) ?_
  refine WL.condb (X.eqlNil Try.underlying23 rfl rfl hL) (by decide) (fun h1 => ?_) (fun h1 => ?_)
  · refine WL.nil ?_
    refine WK.nThen ?_
    refine WC.condT rfl ?_
    refine WC.seq ?_
    obtain rfl := hL.nil_of (by assumption)
    refine WK.ownF Stop 34 ?_
    refine WC.region ?_
    refine WL.x (X.assign rfl) (by decide) ?_
    refine WL.nil ?_
    refine WK.nThen ?_
    refine WC.ret ?_
    refine WK.rThen ?_
    refine WK.ret1 rfl rfl (fun w' hw' => Ret.mut hw' ?_)
    first | exact ⟨rfl, rfl⟩ | exact ⟨rfl, ho_⟩
  · refine WL.nil ?_
    refine WK.nThen ?_
    refine WC.condF rfl ?_
    refine WC.skip ?_
    refine WK.nThen ?_
    refine WC.seq ?_
    refine WC.region ?_
    refine WL.ta (T.lit0 (α := Stop) sl23 rfl) (by decide) (fun v2 => ?_)
    refine WL.x (X.move rfl) (by decide) ?_
    refine WL.ta (T.appendFl (α := Stop) (fun _ _ _ h => h) (k := 0) sl23 rfl rfl hL rfl (by first | omega | (simp; omega)) (by first | omega | (simp; omega))) (by decide) (fun v3 => ?_)
    refine WL.own1 (k := 0) rfl (fun ho_ => ?_)
    refine WL.x (X.assign rfl) (by decide) ?_
    refine WL.nil ?_
    refine WK.nThen ?_
    refine WC.ret ?_
    refine WK.ret1 rfl rfl (fun w' hw' => Ret.mut hw' ?_)
    first | exact ⟨rfl, rfl⟩ | exact ⟨rfl, ho_⟩

theorem equal132 (m : Mem) (va : Value) (a : List Span) (ha : Sl m va a) (vb : Value) (b : List Span) (hb : Sl m vb b)   : Exact Try.prog 132 #[va, vb] m (.bool (decide (a = b))) := by
  have la := ha.le
  have lb := hb.le
  refine Exact.start Try.func132 rfl Try.ntmps132 rfl fun wld => ?_
  refine WC.seq ?_
  refine WC.region ?_
  refine WL.x (X.assign rfl) (by decide) ?_
  refine WL.nil ?_
  refine WK.nThen ?_
  refine WC.seq ?_
  refine WC.seq ?_
  refine WC.region ?_
  refine WL.x (X.move rfl) (by decide) ?_
  refine WL.x (X.len Try.runUnderlying22 rfl ha) (by decide) ?_
  refine WL.x (X.move rfl) (by decide) ?_
  refine WL.x (X.len Try.runUnderlying22 rfl hb) (by decide) ?_
  refine WL.condn (X.neq rfl rfl) (by decide) (fun h1 => ?_) (fun h1 => ?_)
  · refine WL.nil ?_
    refine WK.nThen ?_
    refine WC.condT rfl ?_
    refine WC.seq ?_
    refine WC.region ?_
    refine WL.x (X.assign rfl) (by decide) ?_
    refine WL.nil ?_
    refine WK.nThen ?_
    refine WC.ret ?_
    refine WK.rThen ?_
    refine WK.ret1 rfl rfl (fun w' hw' => Ret.exact hw' ?_)
    first | exact bool_false (fun e => by subst e; omega) | exact bool_false (fun e => by subst e; contradiction) | exact bool_true (ext_gt (by omega) (fun j hj => hall j (by omega)))
  · refine WL.nil ?_
    refine WK.nThen ?_
    refine WC.condF rfl ?_
    refine WC.skip ?_
    refine WK.nThen ?_
    refine WC.seq ?_
    refine WC.seq ?_
    refine WC.region ?_
    refine WL.x (X.move rfl) (by decide) ?_
    refine WL.x (X.len Try.runUnderlying22 rfl ha) (by decide) ?_
    refine WL.x (X.move rfl) (by decide) ?_
    refine WL.nil ?_
    refine WK.nThen ?_
    refine WC.block ?_
    refine WC.loop (G := Nat) (fun k => a.length - k) (fun k => m) (fun k => []) (fun k => [(0, va), (1, vb), (12, .int .i64 (↑a.length)), (13, .int .i64 (↑k))]) (fun k => k ≤ a.length ∧ (∀ j, j < k → gt a j = gt b j)) 0 rfl (.refl _) (.cons rfl (.cons rfl (.cons rfl (.cons rfl .nil)))) ?_ ?_
    · exact ⟨Nat.zero_le _, fun j hj => absurd hj (Nat.not_lt_zero _)⟩
    · rintro k hF2
      show WK _ _ m [] [(0, va), (1, vb), (12, .int .i64 (↑a.length)), (13, .int .i64 (↑k))] _
      replace hF2 : k ≤ a.length ∧ (∀ j, j < k → gt a j = gt b j) := hF2
      obtain ⟨hk, hall⟩ := hF2
      refine WC.seq ?_
      refine WC.region ?_
      refine WL.cond (X.lss rfl rfl) (by decide) (fun h3 => ?_) (fun h3 => ?_)
      · refine WL.nil ?_
        refine WK.nThen ?_
        refine WC.seq ?_
        refine WC.condT rfl ?_
        refine WC.skip ?_
        refine WK.nThen ?_
        refine WC.seq ?_
        refine WC.block ?_
        refine WC.seq ?_
        refine WC.region ?_
        refine WL.x (X.move rfl) (by decide) ?_
        refine WL.x (X.assign rfl) (by decide) ?_
        refine WL.nil ?_
        refine WK.nThen ?_
        refine WC.seq ?_
        refine WC.draw (π := (.cons 0 (.cons 1 (.cons 2 (.cons 3 (.cons 4 (.cons 5 (.cons 6 (.cons 7 (.cons 8 .done)))))))))) [] [] rfl (by kernel_rfl) ?_
        refine DW.x rfl rfl (X.move rfl) (by decide) ?_
        refine DW.x rfl rfl (X.move rfl) (by decide) ?_
        refine DW.xe rfl rfl (E.idxN k Try.runUnderlying22 Try.sizeOf31 rfl rfl ha (by omega)) (by decide) (fun p4 hp5 => ?_)
        refine DW.xe rfl rfl (E.loadAgg Try.isAgg31 Try.sizeOf31 rfl hp5) (by decide) (fun c6 hc7 => ?_)
        obtain rfl := hc7
        refine DW.x rfl rfl (X.move rfl) (by decide) ?_
        refine DW.x rfl rfl (X.move rfl) (by decide) ?_
        refine DW.xe rfl rfl (E.idxN k Try.runUnderlying22 Try.sizeOf31 rfl rfl hb (by omega)) (by decide) (fun p8 hp9 => ?_)
        refine DW.xe rfl rfl (E.loadAgg Try.isAgg31 Try.sizeOf31 rfl hp9) (by decide) (fun c10 hc11 => ?_)
        obtain rfl := hc11
        refine DW.condn rfl rfl (X.neqS (a := gt a k) (b := gt b k) gd31 (fun w => eqS31 9998 _ _ w) rfl rfl) (by decide) (fun h12 => ?_) (fun h12 => ?_)
        · refine DW.nil ?_
          refine WK.nThen ?_
          refine WC.condT rfl ?_
          refine WC.seq ?_
          refine WC.region ?_
          refine WL.x (X.assign rfl) (by decide) ?_
          refine WL.nil ?_
          refine WK.nThen ?_
          refine WC.ret ?_
          refine WK.rBlock ?_
          refine WK.rThen ?_
          refine WK.rThen ?_
          refine WK.rBlock ?_
          refine WK.rThen ?_
          refine WK.ret1 rfl rfl (fun w' hw' => Ret.exact hw' ?_)
          first | exact bool_false (fun e => by subst e; omega) | exact bool_false (fun e => by subst e; contradiction) | exact bool_true (ext_gt (by omega) (fun j hj => hall j (by omega)))
        · refine DW.nil ?_
          refine WK.nThen ?_
          refine WC.condF rfl ?_
          refine WC.skip ?_
          refine WK.nBlock ?_
          refine WK.nThen ?_
          refine WC.region ?_
          refine WL.x (X.add rfl rfl (by omega) (by omega)) (by decide) ?_
          refine WL.x (X.move rfl) (by decide) ?_
          refine WL.nil ?_
          refine WK.nThen ?_
          refine WK.next (k + 1) rfl (.refl _) (.cons rfl (.cons rfl (.cons rfl (.cons rfl .nil)))) ?_ ?_
          · exact ⟨by omega, fun j hj => by rcases Nat.lt_succ_iff_lt_or_eq.1 hj with h | h; exact hall j h; subst h; assumption⟩
          · omega
      · refine WL.nil ?_
        refine WK.nThen ?_
        refine WC.seq ?_
        refine WC.condF rfl ?_
        refine WC.exit ?_
        refine WK.eThen ?_
        refine WK.eThen ?_
        refine WK.eHit ?_
        refine WK.nThen ?_
        refine WC.seq ?_
        refine WC.region ?_
        refine WL.x (X.assign rfl) (by decide) ?_
        refine WL.nil ?_
        refine WK.nThen ?_
        refine WC.ret ?_
        refine WK.ret1 rfl rfl (fun w' hw' => Ret.exact hw' ?_)
        first | exact bool_false (fun e => by subst e; omega) | exact bool_false (fun e => by subst e; contradiction) | exact bool_true (ext_gt (by omega) (fun j hj => hall j (by omega)))

theorem ends119 (m : Mem) (a : Int) (b : Int)   : Exact Try.prog 119 #[.int .i64 (a), .int .i64 (b)] m (.tuple #[.int .i64 (min a b), .int .i64 (max a b)]) := by
  refine Exact.start Try.func119 rfl Try.ntmps119 rfl fun wld => ?_
  refine WC.seq ?_
  refine WC.region ?_
  refine WL.x (X.assign rfl) (by decide) ?_
  refine WL.x (X.assign rfl) (by decide) ?_
  refine WL.nil ?_
  refine WK.nThen ?_
  refine WC.seq ?_
  refine WC.region ?_
  refine WL.x (X.move rfl) (by decide) ?_
  refine WL.x (X.move rfl) (by decide) ?_
  refine WL.x (X.mn rfl rfl) (by decide) ?_
  refine WL.x (X.move rfl) (by decide) ?_
  refine WL.x (X.move rfl) (by decide) ?_
  refine WL.x (X.mx rfl rfl) (by decide) ?_
  refine WL.x (X.assign rfl) (by decide) ?_
  refine WL.x (X.assign rfl) (by decide) ?_
  refine WL.nil ?_
  refine WK.nThen ?_
  refine WC.ret ?_
  refine WK.ret2 rfl rfl rfl (fun w' hw' => Ret.exact hw' ?_)
  first | rfl | (simp [*]; done)

theorem mul151 (m : Mem) (y : Int) (h0 : 0 ≤ y) (h1 : y ≤ 100000) : Exact Try.prog 151 #[.int .u64 1, .int .u64 y] m (.tuple #[.int .u64 0, .int .u64 y]) := by
  refine Exact.start Try.func151 rfl Try.ntmps151 rfl fun wld => ?_
  refine WC.seq ?_
  refine WC.region ?_
  refine WL.x (X.assign rfl) (by decide) ?_
  refine WL.x (X.assign rfl) (by decide) ?_
  refine WL.nil ?_
  refine WK.nThen ?_
  refine WC.seq ?_
  refine WC.region ?_
  refine WL.x (X.move rfl) (by decide) ?_
  refine WL.x (X.andU rfl rfl (by first | omega | (simp; omega) | (simp; done)) (by first | omega | (simp; omega) | (simp; done))) (by decide) ?_
  refine WL.x (X.assign rfl) (by decide) ?_
  refine WL.nil ?_
  refine WK.nThen ?_
  refine WC.seq ?_
  refine WC.region ?_
  refine WL.x (X.move rfl) (by decide) ?_
  refine WL.x (X.shr32 rfl rfl (by first | omega | (simp; omega) | (simp; done)) (by first | omega | (simp; omega) | (simp; done))) (by decide) ?_
  refine WL.x (X.assign rfl) (by decide) ?_
  refine WL.nil ?_
  refine WK.nThen ?_
  refine WC.seq ?_
  refine WC.region ?_
  refine WL.x (X.move rfl) (by decide) ?_
  refine WL.x (X.andU rfl rfl (by first | omega | (simp; omega) | (simp; done)) (by first | omega | (simp; omega) | (simp; done))) (by decide) ?_
  refine WL.x (X.assign rfl) (by decide) ?_
  refine WL.nil ?_
  refine WK.nThen ?_
  refine WC.seq ?_
  refine WC.region ?_
  refine WL.x (X.move rfl) (by decide) ?_
  refine WL.x (X.shr32 rfl rfl (by first | omega | (simp; omega) | (simp; done)) (by first | omega | (simp; omega) | (simp; done))) (by decide) ?_
  refine WL.x (X.assign rfl) (by decide) ?_
  refine WL.nil ?_
  refine WK.nThen ?_
  refine WC.seq ?_
  refine WC.region ?_
  refine WL.x (X.move rfl) (by decide) ?_
  refine WL.x (X.move rfl) (by decide) ?_
  refine WL.x (X.mulU rfl rfl (by first | omega | (simp; omega) | (simp; done)) (by first | omega | (simp; omega) | (simp; done))) (by decide) ?_
  refine WL.x (X.assign rfl) (by decide) ?_
  refine WL.nil ?_
  refine WK.nThen ?_
  refine WC.seq ?_
  refine WC.region ?_
  refine WL.x (X.move rfl) (by decide) ?_
  refine WL.x (X.move rfl) (by decide) ?_
  refine WL.x (X.mulU rfl rfl (by first | omega | (simp; omega) | (simp; done)) (by first | omega | (simp; omega) | (simp; done))) (by decide) ?_
  refine WL.x (X.move rfl) (by decide) ?_
  refine WL.x (X.shr32 rfl rfl (by first | omega | (simp; omega) | (simp; done)) (by first | omega | (simp; omega) | (simp; done))) (by decide) ?_
  refine WL.x (X.addU rfl rfl (by first | omega | (simp; omega) | (simp; done)) (by first | omega | (simp; omega) | (simp; done))) (by decide) ?_
  refine WL.x (X.assign rfl) (by decide) ?_
  refine WL.nil ?_
  refine WK.nThen ?_
  refine WC.seq ?_
  refine WC.region ?_
  refine WL.x (X.move rfl) (by decide) ?_
  refine WL.x (X.andU rfl rfl (by first | omega | (simp; omega) | (simp; done)) (by first | omega | (simp; omega) | (simp; done))) (by decide) ?_
  refine WL.x (X.assign rfl) (by decide) ?_
  refine WL.nil ?_
  refine WK.nThen ?_
  refine WC.seq ?_
  refine WC.region ?_
  refine WL.x (X.move rfl) (by decide) ?_
  refine WL.x (X.shr32 rfl rfl (by first | omega | (simp; omega) | (simp; done)) (by first | omega | (simp; omega) | (simp; done))) (by decide) ?_
  refine WL.x (X.assign rfl) (by decide) ?_
  refine WL.nil ?_
  refine WK.nThen ?_
  refine WC.seq ?_
  refine WC.region ?_
  refine WL.x (X.move rfl) (by decide) ?_
  refine WL.x (X.move rfl) (by decide) ?_
  refine WL.x (X.move rfl) (by decide) ?_
  refine WL.x (X.mulU rfl rfl (by first | omega | (simp; omega) | (simp; done)) (by first | omega | (simp; omega) | (simp; done))) (by decide) ?_
  refine WL.x (X.addU rfl rfl (by first | omega | (simp; omega) | (simp; done)) (by first | omega | (simp; omega) | (simp; done))) (by decide) ?_
  refine WL.x (X.assign rfl) (by decide) ?_
  refine WL.nil ?_
  refine WK.nThen ?_
  refine WC.seq ?_
  refine WC.region ?_
  refine WL.x (X.move rfl) (by decide) ?_
  refine WL.x (X.move rfl) (by decide) ?_
  refine WL.x (X.mulU rfl rfl (by first | omega | (simp; omega) | (simp; done)) (by first | omega | (simp; omega) | (simp; done))) (by decide) ?_
  refine WL.x (X.move rfl) (by decide) ?_
  refine WL.x (X.addU rfl rfl (by first | omega | (simp; omega) | (simp; done)) (by first | omega | (simp; omega) | (simp; done))) (by decide) ?_
  refine WL.x (X.move rfl) (by decide) ?_
  refine WL.x (X.shr32 rfl rfl (by first | omega | (simp; omega) | (simp; done)) (by first | omega | (simp; omega) | (simp; done))) (by decide) ?_
  refine WL.x (X.addU rfl rfl (by first | omega | (simp; omega) | (simp; done)) (by first | omega | (simp; omega) | (simp; done))) (by decide) ?_
  refine WL.x (X.assign rfl) (by decide) ?_
  refine WL.nil ?_
  refine WK.nThen ?_
  refine WC.seq ?_
  refine WC.region ?_
  refine WL.x (X.move rfl) (by decide) ?_
  refine WL.x (X.move rfl) (by decide) ?_
  refine WL.x (X.mulU rfl rfl (by first | omega | (simp; omega) | (simp; done)) (by first | omega | (simp; omega) | (simp; done))) (by decide) ?_
  refine WL.x (X.assign rfl) (by decide) ?_
  refine WL.nil ?_
  refine WK.nThen ?_
  refine WC.ret ?_
  refine WK.ret2 rfl rfl rfl (fun w' hw' => Ret.exact hw' ?_)
  exact tup2 (by simp) (by simp)

theorem mul148 (m : Mem) (y : Int) (h0 : 0 ≤ y) (h1 : y ≤ 100000) : Exact Try.prog 148 #[.int .u64 1, .int .u64 y] m (.tuple #[.int .u64 0, .int .u64 y]) := by
  refine Exact.start Try.func148 rfl Try.ntmps148 rfl fun wld => ?_
  refine WC.seq ?_
  refine WC.region ?_
  refine WL.x (X.assign rfl) (by decide) ?_
  refine WL.x (X.assign rfl) (by decide) ?_
  refine WL.nil ?_
  refine WK.nThen ?_
  refine WC.seq ?_
  refine WC.condF rfl ?_
  refine WC.skip ?_
  refine WK.nThen ?_
  refine WC.seq ?_
  refine WC.region ?_
  refine WL.x (X.move rfl) (by decide) ?_
  refine WL.x (X.move rfl) (by decide) ?_
  refine WL.x (X.call Try.call151 rfl (mul151 _ y h0 h1)) (by decide) ?_
  refine WL.x (X.move rfl) (by decide) ?_
  refine WL.x (X.extract rfl rfl) (by decide) ?_
  refine WL.x (X.extract rfl rfl) (by decide) ?_
  refine WL.x (X.assign rfl) (by decide) ?_
  refine WL.x (X.assign rfl) (by decide) ?_
  refine WL.nil ?_
  refine WK.nThen ?_
  refine WC.seq ?_
  refine WC.region ?_
  refine WL.x (X.move rfl) (by decide) ?_
  refine WL.x (X.move rfl) (by decide) ?_
  refine WL.x (X.assign rfl) (by decide) ?_
  refine WL.x (X.assign rfl) (by decide) ?_
  refine WL.nil ?_
  refine WK.nThen ?_
  refine WC.ret ?_
  refine WK.ret2 rfl rfl rfl (fun w' hw' => Ret.exact hw' ?_)
  first | rfl | (simp [*]; done)

theorem repeat133 (m : Mem) {vx : Value} {x : Span} (hx : Sl m vx [x]) {i : Int} {n : Nat} (hi : i = n) (hn : 0 < n ∧ n ≤ 1000) : Mut Try.prog 133 #[vx, .int .i64 i] m [] (fun _ Es u => Es = [rowF u 31 (List.replicate n x)] ∧ u.oneCell' = true) := by
  subst hi
  have hx1_ : ([x] : List Span).length = 1 := rfl
  refine Mut.start Try.func133 rfl Try.ntmps133 rfl fun wld => ?_
  refine WC.seq ?_
  refine WC.region ?_
  refine WL.x (X.assign rfl) (by decide) ?_
  refine WL.nil ?_
  refine WK.nThen ?_
  refine WC.seq ?_
  refine WC.seq ?_
  refine WC.region ?_
  refine WL.x (X.move rfl) (by decide) ?_
  refine WL.x (OpX.f (X.lss rfl rfl) (by omega)) (by decide) ?_
  refine WL.nil ?_
  refine WK.nThen ?_
  refine WC.condF rfl ?_
  refine WC.skip ?_
  refine WK.nThen ?_
  refine WC.seq ?_
  refine WC.region ?_
  refine WL.x (X.move rfl) (by decide) ?_
  refine WL.x (X.len Try.runUnderlying22 rfl hx) (by decide) ?_
  refine WL.x (X.conv Try.runUnderlying3 Try.runUnderlying146 rfl (wrap_u64 (by omega) (by omega))) (by decide) ?_
  refine WL.x (X.move rfl) (by decide) ?_
  refine WL.x (X.conv Try.runUnderlying3 Try.runUnderlying146 rfl (wrap_u64 (by omega) (by omega))) (by decide) ?_
  refine WL.x (X.call Try.call148 rfl (mul148 _ ↑n (by omega) (by omega))) (by decide) ?_
  refine WL.x (X.move rfl) (by decide) ?_
  refine WL.x (X.extract rfl rfl) (by decide) ?_
  refine WL.x (X.extract rfl rfl) (by decide) ?_
  refine WL.x (X.assign rfl) (by decide) ?_
  refine WL.x (X.assign rfl) (by decide) ?_
  refine WL.nil ?_
  refine WK.nThen ?_
  refine WC.seq ?_
  refine WC.seq ?_
  refine WC.region ?_
  refine WL.x (X.move rfl) (by decide) ?_
  refine WL.x (X.gtr rfl rfl) (by decide) ?_
  refine WL.x (X.move rfl) (by decide) ?_
  refine WL.yes rfl rfl ?_
  refine WL.x (X.move rfl) (by decide) ?_
  refine WL.yes rfl rfl ?_
  refine WL.x (OpX.f (X.gtr rfl rfl) (by omega)) (by decide) ?_
  refine WL.x (X.pickF rfl rfl rfl) (by decide) ?_
  refine WL.nil ?_
  refine WK.nThen ?_
  refine WC.condF rfl ?_
  refine WC.skip ?_
  refine WK.nThen ?_
  refine WC.seq ?_
  refine WC.region ?_
  refine WL.x (X.move rfl) (by decide) ?_
  refine WL.x (X.conv Try.runUnderlying146 Try.runUnderlying3 rfl (wrap_in (by omega) (by omega))) (by decide) ?_
  refine WL.ta (T.makeN n (a := (Span.mk (0) (0))) sl22 rfl rfl rfl (by omega) (by decide)) (by decide) (fun v1 => ?_)
  refine WL.x (X.assign rfl) (by decide) ?_
  refine WL.nil ?_
  refine WK.nThen ?_
  refine WC.seq ?_
  refine WK.form (k := 0) rfl (by simp; omega) (fun g_ c_ hv_ hc_ => ?_)
  simp only [List.length_replicate] at hv_ hc_
  subst hv_
  refine WC.region ?_
  refine WL.x (X.move rfl) (by decide) ?_
  refine WL.x (X.move rfl) (by decide) ?_
  refine WL.tv (T.copyM (α := Span) (fun _ _ _ h => h) (k := 0) Try.underlying22 Try.sizeOf31 rfl rfl hx rfl (by simp) (by simp) (by simp; omega)) (by decide) ?_
  refine WL.x (X.assign rfl) (by decide) ?_
  refine WL.nil ?_
  refine WK.nThen ?_
  refine WC.seq ?_
  refine WC.block ?_
  have he2 : ([x] ++ (List.replicate n (Span.mk (0) (0))).drop [x].length) = (repL x (Span.mk 0 0) n 1) := rep_start _ _ (by omega)
  rw [he2]
  refine WC.loop (G := Nat) (fun k => n - k) (fun k => m) (fun k => [rowF (.slice (some ⟨g_, 0, none⟩) n c_) 31 (repL x (Span.mk 0 0) n k)]) (fun k => [(7, .slice (some ⟨g_, 0, none⟩) n c_), (8, .int .i64 (↑k))]) (fun k => 1 ≤ k ∧ k ≤ n) 1 rfl (.refl _) (.cons rfl (.cons rfl .nil)) ?_ ?_
  · omega
  · rintro k hF3
    show WK _ _ m [rowF (.slice (some ⟨g_, 0, none⟩) n c_) 31 (repL x (Span.mk 0 0) n k)] [(7, .slice (some ⟨g_, 0, none⟩) n c_), (8, .int .i64 (↑k))] _
    replace hF3 : 1 ≤ k ∧ k ≤ n := hF3
    have hk := hF3
    have hrl := repL_len (x := x) (z := (Span.mk 0 0)) hk.2
    refine WC.seq ?_
    refine WC.seq ?_
    refine WC.region ?_
    refine WL.x (X.move rfl) (by decide) ?_
    refine WL.x (X.move rfl) (by decide) ?_
    refine WL.x (X.lenF (k := 0) Try.runUnderlying22 rfl rfl) (by decide) ?_
    refine WL.cond (X.lss rfl rfl) (by decide) (fun h4 => ?_) (fun h4 => ?_)
    · refine WL.nil ?_
      refine WK.nThen ?_
      refine WC.condT rfl ?_
      refine WC.skip ?_
      refine WK.nThen ?_
      refine WC.block ?_
      refine WC.draw (π := (.cons 0 (.cons 1 (.cons 2 (.cons 3 (.cons 4 (.cons 5 (.cons 6 (.cons 7 (.cons 8 (.cons 9 .done))))))))))) [7] [7] rfl (by kernel_rfl) ?_
      refine DW.x rfl rfl (X.move rfl) (by decide) ?_
      refine DW.x rfl rfl (X.move rfl) (by decide) ?_
      refine DW.x rfl rfl (X.move rfl) (by decide) ?_
      refine DW.x rfl rfl (X.slLo (n := n) (c := c_) k Try.underlying22 Try.sizeOf31 rfl rfl (by omega) (by omega) hc_) (by decide) ?_
      refine DW.x rfl rfl (X.move rfl) (by decide) ?_
      refine DW.x rfl rfl (X.move rfl) (by decide) ?_
      refine DW.x rfl rfl (X.slHi (n := n) (c := c_) k Try.underlying22 Try.sizeOf31 rfl rfl (by omega) (by omega) hc_) (by decide) ?_
      refine DW.tv rfl rfl rfl rfl (T.copyS (α := Span) (a := k) (k := 0) Try.underlying22 Try.sizeOf31 rfl rfl rfl (repL_len (by omega)) (by omega) (by omega)) (by decide) ?_
      refine DW.x rfl rfl (X.add rfl rfl (by omega) (by omega)) (by decide) ?_
      refine DW.x rfl rfl (X.assign rfl) (by decide) ?_
      refine DW.nil ?_
      refine WK.nBlock ?_
      refine WK.nThen ?_
      have he5 : ((repL x (Span.mk 0 0) n k).take k ++ (repL x (Span.mk 0 0) n k).take (min k (n - k)) ++ (repL x (Span.mk 0 0) n k).drop (k + min k (n - k))) = (repL x (Span.mk 0 0) n (k + min k (n - k))) := rep_step
      rw [he5]
      refine WK.next (k + min k (n - k)) rfl (.refl _) (.cons rfl (.cons rfl .nil)) ?_ ?_
      · omega
      · omega
    · refine WL.nil ?_
      refine WK.nThen ?_
      refine WC.condF rfl ?_
      refine WC.exit ?_
      refine WK.eThen ?_
      refine WK.eThen ?_
      refine WK.eHit ?_
      refine WK.nThen ?_
      refine WC.seq ?_
      have he6 : (repL x (Span.mk 0 0) n k) = (List.replicate n x) := (by rw [show k = n by omega]; exact rep_end _ _ _)
      rw [he6]
      refine WC.region ?_
      refine WL.x (X.move rfl) (by decide) ?_
      refine WL.x (X.assign rfl) (by decide) ?_
      refine WL.nil ?_
      refine WK.nThen ?_
      refine WC.ret ?_
      refine WK.ret1 rfl rfl (fun w' hw' => Ret.mut hw' ?_)
      exact ⟨rfl, rfl⟩

theorem narrow128 (m : Mem) {b : Nat} {vg va : Value} {L : List Span} {k : Nat} {ik : Int} (hik : ik = k) (hk : k < L.length) (s : Span) : Mut Try.prog 128 #[.pointer (some ⟨b, 0, none⟩), .int .i64 ik, .agg [.int .i64 s.Lo, .int .i64 s.Hi].toArray] m [blk b 83 [vg, va], rowF va 31 L] (fun _ Es v => v = .tuple #[] ∧ Es = [blk b 83 [vg, va], rowF va 31 (L.set k (meet (gt L k) s))]) := by
  subst hik
  refine Mut.start Try.func128 rfl Try.ntmps128 rfl fun wld => ?_
  refine WC.seq ?_
  refine WC.region ?_
  refine WL.tn (T.boxB rfl rfl) (by decide) fun b1 => ?_
  refine WL.nil ?_
  refine WK.nThen ?_
  refine WC.seq ?_
  refine WC.region ?_
  refine WL.x (X.move rfl) (by decide) ?_
  refine WL.x (X.nilCheck rfl) (by decide) ?_
  refine WL.x (X.field Try.runUnderlying83 rfl Try.sizeOf22 rfl) (by decide) ?_
  refine WL.x (X.loadB (k := 1) Try.isAgg22 rfl rfl rfl) (by decide) ?_
  refine WL.x (X.move rfl) (by decide) ?_
  refine WL.x (X.idxRowE (k := 2) k Try.runUnderlying22 Try.sizeOf31 rfl rfl rfl (by omega) (by first | omega | (simp; omega) | simp)) (by decide) ?_
  refine WL.x (X.assign rfl) (by decide) ?_
  refine WL.nil ?_
  refine WK.nThen ?_
  refine WC.seq ?_
  refine WC.draw (π := (.cons 0 (.cons 1 (.cons 2 (.cons 3 (.cons 4 (.cons 5 (.cons 6 (.cons 7 (.cons 8 (.cons 9 (.cons 10 (.cons 11 (.cons 12 (.cons 13 .done))))))))))))))) [13] [13] rfl (by kernel_rfl) ?_
  refine DW.x rfl rfl (X.move rfl) (by decide) ?_
  refine DW.x rfl rfl (X.move rfl) (by decide) ?_
  refine DW.x rfl rfl (X.nilCheck rfl) (by decide) ?_
  refine DW.x rfl rfl (X.field Try.runUnderlying31 rfl Try.sizeOf3 rfl) (by decide) ?_
  refine DW.x rfl rfl (X.loadFp (k := 2) (i := k) (off := 0) (u := .int .i64 (((gt L k)).Lo)) Try.isAgg3 rfl rfl (by first | omega | (simp; omega) | simp) rfl) (by decide) ?_
  refine DW.x rfl rfl (X.field Try.runUnderlying31 rfl Try.sizeOf3 rfl) (by decide) ?_
  refine DW.x rfl rfl (X.loadB (k := 0) Try.isAgg3 rfl rfl rfl) (by decide) ?_
  refine DW.x rfl rfl (X.call Try.call119 rfl (ends119 _ _ _ )) (by decide) ?_
  refine DW.x rfl rfl (X.move rfl) (by decide) ?_
  refine DW.x rfl rfl (X.extract rfl rfl) (by decide) ?_
  refine DW.x rfl rfl (X.extract rfl rfl) (by decide) ?_
  refine DW.x rfl rfl (X.nilCheck rfl) (by decide) ?_
  refine DW.x rfl rfl (X.field Try.runUnderlying31 rfl Try.sizeOf3 rfl) (by decide) ?_
  refine DW.ts rfl rfl rfl rfl (T.storeFp (k := 2) (i := k) (off := 0) (us := [.int .i64 (max (((gt L k)).Lo) s.Lo)]) ((Span.mk (max (((gt L k)).Lo) s.Lo) (((gt L k)).Hi))) Try.sizeOf3 rfl rfl rfl rfl (Nat.zero_lt_succ _) rfl (by first | omega | (simp; omega) | simp) rfl rfl (one_cons rfl one_nil)) ?_
  refine DW.nil ?_
  refine WK.nThen ?_
  have he2 : (L.set k ((Span.mk (max (((gt L k)).Lo) s.Lo) (((gt L k)).Hi)))) = (L.set k ⟨max (gt L k).Lo s.Lo, (gt L k).Hi⟩) := rfl
  rw [he2]
  have hs1_ := gt_set L (a := k) (⟨max (gt L k).Lo s.Lo, (gt L k).Hi⟩ : Span) hk
  rw [if_pos rfl] at hs1_
  have hl1_ : (L.set k ⟨max (gt L k).Lo s.Lo, (gt L k).Hi⟩).length = L.length := (by simp)
  refine WC.draw (π := (.cons 0 (.cons 1 (.cons 2 (.cons 3 (.cons 4 (.cons 5 (.cons 6 (.cons 7 (.cons 8 (.cons 9 (.cons 10 (.cons 11 (.cons 12 (.cons 13 .done))))))))))))))) [13] [13] rfl (by kernel_rfl) ?_
  refine DW.x rfl rfl (X.move rfl) (by decide) ?_
  refine DW.x rfl rfl (X.move rfl) (by decide) ?_
  refine DW.x rfl rfl (X.nilCheck rfl) (by decide) ?_
  refine DW.x rfl rfl (X.field Try.runUnderlying31 rfl Try.sizeOf3 rfl) (by decide) ?_
  refine DW.x rfl rfl (X.loadFp (k := 2) (i := k) (off := 1) (u := .int .i64 (((gt (L.set k ⟨max (gt L k).Lo s.Lo, (gt L k).Hi⟩) k)).Hi)) Try.isAgg3 rfl rfl (by first | omega | (simp; omega) | simp) rfl) (by decide) ?_
  refine DW.x rfl rfl (X.field Try.runUnderlying31 rfl Try.sizeOf3 rfl) (by decide) ?_
  refine DW.x rfl rfl (X.loadB (k := 0) Try.isAgg3 rfl rfl rfl) (by decide) ?_
  refine DW.x rfl rfl (X.call Try.call119 rfl (ends119 _ _ _ )) (by decide) ?_
  refine DW.x rfl rfl (X.move rfl) (by decide) ?_
  refine DW.x rfl rfl (X.extract rfl rfl) (by decide) ?_
  refine DW.x rfl rfl (X.extract rfl rfl) (by decide) ?_
  refine DW.x rfl rfl (X.nilCheck rfl) (by decide) ?_
  refine DW.x rfl rfl (X.field Try.runUnderlying31 rfl Try.sizeOf3 rfl) (by decide) ?_
  refine DW.ts rfl rfl rfl rfl (T.storeFp (k := 2) (i := k) (off := 1) (us := [.int .i64 (min (((gt (L.set k ⟨max (gt L k).Lo s.Lo, (gt L k).Hi⟩) k)).Hi) s.Hi)]) ((Span.mk (((gt (L.set k ⟨max (gt L k).Lo s.Lo, (gt L k).Hi⟩) k)).Lo) (min (((gt (L.set k ⟨max (gt L k).Lo s.Lo, (gt L k).Hi⟩) k)).Hi) s.Hi))) Try.sizeOf3 rfl rfl rfl rfl (Nat.zero_lt_succ _) rfl (by first | omega | (simp; omega) | simp) rfl rfl (one_cons rfl one_nil)) ?_
  refine DW.nil ?_
  refine WK.end0 rfl (fun w' hw' => Ret.mut (hw'.weaken (.cons _ (.refl _))) ?_)
  refine ⟨rfl, ?_⟩
  rw [hs1_, List.set_set]
  rfl

end Go.Proofs.C2
