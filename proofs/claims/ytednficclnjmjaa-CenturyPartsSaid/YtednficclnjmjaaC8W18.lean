import Derived.Test.YtednficclnjmjaaC8Del
import Derived.Test.YtednficclnjmjaaC8W15
/- Century: walks, eighteenth part, by program. -/
namespace Go.Proofs.C8
open Go Go.Kx
set_option linter.unusedSimpArgs false
set_option linter.unusedVariables false

theorem del118 (m : Mem) (cv : List Value) (v : Val) (hv : Enc.rd m cv v) {pt : Addr} {x : Span} (hpt : At m pt x) : Exact Try.prog 118 #[.agg cv.toArray, .pointer (some pt)] m (.bool (decide (¬ inT x v.Time))) := by
 obtain rfl := hv
 refine Exact.start Try.func118 rfl Try.ntmps118 rfl fun wld => ?_
 refine WC.seq ?_
 refine WC.region ?_
 refine WL.tn (T.boxB rfl rfl) (by decide) fun b1 => ?_
 refine WL.x (X.assign rfl) (by decide) ?_
 refine WL.nil ?_
 refine WK.nThen ?_
 refine WC.seq ?_
 refine WC.region ?_
 refine WL.x (X.field Try.runUnderlying62 rfl Try.sizeOf3 rfl) (by decide) ?_
 refine WL.x (X.loadB (k := 0) Try.isAgg3 rfl rfl rfl) (by decide) ?_
 have hp2 := At.Span_0 hpt
 refine WL.x (X.field Try.runUnderlying33 rfl Try.sizeOf3 rfl) (by decide) ?_
 refine WL.x (X.loadInt Try.isAgg3 rfl hp2) (by decide) ?_
 have hp3 := At.Span_1 hpt
 refine WL.x (X.field Try.runUnderlying33 rfl Try.sizeOf3 rfl) (by decide) ?_
 refine WL.x (X.loadInt Try.isAgg3 rfl hp3) (by decide) ?_
 refine WL.x (X.call Try.call82 rfl (within82 _ _ _ _ )) (by decide) ?_
 refine WL.x (X.notp rfl) (by decide) ?_
 refine WL.x (X.assign rfl) (by decide) ?_
 refine WL.nil ?_
 refine WK.nThen ?_
 refine WC.ret ?_
 refine WK.ret1 rfl rfl (fun w' hw' => Ret.exact hw' ?_)
 exact dec_eq (by unfold inT; omega)

theorem findD148 (m : Mem) {v : Value} {L : List Val} (hL : Sl m v L) {pt : Addr} {x : Span} (hpt : At m pt x) : Exact Try.prog 148 #[v, .func (.func 118) #[] #[.pointer (some pt)]] m (.int .i64 (delF (kpV x) L)) := by
 have hll := hL.le
 refine Exact.start Try.func148 rfl Try.ntmps148 rfl fun wld => ?_
 refine WC.seq ?_
 refine WC.region ?_
 refine WL.x (X.assign rfl) (by decide) ?_
 refine WL.nil ?_
 refine WK.nThen ?_
 refine WC.seq ?_
 refine WC.seq ?_
 refine WC.region ?_
 refine WL.x (X.move rfl) (by decide) ?_
 refine WL.x (X.len Try.runUnderlying22 rfl hL) (by decide) ?_
 refine WL.x (X.move rfl) (by decide) ?_
 refine WL.nil ?_
 refine WK.nThen ?_
 refine WC.block ?_
 refine WC.loop (G := Nat) (fun k => L.length - k) (fun k => m) (fun k => []) (fun k => [(0, v), (1, .func (.func 118) #[] [.pointer (some (pt))].toArray), (7, .int .i64 (↑L.length)), (8, .int .i64 (↑k))]) (fun k => k ≤ L.length ∧ (∀ j, j < k → kpV x (gt L j) = true)) 0 rfl (.refl _) (.cons rfl (.cons rfl (.cons rfl (.cons rfl .nil)))) ?_ ?_
 ·exact ⟨Nat.zero_le _, fun j hj => absurd hj (Nat.not_lt_zero _)⟩
 ·rintro k hF1
  show WK _ _ m [] [(0, v), (1, .func (.func 118) #[] [.pointer (some (pt))].toArray), (7, .int .i64 (↑L.length)), (8, .int .i64 (↑k))] _
  replace hF1 : k ≤ L.length ∧ (∀ j, j < k → kpV x (gt L j) = true) := hF1
  obtain ⟨hk, hall⟩ := hF1
  refine WC.seq ?_
  refine WC.region ?_
  refine WL.cond (X.lss rfl rfl) (by decide) (fun h2 => ?_) (fun h2 => ?_)
  ·refine WL.nil ?_
   refine WK.nThen ?_
   refine WC.seq ?_
   refine WC.condT rfl ?_
   refine WC.skip ?_
   refine WK.nThen ?_
   refine WC.seq ?_
   refine WC.block ?_
   refine WC.seq ?_
   refine WC.region ?_
   refine WL.x (X.move rfl) (by decide) ?_
   refine WL.x (X.assign rfl) (by decide) ?_
   refine WL.nil ?_
   refine WK.nThen ?_
   refine WC.seq ?_
   refine WC.region ?_
   refine WL.x (X.move rfl) (by decide) ?_
   refine WL.x (X.move rfl) (by decide) ?_
   refine WL.x (X.move rfl) (by decide) ?_
   refine WL.xe (E.idxN k Try.runUnderlying22 Try.sizeOf62 rfl rfl hL (by omega)) (by decide) (fun p3 hp4 => ?_)
   refine WL.xe (E.loadAgg Try.isAgg62 Try.sizeOf62 rfl hp4) (by decide) (fun c5 hc6 => ?_)
   obtain rfl := hc6
   refine WL.condn (X.callc Try.call118 rfl rfl (del118 _ _ (gt L k) rfl hpt)) (by decide) (fun h7 => ?_) (fun h7 => ?_)
   ·refine WL.nil ?_
    refine WK.nThen ?_
    refine WC.condT rfl ?_
    refine WC.seq ?_
    refine WC.region ?_
    refine WL.x (X.move rfl) (by decide) ?_
    refine WL.x (X.assign rfl) (by decide) ?_
    refine WL.nil ?_
    refine WK.nThen ?_
    refine WC.ret ?_
    refine WK.rBlock ?_
    refine WK.rThen ?_
    refine WK.rThen ?_
    refine WK.rBlock ?_
    refine WK.rThen ?_
    refine WK.ret1 rfl rfl (fun w' hw' => Ret.exact hw' ?_)
    first | exact int_eq (delF_yes (by omega) hall (decide_eq_false (by assumption))).symm | exact int_eq (delF_no (fun j hj => hall j (by omega))).symm
   ·refine WL.nil ?_
    refine WK.nThen ?_
    refine WC.condF rfl ?_
    refine WC.skip ?_
    refine WK.nBlock ?_
    refine WK.nThen ?_
    refine WC.region ?_
    refine WL.x (X.add rfl rfl (by omega) (by omega)) (by decide) ?_
    refine WL.x (X.move rfl) (by decide) ?_
    refine WL.nil ?_
    refine WK.nThen ?_
    refine WK.next (k + 1) rfl (.refl _) (.cons rfl (.cons rfl (.cons rfl (.cons rfl .nil)))) ?_ ?_
    ·exact ⟨by omega, fun j hj => by rcases Nat.lt_succ_iff_lt_or_eq.1 hj with h_ | h_; exact hall j h_; subst h_; exact decide_eq_true (by first | assumption | (apply Classical.byContradiction; assumption))⟩
    ·omega
  ·refine WL.nil ?_
   refine WK.nThen ?_
   refine WC.seq ?_
   refine WC.condF rfl ?_
   refine WC.exit ?_
   refine WK.eThen ?_
   refine WK.eThen ?_
   refine WK.eHit ?_
   refine WK.nThen ?_
   refine WC.seq ?_
   refine WC.region ?_
   refine WL.x (X.assign rfl) (by decide) ?_
   refine WL.nil ?_
   refine WK.nThen ?_
   refine WC.ret ?_
   refine WK.ret1 rfl rfl (fun w' hw' => Ret.exact hw' ?_)
   first | exact int_eq (delF_yes (by omega) hall (decide_eq_false (by assumption))).symm | exact int_eq (delF_no (fun j hj => hall j (by omega))).symm

set_option maxHeartbeats 1000000 in
theorem delete117 (m : Mem) {v : Value} {L : List Val} (hn : L.length ≤ 1000) {pt : Addr} {x : Span} (hpt : At m pt x) : Mut Try.prog 117 #[v, .func (.func 118) #[] #[.pointer (some pt)]] m [rowF v 62 L] (fun _ Es u => Es = [rowF u 62 (L.filter (kpV x))] ∧ u.oneCell' = true) := by
 refine Mut.start Try.func117 rfl Try.ntmps117 rfl fun wld => ?_
 refine WC.seq ?_
 refine WC.region ?_
 refine WL.x (X.assign rfl) (by decide) ?_
 refine WL.nil ?_
 refine WK.nThen ?_
 refine WC.seq ?_
 refine WC.region ?_
 refine WL.x (X.move rfl) (by decide) ?_
 refine WL.x (X.move rfl) (by decide) ?_
 refine WL.x (X.callL Try.call148 rfl (fun w_ hw_ => findD148 _ (hw_.rowFSl (k := 0) rfl (by unfold lenB; omega)) (hpt.mono hw_.leAll))) (by decide) ?_
 refine WL.x (X.assign rfl) (by decide) ?_
 refine WL.nil ?_
 refine WK.nThen ?_
 refine WC.seq ?_
 refine WC.seq ?_
 refine WC.region ?_
 refine WL.x (X.move rfl) (by decide) ?_
 refine WL.cond (X.eql rfl rfl) (by decide) (fun h1 => ?_) (fun h1 => ?_)
 ·refine WL.nil ?_
  refine WK.nThen ?_
  refine WC.condT rfl ?_
  refine WC.seq ?_
  refine WC.region ?_
  refine WL.x (X.move rfl) (by decide) ?_
  refine WL.own1 (k := 0) rfl (fun ho_ => ?_)
  refine WL.x (X.assign rfl) (by decide) ?_
  refine WL.nil ?_
  refine WK.nThen ?_
  refine WC.ret ?_
  refine WK.rThen ?_
  refine WK.ret1 rfl rfl (fun w' hw' => Ret.mut (hw'.weaken (.cons_cons _ .slnil)) ?_)
  rcases delF_cases (kpV x) L with ⟨_, ha0⟩ | ⟨k0, hd0, _⟩
  ·exact ⟨by rw [filter_all ha0], ho_⟩
  ·exfalso; omega
 ·refine WL.nil ?_
  refine WK.nThen ?_
  refine WC.condF rfl ?_
  refine WC.skip ?_
  refine WK.nThen ?_
  refine WC.seq ?_
  refine WC.seq ?_
  rcases delF_cases (kpV x) L with ⟨hd0, _⟩ | ⟨k0, hd0, hk0, ha0, hb0⟩
  ·exact absurd hd0 (by assumption)
  rw [hd0]
  refine WC.region ?_
  refine WL.x (X.move rfl) (by decide) ?_
  refine WL.x (X.add rfl rfl (by omega) (by omega)) (by decide) ?_
  refine WL.x (X.assign rfl) (by decide) ?_
  refine WL.nil ?_
  refine WK.nThen ?_
  refine WC.block ?_
  refine WC.loop (G := Nat × Nat × List Val) (fun (i, j, R) => L.length - j) (fun (i, j, R) => m) (fun (i, j, R) => [rowF (v) 62 (R)]) (fun (i, j, R) => [(0, v), (1, .func (.func 118) #[] [.pointer (some (pt))].toArray), (5, .int .i64 (↑i)), (6, .int .i64 (↑j))]) (fun (i, j, R) => DelI (kpV x) L R i j) ((k0, k0 + 1, L)) rfl (.refl _) (.cons rfl (.cons rfl (.cons rfl (.cons rfl .nil)))) ?_ ?_
  ·exact del_start hk0 ha0 hb0
  ·rintro ⟨i, j, R⟩ hF2
   show WK _ _ m [rowF (v) 62 (R)] [(0, v), (1, .func (.func 118) #[] [.pointer (some (pt))].toArray), (5, .int .i64 (↑i)), (6, .int .i64 (↑j))] _
   replace hF2 : DelI (kpV x) L R i j := hF2
   have hD := hF2
   have hDl := hD.len
   have hDt := hD.lt
   have hDe := hD.le
   refine WC.seq ?_
   refine WC.seq ?_
   refine WC.region ?_
   refine WL.x (X.move rfl) (by decide) ?_
   refine WL.x (X.move rfl) (by decide) ?_
   refine WL.x (X.lenF (k := 0) Try.runUnderlying22 rfl rfl) (by decide) ?_
   refine WL.cond (X.lss rfl rfl) (by decide) (fun h3 => ?_) (fun h3 => ?_)
   ·refine WL.nil ?_
    refine WK.nThen ?_
    refine WC.condT rfl ?_
    refine WC.skip ?_
    refine WK.nThen ?_
    refine WC.seq ?_
    refine WC.block ?_
    refine WC.seq ?_
    refine WC.region ?_
    refine WL.x (X.move rfl) (by decide) ?_
    refine WL.x (X.move rfl) (by decide) ?_
    refine WL.x (X.idxRowE (k := 0) j Try.runUnderlying22 Try.sizeOf62 rfl rfl rfl (by omega) (by first | omega | (simp; omega) | simp)) (by decide) ?_
    refine WL.x (X.loadFs (k := 0) (i := j) (off := 0) (us := [.int .i64 (((gt R j)).Time), .int .i64 ((((gt R j)).Levels).Lo), .int .i64 ((((gt R j)).Levels).Hi)]) Try.isAgg62 Try.sizeOf62 rfl rfl (by first | omega | (simp; omega) | simp) rfl rfl) (by decide) ?_
    refine WL.tn (T.alloc Try.zeroValue62 rfl) (by decide) fun b4 => ?_
    refine WL.ts (T.storeBA (k := 0) Try.sizeOf62 rfl rfl rfl (one_cons rfl (one_cons rfl (one_cons rfl one_nil))) rfl rfl) ?_
    refine WL.nil ?_
    refine WK.nThen ?_
    refine WC.seq ?_
    refine WC.region ?_
    refine WL.x (X.move rfl) (by decide) ?_
    refine WL.x (X.loadBA (k := 0) Try.isAgg62 Try.sizeOf62 rfl rfl rfl) (by decide) ?_
    refine WL.condn (X.callc Try.call118 rfl rfl (del118 _ _ (gt R j) rfl hpt)) (by decide) (fun h5 => ?_) (fun h5 => ?_)
    ·refine WL.x (X.not rfl) (by decide) ?_
     refine WL.nil ?_
     refine WK.nThen ?_
     refine WC.condF rfl ?_
     refine WC.skip ?_
     refine WK.nBlock ?_
     refine WK.nThen ?_
     refine WC.region ?_
     refine WL.x (X.move rfl) (by decide) ?_
     refine WL.x (X.add rfl rfl (by omega) (by omega)) (by decide) ?_
     refine WL.x (X.assign rfl) (by decide) ?_
     refine WL.nil ?_
     refine WK.nThen ?_
     refine WK.next ((i, j + 1, R)) rfl (.cons _ (.cons_cons _ .slnil)) (.cons rfl (.cons rfl (.cons rfl (.cons rfl .nil)))) ?_ ?_
     ·exact del_drop hD (by omega) (decide_eq_false (by first | assumption | omega))
     ·(dsimp only; omega)
    ·refine WL.x (X.not rfl) (by decide) ?_
     refine WL.nil ?_
     refine WK.nThen ?_
     refine WC.condT rfl ?_
     refine WC.seq ?_
     refine WC.region ?_
     refine WL.x (X.move rfl) (by decide) ?_
     refine WL.x (X.move rfl) (by decide) ?_
     refine WL.x (X.loadBA (k := 0) Try.isAgg62 Try.sizeOf62 rfl rfl rfl) (by decide) ?_
     refine WL.x (X.idxRowE (k := 1) i Try.runUnderlying22 Try.sizeOf62 rfl rfl rfl (by omega) (by first | omega | (simp; omega) | simp)) (by decide) ?_
     refine WL.ts (T.storeFp (k := 1) (i := i) (off := 0) (us := [.int .i64 (((gt R j)).Time), .int .i64 ((((gt R j)).Levels).Lo), .int .i64 ((((gt R j)).Levels).Hi)]) (gt R j) Try.sizeOf62 rfl rfl rfl rfl (Nat.zero_lt_succ _) rfl (by first | omega | (simp; omega) | simp) rfl rfl (one_cons rfl (one_cons rfl (one_cons rfl one_nil)))) ?_
     refine WL.nil ?_
     refine WK.nThen ?_
     refine WC.region ?_
     refine WL.x (X.move rfl) (by decide) ?_
     refine WL.x (X.add rfl rfl (by omega) (by omega)) (by decide) ?_
     refine WL.x (X.assign rfl) (by decide) ?_
     refine WL.nil ?_
     refine WK.nBlock ?_
     refine WK.nThen ?_
     refine WC.region ?_
     refine WL.x (X.move rfl) (by decide) ?_
     refine WL.x (X.add rfl rfl (by omega) (by omega)) (by decide) ?_
     refine WL.x (X.assign rfl) (by decide) ?_
     refine WL.nil ?_
     refine WK.nThen ?_
     refine WK.next ((i + 1, j + 1, R.set i (gt R j))) rfl (.cons _ (.refl _)) (.cons rfl (.cons rfl (.cons rfl (.cons rfl .nil)))) ?_ ?_
     ·exact del_keep hD (by omega) (decide_eq_true (by first | assumption | (apply Classical.byContradiction; assumption)))
     ·(dsimp only; omega)
   ·refine WL.nil ?_
    refine WK.nThen ?_
    refine WC.condF rfl ?_
    refine WC.exit ?_
    refine WK.eThen ?_
    refine WK.eThen ?_
    refine WK.eHit ?_
    refine WK.nThen ?_
    refine WC.seq ?_
    have hde := del_end hD (by omega)
    refine WK.form (k := 0) rfl (by omega) (fun g_ c_ hv_ hc_ => ?_)
    subst hv_
    refine WC.region ?_
    refine WL.x (X.move rfl) (by decide) ?_
    refine WL.x (X.move rfl) (by decide) ?_
    refine WL.x (X.slLo i Try.underlying22 Try.sizeOf62 rfl rfl rfl (by omega) hc_) (by decide) ?_
    refine WL.ts (T.clear (j := 0) (k := i) (l := R.length - i) sl22 (by decide) (by decide) rfl rfl (by omega) (by omega)) ?_
    generalize (Builtin.zeroCells _ _).toList = zs_
    refine WL.nil ?_
    refine WK.nThen ?_
    refine WC.seq ?_
    refine WK.shrink (k := 0) (h := i) rfl (by omega) ?_
    refine WC.region ?_
    refine WL.x (X.move rfl) (by decide) ?_
    refine WL.x (X.move rfl) (by decide) ?_
    refine WL.x (X.slHi i Try.underlying22 Try.sizeOf62 rfl rfl rfl (by omega) hc_) (by decide) ?_
    refine WL.x (X.assign rfl) (by decide) ?_
    refine WL.nil ?_
    refine WK.nThen ?_
    refine WC.ret ?_
    refine WK.ret1 rfl rfl (fun w' hw' => Ret.mut (hw'.weaken (.cons_cons _ .slnil)) ?_)
    exact ⟨congrArg (fun e_ => [e_]) (rowF_of hde.2.1 (del_fin hD (by omega) zs_)), rfl⟩

theorem del120 (m : Mem) (cv : List Value) (v : Shf) (hv : Enc.rd m cv v) {pt : Addr} {x : Span} (hpt : At m pt x) : Exact Try.prog 120 #[.agg cv.toArray, .pointer (some pt)] m (.bool (decide (¬ inT x v.Time))) := by
 obtain rfl := hv
 refine Exact.start Try.func120 rfl Try.ntmps120 rfl fun wld => ?_
 refine WC.seq ?_
 refine WC.region ?_
 refine WL.tn (T.boxB rfl rfl) (by decide) fun b1 => ?_
 refine WL.x (X.assign rfl) (by decide) ?_
 refine WL.nil ?_
 refine WK.nThen ?_
 refine WC.seq ?_
 refine WC.region ?_
 refine WL.x (X.field Try.runUnderlying72 rfl Try.sizeOf3 rfl) (by decide) ?_
 refine WL.x (X.loadB (k := 0) Try.isAgg3 rfl rfl rfl) (by decide) ?_
 have hp2 := At.Span_0 hpt
 refine WL.x (X.field Try.runUnderlying33 rfl Try.sizeOf3 rfl) (by decide) ?_
 refine WL.x (X.loadInt Try.isAgg3 rfl hp2) (by decide) ?_
 have hp3 := At.Span_1 hpt
 refine WL.x (X.field Try.runUnderlying33 rfl Try.sizeOf3 rfl) (by decide) ?_
 refine WL.x (X.loadInt Try.isAgg3 rfl hp3) (by decide) ?_
 refine WL.x (X.call Try.call82 rfl (within82 _ _ _ _ )) (by decide) ?_
 refine WL.x (X.notp rfl) (by decide) ?_
 refine WL.x (X.assign rfl) (by decide) ?_
 refine WL.nil ?_
 refine WK.nThen ?_
 refine WC.ret ?_
 refine WK.ret1 rfl rfl (fun w' hw' => Ret.exact hw' ?_)
 exact dec_eq (by unfold inT; omega)

theorem findD150 (m : Mem) {v : Value} {L : List Shf} (hL : Sl m v L) {pt : Addr} {x : Span} (hpt : At m pt x) : Exact Try.prog 150 #[v, .func (.func 120) #[] #[.pointer (some pt)]] m (.int .i64 (delF (kpX x) L)) := by
 have hll := hL.le
 refine Exact.start Try.func150 rfl Try.ntmps150 rfl fun wld => ?_
 refine WC.seq ?_
 refine WC.region ?_
 refine WL.x (X.assign rfl) (by decide) ?_
 refine WL.nil ?_
 refine WK.nThen ?_
 refine WC.seq ?_
 refine WC.seq ?_
 refine WC.region ?_
 refine WL.x (X.move rfl) (by decide) ?_
 refine WL.x (X.len Try.runUnderlying23 rfl hL) (by decide) ?_
 refine WL.x (X.move rfl) (by decide) ?_
 refine WL.nil ?_
 refine WK.nThen ?_
 refine WC.block ?_
 refine WC.loop (G := Nat) (fun k => L.length - k) (fun k => m) (fun k => []) (fun k => [(0, v), (1, .func (.func 120) #[] [.pointer (some (pt))].toArray), (7, .int .i64 (↑L.length)), (8, .int .i64 (↑k))]) (fun k => k ≤ L.length ∧ (∀ j, j < k → kpX x (gt L j) = true)) 0 rfl (.refl _) (.cons rfl (.cons rfl (.cons rfl (.cons rfl .nil)))) ?_ ?_
 ·exact ⟨Nat.zero_le _, fun j hj => absurd hj (Nat.not_lt_zero _)⟩
 ·rintro k hF1
  show WK _ _ m [] [(0, v), (1, .func (.func 120) #[] [.pointer (some (pt))].toArray), (7, .int .i64 (↑L.length)), (8, .int .i64 (↑k))] _
  replace hF1 : k ≤ L.length ∧ (∀ j, j < k → kpX x (gt L j) = true) := hF1
  obtain ⟨hk, hall⟩ := hF1
  refine WC.seq ?_
  refine WC.region ?_
  refine WL.cond (X.lss rfl rfl) (by decide) (fun h2 => ?_) (fun h2 => ?_)
  ·refine WL.nil ?_
   refine WK.nThen ?_
   refine WC.seq ?_
   refine WC.condT rfl ?_
   refine WC.skip ?_
   refine WK.nThen ?_
   refine WC.seq ?_
   refine WC.block ?_
   refine WC.seq ?_
   refine WC.region ?_
   refine WL.x (X.move rfl) (by decide) ?_
   refine WL.x (X.assign rfl) (by decide) ?_
   refine WL.nil ?_
   refine WK.nThen ?_
   refine WC.seq ?_
   refine WC.region ?_
   refine WL.x (X.move rfl) (by decide) ?_
   refine WL.x (X.move rfl) (by decide) ?_
   refine WL.x (X.move rfl) (by decide) ?_
   refine WL.xe (E.idxN k Try.runUnderlying23 Try.sizeOf72 rfl rfl hL (by omega)) (by decide) (fun p3 hp4 => ?_)
   refine WL.xe (E.loadAgg Try.isAgg72 Try.sizeOf72 rfl hp4) (by decide) (fun c5 hc6 => ?_)
   obtain rfl := hc6
   refine WL.condn (X.callc Try.call120 rfl rfl (del120 _ _ (gt L k) rfl hpt)) (by decide) (fun h7 => ?_) (fun h7 => ?_)
   ·refine WL.nil ?_
    refine WK.nThen ?_
    refine WC.condT rfl ?_
    refine WC.seq ?_
    refine WC.region ?_
    refine WL.x (X.move rfl) (by decide) ?_
    refine WL.x (X.assign rfl) (by decide) ?_
    refine WL.nil ?_
    refine WK.nThen ?_
    refine WC.ret ?_
    refine WK.rBlock ?_
    refine WK.rThen ?_
    refine WK.rThen ?_
    refine WK.rBlock ?_
    refine WK.rThen ?_
    refine WK.ret1 rfl rfl (fun w' hw' => Ret.exact hw' ?_)
    first | exact int_eq (delF_yes (by omega) hall (decide_eq_false (by assumption))).symm | exact int_eq (delF_no (fun j hj => hall j (by omega))).symm
   ·refine WL.nil ?_
    refine WK.nThen ?_
    refine WC.condF rfl ?_
    refine WC.skip ?_
    refine WK.nBlock ?_
    refine WK.nThen ?_
    refine WC.region ?_
    refine WL.x (X.add rfl rfl (by omega) (by omega)) (by decide) ?_
    refine WL.x (X.move rfl) (by decide) ?_
    refine WL.nil ?_
    refine WK.nThen ?_
    refine WK.next (k + 1) rfl (.refl _) (.cons rfl (.cons rfl (.cons rfl (.cons rfl .nil)))) ?_ ?_
    ·exact ⟨by omega, fun j hj => by rcases Nat.lt_succ_iff_lt_or_eq.1 hj with h_ | h_; exact hall j h_; subst h_; exact decide_eq_true (by first | assumption | (apply Classical.byContradiction; assumption))⟩
    ·omega
  ·refine WL.nil ?_
   refine WK.nThen ?_
   refine WC.seq ?_
   refine WC.condF rfl ?_
   refine WC.exit ?_
   refine WK.eThen ?_
   refine WK.eThen ?_
   refine WK.eHit ?_
   refine WK.nThen ?_
   refine WC.seq ?_
   refine WC.region ?_
   refine WL.x (X.assign rfl) (by decide) ?_
   refine WL.nil ?_
   refine WK.nThen ?_
   refine WC.ret ?_
   refine WK.ret1 rfl rfl (fun w' hw' => Ret.exact hw' ?_)
   first | exact int_eq (delF_yes (by omega) hall (decide_eq_false (by assumption))).symm | exact int_eq (delF_no (fun j hj => hall j (by omega))).symm

set_option maxHeartbeats 1000000 in
theorem delete119 (m : Mem) {v : Value} {L : List Shf} (hn : L.length ≤ 1000) {pt : Addr} {x : Span} (hpt : At m pt x) : Mut Try.prog 119 #[v, .func (.func 120) #[] #[.pointer (some pt)]] m [rowF v 72 L] (fun _ Es u => Es = [rowF u 72 (L.filter (kpX x))] ∧ u.oneCell' = true) := by
 refine Mut.start Try.func119 rfl Try.ntmps119 rfl fun wld => ?_
 refine WC.seq ?_
 refine WC.region ?_
 refine WL.x (X.assign rfl) (by decide) ?_
 refine WL.nil ?_
 refine WK.nThen ?_
 refine WC.seq ?_
 refine WC.region ?_
 refine WL.x (X.move rfl) (by decide) ?_
 refine WL.x (X.move rfl) (by decide) ?_
 refine WL.x (X.callL Try.call150 rfl (fun w_ hw_ => findD150 _ (hw_.rowFSl (k := 0) rfl (by unfold lenB; omega)) (hpt.mono hw_.leAll))) (by decide) ?_
 refine WL.x (X.assign rfl) (by decide) ?_
 refine WL.nil ?_
 refine WK.nThen ?_
 refine WC.seq ?_
 refine WC.seq ?_
 refine WC.region ?_
 refine WL.x (X.move rfl) (by decide) ?_
 refine WL.cond (X.eql rfl rfl) (by decide) (fun h1 => ?_) (fun h1 => ?_)
 ·refine WL.nil ?_
  refine WK.nThen ?_
  refine WC.condT rfl ?_
  refine WC.seq ?_
  refine WC.region ?_
  refine WL.x (X.move rfl) (by decide) ?_
  refine WL.own1 (k := 0) rfl (fun ho_ => ?_)
  refine WL.x (X.assign rfl) (by decide) ?_
  refine WL.nil ?_
  refine WK.nThen ?_
  refine WC.ret ?_
  refine WK.rThen ?_
  refine WK.ret1 rfl rfl (fun w' hw' => Ret.mut (hw'.weaken (.cons_cons _ .slnil)) ?_)
  rcases delF_cases (kpX x) L with ⟨_, ha0⟩ | ⟨k0, hd0, _⟩
  ·exact ⟨by rw [filter_all ha0], ho_⟩
  ·exfalso; omega
 ·refine WL.nil ?_
  refine WK.nThen ?_
  refine WC.condF rfl ?_
  refine WC.skip ?_
  refine WK.nThen ?_
  refine WC.seq ?_
  refine WC.seq ?_
  rcases delF_cases (kpX x) L with ⟨hd0, _⟩ | ⟨k0, hd0, hk0, ha0, hb0⟩
  ·exact absurd hd0 (by assumption)
  rw [hd0]
  refine WC.region ?_
  refine WL.x (X.move rfl) (by decide) ?_
  refine WL.x (X.add rfl rfl (by omega) (by omega)) (by decide) ?_
  refine WL.x (X.assign rfl) (by decide) ?_
  refine WL.nil ?_
  refine WK.nThen ?_
  refine WC.block ?_
  refine WC.loop (G := Nat × Nat × List Shf) (fun (i, j, R) => L.length - j) (fun (i, j, R) => m) (fun (i, j, R) => [rowF (v) 72 (R)]) (fun (i, j, R) => [(0, v), (1, .func (.func 120) #[] [.pointer (some (pt))].toArray), (5, .int .i64 (↑i)), (6, .int .i64 (↑j))]) (fun (i, j, R) => DelI (kpX x) L R i j) ((k0, k0 + 1, L)) rfl (.refl _) (.cons rfl (.cons rfl (.cons rfl (.cons rfl .nil)))) ?_ ?_
  ·exact del_start hk0 ha0 hb0
  ·rintro ⟨i, j, R⟩ hF2
   show WK _ _ m [rowF (v) 72 (R)] [(0, v), (1, .func (.func 120) #[] [.pointer (some (pt))].toArray), (5, .int .i64 (↑i)), (6, .int .i64 (↑j))] _
   replace hF2 : DelI (kpX x) L R i j := hF2
   have hD := hF2
   have hDl := hD.len
   have hDt := hD.lt
   have hDe := hD.le
   refine WC.seq ?_
   refine WC.seq ?_
   refine WC.region ?_
   refine WL.x (X.move rfl) (by decide) ?_
   refine WL.x (X.move rfl) (by decide) ?_
   refine WL.x (X.lenF (k := 0) Try.runUnderlying23 rfl rfl) (by decide) ?_
   refine WL.cond (X.lss rfl rfl) (by decide) (fun h3 => ?_) (fun h3 => ?_)
   ·refine WL.nil ?_
    refine WK.nThen ?_
    refine WC.condT rfl ?_
    refine WC.skip ?_
    refine WK.nThen ?_
    refine WC.seq ?_
    refine WC.block ?_
    refine WC.seq ?_
    refine WC.region ?_
    refine WL.x (X.move rfl) (by decide) ?_
    refine WL.x (X.move rfl) (by decide) ?_
    refine WL.x (X.idxRowE (k := 0) j Try.runUnderlying23 Try.sizeOf72 rfl rfl rfl (by omega) (by first | omega | (simp; omega) | simp)) (by decide) ?_
    refine WL.x (X.loadFs (k := 0) (i := j) (off := 0) (us := [.int .i64 (((gt R j)).Time), .int .i64 ((((gt R j)).Levels).Lo), .int .i64 ((((gt R j)).Levels).Hi)]) Try.isAgg72 Try.sizeOf72 rfl rfl (by first | omega | (simp; omega) | simp) rfl rfl) (by decide) ?_
    refine WL.tn (T.alloc Try.zeroValue72 rfl) (by decide) fun b4 => ?_
    refine WL.ts (T.storeBA (k := 0) Try.sizeOf72 rfl rfl rfl (one_cons rfl (one_cons rfl (one_cons rfl one_nil))) rfl rfl) ?_
    refine WL.nil ?_
    refine WK.nThen ?_
    refine WC.seq ?_
    refine WC.region ?_
    refine WL.x (X.move rfl) (by decide) ?_
    refine WL.x (X.loadBA (k := 0) Try.isAgg72 Try.sizeOf72 rfl rfl rfl) (by decide) ?_
    refine WL.condn (X.callc Try.call120 rfl rfl (del120 _ _ (gt R j) rfl hpt)) (by decide) (fun h5 => ?_) (fun h5 => ?_)
    ·refine WL.x (X.not rfl) (by decide) ?_
     refine WL.nil ?_
     refine WK.nThen ?_
     refine WC.condF rfl ?_
     refine WC.skip ?_
     refine WK.nBlock ?_
     refine WK.nThen ?_
     refine WC.region ?_
     refine WL.x (X.move rfl) (by decide) ?_
     refine WL.x (X.add rfl rfl (by omega) (by omega)) (by decide) ?_
     refine WL.x (X.assign rfl) (by decide) ?_
     refine WL.nil ?_
     refine WK.nThen ?_
     refine WK.next ((i, j + 1, R)) rfl (.cons _ (.cons_cons _ .slnil)) (.cons rfl (.cons rfl (.cons rfl (.cons rfl .nil)))) ?_ ?_
     ·exact del_drop hD (by omega) (decide_eq_false (by first | assumption | omega))
     ·(dsimp only; omega)
    ·refine WL.x (X.not rfl) (by decide) ?_
     refine WL.nil ?_
     refine WK.nThen ?_
     refine WC.condT rfl ?_
     refine WC.seq ?_
     refine WC.region ?_
     refine WL.x (X.move rfl) (by decide) ?_
     refine WL.x (X.move rfl) (by decide) ?_
     refine WL.x (X.loadBA (k := 0) Try.isAgg72 Try.sizeOf72 rfl rfl rfl) (by decide) ?_
     refine WL.x (X.idxRowE (k := 1) i Try.runUnderlying23 Try.sizeOf72 rfl rfl rfl (by omega) (by first | omega | (simp; omega) | simp)) (by decide) ?_
     refine WL.ts (T.storeFp (k := 1) (i := i) (off := 0) (us := [.int .i64 (((gt R j)).Time), .int .i64 ((((gt R j)).Levels).Lo), .int .i64 ((((gt R j)).Levels).Hi)]) (gt R j) Try.sizeOf72 rfl rfl rfl rfl (Nat.zero_lt_succ _) rfl (by first | omega | (simp; omega) | simp) rfl rfl (one_cons rfl (one_cons rfl (one_cons rfl one_nil)))) ?_
     refine WL.nil ?_
     refine WK.nThen ?_
     refine WC.region ?_
     refine WL.x (X.move rfl) (by decide) ?_
     refine WL.x (X.add rfl rfl (by omega) (by omega)) (by decide) ?_
     refine WL.x (X.assign rfl) (by decide) ?_
     refine WL.nil ?_
     refine WK.nBlock ?_
     refine WK.nThen ?_
     refine WC.region ?_
     refine WL.x (X.move rfl) (by decide) ?_
     refine WL.x (X.add rfl rfl (by omega) (by omega)) (by decide) ?_
     refine WL.x (X.assign rfl) (by decide) ?_
     refine WL.nil ?_
     refine WK.nThen ?_
     refine WK.next ((i + 1, j + 1, R.set i (gt R j))) rfl (.cons _ (.refl _)) (.cons rfl (.cons rfl (.cons rfl (.cons rfl .nil)))) ?_ ?_
     ·exact del_keep hD (by omega) (decide_eq_true (by first | assumption | (apply Classical.byContradiction; assumption)))
     ·(dsimp only; omega)
   ·refine WL.nil ?_
    refine WK.nThen ?_
    refine WC.condF rfl ?_
    refine WC.exit ?_
    refine WK.eThen ?_
    refine WK.eThen ?_
    refine WK.eHit ?_
    refine WK.nThen ?_
    refine WC.seq ?_
    have hde := del_end hD (by omega)
    refine WK.form (k := 0) rfl (by omega) (fun g_ c_ hv_ hc_ => ?_)
    subst hv_
    refine WC.region ?_
    refine WL.x (X.move rfl) (by decide) ?_
    refine WL.x (X.move rfl) (by decide) ?_
    refine WL.x (X.slLo i Try.underlying23 Try.sizeOf72 rfl rfl rfl (by omega) hc_) (by decide) ?_
    refine WL.ts (T.clear (j := 0) (k := i) (l := R.length - i) sl23 (by decide) (by decide) rfl rfl (by omega) (by omega)) ?_
    generalize (Builtin.zeroCells _ _).toList = zs_
    refine WL.nil ?_
    refine WK.nThen ?_
    refine WC.seq ?_
    refine WK.shrink (k := 0) (h := i) rfl (by omega) ?_
    refine WC.region ?_
    refine WL.x (X.move rfl) (by decide) ?_
    refine WL.x (X.move rfl) (by decide) ?_
    refine WL.x (X.slHi i Try.underlying23 Try.sizeOf72 rfl rfl rfl (by omega) hc_) (by decide) ?_
    refine WL.x (X.assign rfl) (by decide) ?_
    refine WL.nil ?_
    refine WK.nThen ?_
    refine WC.ret ?_
    refine WK.ret1 rfl rfl (fun w' hw' => Ret.mut (hw'.weaken (.cons_cons _ .slnil)) ?_)
    exact ⟨congrArg (fun e_ => [e_]) (rowF_of hde.2.1 (del_fin hD (by omega) zs_)), rfl⟩

set_option maxRecDepth 20000 in
set_option maxHeartbeats 1000000 in
theorem cut59 (m : Mem) (cs : List Value) (s : Ser) (hs : Enc.rd m cs s) (cx : List Value) (x : Span) (hx : Enc.rd m cx x)   : Pure Try.prog 59 #[.agg cs.toArray, .agg cx.toArray] m (fun m' v => ∃ r0, v = .tuple #[.agg r0.toArray, .int .i64 ((cutR s x).2)] ∧ Enc.rd m' r0 ((cutR s x).1)) := by
 obtain ⟨v1, v3, rfl, hs2, hs4⟩ := hs
 have hl5 := hs2.le
 have hl6 := hs4.le
 obtain rfl := hx
 refine Pure.start Try.func59 rfl Try.ntmps59 rfl fun wld => ?_
 refine WC.seq ?_
 refine WC.region ?_
 refine WL.tn (T.boxB rfl rfl) (by decide) fun b7 => ?_
 refine WL.tn (T.boxB rfl rfl) (by decide) fun b8 => ?_
 refine WL.tn (T.alloc Try.zeroValue25 rfl) (by decide) fun b9 => ?_
 refine WL.x (X.assign rfl) (by decide) ?_
 refine WL.nil ?_
 refine WK.nThen ?_
 refine WC.seq ?_
 refine WC.seq ?_
 refine WC.region ?_
 refine WL.x (X.loadBA (k := 2) Try.isAgg25 Try.sizeOf25 rfl rfl rfl) (by decide) ?_
 refine WL.tm (T.litM (α := Ser) (vals := [.agg [v1, v3].toArray]) (L := [s]) sl179 rfl (.cons rfl ⟨_, _, rfl, hs2, hs4⟩ .nil) rfl rfl) (by decide) (fun m10 v11 hle12 hs13 => ?_)
 replace hs2 := hs2.mono hle12
 replace hs4 := hs4.mono hle12
 refine WL.x (X.call Try.call81 rfl (checked81_1 _ _ hs13)) (by decide) ?_
 refine WL.x (X.assign rfl) (by decide) ?_
 refine WL.nil ?_
 refine WK.nThen ?_
 refine WC.seq ?_
 refine WC.region ?_
 refine WL.x (X.move rfl) (by decide) ?_
 refine WL.condn (X.neq rfl rfl) (by decide) (fun h14 => ?_) (fun h14 => ?_)
 ·refine WL.nil ?_
  refine WK.nThen ?_
  refine WC.condT rfl ?_
  refine WC.seq ?_
  refine WC.region ?_
  refine WL.x (V := Value.agg [.slice none 0 0, .slice none 0 0].toArray) (X.build Try.zeroValue25 Try.runUnderlying25 (places25 _ Try.underlying25) rfl rfl) (by decide) ?_
  refine WL.x (X.move rfl) (by decide) ?_
  refine WL.ts (T.storeBA (k := 0) Try.sizeOf25 rfl rfl rfl (one_cons rfl (one_cons rfl one_nil)) rfl rfl) ?_
  refine WL.x (X.assign rfl) (by decide) ?_
  refine WL.nil ?_
  refine WK.nThen ?_
  refine WC.ret ?_
  refine WK.rThen ?_
  refine WK.retC2 0 rfl rfl rfl rfl Try.isAgg25 Try.sizeOf25 (fun w' hw' => Ret.mem hw' ?_)
  first | exact ⟨_, tup2 rfl (int_eq (by rw [cutR_err (by omega)])), by rw [cutR_err (by omega)]; exact ⟨_, _, rfl, .nil, .nil⟩⟩ | exact ⟨_, tup2 rfl (int_eq (by rw [cutR_arg (by omega) (by assumption)])), by rw [cutR_arg (by omega) (by assumption)]; exact ⟨_, _, rfl, .nil, .nil⟩⟩ | exact ⟨_, tup2 rfl (int_eq (by rw [cutR_ok (by omega) (by assumption), cutS_filter])), by rw [cutR_ok (by omega) (by assumption), cutS_filter]; exact ⟨_, _, rfl, .nil, .nil⟩⟩
 ·refine WL.nil ?_
  refine WK.nThen ?_
  refine WC.condF rfl ?_
  refine WC.skip ?_
  refine WK.nThen ?_
  refine WC.seq ?_
  refine WC.seq ?_
  refine WC.region ?_
  refine WL.x (X.loadBA (k := 1) Try.isAgg33 Try.sizeOf33 rfl rfl rfl) (by decide) ?_
  refine WL.cond (X.call Try.call106 rfl (times106 _ _ x rfl )) (by decide) (fun h15 => ?_) (fun h15 => ?_)
  ·refine WL.x (X.not rfl) (by decide) ?_
   refine WL.nil ?_
   refine WK.nThen ?_
   refine WC.condF rfl ?_
   refine WC.skip ?_
   refine WK.nThen ?_
   have hok := Ok.of (s := s) (by omega)
   have hnV := hok.nV
   have hnX := hok.nX
   refine WK.freezeS (α := Ser) (x := s) 2 rfl rfl (show Enc.rd (α := Ser) m10 [v1, v3] s from ⟨_, _, rfl, hs2, hs4⟩) (fun m16 hle17 hp18 => ?_)
   replace hs2 := hs2.mono hle17
   replace hs4 := hs4.mono hle17
   replace hs13 := hs13.mono hle17
   refine WK.freezeS (α := Span) (x := x) 1 rfl rfl (show Enc.rd (α := Span) m16 [.int .i64 (x.Lo), .int .i64 (x.Hi)] x from rfl) (fun m19 hle20 hp21 => ?_)
   replace hs2 := hs2.mono hle20
   replace hs4 := hs4.mono hle20
   replace hs13 := hs13.mono hle20
   replace hp18 := hp18.mono hle20
   refine WC.cut (G := Mem × Value × Value) (fun (m22, v46, v37) => m22) (fun (m22, v46, v37) => [rowF (v46) 72 (s.Shifts.filter (kpX x)), rowF (v37) 62 (s.Values.filter (kpV x)), blk b9 25 [v37, v46]]) (fun (m22, v46, v37) => [(4, .pointer (some ⟨b9, 0, none⟩)), (5, .int .i64 (0))]) (fun (m22, v46, v37) => m19.le m22) ?_ ?_
   ·refine WC.draw (π := (.cons 0 (.cons 1 (.cons 3 (.cons 5 (.cons 6 (.fork (.cons 2 (.fork (.cons 4 (.fork (.cons 7 (.cons 8 (.cons 9 (.cons 10 (.cons 11 (.cons 12 .done)))))) (.cons 8 (.cons 7 (.cons 9 (.cons 10 (.cons 11 (.cons 12 .done)))))))) (.cons 8 (.cons 4 (.cons 7 (.cons 9 (.cons 10 (.cons 11 (.cons 12 .done))))))))) (.cons 8 (.cons 2 (.cons 4 (.cons 7 (.cons 9 (.cons 10 (.cons 11 (.cons 12 .done))))))))))))))) [2, 4, 7, 8, 9, 11] [4, 9, 11, 100005, 100006] rfl (by kernel_rfl) ?_
    have hp23 := At.Ser_0 hp18
    refine DW.x rfl rfl (X.field Try.runUnderlying25 rfl Try.sizeOf22 rfl) (by decide) ?_
    refine DW.xe rfl rfl (E.loadSl Try.isAgg22 rfl hp23) (by decide) (fun v24 hs25 => ?_)
    have hl26 := hs25.le
    refine DW.x rfl rfl (X.makeFunc (by intro x hx; simp at hx; subst hx; all_goals exact ⟨_, rfl⟩) rfl) (by decide) ?_
    have hp27 := At.Ser_1 hp18
    refine DW.xf rfl rfl rfl (fun _ _ hle_ => (X.field Try.runUnderlying25 rfl Try.sizeOf23 rfl)) (by decide) ?_
    refine DW.xfe rfl rfl rfl (EF.loadSl Try.isAgg23 rfl hp27) (by decide) (fun v28 hs29 => ?_)
    have hl30 := hs29.le
    refine DW.fork (List.cons_ne_nil _ _) ?_ ?_
    ·refine DW.tO rfl rfl rfl (T.callO Try.call114 rfl (clone114 _ hs25 (by omega))) (by decide) (fun m31 Es32 v33 hle34 hR_ => ?_)
     obtain ⟨rfl, ho35⟩ := hR_
     replace hs2 := hs2.mono hle34
     replace hs4 := hs4.mono hle34
     replace hs13 := hs13.mono hle34
     replace hp18 := hp18.mono hle34
     replace hp21 := hp21.mono hle34
     replace hp23 := hp23.mono hle34
     replace hs25 := hs25.mono hle34
     replace hp27 := hp27.mono hle34
     replace hs29 := hs29.mono hle34
     refine DW.fork (List.cons_ne_nil _ _) ?_ ?_
     ·refine DW.tM rfl rfl rfl rfl (T.callP (A := [blk b9 25 [.slice none 0 0, .slice none 0 0]]) Try.call117 rfl (.refl _) (delete117 _ (L := s.Values) (by omega) hp21)) (by decide) (fun m36 Es_ v38 hle37 hR_ => ?_)
      obtain ⟨rfl, ho39⟩ := hR_
      replace hs2 := hs2.mono hle37
      replace hs4 := hs4.mono hle37
      replace hs13 := hs13.mono hle37
      replace hp18 := hp18.mono hle37
      replace hp21 := hp21.mono hle37
      replace hp23 := hp23.mono hle37
      replace hs25 := hs25.mono hle37
      replace hp27 := hp27.mono hle37
      replace hs29 := hs29.mono hle37
      refine DW.fork (List.cons_ne_nil _ _) ?_ ?_
      ·refine DW.tO rfl rfl rfl (T.callO Try.call115 rfl (clone115 _ hs29 (by omega))) (by decide) (fun m40 Es41 v42 hle43 hR_ => ?_)
       obtain ⟨rfl, ho44⟩ := hR_
       replace hs2 := hs2.mono hle43
       replace hs4 := hs4.mono hle43
       replace hs13 := hs13.mono hle43
       replace hp18 := hp18.mono hle43
       replace hp21 := hp21.mono hle43
       replace hp23 := hp23.mono hle43
       replace hs25 := hs25.mono hle43
       replace hp27 := hp27.mono hle43
       replace hs29 := hs29.mono hle43
       refine DW.xp rfl rfl rfl (fun _ => (X.makeFunc (by intro x hx; simp at hx; subst hx; all_goals exact ⟨_, rfl⟩) rfl)) (by decide) ?_
       refine DW.tM rfl rfl rfl rfl (T.callP (A := [rowF (v38) 62 (s.Values.filter (kpV x)), blk b9 25 [.slice none 0 0, .slice none 0 0]]) Try.call119 rfl (.refl _) (delete119 _ (L := s.Shifts) (by omega) hp21)) (by decide) (fun m45 Es_ v47 hle46 hR_ => ?_)
       obtain ⟨rfl, ho48⟩ := hR_
       replace hs2 := hs2.mono hle46
       replace hs4 := hs4.mono hle46
       replace hs13 := hs13.mono hle46
       replace hp18 := hp18.mono hle46
       replace hp21 := hp21.mono hle46
       replace hp23 := hp23.mono hle46
       replace hs25 := hs25.mono hle46
       replace hp27 := hp27.mono hle46
       replace hs29 := hs29.mono hle46
       refine DW.x (V := Value.agg [v38, v47].toArray) rfl rfl (X.build Try.zeroValue25 Try.runUnderlying25 (places25 _ Try.underlying25) rfl (by simp only [Instr.fill, one_cells ho39, one_cells ho48]; rfl)) (by decide) ?_
       refine DW.ts rfl rfl rfl rfl (T.storeBA (k := 2) Try.sizeOf25 rfl rfl rfl (one_cons ho39 (one_cons ho48 one_nil)) rfl rfl) ?_
       refine DW.x rfl rfl (X.assign rfl) (by decide) ?_
       refine DW.nil ?_
       refine WK.nThen ?_
       exact WK.meet (m45, v47, v38) rfl (.refl _) (.cons rfl (.cons rfl .nil)) (Mem.le_trans hle34 (Mem.le_trans hle37 (Mem.le_trans hle43 hle46)))
      ·refine DW.xp rfl rfl rfl (fun _ => (X.makeFunc (by intro x hx; simp at hx; subst hx; all_goals exact ⟨_, rfl⟩) rfl)) (by decide) ?_
       refine DW.tO rfl rfl rfl (T.callO Try.call115 rfl (clone115 _ hs29 (by omega))) (by decide) (fun m49 Es50 v51 hle52 hR_ => ?_)
       obtain ⟨rfl, ho53⟩ := hR_
       replace hs2 := hs2.mono hle52
       replace hs4 := hs4.mono hle52
       replace hs13 := hs13.mono hle52
       replace hp18 := hp18.mono hle52
       replace hp21 := hp21.mono hle52
       replace hp23 := hp23.mono hle52
       replace hs25 := hs25.mono hle52
       replace hp27 := hp27.mono hle52
       replace hs29 := hs29.mono hle52
       refine DW.tM rfl rfl rfl rfl (T.callP (A := [rowF (v38) 62 (s.Values.filter (kpV x)), blk b9 25 [.slice none 0 0, .slice none 0 0]]) Try.call119 rfl (.refl _) (delete119 _ (L := s.Shifts) (by omega) hp21)) (by decide) (fun m54 Es_ v56 hle55 hR_ => ?_)
       obtain ⟨rfl, ho57⟩ := hR_
       replace hs2 := hs2.mono hle55
       replace hs4 := hs4.mono hle55
       replace hs13 := hs13.mono hle55
       replace hp18 := hp18.mono hle55
       replace hp21 := hp21.mono hle55
       replace hp23 := hp23.mono hle55
       replace hs25 := hs25.mono hle55
       replace hp27 := hp27.mono hle55
       replace hs29 := hs29.mono hle55
       refine DW.x (V := Value.agg [v38, v56].toArray) rfl rfl (X.build Try.zeroValue25 Try.runUnderlying25 (places25 _ Try.underlying25) rfl (by simp only [Instr.fill, one_cells ho39, one_cells ho57]; rfl)) (by decide) ?_
       refine DW.ts rfl rfl rfl rfl (T.storeBA (k := 2) Try.sizeOf25 rfl rfl rfl (one_cons ho39 (one_cons ho57 one_nil)) rfl rfl) ?_
       refine DW.x rfl rfl (X.assign rfl) (by decide) ?_
       refine DW.nil ?_
       refine WK.nThen ?_
       exact WK.meet (m54, v56, v38) rfl (.refl _) (.cons rfl (.cons rfl .nil)) (Mem.le_trans hle34 (Mem.le_trans hle37 (Mem.le_trans hle52 hle55)))
     ·refine DW.xp rfl rfl rfl (fun _ => (X.makeFunc (by intro x hx; simp at hx; subst hx; all_goals exact ⟨_, rfl⟩) rfl)) (by decide) ?_
      refine DW.tM rfl rfl rfl rfl (T.callP (A := [blk b9 25 [.slice none 0 0, .slice none 0 0]]) Try.call117 rfl (.refl _) (delete117 _ (L := s.Values) (by omega) hp21)) (by decide) (fun m58 Es_ v60 hle59 hR_ => ?_)
      obtain ⟨rfl, ho61⟩ := hR_
      replace hs2 := hs2.mono hle59
      replace hs4 := hs4.mono hle59
      replace hs13 := hs13.mono hle59
      replace hp18 := hp18.mono hle59
      replace hp21 := hp21.mono hle59
      replace hp23 := hp23.mono hle59
      replace hs25 := hs25.mono hle59
      replace hp27 := hp27.mono hle59
      replace hs29 := hs29.mono hle59
      refine DW.tO rfl rfl rfl (T.callO Try.call115 rfl (clone115 _ hs29 (by omega))) (by decide) (fun m62 Es63 v64 hle65 hR_ => ?_)
      obtain ⟨rfl, ho66⟩ := hR_
      replace hs2 := hs2.mono hle65
      replace hs4 := hs4.mono hle65
      replace hs13 := hs13.mono hle65
      replace hp18 := hp18.mono hle65
      replace hp21 := hp21.mono hle65
      replace hp23 := hp23.mono hle65
      replace hs25 := hs25.mono hle65
      replace hp27 := hp27.mono hle65
      replace hs29 := hs29.mono hle65
      refine DW.tM rfl rfl rfl rfl (T.callP (A := [rowF (v60) 62 (s.Values.filter (kpV x)), blk b9 25 [.slice none 0 0, .slice none 0 0]]) Try.call119 rfl (.refl _) (delete119 _ (L := s.Shifts) (by omega) hp21)) (by decide) (fun m67 Es_ v69 hle68 hR_ => ?_)
      obtain ⟨rfl, ho70⟩ := hR_
      replace hs2 := hs2.mono hle68
      replace hs4 := hs4.mono hle68
      replace hs13 := hs13.mono hle68
      replace hp18 := hp18.mono hle68
      replace hp21 := hp21.mono hle68
      replace hp23 := hp23.mono hle68
      replace hs25 := hs25.mono hle68
      replace hp27 := hp27.mono hle68
      replace hs29 := hs29.mono hle68
      refine DW.x (V := Value.agg [v60, v69].toArray) rfl rfl (X.build Try.zeroValue25 Try.runUnderlying25 (places25 _ Try.underlying25) rfl (by simp only [Instr.fill, one_cells ho61, one_cells ho70]; rfl)) (by decide) ?_
      refine DW.ts rfl rfl rfl rfl (T.storeBA (k := 2) Try.sizeOf25 rfl rfl rfl (one_cons ho61 (one_cons ho70 one_nil)) rfl rfl) ?_
      refine DW.x rfl rfl (X.assign rfl) (by decide) ?_
      refine DW.nil ?_
      refine WK.nThen ?_
      exact WK.meet (m67, v69, v60) rfl (.refl _) (.cons rfl (.cons rfl .nil)) (Mem.le_trans hle34 (Mem.le_trans hle59 (Mem.le_trans hle65 hle68)))
    ·refine DW.xp rfl rfl rfl (fun _ => (X.makeFunc (by intro x hx; simp at hx; subst hx; all_goals exact ⟨_, rfl⟩) rfl)) (by decide) ?_
     refine DW.tO rfl rfl rfl (T.callO Try.call114 rfl (clone114 _ hs25 (by omega))) (by decide) (fun m71 Es72 v73 hle74 hR_ => ?_)
     obtain ⟨rfl, ho75⟩ := hR_
     replace hs2 := hs2.mono hle74
     replace hs4 := hs4.mono hle74
     replace hs13 := hs13.mono hle74
     replace hp18 := hp18.mono hle74
     replace hp21 := hp21.mono hle74
     replace hp23 := hp23.mono hle74
     replace hs25 := hs25.mono hle74
     replace hp27 := hp27.mono hle74
     replace hs29 := hs29.mono hle74
     refine DW.tM rfl rfl rfl rfl (T.callP (A := [blk b9 25 [.slice none 0 0, .slice none 0 0]]) Try.call117 rfl (.refl _) (delete117 _ (L := s.Values) (by omega) hp21)) (by decide) (fun m76 Es_ v78 hle77 hR_ => ?_)
     obtain ⟨rfl, ho79⟩ := hR_
     replace hs2 := hs2.mono hle77
     replace hs4 := hs4.mono hle77
     replace hs13 := hs13.mono hle77
     replace hp18 := hp18.mono hle77
     replace hp21 := hp21.mono hle77
     replace hp23 := hp23.mono hle77
     replace hs25 := hs25.mono hle77
     replace hp27 := hp27.mono hle77
     replace hs29 := hs29.mono hle77
     refine DW.tO rfl rfl rfl (T.callO Try.call115 rfl (clone115 _ hs29 (by omega))) (by decide) (fun m80 Es81 v82 hle83 hR_ => ?_)
     obtain ⟨rfl, ho84⟩ := hR_
     replace hs2 := hs2.mono hle83
     replace hs4 := hs4.mono hle83
     replace hs13 := hs13.mono hle83
     replace hp18 := hp18.mono hle83
     replace hp21 := hp21.mono hle83
     replace hp23 := hp23.mono hle83
     replace hs25 := hs25.mono hle83
     replace hp27 := hp27.mono hle83
     replace hs29 := hs29.mono hle83
     refine DW.tM rfl rfl rfl rfl (T.callP (A := [rowF (v78) 62 (s.Values.filter (kpV x)), blk b9 25 [.slice none 0 0, .slice none 0 0]]) Try.call119 rfl (.refl _) (delete119 _ (L := s.Shifts) (by omega) hp21)) (by decide) (fun m85 Es_ v87 hle86 hR_ => ?_)
     obtain ⟨rfl, ho88⟩ := hR_
     replace hs2 := hs2.mono hle86
     replace hs4 := hs4.mono hle86
     replace hs13 := hs13.mono hle86
     replace hp18 := hp18.mono hle86
     replace hp21 := hp21.mono hle86
     replace hp23 := hp23.mono hle86
     replace hs25 := hs25.mono hle86
     replace hp27 := hp27.mono hle86
     replace hs29 := hs29.mono hle86
     refine DW.x (V := Value.agg [v78, v87].toArray) rfl rfl (X.build Try.zeroValue25 Try.runUnderlying25 (places25 _ Try.underlying25) rfl (by simp only [Instr.fill, one_cells ho79, one_cells ho88]; rfl)) (by decide) ?_
     refine DW.ts rfl rfl rfl rfl (T.storeBA (k := 2) Try.sizeOf25 rfl rfl rfl (one_cons ho79 (one_cons ho88 one_nil)) rfl rfl) ?_
     refine DW.x rfl rfl (X.assign rfl) (by decide) ?_
     refine DW.nil ?_
     refine WK.nThen ?_
     exact WK.meet (m85, v87, v78) rfl (.refl _) (.cons rfl (.cons rfl .nil)) (Mem.le_trans hle74 (Mem.le_trans hle77 (Mem.le_trans hle83 hle86)))
   ·rintro ⟨m22, v46, v37⟩ hle89
    show WK _ _ m22 [rowF (v46) 72 (s.Shifts.filter (kpX x)), rowF (v37) 62 (s.Values.filter (kpV x)), blk b9 25 [v37, v46]] [(4, .pointer (some ⟨b9, 0, none⟩)), (5, .int .i64 (0))] _
    replace hs2 := hs2.mono hle89
    replace hs4 := hs4.mono hle89
    replace hs13 := hs13.mono hle89
    replace hp18 := hp18.mono hle89
    replace hp21 := hp21.mono hle89
    refine WC.ret ?_
    refine WK.freezeF 1 rfl rfl (by unfold lenB; have h1_ := List.length_filter_le (kpV x) s.Values; have h2_ := List.length_filter_le (kpX x) s.Shifts; omega) (fun m90 hle91 hs92 => ?_)
    replace hs2 := hs2.mono hle91
    replace hs4 := hs4.mono hle91
    replace hs13 := hs13.mono hle91
    replace hp18 := hp18.mono hle91
    replace hp21 := hp21.mono hle91
    refine WK.freezeF 0 rfl rfl (by unfold lenB; have h1_ := List.length_filter_le (kpV x) s.Values; have h2_ := List.length_filter_le (kpX x) s.Shifts; omega) (fun m93 hle94 hs95 => ?_)
    replace hs2 := hs2.mono hle94
    replace hs4 := hs4.mono hle94
    replace hs13 := hs13.mono hle94
    replace hp18 := hp18.mono hle94
    replace hp21 := hp21.mono hle94
    replace hs92 := hs92.mono hle94
    refine WK.retC2 0 rfl rfl rfl rfl Try.isAgg25 Try.sizeOf25 (fun w' hw' => Ret.mem hw' ?_)
    first | exact ⟨_, tup2 rfl (int_eq (by rw [cutR_err (by omega)])), by rw [cutR_err (by omega)]; exact ⟨_, _, rfl, hs92, hs95⟩⟩ | exact ⟨_, tup2 rfl (int_eq (by rw [cutR_arg (by omega) (by assumption)])), by rw [cutR_arg (by omega) (by assumption)]; exact ⟨_, _, rfl, hs92, hs95⟩⟩ | exact ⟨_, tup2 rfl (int_eq (by rw [cutR_ok (by omega) (by assumption), cutS_filter])), by rw [cutR_ok (by omega) (by assumption), cutS_filter]; exact ⟨_, _, rfl, hs92, hs95⟩⟩
  ·refine WL.x (X.not rfl) (by decide) ?_
   refine WL.nil ?_
   refine WK.nThen ?_
   refine WC.condT rfl ?_
   refine WC.seq ?_
   refine WC.region ?_
   refine WL.x (V := Value.agg [.slice none 0 0, .slice none 0 0].toArray) (X.build Try.zeroValue25 Try.runUnderlying25 (places25 _ Try.underlying25) rfl rfl) (by decide) ?_
   refine WL.ts (T.storeBA (k := 0) Try.sizeOf25 rfl rfl rfl (one_cons rfl (one_cons rfl one_nil)) rfl rfl) ?_
   refine WL.x (X.assign rfl) (by decide) ?_
   refine WL.nil ?_
   refine WK.nThen ?_
   refine WC.ret ?_
   refine WK.rThen ?_
   refine WK.retC2 0 rfl rfl rfl rfl Try.isAgg25 Try.sizeOf25 (fun w' hw' => Ret.mem hw' ?_)
   first | exact ⟨_, tup2 rfl (int_eq (by rw [cutR_err (by omega)])), by rw [cutR_err (by omega)]; exact ⟨_, _, rfl, .nil, .nil⟩⟩ | exact ⟨_, tup2 rfl (int_eq (by rw [cutR_arg (by omega) (by assumption)])), by rw [cutR_arg (by omega) (by assumption)]; exact ⟨_, _, rfl, .nil, .nil⟩⟩ | exact ⟨_, tup2 rfl (int_eq (by rw [cutR_ok (by omega) (by assumption), cutS_filter])), by rw [cutR_ok (by omega) (by assumption), cutS_filter]; exact ⟨_, _, rfl, .nil, .nil⟩⟩

end Go.Proofs.C8
