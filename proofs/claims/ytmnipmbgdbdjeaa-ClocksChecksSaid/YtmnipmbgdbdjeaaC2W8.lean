import Derived.Test.YtmnipmbgdbdjeaaC2W7
import Derived.Test.YtmnipmbgdbdjeaaC2Walk5
/- Clocks: walks, eighth part, by program. -/
namespace Go.Proofs.C2
open Go Go.Kx
set_option linter.unusedVariables false

theorem clone135M (m : Mem) (vl : Value) (l : List Int) (hl : Sl m vl l)  (hn : l.length ≤ 1000) : Pure Try.prog 135 #[vl] m (fun m' v => ∃ r0, v = r0 ∧ Sl m' r0 (l)) := by
  have ll := hl.le
  refine Pure.start Try.func135 rfl Try.ntmps135 rfl fun wld => ?_
  refine WC.seq ?_
  refine WC.region ?_
  refine WL.x (X.assign rfl) (by decide) ?_
  refine WL.nil ?_
  refine WK.nThen ?_
  refine WC.seq ?_
  refine WC.seq ?_
  refine WC.region ?_
  refine WL.x (X.move rfl) (by decide) ?_
  refine WL.condb (X.eqlNil Try.underlying29 rfl rfl hl) (by decide) (fun h1 => ?_) (fun h1 => ?_)
  · refine WL.nil ?_
    refine WK.nThen ?_
    refine WC.condT rfl ?_
    refine WC.seq ?_
    obtain rfl := hl.nil_of (by assumption)
    refine WC.region ?_
    refine WL.x (X.assign rfl) (by decide) ?_
    refine WL.nil ?_
    refine WK.nThen ?_
    refine WC.ret ?_
    refine WK.rThen ?_
    refine WK.ret1 rfl rfl (fun w' hw' => Ret.mem hw' ?_)
    exact ⟨_, rfl, .nil⟩
  · refine WL.nil ?_
    refine WK.nThen ?_
    refine WC.condF rfl ?_
    refine WC.skip ?_
    refine WK.nThen ?_
    refine WC.seq ?_
    refine WC.region ?_
    refine WL.ta (T.lit0 (α := Int) sl29 rfl) (by decide) (fun v2 => ?_)
    refine WL.x (X.move rfl) (by decide) ?_
    refine WL.ta (T.appendI (k := 0) sl29 rfl rfl hl rfl (by first | omega | (simp; omega)) (by first | omega | (simp; omega))) (by decide) (fun v3 => ?_)
    refine WL.x (X.assign rfl) (by decide) ?_
    refine WL.nil ?_
    refine WK.nThen ?_
    refine WC.ret ?_
    refine WK.freezeF 0 rfl rfl (by first | (simp [lenB]; done) | (unfold lenB; omega) | (simp [lenB]; omega)) (fun m4 hle5 hs6 => ?_)
    replace hl := hl.mono hle5
    refine WK.ret1 rfl rfl (fun w' hw' => Ret.mem hw' ?_)
    exact ⟨_, rfl, hs6⟩

theorem pairs31 (m : Mem) (cd : List Value) (d : Drum) (hd : Enc.rd m cd d) (vm_ : Value) (m_ : List Mark) (hm_ : Sl m vm_ m_)   : Pure Try.prog 31 #[.agg cd.toArray, vm_] m (fun m' v => ∃ r0, v = .tuple #[r0, .int .i64 ((prsR d m_).2)] ∧ Sl m' r0 ((prsR d m_).1)) := by
  obtain ⟨v1, v3, rfl, hs2, hs4⟩ := hd
  have hl5 := hs2.le
  have hl6 := hs4.le
  have lm_ := hm_.le
  refine Pure.start Try.func31 rfl Try.ntmps31 rfl fun wld => ?_
  refine WC.seq ?_
  refine WC.region ?_
  refine WL.tn (T.boxB rfl rfl) (by decide) fun b7 => ?_
  refine WL.x (X.assign rfl) (by decide) ?_
  refine WL.x (X.assign rfl) (by decide) ?_
  refine WL.nil ?_
  refine WK.nThen ?_
  refine WC.seq ?_
  refine WC.seq ?_
  refine WC.region ?_
  refine WL.x (X.loadBA (k := 0) Try.isAgg25 Try.sizeOf25 rfl rfl rfl) (by decide) ?_
  refine WL.x (X.move rfl) (by decide) ?_
  refine WL.x (X.call Try.call91 rfl (checked91 _ _ d ⟨_, _, rfl, hs2, hs4⟩ _ _ hm_ )) (by decide) ?_
  refine WL.x (X.assign rfl) (by decide) ?_
  refine WL.nil ?_
  refine WK.nThen ?_
  refine WC.seq ?_
  refine WC.region ?_
  refine WL.x (X.move rfl) (by decide) ?_
  refine WL.condn (X.neq rfl rfl) (by decide) (fun h8 => ?_) (fun h8 => ?_)
  · refine WL.nil ?_
    refine WK.nThen ?_
    refine WC.condT rfl ?_
    refine WC.seq ?_
    refine WC.region ?_
    refine WL.x (X.move rfl) (by decide) ?_
    refine WL.x (X.assign rfl) (by decide) ?_
    refine WL.x (X.assign rfl) (by decide) ?_
    refine WL.nil ?_
    refine WK.nThen ?_
    refine WC.ret ?_
    refine WK.rThen ?_
    refine WK.ret2 rfl rfl rfl (fun w' hw' => Ret.mem hw' ?_)
    first | exact ⟨_, tup2 rfl (int_eq (by rw [prsR_bad (by omega)])), by rw [prsR_bad (by omega)]; exact .nil⟩ | exact ⟨_, tup2 rfl (int_eq (by rw [prsR_none (by omega) (by omega)])), by rw [prsR_none (by omega) (by omega)]; exact .nil⟩ | exact ⟨_, tup2 rfl (int_eq (by rw [prsR_ok (by omega) (by omega)])), by rw [prsR_ok (by omega) (by omega)]; exact .nil⟩
  · refine WL.nil ?_
    refine WK.nThen ?_
    refine WC.condF rfl ?_
    refine WC.skip ?_
    refine WK.nThen ?_
    refine WC.seq ?_
    refine WC.region ?_
    refine WL.x (X.loadBA (k := 0) Try.isAgg25 Try.sizeOf25 rfl rfl rfl) (by decide) ?_
    refine WL.x (X.move rfl) (by decide) ?_
    refine WL.tm (T.call Try.call95 rfl (pairs95 _ _ d ⟨_, _, rfl, hs2, hs4⟩ _ _ hm_ (Ok.of (by omega)))) (by decide) fun m9 r10 hle11 hR12 => ?_
    obtain ⟨v13, hv_, hs14⟩ := hR12
    rw [← hv_] at hs14
    clear hv_ v13
    replace hs2 := hs2.mono hle11
    replace hs4 := hs4.mono hle11
    replace hm_ := hm_.mono hle11
    have hl15 := hs14.le
    refine WL.x (X.assign rfl) (by decide) ?_
    refine WL.nil ?_
    refine WK.nThen ?_
    refine WC.seq ?_
    refine WC.seq ?_
    refine WC.region ?_
    refine WL.x (X.move rfl) (by decide) ?_
    refine WL.x (X.len Try.runUnderlying52 rfl hs14) (by decide) ?_
    refine WL.cond (X.eql rfl rfl) (by decide) (fun h16 => ?_) (fun h16 => ?_)
    · refine WL.nil ?_
      refine WK.nThen ?_
      refine WC.condT rfl ?_
      refine WC.seq ?_
      refine WC.region ?_
      refine WL.x (X.assign rfl) (by decide) ?_
      refine WL.x (X.assign rfl) (by decide) ?_
      refine WL.nil ?_
      refine WK.nThen ?_
      refine WC.ret ?_
      refine WK.rThen ?_
      refine WK.ret2 rfl rfl rfl (fun w' hw' => Ret.mem hw' ?_)
      first | exact ⟨_, tup2 rfl (int_eq (by rw [prsR_bad (by omega)])), by rw [prsR_bad (by omega)]; exact .nil⟩ | exact ⟨_, tup2 rfl (int_eq (by rw [prsR_none (by omega) (by omega)])), by rw [prsR_none (by omega) (by omega)]; exact .nil⟩ | exact ⟨_, tup2 rfl (int_eq (by rw [prsR_ok (by omega) (by omega)])), by rw [prsR_ok (by omega) (by omega)]; exact .nil⟩
    · refine WL.nil ?_
      refine WK.nThen ?_
      refine WC.condF rfl ?_
      refine WC.skip ?_
      refine WK.nThen ?_
      refine WC.seq ?_
      refine WC.region ?_
      refine WL.x (X.move rfl) (by decide) ?_
      refine WL.x (X.assign rfl) (by decide) ?_
      refine WL.x (X.assign rfl) (by decide) ?_
      refine WL.nil ?_
      refine WK.nThen ?_
      refine WC.ret ?_
      refine WK.ret2 rfl rfl rfl (fun w' hw' => Ret.mem hw' ?_)
      first | exact ⟨_, tup2 rfl (int_eq (by rw [prsR_bad (by omega)])), by rw [prsR_bad (by omega)]; exact hs14⟩ | exact ⟨_, tup2 rfl (int_eq (by rw [prsR_none (by omega) (by omega)])), by rw [prsR_none (by omega) (by omega)]; exact hs14⟩ | exact ⟨_, tup2 rfl (int_eq (by rw [prsR_ok (by omega) (by omega)])), by rw [prsR_ok (by omega) (by omega)]; exact hs14⟩

theorem index138 (m : Mem) (vl : Value) (l : List Int) (hl : Sl m vl l) (v : Int)   : Exact Try.prog 138 #[vl, .int .i64 (v)] m (.int .i64 (idxF (fun j => v = gt l j) l.length)) := by
  have ll := hl.le
  refine Exact.start Try.func138 rfl Try.ntmps138 rfl fun wld => ?_
  refine WC.seq ?_
  refine WC.region ?_
  refine WL.x (X.assign rfl) (by decide) ?_
  refine WL.nil ?_
  refine WK.nThen ?_
  refine WC.seq ?_
  refine WC.seq ?_
  refine WC.region ?_
  refine WL.x (X.move rfl) (by decide) ?_
  refine WL.x (X.len Try.runUnderlying29 rfl hl) (by decide) ?_
  refine WL.x (X.move rfl) (by decide) ?_
  refine WL.nil ?_
  refine WK.nThen ?_
  refine WC.block ?_
  refine WC.loop (G := Nat) (fun k => l.length - k) (fun k => m) (fun k => []) (fun k => [(0, vl), (1, .int .i64 (v)), (7, .int .i64 (↑l.length)), (8, .int .i64 (↑k))]) (fun k => k ≤ l.length ∧ (∀ j, j < k → ¬ v = gt l j)) 0 rfl (.refl _) (.cons rfl (.cons rfl (.cons rfl (.cons rfl .nil)))) ?_ ?_
  · exact ⟨Nat.zero_le _, fun j hj => absurd hj (Nat.not_lt_zero _)⟩
  · rintro k hF1
    show WK _ _ m [] [(0, vl), (1, .int .i64 (v)), (7, .int .i64 (↑l.length)), (8, .int .i64 (↑k))] _
    replace hF1 : k ≤ l.length ∧ (∀ j, j < k → ¬ v = gt l j) := hF1
    obtain ⟨hk, hall⟩ := hF1
    refine WC.seq ?_
    refine WC.region ?_
    refine WL.cond (X.lss rfl rfl) (by decide) (fun h2 => ?_) (fun h2 => ?_)
    · refine WL.nil ?_
      refine WK.nThen ?_
      refine WC.seq ?_
      refine WC.condT rfl ?_
      refine WC.skip ?_
      refine WK.nThen ?_
      refine WC.seq ?_
      refine WC.block ?_
      refine WC.seq ?_
      refine WC.region ?_
      refine WL.x (X.move rfl) (by decide) ?_
      refine WL.x (X.assign rfl) (by decide) ?_
      refine WL.nil ?_
      refine WK.nThen ?_
      refine WC.seq ?_
      refine WC.region ?_
      refine WL.x (X.move rfl) (by decide) ?_
      refine WL.x (X.move rfl) (by decide) ?_
      refine WL.x (X.move rfl) (by decide) ?_
      refine WL.xe (E.idxN k Try.runUnderlying29 Try.sizeOf3 rfl rfl hl (by omega)) (by decide) (fun p3 hp4 => ?_)
      refine WL.x (X.loadInt Try.isAgg3 rfl hp4) (by decide) ?_
      refine WL.cond (X.eql rfl rfl) (by decide) (fun h5 => ?_) (fun h5 => ?_)
      · refine WL.nil ?_
        refine WK.nThen ?_
        refine WC.condT rfl ?_
        refine WC.seq ?_
        refine WC.region ?_
        refine WL.x (X.move rfl) (by decide) ?_
        refine WL.x (X.assign rfl) (by decide) ?_
        refine WL.nil ?_
        refine WK.nThen ?_
        refine WC.ret ?_
        refine WK.rBlock ?_
        refine WK.rThen ?_
        refine WK.rThen ?_
        refine WK.rBlock ?_
        refine WK.rThen ?_
        refine WK.ret1 rfl rfl (fun w' hw' => Ret.exact hw' ?_)
        first | exact int_eq (idxF_yes (by omega) hall (by assumption)).symm | exact int_eq (idxF_no (fun j hj => hall j (by omega))).symm
      · refine WL.nil ?_
        refine WK.nThen ?_
        refine WC.condF rfl ?_
        refine WC.skip ?_
        refine WK.nBlock ?_
        refine WK.nThen ?_
        refine WC.region ?_
        refine WL.x (X.add rfl rfl (by omega) (by omega)) (by decide) ?_
        refine WL.x (X.move rfl) (by decide) ?_
        refine WL.nil ?_
        refine WK.nThen ?_
        refine WK.next (k + 1) rfl (.refl _) (.cons rfl (.cons rfl (.cons rfl (.cons rfl .nil)))) ?_ ?_
        · exact ⟨by omega, fun j hj => by rcases Nat.lt_succ_iff_lt_or_eq.1 hj with h | h; exact hall j h; subst h; assumption⟩
        · omega
    · refine WL.nil ?_
      refine WK.nThen ?_
      refine WC.seq ?_
      refine WC.condF rfl ?_
      refine WC.exit ?_
      refine WK.eThen ?_
      refine WK.eThen ?_
      refine WK.eHit ?_
      refine WK.nThen ?_
      refine WC.seq ?_
      refine WC.region ?_
      refine WL.x (X.assign rfl) (by decide) ?_
      refine WL.nil ?_
      refine WK.nThen ?_
      refine WC.ret ?_
      refine WK.ret1 rfl rfl (fun w' hw' => Ret.exact hw' ?_)
      first | exact int_eq (idxF_yes (by omega) hall (by assumption)).symm | exact int_eq (idxF_no (fun j hj => hall j (by omega))).symm

theorem contains103 (m : Mem) (vl : Value) (l : List Int) (hl : Sl m vl l) (v : Int)   : Exact Try.prog 103 #[vl, .int .i64 (v)] m (.bool (decide (¬ ∀ j, j < l.length → ¬ v = gt l j))) := by
  have ll := hl.le
  refine Exact.start Try.func103 rfl Try.ntmps103 rfl fun wld => ?_
  refine WC.seq ?_
  refine WC.region ?_
  refine WL.x (X.assign rfl) (by decide) ?_
  refine WL.nil ?_
  refine WK.nThen ?_
  refine WC.seq ?_
  refine WC.region ?_
  refine WL.x (X.move rfl) (by decide) ?_
  refine WL.x (X.move rfl) (by decide) ?_
  refine WL.x (X.call Try.call138 rfl (index138 _ _ _ hl _ )) (by decide) ?_
  refine WL.x (X.geq rfl rfl) (by decide) ?_
  refine WL.x (X.assign rfl) (by decide) ?_
  refine WL.nil ?_
  refine WK.nThen ?_
  refine WC.ret ?_
  refine WK.ret1 rfl rfl (fun w' hw' => Ret.exact hw' ?_)
  exact dec_eq (idxF_nn (fun j => v = gt l j) l.length)

theorem in102 (m : Mem) (i : Int) {pl : Addr} {l : List Int} (hpl : At m pl l) : Exact Try.prog 102 #[.int .i64 i, .pointer (some pl)] m (.bool (decide (¬ ∀ j, j < l.length → ¬ i = gt l j))) := by
  refine Exact.start Try.func102 rfl Try.ntmps102 rfl fun wld => ?_
  refine WC.seq ?_
  refine WC.region ?_
  refine WL.x (X.assign rfl) (by decide) ?_
  refine WL.nil ?_
  refine WK.nThen ?_
  refine WC.seq ?_
  refine WC.region ?_
  refine WL.xe (E.loadSl Try.isAgg29 rfl hpl) (by decide) (fun v1 hs2 => ?_)
  have hl3 := hs2.le
  refine WL.x (X.move rfl) (by decide) ?_
  refine WL.x (X.call Try.call103 rfl (contains103 _ _ _ hs2 _ )) (by decide) ?_
  refine WL.x (X.assign rfl) (by decide) ?_
  refine WL.nil ?_
  refine WK.nThen ?_
  refine WC.ret ?_
  refine WK.ret1 rfl rfl (fun w' hw' => Ret.exact hw' ?_)
  first | rfl | (simp [*]; done)

theorem missed100 (m : Mem) {vp : Value} {p : List Int} (hp : Sl m vp p) {pl : Addr} {l : List Int} (hpl : At m pl l) : Exact Try.prog 100 #[vp, .pointer (some pl)] m (.bool (decide (missP p l))) := by
  have hlp := hp.le
  refine Exact.start Try.func100 rfl Try.ntmps100 rfl fun wld => ?_
  refine WC.seq ?_
  refine WC.region ?_
  refine WL.x (X.assign rfl) (by decide) ?_
  refine WL.nil ?_
  refine WK.nThen ?_
  refine WC.seq ?_
  refine WC.region ?_
  refine WL.x (X.move rfl) (by decide) ?_
  refine WL.x (X.makeFunc (by intro x hx; simp at hx; subst hx; all_goals exact ⟨_, rfl⟩) rfl) (by decide) ?_
  refine WL.x (X.call Try.call101 rfl (cont101 (p := fun i => ¬ ∀ j, j < l.length → ¬ gt p i = gt l j) _ hp (caps := [.pointer (some (pl))]) Try.call102 (fun i _ => in102 _ (gt p i) hpl))) (by decide) ?_
  refine WL.x (X.notp rfl) (by decide) ?_
  refine WL.x (X.assign rfl) (by decide) ?_
  refine WL.nil ?_
  refine WK.nThen ?_
  refine WC.ret ?_
  refine WK.ret1 rfl rfl (fun w' hw' => Ret.exact hw' ?_)
  first | rfl | (simp [*]; done)

theorem drop99 (m : Mem) {vl : Value} {l : List Int} (hl : Sl m vl l) {pb : Addr} {bad : List (List Int)} (hpb : At m pb bad) {bo : Nat} {vo : Value} {xs : List Value} {L : List (List Int)} (hx : RdL m xs L) (hLn : L.length ≤ 100000) : Mut Try.prog 99 #[vl, .pointer (some pb), .pointer (some ⟨bo, 0, none⟩)] m [blk bo 52 [vo], row vo 29 1 (L).length xs] (fun m' Es v => v = .tuple #[] ∧ ∃ vo' xs', Es = [blk bo 52 [vo'], row vo' 29 1 (hitL bad l L).length xs'] ∧ RdL m' xs' (hitL bad l L)) := by
  refine Mut.start Try.func99 rfl Try.ntmps99 rfl fun wld => ?_
  refine WC.seq ?_
  refine WC.region ?_
  refine WL.tn (T.boxB (cs := [vl]) rfl (one_cells hl.one)) (by decide) fun b1 => ?_
  refine WL.nil ?_
  refine WK.nThen ?_
  refine WC.seq ?_
  refine WK.freezeBX 0 [blk b1 29 [vl]] [blk bo 52 [vo], row (vo) 29 1 (L).length (xs)] rfl rfl rfl (fun m2 hle3 hcl => ?_)
  replace hl := hl.mono hle3
  replace hpb := hpb.mono hle3
  replace hx := hx.mono hle3
  have hpl : At m2 ⟨b1, 0, none⟩ l := ⟨_, ⟨_, rfl, hl⟩, hcl⟩
  refine WC.region ?_
  refine WL.x (X.makeFunc (by intro x hx; simp at hx; subst hx; all_goals exact ⟨_, rfl⟩) rfl) (by decide) ?_
  refine WL.x (X.assign rfl) (by decide) ?_
  refine WL.nil ?_
  refine WK.nThen ?_
  refine WC.seq ?_
  refine WC.region ?_
  refine WL.xe (E.loadSl Try.isAgg52 rfl hpb) (by decide) (fun v4 hs5 => ?_)
  have hl6 := hs5.le
  refine WL.x (X.move rfl) (by decide) ?_
  refine WL.cond (X.call Try.call104 rfl (cont104 (p := fun i => missP (gt bad i) l) _ hs5 (caps := [.pointer (some (⟨b1, 0, none⟩))]) Try.call100 (fun i _ v_ hv_ => missed100 _ hv_ hpl))) (by decide) (fun h7 => ?_) (fun h7 => ?_)
  · refine WL.x (X.not rfl) (by decide) ?_
    refine WL.nil ?_
    refine WK.nThen ?_
    refine WC.condF rfl ?_
    refine WC.skip ?_
    refine WK.end0 rfl (fun w' hw' => Ret.mut (hw'.weaken (.refl _)) ?_)
    have hh_ := hitL_no (L := L) (fun h_ => by have := (hit_miss bad l).1 h_; contradiction)
    exact ⟨rfl, vo, xs, (by rw [← hh_]; try rfl), by rw [← hh_]; exact hx⟩
  · refine WL.x (X.not rfl) (by decide) ?_
    refine WL.nil ?_
    refine WK.nThen ?_
    refine WC.condT rfl ?_
    refine WC.region ?_
    refine WL.x (X.loadB (k := 0) Try.isAgg52 rfl rfl rfl) (by decide) ?_
    refine WL.xe (E.loadSl Try.isAgg29 rfl hpl) (by decide) (fun v8 hs9 => ?_)
    have hl10 := hs9.le
    refine WL.tl (T.lit1 sl52 rfl (one_cells hs9.one) rfl (by decide)) (by decide) fun b11 => ?_
    refine WL.ta (T.appendN (k := 1) (n' := (L ++ [l]).length) sl52 rfl rfl rfl rfl rfl (one_cons hs9.one one_nil) (by simp) (by first | omega | (simp; omega)) (by first | omega | (simp; omega))) (by decide) (fun v12 => ?_)
    have hx13 := RdL.snoc (a := l) hx ⟨_, rfl, hs9⟩
    refine WL.own1 (k := 1) rfl (fun ho14 => ?_)
    refine WL.ts (T.storeB (k := 0) Try.sizeOf52 rfl rfl rfl ho14 (Nat.le_of_ble_eq_true rfl)) ?_
    refine WL.nil ?_
    refine WK.end0 rfl (fun w' hw' => Ret.mut (hw'.weaken (.refl _)) ?_)
    have hh_ := hitL_yes (L := L) ((hit_miss bad l).2 (Decidable.of_not_not (by assumption)))
    exact ⟨rfl, v12, (xs ++ [v8]), (by rw [← hh_]; try rfl), by rw [← hh_]; exact hx13⟩

theorem clip136 (m : Mem) {vl : Value} {l : List Int} (hl : Sl m vl l) : Pure Try.prog 136 #[vl] m (fun m' v => Sl m' v l ∧ ∃ b, v = .slice b l.length l.length) := by
  have hll := hl.le
  refine Pure.start Try.func136 rfl Try.ntmps136 rfl fun wld => ?_
  refine WC.seq ?_
  refine WC.region ?_
  refine WL.x (X.assign rfl) (by decide) ?_
  refine WL.nil ?_
  refine WK.nThen ?_
  refine WC.seq ?_
  refine WC.region ?_
  refine WL.x (X.move rfl) (by decide) ?_
  refine WL.x (X.move rfl) (by decide) ?_
  refine WL.x (X.len Try.runUnderlying29 rfl hl) (by decide) ?_
  refine WL.x (X.move rfl) (by decide) ?_
  refine WL.x (X.len Try.runUnderlying29 rfl hl) (by decide) ?_
  refine WL.xe (E.slHM l.length Try.underlying29 Try.sizeOf3 rfl rfl rfl hl (by omega) (by omega) (by omega)) (by decide) (fun v1 ⟨hs2, _, hfu3⟩ => ?_)
  refine WL.x (X.assign rfl) (by decide) ?_
  refine WL.nil ?_
  refine WK.nThen ?_
  refine WC.ret ?_
  refine WK.ret1 rfl rfl (fun w' hw' => Ret.mem hw' ?_)
  rw [List.take_length] at hs2
  exact ⟨hs2, _, hfu3⟩

def From134 (s : Nat) : Prop := ∀ (m : Mem) {vl : Value} {l : List Int} {pb : Addr} {bad : List (List Int)} {ps pn py pf : Addr} {n sz bo : Nat} {vo : Value} {xs : List Value} {L : List (List Int)} {nx : Nat} {inx : Int}
    (hl : Sl m vl l) (hpb : At m pb bad) (hps : At m ps (sz : Int)) (hpn : At m pn (n : Int)) (hcy : Cells m py [.func (.func 99) #[] [.pointer (some pb), .pointer (some ⟨bo, 0, none⟩)].toArray]) (hcf : Cells m pf [.func (.func 134) #[] [.pointer (some ps), .pointer (some py), .pointer (some pn), .pointer (some pf)].toArray])
    (hx : RdL m xs L) (hin : inx = nx) (hsz : l.length + s = sz) (hb : L.length + (setsF n s l nx).length ≤ 50000) (hn : n ≤ 1000) (hsz2 : sz ≤ 1000) (hnx : nx ≤ 1001),
    Mut Try.prog 134 #[vl, .int .i64 inx, .pointer (some ps), .pointer (some py), .pointer (some pn), .pointer (some pf)] m [blk bo 52 [vo], row vo 29 1 (L).length xs] (fun m' Es v => v = .tuple #[] ∧ ∃ vo' xs', Es = [blk bo 52 [vo'], row vo' 29 1 (L ++ (setsF n s l nx).filter (hitB bad)).length xs'] ∧ RdL m' xs' (L ++ (setsF n s l nx).filter (hitB bad)))
theorem from134_step (s : Nat) (ih : ∀ q, s = q + 1 → From134 q) : From134 s := by
  intro m vl l pb bad ps pn py pf n sz bo vo xs L nx inx hl hpb hps hpn hcy hcf hx hin hsz hb hn hsz2 hnx
  have hll := hl.le
  have hLn : L.length ≤ 50000 := (by omega)
  refine Mut.start Try.func134 rfl Try.ntmps134 rfl fun wld => ?_
  refine WC.seq ?_
  refine WC.seq ?_
  refine WC.region ?_
  refine WL.x (X.move rfl) (by decide) ?_
  refine WL.x (X.len Try.runUnderlying29 rfl hl) (by decide) ?_
  refine WL.x (X.loadInt Try.isAgg3 rfl hps) (by decide) ?_
  refine WL.cond (X.eql rfl rfl) (by decide) (fun h1 => ?_) (fun h1 => ?_)
  · refine WL.nil ?_
    refine WK.nThen ?_
    refine WC.condT rfl ?_
    refine WC.seq ?_
    refine WC.draw (π := (.cons 0 (.cons 1 (.cons 2 (.cons 3 .done))))) [2, 3] [3] rfl (by kernel_rfl) ?_
    refine DW.x rfl rfl (X.loadV Try.isAgg110 rfl hcy) (by decide) ?_
    refine DW.x rfl rfl (X.move rfl) (by decide) ?_
    refine DW.tm rfl rfl rfl (T.call Try.call135 rfl (clone135M _ _ _ hl (by omega))) (by decide) fun m2 r3 hle4 hR5 => ?_
    obtain ⟨v6, hv_, hs7⟩ := hR5
    rw [← hv_] at hs7
    clear hv_ v6
    replace hl := hl.mono hle4
    replace hpb := hpb.mono hle4
    replace hps := hps.mono hle4
    replace hpn := hpn.mono hle4
    replace hcy := hcy.mono hle4
    replace hcf := hcf.mono hle4
    replace hx := hx.mono hle4
    have hl8 := hs7.le
    refine DW.tM rfl rfl rfl rfl (T.callcP (A := []) Try.call99 rfl rfl (.refl _) (drop99 _ hs7 hpb hx (by omega))) (by decide) (fun m9 Es_ v_ hle10 hR_ => ?_)
    obtain ⟨rfl, v11, xs12, rfl, hx13⟩ := hR_
    replace hl := hl.mono hle10
    replace hpb := hpb.mono hle10
    replace hps := hps.mono hle10
    replace hpn := hpn.mono hle10
    replace hcy := hcy.mono hle10
    replace hcf := hcf.mono hle10
    replace hs7 := hs7.mono hle10
    refine DW.nil ?_
    refine WK.nThen ?_
    refine WC.ret ?_
    refine WK.rThen ?_
    refine WK.ret0 rfl (fun w' hw' => Ret.mut (hw'.weaken (.refl _)) ?_)
    have hs0_ : s = 0 := (by omega)
    subst hs0_
    have hh_ := hitL_sets (bad := bad) (l := l) (L := L) (n := n) (nx := nx)
    exact ⟨rfl, v11, xs12, (by rw [← hh_]; try rfl), by rw [← hh_]; exact hx13⟩
  · refine WL.nil ?_
    refine WK.nThen ?_
    refine WC.condF rfl ?_
    refine WC.skip ?_
    refine WK.nThen ?_
    refine WC.seq ?_
    obtain ⟨q, hq⟩ : ∃ q, s = q + 1 := ⟨s - 1, by omega⟩
    subst hq
    subst hin
    refine WC.region ?_
    refine WL.x (X.move rfl) (by decide) ?_
    refine WL.x (X.assign rfl) (by decide) ?_
    refine WL.nil ?_
    refine WK.nThen ?_
    refine WC.block ?_
    have hpz := prt_zero n q l nx
    refine WC.loop (G := Nat × Mem × Value × List Value × List (List Int)) (fun (k, mm, vq, ys, LL) => n - k) (fun (k, mm, vq, ys, LL) => mm) (fun (k, mm, vq, ys, LL) => [blk bo 52 [vq], row (vq) 29 1 (LL).length (ys)]) (fun (k, mm, vq, ys, LL) => [(0, vl), (4, .pointer (some (pn))), (5, .pointer (some pf)), (8, .int .i64 (↑k))]) (fun (k, mm, vq, ys, LL) => m.le mm ∧ RdL mm ys LL ∧ nx ≤ k ∧ (k ≤ n ∨ k = nx) ∧ LL = L ++ (prt n q l nx k).filter (hitB bad)) ((nx, m, vo, xs, L)) rfl (.refl _) (.cons rfl (.cons rfl (.cons rfl (.cons rfl .nil)))) ?_ ?_
    · exact ⟨Mem.le_refl _, hx, Nat.le_refl _, .inr rfl, by rw [hpz]; simp⟩
    · rintro ⟨k, mm, vq, ys, LL⟩ hF14
      show WK _ _ mm [blk bo 52 [vq], row (vq) 29 1 (LL).length (ys)] [(0, vl), (4, .pointer (some (pn))), (5, .pointer (some pf)), (8, .int .i64 (↑k))] _
      replace hF14 : m.le mm ∧ RdL mm ys LL ∧ nx ≤ k ∧ (k ≤ n ∨ k = nx) ∧ LL = L ++ (prt n q l nx k).filter (hitB bad) := hF14
      obtain ⟨hmm, hy, hk1, hk2, hLL⟩ := hF14
      replace hl := hl.mono hmm
      replace hpb := hpb.mono hmm
      replace hps := hps.mono hmm
      replace hpn := hpn.mono hmm
      replace hcy := hcy.mono hmm
      replace hcf := hcf.mono hmm
      replace hx := hx.mono hmm
      have hbk := fun (h : k < n) => (by have h1 := prt_bd (n := n) (q := q) (l := l) hk1 h; have h2 := fil_le (hitB bad) (prt n q l nx k); rw [hLL, List.length_append]; omega : LL.length + (setsF n q (l ++ [((k : Nat) : Int)]) (k + 1)).length ≤ 50000)
      refine WC.seq ?_
      refine WC.seq ?_
      refine WC.region ?_
      refine WL.x (X.move rfl) (by decide) ?_
      refine WL.x (X.loadInt Try.isAgg3 rfl hpn) (by decide) ?_
      refine WL.cond (X.lss rfl rfl) (by decide) (fun h15 => ?_) (fun h15 => ?_)
      · refine WL.nil ?_
        refine WK.nThen ?_
        refine WC.condT rfl ?_
        refine WC.skip ?_
        refine WK.nThen ?_
        refine WC.seq ?_
        refine WC.block ?_
        refine WC.draw (π := (.cons 0 (.cons 1 (.cons 3 (.cons 6 (.cons 7 (.fork (.cons 2 (.cons 4 (.cons 5 (.cons 8 .done)))) (.cons 4 (.cons 2 (.cons 5 (.cons 8 .done))))))))))) [2, 4, 5, 8] [8] rfl (by kernel_rfl) ?_
        refine DW.x rfl rfl (X.loadV Try.isAgg138 rfl hcf) (by decide) ?_
        refine DW.x rfl rfl (X.move rfl) (by decide) ?_
        refine DW.x rfl rfl (X.move rfl) (by decide) ?_
        refine DW.x rfl rfl (X.move rfl) (by decide) ?_
        refine DW.x rfl rfl (X.add rfl rfl (by omega) (by omega)) (by decide) ?_
        refine DW.fork (List.cons_ne_nil _ _) ?_ ?_
        · refine DW.tm rfl rfl rfl (T.call Try.call136 rfl (clip136 _ hl)) (by decide) (fun m16 r17 hle18 hR_ => ?_)
          obtain ⟨hs19, b21, hfu20⟩ := hR_
          replace hl := hl.mono hle18
          replace hpb := hpb.mono hle18
          replace hps := hps.mono hle18
          replace hpn := hpn.mono hle18
          replace hcy := hcy.mono hle18
          replace hcf := hcf.mono hle18
          replace hx := hx.mono hle18
          replace hy := hy.mono hle18
          refine DW.tl rfl rfl rfl (T.lit1 sl29 rfl rfl rfl (by decide)) (by decide) fun b22 => ?_
          refine DW.tm rfl rfl rfl (T.appendFullM (k := 0) (fun _ _ h => rd_int h) (a := (↑k : Int)) sl29 rfl rfl rfl hs19 hfu20 (by first | omega | (simp; omega)) (by decide)) (by decide) (fun m24 v23 hle25 hs26 => ?_)
          replace hl := hl.mono hle25
          replace hpb := hpb.mono hle25
          replace hps := hps.mono hle25
          replace hpn := hpn.mono hle25
          replace hcy := hcy.mono hle25
          replace hcf := hcf.mono hle25
          replace hx := hx.mono hle25
          replace hy := hy.mono hle25
          replace hs19 := hs19.mono hle25
          refine DW.tM rfl rfl rfl rfl (T.callcP (A := [blk b22 3 [.int .i64 (↑k)]]) Try.call134 rfl rfl ((List.Perm.cons _ ((List.Perm.cons _ (.refl _)).trans (List.perm_middle (l₁ := [blk b22 3 [.int .i64 (↑k)]]) (l₂ := []) (a := row (vq) 29 1 (LL).length (ys))).symm)).trans (List.perm_middle (l₁ := [blk b22 3 [.int .i64 (↑k)]]) (l₂ := [row (vq) 29 1 (LL).length (ys)]) (a := blk bo 52 [vq])).symm) (ih _ rfl _ hs26 hpb hps hpn hcy hcf hy (nx := (k + 1)) (by omega) (by first | (simp; omega) | simp) (hbk (by omega)) (by omega) (by omega) (by omega))) (by decide) (fun m27 Es_ v_ hle28 hR_ => ?_)
          obtain ⟨rfl, v29, xs30, rfl, hx31⟩ := hR_
          replace hl := hl.mono hle28
          replace hpb := hpb.mono hle28
          replace hps := hps.mono hle28
          replace hpn := hpn.mono hle28
          replace hcy := hcy.mono hle28
          replace hcf := hcf.mono hle28
          replace hx := hx.mono hle28
          replace hs19 := hs19.mono hle28
          replace hs26 := hs26.mono hle28
          refine DW.nil ?_
          refine WK.nBlock ?_
          refine WK.nThen ?_
          refine WC.region ?_
          refine WL.x (X.move rfl) (by decide) ?_
          refine WL.x (X.add rfl rfl (by omega) (by omega)) (by decide) ?_
          refine WL.x (X.assign rfl) (by decide) ?_
          refine WL.nil ?_
          refine WK.nThen ?_
          refine WK.perm [blk b22 3 [.int .i64 (↑k)], blk bo 52 [v29], row (v29) 29 1 (LL ++ (setsF n q (l ++ [(↑k : Int)]) (k + 1)).filter (hitB bad)).length (xs30)] ((List.Perm.cons _ (.refl _)).trans (List.perm_middle (l₁ := [blk bo 52 [v29], row (v29) 29 1 (LL ++ (setsF n q (l ++ [(↑k : Int)]) (k + 1)).filter (hitB bad)).length (xs30)]) (l₂ := []) (a := blk b22 3 [.int .i64 (↑k)])).symm) ?_
          refine WK.next ((k + 1, m27, v29, xs30, LL ++ (setsF n q (l ++ [(↑k : Int)]) (k + 1)).filter (hitB bad))) rfl (.cons _ (.refl _)) (.cons rfl (.cons rfl (.cons rfl (.cons rfl .nil)))) ?_ ?_
          · exact ⟨Mem.le_trans hmm (Mem.le_trans hle18 (Mem.le_trans hle25 hle28)), hx31, by omega, .inl (by omega), by rw [hLL]; exact fil_step (by omega)⟩
          · (dsimp only; omega)
        · refine DW.tl rfl rfl rfl (T.lit1 sl29 rfl rfl rfl (by decide)) (by decide) fun b32 => ?_
          refine DW.tm rfl rfl rfl (T.call Try.call136 rfl (clip136 _ hl)) (by decide) (fun m33 r34 hle35 hR_ => ?_)
          obtain ⟨hs36, b38, hfu37⟩ := hR_
          replace hl := hl.mono hle35
          replace hpb := hpb.mono hle35
          replace hps := hps.mono hle35
          replace hpn := hpn.mono hle35
          replace hcy := hcy.mono hle35
          replace hcf := hcf.mono hle35
          replace hx := hx.mono hle35
          replace hy := hy.mono hle35
          refine DW.tm rfl rfl rfl (T.appendFullM (k := 0) (fun _ _ h => rd_int h) (a := (↑k : Int)) sl29 rfl rfl rfl hs36 hfu37 (by first | omega | (simp; omega)) (by decide)) (by decide) (fun m40 v39 hle41 hs42 => ?_)
          replace hl := hl.mono hle41
          replace hpb := hpb.mono hle41
          replace hps := hps.mono hle41
          replace hpn := hpn.mono hle41
          replace hcy := hcy.mono hle41
          replace hcf := hcf.mono hle41
          replace hx := hx.mono hle41
          replace hy := hy.mono hle41
          replace hs36 := hs36.mono hle41
          refine DW.tM rfl rfl rfl rfl (T.callcP (A := [blk b32 3 [.int .i64 (↑k)]]) Try.call134 rfl rfl ((List.Perm.cons _ ((List.Perm.cons _ (.refl _)).trans (List.perm_middle (l₁ := [blk b32 3 [.int .i64 (↑k)]]) (l₂ := []) (a := row (vq) 29 1 (LL).length (ys))).symm)).trans (List.perm_middle (l₁ := [blk b32 3 [.int .i64 (↑k)]]) (l₂ := [row (vq) 29 1 (LL).length (ys)]) (a := blk bo 52 [vq])).symm) (ih _ rfl _ hs42 hpb hps hpn hcy hcf hy (nx := (k + 1)) (by omega) (by first | (simp; omega) | simp) (hbk (by omega)) (by omega) (by omega) (by omega))) (by decide) (fun m43 Es_ v_ hle44 hR_ => ?_)
          obtain ⟨rfl, v45, xs46, rfl, hx47⟩ := hR_
          replace hl := hl.mono hle44
          replace hpb := hpb.mono hle44
          replace hps := hps.mono hle44
          replace hpn := hpn.mono hle44
          replace hcy := hcy.mono hle44
          replace hcf := hcf.mono hle44
          replace hx := hx.mono hle44
          replace hs36 := hs36.mono hle44
          replace hs42 := hs42.mono hle44
          refine DW.nil ?_
          refine WK.nBlock ?_
          refine WK.nThen ?_
          refine WC.region ?_
          refine WL.x (X.move rfl) (by decide) ?_
          refine WL.x (X.add rfl rfl (by omega) (by omega)) (by decide) ?_
          refine WL.x (X.assign rfl) (by decide) ?_
          refine WL.nil ?_
          refine WK.nThen ?_
          refine WK.perm [blk b32 3 [.int .i64 (↑k)], blk bo 52 [v45], row (v45) 29 1 (LL ++ (setsF n q (l ++ [(↑k : Int)]) (k + 1)).filter (hitB bad)).length (xs46)] ((List.Perm.cons _ (.refl _)).trans (List.perm_middle (l₁ := [blk bo 52 [v45], row (v45) 29 1 (LL ++ (setsF n q (l ++ [(↑k : Int)]) (k + 1)).filter (hitB bad)).length (xs46)]) (l₂ := []) (a := blk b32 3 [.int .i64 (↑k)])).symm) ?_
          refine WK.next ((k + 1, m43, v45, xs46, LL ++ (setsF n q (l ++ [(↑k : Int)]) (k + 1)).filter (hitB bad))) rfl (.cons _ (.refl _)) (.cons rfl (.cons rfl (.cons rfl (.cons rfl .nil)))) ?_ ?_
          · exact ⟨Mem.le_trans hmm (Mem.le_trans hle35 (Mem.le_trans hle41 hle44)), hx47, by omega, .inl (by omega), by rw [hLL]; exact fil_step (by omega)⟩
          · (dsimp only; omega)
      · refine WL.nil ?_
        refine WK.nThen ?_
        refine WC.condF rfl ?_
        refine WC.exit ?_
        refine WK.eThen ?_
        refine WK.eThen ?_
        refine WK.eHit ?_
        refine WK.end0 rfl (fun w' hw' => Ret.mut (hw'.weaken (.refl _)) ?_)
        have hh_ := prt_all (n := n) (q := q) (l := l) (nx := nx) (k := k) (by omega)
        rw [hh_] at hLL
        exact ⟨rfl, vq, ys, (by rw [← hLL]), by rw [← hLL]; exact hy⟩

theorem from134 : ∀ s, From134 s
  | 0 => from134_step 0 (fun _ h => by omega)
  | q + 1 => from134_step (q + 1) (fun p h => by cases h; exact from134 q)
theorem sets98 (m : Mem) {n sz : Nat} {i1 i2 : Int} (h1_ : i1 = n) (h2_ : i2 = sz) {pb : Addr} {bad : List (List Int)} (hpb : At m pb bad) {bo : Nat} {vo : Value} {xs : List Value} {L : List (List Int)} (hx : RdL m xs L) (hb : L.length + (setsF n sz [] 0).length ≤ 50000) (hn : n ≤ 1000) (hsz2 : sz ≤ 1000) : Mut Try.prog 98 #[.int .i64 i1, .int .i64 i2, .func (.func 99) #[] [.pointer (some pb), .pointer (some ⟨bo, 0, none⟩)].toArray] m [blk bo 52 [vo], row vo 29 1 (L).length xs] (fun m' Es v => v = .tuple #[] ∧ ∃ vo' xs', Es = [blk bo 52 [vo'], row vo' 29 1 (L ++ drpN bad n sz).length xs'] ∧ RdL m' xs' (L ++ drpN bad n sz)) := by
  subst h1_
  subst h2_
  refine Mut.start Try.func98 rfl Try.ntmps98 rfl fun wld => ?_
  refine WC.seq ?_
  refine WC.region ?_
  refine WL.tn (T.boxB rfl rfl) (by decide) fun b1 => ?_
  refine WL.tn (T.boxB rfl rfl) (by decide) fun b2 => ?_
  refine WL.tn (T.boxB rfl rfl) (by decide) fun b3 => ?_
  refine WL.nil ?_
  refine WK.nThen ?_
  refine WC.seq ?_
  refine WC.region ?_
  refine WL.tn (T.alloc Try.zeroValue138 rfl) (by decide) fun b4 => ?_
  refine WL.nil ?_
  refine WK.nThen ?_
  refine WC.seq ?_
  refine WC.region ?_
  refine WL.x (X.makeFunc (by intro x hx; simp at hx; rcases hx with rfl | rfl | rfl | rfl; all_goals exact ⟨_, rfl⟩) rfl) (by decide) ?_
  refine WL.ts (T.storeB (k := 0) Try.sizeOf138 rfl rfl rfl rfl (Nat.le_of_ble_eq_true rfl)) ?_
  refine WL.nil ?_
  refine WK.nThen ?_
  refine WK.freezeBX 3 [blk b4 138 [.func (.func 134) #[] [.pointer (some ⟨b2, 0, none⟩), .pointer (some ⟨b3, 0, none⟩), .pointer (some ⟨b1, 0, none⟩), .pointer (some ⟨b4, 0, none⟩)].toArray], blk b3 110 [.func (.func 99) #[] [.pointer (some (pb)), .pointer (some ⟨bo, 0, none⟩)].toArray], blk b2 3 [.int .i64 (↑sz)], blk b1 3 [.int .i64 (↑n)]] [blk bo 52 [vo], row (vo) 29 1 (L).length (xs)] rfl rfl rfl (fun m5 hle6 hcn => ?_)
  replace hpb := hpb.mono hle6
  replace hx := hx.mono hle6
  have hpn : At m5 ⟨b1, 0, none⟩ (n : Int) := ⟨_, rfl, hcn⟩
  refine WK.freezeBX 2 [blk b4 138 [.func (.func 134) #[] [.pointer (some ⟨b2, 0, none⟩), .pointer (some ⟨b3, 0, none⟩), .pointer (some ⟨b1, 0, none⟩), .pointer (some ⟨b4, 0, none⟩)].toArray], blk b3 110 [.func (.func 99) #[] [.pointer (some (pb)), .pointer (some ⟨bo, 0, none⟩)].toArray], blk b2 3 [.int .i64 (↑sz)]] [blk bo 52 [vo], row (vo) 29 1 (L).length (xs)] rfl rfl rfl (fun m7 hle8 hcs => ?_)
  replace hpb := hpb.mono hle8
  replace hx := hx.mono hle8
  replace hcn := hcn.mono hle8
  replace hpn := hpn.mono hle8
  have hps : At m7 ⟨b2, 0, none⟩ (sz : Int) := ⟨_, rfl, hcs⟩
  refine WK.freezeBX 1 [blk b4 138 [.func (.func 134) #[] [.pointer (some ⟨b2, 0, none⟩), .pointer (some ⟨b3, 0, none⟩), .pointer (some ⟨b1, 0, none⟩), .pointer (some ⟨b4, 0, none⟩)].toArray], blk b3 110 [.func (.func 99) #[] [.pointer (some (pb)), .pointer (some ⟨bo, 0, none⟩)].toArray]] [blk bo 52 [vo], row (vo) 29 1 (L).length (xs)] rfl rfl rfl (fun m9 hle10 hcy => ?_)
  replace hpb := hpb.mono hle10
  replace hx := hx.mono hle10
  replace hcn := hcn.mono hle10
  replace hpn := hpn.mono hle10
  replace hcs := hcs.mono hle10
  replace hps := hps.mono hle10
  refine WK.freezeBX 0 [blk b4 138 [.func (.func 134) #[] [.pointer (some ⟨b2, 0, none⟩), .pointer (some ⟨b3, 0, none⟩), .pointer (some ⟨b1, 0, none⟩), .pointer (some ⟨b4, 0, none⟩)].toArray]] [blk bo 52 [vo], row (vo) 29 1 (L).length (xs)] rfl rfl rfl (fun m11 hle12 hcf => ?_)
  replace hpb := hpb.mono hle12
  replace hx := hx.mono hle12
  replace hcn := hcn.mono hle12
  replace hpn := hpn.mono hle12
  replace hcs := hcs.mono hle12
  replace hps := hps.mono hle12
  replace hcy := hcy.mono hle12
  refine WC.region ?_
  refine WL.x (X.loadV Try.isAgg138 rfl hcf) (by decide) ?_
  refine WL.tM (T.callcP (A := []) Try.call134 rfl rfl (.refl _) (from134 sz _ .nil hpb hps hpn hcy hcf hx (nx := 0) (by omega) (by first | (simp; omega) | simp) (by omega) (by omega) (by omega) (by omega))) (by decide) (fun m13 Es_ v_ hle14 hR_ => ?_)
  obtain ⟨rfl, v15, xs16, rfl, hx17⟩ := hR_
  replace hpb := hpb.mono hle14
  replace hcn := hcn.mono hle14
  replace hpn := hpn.mono hle14
  replace hcs := hcs.mono hle14
  replace hps := hps.mono hle14
  replace hcy := hcy.mono hle14
  replace hcf := hcf.mono hle14
  refine WL.nil ?_
  refine WK.end0 rfl (fun w' hw' => Ret.mut (hw'.weaken (.refl _)) ?_)
  exact ⟨rfl, _, _, rfl, hx17⟩

set_option maxHeartbeats 1000000 in
theorem drops35 (m : Mem) (cd : List Value) (d : Drum) (hd : Enc.rd m cd d) (vm_ : Value) (m_ : List Mark) (hm_ : Sl m vm_ m_)   : Pure Try.prog 35 #[.agg cd.toArray, vm_] m (fun m' v => ∃ r0, v = .tuple #[r0, .int .i64 ((drpR d m_).2)] ∧ Sl m' r0 ((drpR d m_).1)) := by
  obtain ⟨v1, v3, rfl, hs2, hs4⟩ := hd
  have hl5 := hs2.le
  have hl6 := hs4.le
  have lm_ := hm_.le
  refine Pure.start Try.func35 rfl Try.ntmps35 rfl fun wld => ?_
  refine WC.seq ?_
  refine WC.region ?_
  refine WL.tn (T.boxB rfl rfl) (by decide) fun b7 => ?_
  refine WL.x (X.assign rfl) (by decide) ?_
  refine WL.x (X.assign rfl) (by decide) ?_
  refine WL.nil ?_
  refine WK.nThen ?_
  refine WC.seq ?_
  refine WC.seq ?_
  refine WC.region ?_
  refine WL.x (X.loadBA (k := 0) Try.isAgg25 Try.sizeOf25 rfl rfl rfl) (by decide) ?_
  refine WL.x (X.move rfl) (by decide) ?_
  refine WL.x (X.call Try.call91 rfl (checked91 _ _ d ⟨_, _, rfl, hs2, hs4⟩ _ _ hm_ )) (by decide) ?_
  refine WL.x (X.assign rfl) (by decide) ?_
  refine WL.nil ?_
  refine WK.nThen ?_
  refine WC.seq ?_
  refine WC.region ?_
  refine WL.x (X.move rfl) (by decide) ?_
  refine WL.condn (X.neq rfl rfl) (by decide) (fun h8 => ?_) (fun h8 => ?_)
  · refine WL.nil ?_
    refine WK.nThen ?_
    refine WC.condT rfl ?_
    refine WC.seq ?_
    refine WC.region ?_
    refine WL.x (X.move rfl) (by decide) ?_
    refine WL.x (X.assign rfl) (by decide) ?_
    refine WL.x (X.assign rfl) (by decide) ?_
    refine WL.nil ?_
    refine WK.nThen ?_
    refine WC.ret ?_
    refine WK.rThen ?_
    refine WK.ret2 rfl rfl rfl (fun w' hw' => Ret.mem hw' ?_)
    first | exact ⟨_, tup2 rfl (int_eq (by rw [drpR_bad (by omega)])), by rw [drpR_bad (by omega)]; exact .nil⟩ | exact ⟨_, tup2 rfl (int_eq (by rw [drpR_big (by omega) (by omega)])), by rw [drpR_big (by omega) (by omega)]; exact .nil⟩ | exact ⟨_, tup2 rfl (int_eq (by rw [drpR_time (by omega) (by omega) (by assumption)])), by rw [drpR_time (by omega) (by omega) (by assumption)]; exact .nil⟩
  · refine WL.nil ?_
    refine WK.nThen ?_
    refine WC.condF rfl ?_
    refine WC.skip ?_
    refine WK.nThen ?_
    refine WC.seq ?_
    refine WC.block ?_
    refine WC.seq ?_
    refine WC.region ?_
    refine WL.x (X.move rfl) (by decide) ?_
    refine WL.x (X.len Try.runUnderlying26 rfl hm_) (by decide) ?_
    refine WL.cond (X.gtr rfl rfl) (by decide) (fun h9 => ?_) (fun h9 => ?_)
    · refine WL.x (X.assign rfl) (by decide) ?_
      refine WL.nil ?_
      refine WK.nThen ?_
      refine WC.condT rfl ?_
      refine WC.seq ?_
      refine WC.region ?_
      refine WL.x (X.assign rfl) (by decide) ?_
      refine WL.x (X.assign rfl) (by decide) ?_
      refine WL.nil ?_
      refine WK.nThen ?_
      refine WC.ret ?_
      refine WK.rBlock ?_
      refine WK.rThen ?_
      refine WK.ret2 rfl rfl rfl (fun w' hw' => Ret.mem hw' ?_)
      first | exact ⟨_, tup2 rfl (int_eq (by rw [drpR_bad (by omega)])), by rw [drpR_bad (by omega)]; exact .nil⟩ | exact ⟨_, tup2 rfl (int_eq (by rw [drpR_big (by omega) (by omega)])), by rw [drpR_big (by omega) (by omega)]; exact .nil⟩ | exact ⟨_, tup2 rfl (int_eq (by rw [drpR_time (by omega) (by omega) (by assumption)])), by rw [drpR_time (by omega) (by omega) (by assumption)]; exact .nil⟩
    · refine WL.x (X.assign rfl) (by decide) ?_
      refine WL.nil ?_
      refine WK.nThen ?_
      refine WC.condF rfl ?_
      refine WC.seq ?_
      refine WC.region ?_
      refine WL.x (X.loadBA (k := 0) Try.isAgg25 Try.sizeOf25 rfl rfl rfl) (by decide) ?_
      refine WL.cond (X.call Try.call97 rfl (holds97 _ _ d ⟨_, _, rfl, hs2, hs4⟩ _ _ .nil (okm0 (Ok.of (by omega))))) (by decide) (fun h10 => ?_) (fun h10 => ?_)
      · refine WL.x (X.not rfl) (by decide) ?_
        refine WL.x (X.assign rfl) (by decide) ?_
        refine WL.nil ?_
        refine WK.nThen ?_
        refine WC.condF rfl ?_
        refine WC.skip ?_
        refine WK.nBlock ?_
        refine WK.nThen ?_
        refine WC.seq ?_
        have hok := Ok.of (d := d) (m := m_) (by omega)
        have hod : okD d [] := (by assumption)
        have hfull := drp_fullD (d := d) (m := m_) hod
        refine WC.region ?_
        refine WL.x (X.loadBA (k := 0) Try.isAgg25 Try.sizeOf25 rfl rfl rfl) (by decide) ?_
        refine WL.x (X.move rfl) (by decide) ?_
        refine WL.tm (T.call Try.call95 rfl (pairs95 _ _ d ⟨_, _, rfl, hs2, hs4⟩ _ _ hm_ (Ok.of (by omega)))) (by decide) fun m11 r12 hle13 hR14 => ?_
        obtain ⟨v15, hv_, hs16⟩ := hR14
        rw [← hv_] at hs16
        clear hv_ v15
        replace hs2 := hs2.mono hle13
        replace hs4 := hs4.mono hle13
        replace hm_ := hm_.mono hle13
        have hl17 := hs16.le
        refine WL.tn (T.alloc Try.zeroValue52 rfl) (by decide) fun b18 => ?_
        refine WL.ts (T.storeB (k := 0) Try.sizeOf52 rfl rfl rfl hs16.one (Nat.le_of_ble_eq_true rfl)) ?_
        refine WL.nil ?_
        refine WK.nThen ?_
        refine WC.seq ?_
        refine WK.freezeS (α := (List (List Int))) (x := (pairL d m_)) 0 rfl rfl (show Enc.rd (α := (List (List Int))) m11 [r12] ((pairL d m_)) from ⟨_, rfl, hs16⟩) (fun m19 hle20 hp21 => ?_)
        replace hs2 := hs2.mono hle20
        replace hs4 := hs4.mono hle20
        replace hm_ := hm_.mono hle20
        replace hs16 := hs16.mono hle20
        refine WC.region ?_
        refine WL.tn (T.alloc Try.zeroValue52 rfl) (by decide) fun b22 => ?_
        refine WL.nil ?_
        refine WK.nThen ?_
        refine WC.seq ?_
        refine WC.seq ?_
        refine WK.own0 29 1 ?_
        have hx23 : RdL m19 [] (drpS (pairL d m_) m_.length 0) := RdL.nil
        refine WC.region ?_
        refine WL.x (X.assign rfl) (by decide) ?_
        refine WL.nil ?_
        refine WK.nThen ?_
        refine WC.block ?_
        refine WC.loop (G := Nat × Mem × Value × List Value) (fun (k, mm, vq, ys) => m_.length + 1 - k) (fun (k, mm, vq, ys) => mm) (fun (k, mm, vq, ys) => [row (vq) 29 1 (drpS (pairL d m_) m_.length k).length (ys), blk b22 52 [vq], blk b7 25 [v1, v3]]) (fun (k, mm, vq, ys) => [(1, vm_), (7, .pointer (some (⟨b18, 0, none⟩))), (8, .pointer (some ⟨b22, 0, none⟩)), (9, .int .i64 (↑k))]) (fun (k, mm, vq, ys) => m19.le mm ∧ RdL mm ys (drpS (pairL d m_) m_.length k) ∧ k ≤ m_.length + 1 ∧ ∀ j, j + 1 < k → drpN (pairL d m_) m_.length j = []) ((0, m19, Value.slice none 0 0, [])) rfl (.refl _) (.cons rfl (.cons rfl (.cons rfl (.cons rfl .nil)))) ?_ ?_
        · exact ⟨Mem.le_refl _, hx23, Nat.zero_le _, fun j hj => absurd hj (Nat.not_lt_zero _)⟩
        · rintro ⟨k, mm, vq, ys⟩ hF24
          show WK _ _ mm [row (vq) 29 1 (drpS (pairL d m_) m_.length k).length (ys), blk b22 52 [vq], blk b7 25 [v1, v3]] [(1, vm_), (7, .pointer (some (⟨b18, 0, none⟩))), (8, .pointer (some ⟨b22, 0, none⟩)), (9, .int .i64 (↑k))] _
          replace hF24 : m19.le mm ∧ RdL mm ys (drpS (pairL d m_) m_.length k) ∧ k ≤ m_.length + 1 ∧ ∀ j, j + 1 < k → drpN (pairL d m_) m_.length j = [] := hF24
          obtain ⟨hmm, hy, hk1, hk2⟩ := hF24
          replace hs2 := hs2.mono hmm
          replace hs4 := hs4.mono hmm
          replace hm_ := hm_.mono hmm
          replace hs16 := hs16.mono hmm
          replace hp21 := hp21.mono hmm
          replace hx23 := hx23.mono hmm
          refine WC.seq ?_
          refine WC.seq ?_
          refine WC.region ?_
          refine WL.x (X.loadB (k := 1) Try.isAgg52 rfl rfl rfl) (by decide) ?_
          refine WL.x (X.lenRow (k := 0) Try.runUnderlying52 rfl rfl) (by decide) ?_
          refine WL.cond (X.eql rfl rfl) (by decide) (fun h25 => ?_) (fun h25 => ?_)
          · refine WL.nil ?_
            refine WK.nThen ?_
            refine WC.condT rfl ?_
            refine WC.skip ?_
            refine WK.nThen ?_
            refine WC.seq ?_
            refine WC.block ?_
            have hne := drp_next hfull hk1 hk2 (by omega)
            have hb98 : k ≤ m_.length → (drpS (pairL d m_) m_.length k).length + (setsF m_.length k [] 0).length ≤ 50000 := (fun _ => by have h1 := drpS_len (pairL d m_) (n := m_.length) (by omega) k; have h2 := sets_len m_.length k [] 0; have h3 : 2 ^ (m_.length - 0) ≤ 2 ^ 12 := Nat.pow_le_pow_right (by omega) (by omega); omega)
            refine WC.region ?_
            refine WL.x (X.move rfl) (by decide) ?_
            refine WL.x (X.len Try.runUnderlying26 rfl hm_) (by decide) ?_
            refine WL.x (X.move rfl) (by decide) ?_
            refine WL.x (X.makeFunc (by intro x hx; simp at hx; rcases hx with rfl | rfl; all_goals exact ⟨_, rfl⟩) rfl) (by decide) ?_
            refine WL.tM (T.callP (A := [blk b7 25 [v1, v3]]) Try.call98 rfl ((List.Perm.cons _ (.refl _)).trans (List.perm_middle (l₁ := [row (vq) 29 1 (drpS (pairL d m_) m_.length k).length (ys)]) (l₂ := [blk b7 25 [v1, v3]]) (a := blk b22 52 [vq])).symm) (sets98 _ (n := m_.length) (sz := k) rfl rfl hp21 hy (hb98 (by omega)) (by omega) (by omega))) (by decide) (fun m26 Es_ v_ hle27 hR_ => ?_)
            obtain ⟨rfl, v28, xs29, rfl, hx30⟩ := hR_
            replace hs2 := hs2.mono hle27
            replace hs4 := hs4.mono hle27
            replace hm_ := hm_.mono hle27
            replace hs16 := hs16.mono hle27
            replace hp21 := hp21.mono hle27
            replace hx23 := hx23.mono hle27
            refine WL.nil ?_
            refine WK.nBlock ?_
            refine WK.nThen ?_
            refine WC.region ?_
            refine WL.x (X.move rfl) (by decide) ?_
            refine WL.x (X.add rfl rfl (by omega) (by omega)) (by decide) ?_
            refine WL.x (X.assign rfl) (by decide) ?_
            refine WL.nil ?_
            refine WK.nThen ?_
            have he31 : ((drpS (pairL d m_) m_.length k) ++ drpN ((pairL d m_)) m_.length k) = (drpS (pairL d m_) m_.length (k + 1)) := (by rw [hne.2.2]; rfl)
            rw [he31]
            rw [he31] at hx30
            refine WK.perm [row (v28) 29 1 (drpS (pairL d m_) m_.length (k + 1)).length (xs29), blk b22 52 [v28], blk b7 25 [v1, v3]] ((List.Perm.cons _ (.refl _)).trans (List.perm_middle (l₁ := [blk b22 52 [v28]]) (l₂ := [blk b7 25 [v1, v3]]) (a := row (v28) 29 1 (drpS (pairL d m_) m_.length (k + 1)).length (xs29))).symm) ?_
            refine WK.next ((k + 1, m26, v28, xs29)) rfl (.refl _) (.cons rfl (.cons rfl (.cons rfl (.cons rfl .nil)))) ?_ ?_
            · exact ⟨Mem.le_trans hmm hle27, hx30, by have := hne.1; omega, hne.2.1⟩
            · (dsimp only; have := hne.1; omega)
          · refine WL.nil ?_
            refine WK.nThen ?_
            refine WC.condF rfl ?_
            refine WC.exit ?_
            refine WK.eThen ?_
            refine WK.eThen ?_
            refine WK.eHit ?_
            refine WK.nThen ?_
            refine WC.seq ?_
            have hde := drp_end hk1 hk2 (by omega)
            have hdl := drpS_len (pairL d m_) (n := m_.length) (by omega) k
            refine WC.region ?_
            refine WL.x (X.loadB (k := 1) Try.isAgg52 rfl rfl rfl) (by decide) ?_
            refine WL.x (X.assign rfl) (by decide) ?_
            refine WL.x (X.assign rfl) (by decide) ?_
            refine WL.nil ?_
            refine WK.nThen ?_
            refine WC.ret ?_
            refine WK.freezeL 0 rfl rfl hy (by unfold lenB; omega) (fun m32 hle33 hs34 => ?_)
            replace hs2 := hs2.mono hle33
            replace hs4 := hs4.mono hle33
            replace hm_ := hm_.mono hle33
            replace hs16 := hs16.mono hle33
            replace hp21 := hp21.mono hle33
            replace hx23 := hx23.mono hle33
            replace hy := hy.mono hle33
            refine WK.ret2 rfl rfl rfl (fun w' hw' => Ret.mem hw' ?_)
            first | exact ⟨_, tup2 rfl (int_eq (by rw [drpR_ok (by omega) (by omega) hod, ← hde])), by rw [drpR_ok (by omega) (by omega) hod, ← hde]; exact hs34⟩
      · refine WL.x (X.not rfl) (by decide) ?_
        refine WL.x (X.assign rfl) (by decide) ?_
        refine WL.nil ?_
        refine WK.nThen ?_
        refine WC.condT rfl ?_
        refine WC.seq ?_
        refine WC.region ?_
        refine WL.x (X.assign rfl) (by decide) ?_
        refine WL.x (X.assign rfl) (by decide) ?_
        refine WL.nil ?_
        refine WK.nThen ?_
        refine WC.ret ?_
        refine WK.rBlock ?_
        refine WK.rThen ?_
        refine WK.ret2 rfl rfl rfl (fun w' hw' => Ret.mem hw' ?_)
        first | exact ⟨_, tup2 rfl (int_eq (by rw [drpR_bad (by omega)])), by rw [drpR_bad (by omega)]; exact .nil⟩ | exact ⟨_, tup2 rfl (int_eq (by rw [drpR_big (by omega) (by omega)])), by rw [drpR_big (by omega) (by omega)]; exact .nil⟩ | exact ⟨_, tup2 rfl (int_eq (by rw [drpR_time (by omega) (by omega) (by assumption)])), by rw [drpR_time (by omega) (by omega) (by assumption)]; exact .nil⟩

end Go.Proofs.C2
