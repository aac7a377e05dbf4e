import Derived.Test.YtednficclnjmjaaC8Join
import Derived.Test.YtednficclnjmjaaC8W19
import Derived.Test.YtednficclnjmjaaKxV
/- Century: walks, twentieth part, by program. -/
namespace Go.Proofs.C8
open Go Go.Kx
set_option linter.unusedSimpArgs false
set_option linter.unusedVariables false

theorem equal135 (m : Mem) (va : Value) (a : List Shf) (ha : Sl m va a) (vb : Value) (b : List Shf) (hb : Sl m vb b)   : Exact Try.prog 135 #[va, vb] m (.bool (decide (a = b))) := by
 have la := ha.le
 have lb := hb.le
 refine Exact.start Try.func135 rfl Try.ntmps135 rfl fun wld => ?_
 refine WC.seq ?_
 refine WC.region ?_
 refine WL.x (X.assign rfl) (by decide) ?_
 refine WL.nil ?_
 refine WK.nThen ?_
 refine WC.seq ?_
 refine WC.seq ?_
 refine WC.region ?_
 refine WL.x (X.move rfl) (by decide) ?_
 refine WL.x (X.len Try.runUnderlying23 rfl ha) (by decide) ?_
 refine WL.x (X.move rfl) (by decide) ?_
 refine WL.x (X.len Try.runUnderlying23 rfl hb) (by decide) ?_
 refine WL.condn (X.neq rfl rfl) (by decide) (fun h1 => ?_) (fun h1 => ?_)
 ·refine WL.nil ?_
  refine WK.nThen ?_
  refine WC.condT rfl ?_
  refine WC.seq ?_
  refine WC.region ?_
  refine WL.x (X.assign rfl) (by decide) ?_
  refine WL.nil ?_
  refine WK.nThen ?_
  refine WC.ret ?_
  refine WK.rThen ?_
  refine WK.ret1 rfl rfl (fun w' hw' => Ret.exact hw' ?_)
  exact bool_false (fun e => by subst e; omega)
 ·refine WL.nil ?_
  refine WK.nThen ?_
  refine WC.condF rfl ?_
  refine WC.skip ?_
  refine WK.nThen ?_
  refine WC.seq ?_
  refine WC.seq ?_
  refine WC.region ?_
  refine WL.x (X.move rfl) (by decide) ?_
  refine WL.x (X.len Try.runUnderlying23 rfl ha) (by decide) ?_
  refine WL.x (X.move rfl) (by decide) ?_
  refine WL.nil ?_
  refine WK.nThen ?_
  refine WC.block ?_
  refine WC.loop (G := Nat) (fun k => a.length - k) (fun k => m) (fun k => []) (fun k => [(0, va), (1, vb), (12, .int .i64 (↑a.length)), (13, .int .i64 (↑k))]) (fun k => k ≤ a.length ∧ (∀ j, j < k → gt a j = gt b j)) 0 rfl (.refl _) (.cons rfl (.cons rfl (.cons rfl (.cons rfl .nil)))) ?_ ?_
  ·exact ⟨Nat.zero_le _, fun j hj => absurd hj (Nat.not_lt_zero _)⟩
  ·rintro k hF2
   show WK _ _ m [] [(0, va), (1, vb), (12, .int .i64 (↑a.length)), (13, .int .i64 (↑k))] _
   replace hF2 : k ≤ a.length ∧ (∀ j, j < k → gt a j = gt b j) := hF2
   obtain ⟨hk, hall⟩ := hF2
   refine WC.seq ?_
   refine WC.region ?_
   refine WL.cond (X.lss rfl rfl) (by decide) (fun h3 => ?_) (fun h3 => ?_)
   ·refine WL.nil ?_
    refine WK.nThen ?_
    refine WC.seq ?_
    refine WC.condT rfl ?_
    refine WC.skip ?_
    refine WK.nThen ?_
    refine WC.seq ?_
    refine WC.block ?_
    refine WC.seq ?_
    refine WC.region ?_
    refine WL.x (X.move rfl) (by decide) ?_
    refine WL.x (X.assign rfl) (by decide) ?_
    refine WL.nil ?_
    refine WK.nThen ?_
    refine WC.seq ?_
    refine WC.draw (π := (.cons 0 (.cons 1 (.cons 2 (.cons 3 (.cons 4 (.cons 5 (.cons 6 (.cons 7 (.cons 8 .done)))))))))) [] [] rfl (by kernel_rfl) ?_
    refine DW.x rfl rfl (X.move rfl) (by decide) ?_
    refine DW.x rfl rfl (X.move rfl) (by decide) ?_
    refine DW.xe rfl rfl (E.idxN k Try.runUnderlying23 Try.sizeOf72 rfl rfl ha (by omega)) (by decide) (fun p4 hp5 => ?_)
    refine DW.xe rfl rfl (E.loadAgg Try.isAgg72 Try.sizeOf72 rfl hp5) (by decide) (fun c6 hc7 => ?_)
    obtain rfl := hc7
    refine DW.x rfl rfl (X.move rfl) (by decide) ?_
    refine DW.x rfl rfl (X.move rfl) (by decide) ?_
    refine DW.xe rfl rfl (E.idxN k Try.runUnderlying23 Try.sizeOf72 rfl rfl hb (by omega)) (by decide) (fun p8 hp9 => ?_)
    refine DW.xe rfl rfl (E.loadAgg Try.isAgg72 Try.sizeOf72 rfl hp9) (by decide) (fun c10 hc11 => ?_)
    obtain rfl := hc11
    refine DW.condn rfl rfl (X.neqS (a := gt a k) (b := gt b k) gd72 (fun w => eqS72 9997 _ _ w) rfl rfl) (by decide) (fun h12 => ?_) (fun h12 => ?_)
    ·refine DW.nil ?_
     refine WK.nThen ?_
     refine WC.condT rfl ?_
     refine WC.seq ?_
     refine WC.region ?_
     refine WL.x (X.assign rfl) (by decide) ?_
     refine WL.nil ?_
     refine WK.nThen ?_
     refine WC.ret ?_
     refine WK.rBlock ?_
     refine WK.rThen ?_
     refine WK.rThen ?_
     refine WK.rBlock ?_
     refine WK.rThen ?_
     refine WK.ret1 rfl rfl (fun w' hw' => Ret.exact hw' ?_)
     exact bool_false (fun e => by subst e; contradiction)
    ·refine DW.nil ?_
     refine WK.nThen ?_
     refine WC.condF rfl ?_
     refine WC.skip ?_
     refine WK.nBlock ?_
     refine WK.nThen ?_
     refine WC.region ?_
     refine WL.x (X.add rfl rfl (by omega) (by omega)) (by decide) ?_
     refine WL.x (X.move rfl) (by decide) ?_
     refine WL.nil ?_
     refine WK.nThen ?_
     refine WK.next (k + 1) rfl (.refl _) (.cons rfl (.cons rfl (.cons rfl (.cons rfl .nil)))) ?_ ?_
     ·exact ⟨by omega, fun j hj => by rcases Nat.lt_succ_iff_lt_or_eq.1 hj with h | h; exact hall j h; subst h; (first | assumption | (apply Classical.byContradiction; assumption))⟩
     ·omega
   ·refine WL.nil ?_
    refine WK.nThen ?_
    refine WC.seq ?_
    refine WC.condF rfl ?_
    refine WC.exit ?_
    refine WK.eThen ?_
    refine WK.eThen ?_
    refine WK.eHit ?_
    refine WK.nThen ?_
    refine WC.seq ?_
    refine WC.region ?_
    refine WL.x (X.assign rfl) (by decide) ?_
    refine WL.nil ?_
    refine WK.nThen ?_
    refine WC.ret ?_
    refine WK.ret1 rfl rfl (fun w' hw' => Ret.exact hw' ?_)
    exact bool_true (ext_gt (by omega) (fun j hj => hall j (by omega)))

theorem grow153 (m : Mem) {n : Nat} {zn : Int} (hz : zn = n) (hn : n ≤ 1000) : Mut Try.prog 153 #[.slice none 0 0, .int .i64 zn] m [] (fun _ Es u => Es = [rowF u 62 ([] : List Val)] ∧ u.oneCell' = true) := by
 subst hz
 refine Mut.start Try.func153 rfl Try.ntmps153 rfl fun wld => ?_
 refine WC.seq ?_
 refine WC.region ?_
 refine WL.x (X.assign rfl) (by decide) ?_
 refine WL.nil ?_
 refine WK.nThen ?_
 refine WC.seq ?_
 refine WC.seq ?_
 refine WC.region ?_
 refine WL.x (X.move rfl) (by decide) ?_
 refine WL.x (OpX.f (X.lss rfl rfl) (by omega)) (by decide) ?_
 refine WL.nil ?_
 refine WK.nThen ?_
 refine WC.condF rfl ?_
 refine WC.skip ?_
 refine WK.nThen ?_
 refine WC.seq ?_
 refine WC.seq ?_
 refine WC.region ?_
 refine WL.x (X.move rfl) (by decide) ?_
 refine WL.x (X.move rfl) (by decide) ?_
 refine WL.x (X.cap (c := 0) Try.runUnderlying22 rfl) (by decide) ?_
 refine WL.x (X.move rfl) (by decide) ?_
 refine WL.x (X.lenV Try.runUnderlying22 rfl (q := 0) rfl) (by decide) ?_
 refine WL.x (X.sub rfl rfl (by omega) (by omega)) (by decide) ?_
 refine WL.x (X.sub rfl rfl (by omega) (by omega)) (by decide) ?_
 refine WL.x (X.assign rfl) (by decide) ?_
 refine WL.nil ?_
 refine WK.nThen ?_
 refine WC.seq ?_
 refine WC.region ?_
 refine WL.x (X.move rfl) (by decide) ?_
 refine WL.cond (X.gtr rfl rfl) (by decide) (fun h1 => ?_) (fun h1 => ?_)
 ·refine WL.nil ?_
  refine WK.nThen ?_
  refine WC.condT rfl ?_
  refine WC.region ?_
  refine WL.x (X.move rfl) (by decide) ?_
  refine WL.x (X.move rfl) (by decide) ?_
  refine WL.x (X.cap (c := 0) Try.runUnderlying22 rfl) (by decide) ?_
  refine WL.x (X.slNil Try.underlying22 Try.sizeOf62 rfl rfl) (by decide) ?_
  refine WL.x (X.move rfl) (by decide) ?_
  refine WL.to (T.appendZ0 sl22 Try.underlying3 n rfl rfl (by omega) (by omega) (by decide) (by omega) (by omega)) (by decide) (fun v_ m_ H_ hz_ => ?_)
  obtain ⟨rfl, g_, c_, zs, rfl, hc_, hzl, rfl⟩ := hz_
  refine WL.x (X.move rfl) (by decide) ?_
  refine WL.x (X.lenV Try.runUnderlying22 rfl (q := 0) rfl) (by decide) ?_
  refine WL.x (X.slHi 0 Try.underlying22 Try.sizeOf62 rfl rfl rfl (by omega) (by omega)) (by decide) ?_
  refine WL.x (X.assign rfl) (by decide) ?_
  refine WL.nil ?_
  refine WK.nThen ?_
  refine WC.seq ?_
  refine WK.shrink (k := 0) (h := 0) rfl (by omega) ?_
  refine WC.region ?_
  refine WL.x (X.move rfl) (by decide) ?_
  refine WL.x (X.assign rfl) (by decide) ?_
  refine WL.nil ?_
  refine WK.nThen ?_
  refine WC.ret ?_
  refine WK.ret1 rfl rfl (fun w' hw' => Ret.mut hw' ?_)
  exact ⟨congrArg (fun e_ => [e_]) (rowF_of (α := Val) (L := []) rfl (by rw [Nat.zero_mul]; rfl)), rfl⟩
 ·refine WL.nil ?_
  refine WK.nThen ?_
  refine WC.condF rfl ?_
  refine WC.skip ?_
  refine WK.nThen ?_
  refine WC.seq ?_
  refine WK.ownF Val 62 ?_
  refine WC.region ?_
  refine WL.x (X.move rfl) (by decide) ?_
  refine WL.x (X.assign rfl) (by decide) ?_
  refine WL.nil ?_
  refine WK.nThen ?_
  refine WC.ret ?_
  refine WK.ret1 rfl rfl (fun w' hw' => Ret.mut hw' ?_)
  exact ⟨rfl, rfl⟩

set_option maxHeartbeats 1000000 in
theorem concat136 (m : Mem) {v : Value} {Ls : List (List Val)} (hL : Sl m v Ls) (hn : Ls.length ≤ 4) (hb : ∀ i, i < Ls.length → (gt Ls i).length ≤ 200) : Mut Try.prog 136 #[v] m [] (fun _ Es u => Es = [rowF u 62 (catN Ls Ls.length)] ∧ u.oneCell' = true) := by
 refine Mut.start Try.func136 rfl Try.ntmps136 rfl fun wld => ?_
 refine WC.seq ?_
 refine WC.region ?_
 refine WL.x (X.assign rfl) (by decide) ?_
 refine WL.nil ?_
 refine WK.nThen ?_
 refine WC.seq ?_
 refine WC.region ?_
 refine WL.x (X.assign rfl) (by decide) ?_
 refine WL.nil ?_
 refine WK.nThen ?_
 refine WC.seq ?_
 refine WC.seq ?_
 refine WC.region ?_
 refine WL.x (X.move rfl) (by decide) ?_
 refine WL.x (X.len Try.runUnderlying190 rfl hL) (by decide) ?_
 refine WL.x (X.move rfl) (by decide) ?_
 refine WL.nil ?_
 refine WK.nThen ?_
 refine WC.block ?_
 refine WC.loop (G := Nat × Int) (fun (k, z_) => Ls.length - k) (fun (k, z_) => m) (fun (k, z_) => []) (fun (k, z_) => [(0, v), (3, .int .i64 (z_)), (9, v), (10, .int .i64 (↑Ls.length)), (11, .int .i64 (↑k))]) (fun (k, z_) => k ≤ Ls.length ∧ z_ = (lenN Ls k : Int)) ((0, 0)) rfl (.refl _) (.cons rfl (.cons rfl (.cons rfl (.cons rfl (.cons rfl .nil))))) ?_ ?_
 ·exact ⟨Nat.zero_le _, rfl⟩
 ·rintro ⟨k, z_⟩ hF1
  show WK _ _ m [] [(0, v), (3, .int .i64 (z_)), (9, v), (10, .int .i64 (↑Ls.length)), (11, .int .i64 (↑k))] _
  replace hF1 : k ≤ Ls.length ∧ z_ = (lenN Ls k : Int) := hF1
  obtain ⟨hk, hz_⟩ := hF1
  have hlb := lenN_le hb k (by omega)
  have hgb := fun h_ : k < Ls.length => hb k h_
  refine WC.seq ?_
  refine WC.region ?_
  refine WL.cond (X.lss rfl rfl) (by decide) (fun h2 => ?_) (fun h2 => ?_)
  ·refine WL.nil ?_
   refine WK.nThen ?_
   refine WC.seq ?_
   refine WC.condT rfl ?_
   refine WC.skip ?_
   refine WK.nThen ?_
   refine WC.seq ?_
   refine WC.block ?_
   refine WC.seq ?_
   refine WC.region ?_
   refine WL.xe (E.idxN k Try.runUnderlying190 Try.sizeOf22 rfl rfl hL (by omega)) (by decide) (fun p3 hp4 => ?_)
   refine WL.xe (E.loadSl Try.isAgg22 rfl hp4) (by decide) (fun v5 hs6 => ?_)
   have hl7 := hs6.le
   refine WL.x (X.assign rfl) (by decide) ?_
   refine WL.nil ?_
   refine WK.nThen ?_
   refine WC.seq ?_
   refine WC.region ?_
   refine WL.x (X.move rfl) (by decide) ?_
   refine WL.x (X.move rfl) (by decide) ?_
   refine WL.x (X.len Try.runUnderlying22 rfl hs6) (by decide) ?_
   refine WL.x (X.add rfl rfl (by omega) (by omega)) (by decide) ?_
   refine WL.x (X.assign rfl) (by decide) ?_
   refine WL.nil ?_
   refine WK.nThen ?_
   refine WC.seq ?_
   refine WC.region ?_
   refine WL.x (X.move rfl) (by decide) ?_
   refine WL.x (OpX.f (X.lss rfl rfl) (by omega)) (by decide) ?_
   refine WL.nil ?_
   refine WK.nThen ?_
   refine WC.condF rfl ?_
   refine WC.skip ?_
   refine WK.nBlock ?_
   refine WK.nThen ?_
   refine WC.region ?_
   refine WL.x (X.add rfl rfl (by omega) (by omega)) (by decide) ?_
   refine WL.x (X.move rfl) (by decide) ?_
   refine WL.nil ?_
   refine WK.nThen ?_
   refine WK.next ((k + 1, z_ + (↑(gt Ls k).length))) rfl (.refl _) (.cons rfl (.cons rfl (.cons rfl (.cons rfl (.cons rfl .nil))))) ?_ ?_
   ·exact ⟨by omega, by have h_ := lenN_succ Ls k; omega⟩
   ·(dsimp only; omega)
  ·refine WL.nil ?_
   refine WK.nThen ?_
   refine WC.seq ?_
   refine WC.condF rfl ?_
   refine WC.exit ?_
   refine WK.eThen ?_
   refine WK.eThen ?_
   refine WK.eHit ?_
   refine WK.nThen ?_
   refine WC.seq ?_
   refine WC.region ?_
   refine WL.x (X.move rfl) (by decide) ?_
   refine WL.tM (T.callO Try.call153 rfl (grow153 _ (n := Int.toNat z_) (by omega) (by omega))) (by decide) (fun m8 Es9 v10 hle11 hR_ => ?_)
   obtain ⟨rfl, ho12⟩ := hR_
   replace hL := hL.mono hle11
   refine WL.x (X.assign rfl) (by decide) ?_
   refine WL.nil ?_
   refine WK.nThen ?_
   refine WC.seq ?_
   refine WC.seq ?_
   refine WC.region ?_
   refine WL.x (X.move rfl) (by decide) ?_
   refine WL.x (X.len Try.runUnderlying190 rfl hL) (by decide) ?_
   refine WL.x (X.move rfl) (by decide) ?_
   refine WL.nil ?_
   refine WK.nThen ?_
   refine WC.block ?_
   have he13 : (([] : List Val)) = (catN Ls 0) := rfl
   rw [he13]
   refine WC.loop (G := Nat × Value) (fun (i, vo) => Ls.length - i) (fun (i, vo) => m8) (fun (i, vo) => [rowF (vo) 62 (catN Ls i)]) (fun (i, vo) => [(6, vo), (25, v), (26, .int .i64 (↑Ls.length)), (27, .int .i64 (↑i))]) (fun (i, vo) => i ≤ Ls.length) ((0, v10)) rfl (.refl _) (.cons rfl (.cons rfl (.cons rfl (.cons rfl .nil)))) ?_ ?_
   ·exact Nat.zero_le _
   ·rintro ⟨i, vo⟩ hF14
    show WK _ _ m8 [rowF (vo) 62 (catN Ls i)] [(6, vo), (25, v), (26, .int .i64 (↑Ls.length)), (27, .int .i64 (↑i))] _
    replace hF14 : i ≤ Ls.length := hF14
    have hi := hF14
    have hlb := lenN_le hb i (by omega)
    unfold lenN at hlb
    have hgb := fun h_ : i < Ls.length => hb i h_
    refine WC.seq ?_
    refine WC.region ?_
    refine WL.cond (X.lss rfl rfl) (by decide) (fun h15 => ?_) (fun h15 => ?_)
    ·refine WL.nil ?_
     refine WK.nThen ?_
     refine WC.seq ?_
     refine WC.condT rfl ?_
     refine WC.skip ?_
     refine WK.nThen ?_
     refine WC.seq ?_
     refine WC.block ?_
     refine WC.seq ?_
     refine WC.region ?_
     refine WL.xe (E.idxN i Try.runUnderlying190 Try.sizeOf22 rfl rfl hL (by omega)) (by decide) (fun p16 hp17 => ?_)
     refine WL.xe (E.loadSl Try.isAgg22 rfl hp17) (by decide) (fun v18 hs19 => ?_)
     have hl20 := hs19.le
     refine WL.x (X.assign rfl) (by decide) ?_
     refine WL.nil ?_
     refine WK.nThen ?_
     refine WC.region ?_
     refine WL.x (X.move rfl) (by decide) ?_
     refine WL.x (X.move rfl) (by decide) ?_
     refine WL.ta (T.appendFl (α := Val) (fun _ _ _ h => h) (k := 0) sl22 rfl rfl hs19 rfl (by first | omega | (simp; omega)) (by first | omega | (simp; omega))) (by decide) (fun v21 => ?_)
     refine WL.x (X.assign rfl) (by decide) ?_
     refine WL.nil ?_
     refine WK.nBlock ?_
     refine WK.nThen ?_
     refine WC.region ?_
     refine WL.x (X.add rfl rfl (by omega) (by omega)) (by decide) ?_
     refine WL.x (X.move rfl) (by decide) ?_
     refine WL.nil ?_
     refine WK.nThen ?_
     have he22 : ((catN Ls i) ++ (gt Ls i)) = (catN Ls (i + 1)) := rfl
     rw [he22]
     refine WK.next ((i + 1, v21)) rfl (.refl _) (.cons rfl (.cons rfl (.cons rfl (.cons rfl .nil)))) ?_ ?_
     ·omega
     ·(dsimp only; omega)
    ·refine WL.nil ?_
     refine WK.nThen ?_
     refine WC.seq ?_
     refine WC.condF rfl ?_
     refine WC.exit ?_
     refine WK.eThen ?_
     refine WK.eThen ?_
     refine WK.eHit ?_
     refine WK.nThen ?_
     refine WC.seq ?_
     refine WC.region ?_
     refine WL.own1 (k := 0) rfl (fun ho_ => ?_)
     obtain rfl : i = Ls.length := (by omega)
     refine WL.x (X.move rfl) (by decide) ?_
     refine WL.x (X.assign rfl) (by decide) ?_
     refine WL.nil ?_
     refine WK.nThen ?_
     refine WC.ret ?_
     refine WK.ret1 rfl rfl (fun w' hw' => Ret.mut hw' ?_)
     exact ⟨rfl, ho_⟩

set_option maxRecDepth 20000 in
set_option maxHeartbeats 2000000 in
theorem join76 (m : Mem) (cs : List Value) (s : Ser) (hs : Enc.rd m cs s) (ct : List Value) (t : Ser) (ht : Enc.rd m ct t)   : Pure Try.prog 76 #[.agg cs.toArray, .agg ct.toArray] m (fun m' v => ∃ r0, v = .tuple #[.agg r0.toArray, .int .i64 ((joinR s t).2)] ∧ Enc.rd m' r0 ((joinR s t).1)) := by
 obtain ⟨v1, v3, rfl, hs2, hs4⟩ := hs
 have hl5 := hs2.le
 have hl6 := hs4.le
 obtain ⟨v7, v9, rfl, hs8, hs10⟩ := ht
 have hl11 := hs8.le
 have hl12 := hs10.le
 refine Pure.start Try.func76 rfl Try.ntmps76 rfl fun wld => ?_
 refine WC.seq ?_
 refine WC.region ?_
 refine WL.tn (T.boxB rfl rfl) (by decide) fun b13 => ?_
 refine WL.tn (T.boxB rfl rfl) (by decide) fun b14 => ?_
 refine WL.tn (T.alloc Try.zeroValue25 rfl) (by decide) fun b15 => ?_
 refine WL.x (X.assign rfl) (by decide) ?_
 refine WL.nil ?_
 refine WK.nThen ?_
 refine WC.seq ?_
 refine WC.seq ?_
 refine WC.region ?_
 refine WL.x (X.loadBA (k := 2) Try.isAgg25 Try.sizeOf25 rfl rfl rfl) (by decide) ?_
 refine WL.x (X.loadBA (k := 1) Try.isAgg25 Try.sizeOf25 rfl rfl rfl) (by decide) ?_
 refine WL.tm (T.litM (α := Ser) (vals := [.agg [v1, v3].toArray, .agg [v7, v9].toArray]) (L := [s, t]) sl179 rfl (.cons rfl ⟨_, _, rfl, hs2, hs4⟩ (.cons rfl ⟨_, _, rfl, hs8, hs10⟩ .nil)) rfl rfl) (by decide) (fun m16 v17 hle18 hs19 => ?_)
 replace hs2 := hs2.mono hle18
 replace hs4 := hs4.mono hle18
 replace hs8 := hs8.mono hle18
 replace hs10 := hs10.mono hle18
 refine WL.x (X.call Try.call81 rfl (checked81_2 _ _ hs19)) (by decide) ?_
 refine WL.x (X.assign rfl) (by decide) ?_
 refine WL.nil ?_
 refine WK.nThen ?_
 refine WC.seq ?_
 refine WC.region ?_
 refine WL.x (X.move rfl) (by decide) ?_
 refine WL.condn (X.neq rfl rfl) (by decide) (fun h20 => ?_) (fun h20 => ?_)
 ·refine WL.nil ?_
  refine WK.nThen ?_
  refine WC.condT rfl ?_
  refine WC.seq ?_
  refine WC.region ?_
  refine WL.x (V := Value.agg [.slice none 0 0, .slice none 0 0].toArray) (X.build Try.zeroValue25 Try.runUnderlying25 (places25 _ Try.underlying25) rfl rfl) (by decide) ?_
  refine WL.x (X.move rfl) (by decide) ?_
  refine WL.ts (T.storeBA (k := 0) Try.sizeOf25 rfl rfl rfl (one_cons rfl (one_cons rfl one_nil)) rfl rfl) ?_
  refine WL.x (X.assign rfl) (by decide) ?_
  refine WL.nil ?_
  refine WK.nThen ?_
  refine WC.ret ?_
  refine WK.rThen ?_
  refine WK.retC2 0 rfl rfl rfl rfl Try.isAgg25 Try.sizeOf25 (fun w' hw' => Ret.mem hw' ?_)
  first | (exfalso; omega) | exact ⟨_, tup2 rfl (int_eq (by rw [joinR_err (by omega)])), by rw [joinR_err (by omega)]; exact ⟨_, _, rfl, .nil, .nil⟩⟩ | exact ⟨_, tup2 rfl (int_eq (by rw [joinR_sh (by omega) (by assumption)])), by rw [joinR_sh (by omega) (by assumption)]; exact ⟨_, _, rfl, .nil, .nil⟩⟩ | (have hem_ : emptyV (mrg s.Values t.Values) := (by rw [← jn_mrg hos.up hot.up hpm_ hsr_]; exact jBad_empty hsr_ (k := k) (by omega) ⟨hold_, by unfold lastV meetS; rw [← hix_]; dsimp only; rw [hlt_] at *; unfold meetV meetS at *; dsimp only at *; omega⟩)); exact ⟨_, tup2 rfl (int_eq (by rw [joinR_em (by omega) (by assumption) hem_])), by rw [joinR_em (by omega) (by assumption) hem_]; exact ⟨_, _, rfl, .nil, .nil⟩⟩ | exact ⟨_, tup2 rfl (int_eq (by rw [joinR_big (by omega) (by assumption) hfn_ (by omega)])), by rw [joinR_big (by omega) (by assumption) hfn_ (by omega)]; exact ⟨_, _, rfl, .nil, .nil⟩⟩ | exact ⟨_, tup2 rfl (int_eq (by rw [joinR_ok (by omega) (by assumption) hfn_ (by omega)])), by rw [joinR_ok (by omega) (by assumption) hfn_ (by omega)]; exact ⟨_, _, rfl, .nil, .nil⟩⟩
 ·refine WL.nil ?_
  refine WK.nThen ?_
  refine WC.condF rfl ?_
  refine WC.skip ?_
  refine WK.nThen ?_
  refine WC.seq ?_
  refine WC.seq ?_
  refine WC.region ?_
  refine WL.x (X.field Try.runUnderlying25 rfl Try.sizeOf23 rfl) (by decide) ?_
  refine WL.x (X.loadB (k := 2) Try.isAgg23 rfl rfl rfl) (by decide) ?_
  refine WL.x (X.field Try.runUnderlying25 rfl Try.sizeOf23 rfl) (by decide) ?_
  refine WL.x (X.loadB (k := 1) Try.isAgg23 rfl rfl rfl) (by decide) ?_
  refine WL.cond (X.call Try.call135 rfl (equal135 _ _ _ hs4 _ _ hs10 )) (by decide) (fun h21 => ?_) (fun h21 => ?_)
  ·refine WL.x (X.not rfl) (by decide) ?_
   refine WL.nil ?_
   refine WK.nThen ?_
   refine WC.condF rfl ?_
   refine WC.skip ?_
   refine WK.nThen ?_
   refine WC.seq ?_
   have hz2_ := twoE_zero (s := s) (t := t) (by omega)
   have hos := Ok.of (s := s) (by omega)
   have hot := Ok.of (s := t) (by omega)
   have hnV := hos.nV
   have hnX := hos.nX
   have hnV2 := hot.nV
   have hnX2 := hot.nX
   have hcb_ := two_le hnV hnV2
   refine WC.region ?_
   refine WL.x (X.field Try.runUnderlying25 rfl Try.sizeOf22 rfl) (by decide) ?_
   refine WL.x (X.loadB (k := 2) Try.isAgg22 rfl rfl rfl) (by decide) ?_
   refine WL.x (X.field Try.runUnderlying25 rfl Try.sizeOf22 rfl) (by decide) ?_
   refine WL.x (X.loadB (k := 1) Try.isAgg22 rfl rfl rfl) (by decide) ?_
   refine WL.tm (T.litM (α := List Val) (vals := [v1, v7]) (L := [s.Values, t.Values]) sl190 rfl (.cons (one_cells hs2.one) ⟨_, rfl, hs2⟩ (.cons (one_cells hs8.one) ⟨_, rfl, hs8⟩ .nil)) rfl rfl) (by decide) (fun m22 v23 hle24 hs25 => ?_)
   replace hs2 := hs2.mono hle24
   replace hs4 := hs4.mono hle24
   replace hs8 := hs8.mono hle24
   replace hs10 := hs10.mono hle24
   replace hs19 := hs19.mono hle24
   refine WL.tM (T.callO Try.call136 rfl (concat136 _ hs25 (by simp) (by assumption))) (by decide) (fun m26 Es27 v28 hle29 hR_ => ?_)
   obtain ⟨rfl, ho30⟩ := hR_
   replace hs2 := hs2.mono hle29
   replace hs4 := hs4.mono hle29
   replace hs8 := hs8.mono hle29
   replace hs10 := hs10.mono hle29
   replace hs19 := hs19.mono hle29
   replace hs25 := hs25.mono hle29
   refine WL.x (X.assign rfl) (by decide) ?_
   refine WL.nil ?_
   refine WK.nThen ?_
   refine WC.seq ?_
   have he31 : (catN ([s.Values, t.Values]) [s.Values, t.Values].length) = (s.Values ++ t.Values) := catN_two _ _
   rw [he31]
   have hal_ : (s.Values ++ t.Values).length = s.Values.length + t.Values.length := List.length_append
   refine WC.region ?_
   refine WL.x (X.move rfl) (by decide) ?_
   refine WL.tM (T.callP (A := [blk b15 25 [.slice none 0 0, .slice none 0 0], blk b14 25 [v7, v9], blk b13 25 [v1, v3]]) Try.call137 rfl (.refl _) (sort137 _ (L := s.Values ++ t.Values) (by omega))) (by decide) (fun m32 Es_ _ hle33 hR_ => ?_)
   obtain ⟨rfl, R34, rfl, hR35⟩ := hR_
   replace hs2 := hs2.mono hle33
   replace hs4 := hs4.mono hle33
   replace hs8 := hs8.mono hle33
   replace hs10 := hs10.mono hle33
   replace hs19 := hs19.mono hle33
   replace hs25 := hs25.mono hle33
   refine WL.nil ?_
   refine WK.nThen ?_
   refine WC.seq ?_
   obtain ⟨hpm_, hsr_⟩ := hR35
   have hRl_ := hpm_.length_eq
   rw [← hRl_] at hsr_
   obtain ⟨R, hRR_⟩ : ∃ qq__, qq__ = R34 := ⟨_, rfl⟩
   rw [← hRR_] at hpm_ hsr_ hRl_
   have he36 : R34 = R := hRR_.symm
   rw [he36]
   refine WC.region ?_
   refine WL.x (X.field Try.runUnderlying25 rfl Try.sizeOf23 rfl) (by decide) ?_
   refine WL.x (X.loadB (k := 3) Try.isAgg23 rfl rfl rfl) (by decide) ?_
   refine WL.tM (T.callO Try.call115 rfl (clone115 _ hs4 (by omega))) (by decide) (fun m37 Es38 v39 hle40 hR_ => ?_)
   obtain ⟨rfl, ho41⟩ := hR_
   replace hs2 := hs2.mono hle40
   replace hs4 := hs4.mono hle40
   replace hs8 := hs8.mono hle40
   replace hs10 := hs10.mono hle40
   replace hs19 := hs19.mono hle40
   replace hs25 := hs25.mono hle40
   refine WL.x (V := Value.agg [.slice none 0 0, v39].toArray) (X.build Try.zeroValue25 Try.runUnderlying25 (places25 _ Try.underlying25) rfl (by simp only [Instr.fill, one_cells ho41]; rfl)) (by decide) ?_
   refine WL.tn (T.alloc Try.zeroValue25 rfl) (by decide) fun b42 => ?_
   refine WL.ts (T.storeBA (k := 0) Try.sizeOf25 rfl rfl rfl (one_cons rfl (one_cons ho41 one_nil)) rfl rfl) ?_
   refine WL.nil ?_
   refine WK.nThen ?_
   refine WC.seq ?_
   refine WC.seq ?_
   refine WK.ownF Val 62 ?_
   refine WC.region ?_
   refine WL.x (X.move rfl) (by decide) ?_
   refine WL.x (X.lenF (k := 3) Try.runUnderlying22 rfl rfl) (by decide) ?_
   refine WL.x (X.move rfl) (by decide) ?_
   refine WL.nil ?_
   refine WK.nThen ?_
   refine WC.block ?_
   refine WC.loop (G := Nat × Value) (fun (k, vo) => R.length - k) (fun (k, vo) => m37) (fun (k, vo) => [rowF (vo) 62 (jn R k), blk b42 25 [vo, v39], rowF (v39) 72 (s.Shifts), rowF (v28) 62 (R), blk b15 25 [.slice none 0 0, .slice none 0 0], blk b14 25 [v7, v9], blk b13 25 [v1, v3]]) (fun (k, vo) => [(4, .pointer (some ⟨b15, 0, none⟩)), (8, .pointer (some ⟨b42, 0, none⟩)), (40, v28), (41, .int .i64 (↑R.length)), (42, .int .i64 (↑k))]) (fun (k, vo) => k ≤ R.length ∧ (∀ j, j < k → ¬ jBad R j)) ((0, Value.slice none 0 0)) rfl (.refl _) (.cons rfl (.cons rfl (.cons rfl (.cons rfl (.cons rfl .nil))))) ?_ ?_
   ·exact ⟨Nat.zero_le _, fun j hj => absurd hj (Nat.not_lt_zero _)⟩
   ·rintro ⟨k, vo⟩ hF43
    show WK _ _ m37 [rowF (vo) 62 (jn R k), blk b42 25 [vo, v39], rowF (v39) 72 (s.Shifts), rowF (v28) 62 (R), blk b15 25 [.slice none 0 0, .slice none 0 0], blk b14 25 [v7, v9], blk b13 25 [v1, v3]] [(4, .pointer (some ⟨b15, 0, none⟩)), (8, .pointer (some ⟨b42, 0, none⟩)), (40, v28), (41, .int .i64 (↑R.length)), (42, .int .i64 (↑k))] _
    replace hF43 : k ≤ R.length ∧ (∀ j, j < k → ¬ jBad R j) := hF43
    obtain ⟨hk, hall⟩ := hF43
    refine WK.good (fun hgood0 => ?_)
    have hjl := jn_len R k
    have hix_ : (↑(jn R k).length - 1 : Int).toNat = (jn R k).length - 1 := (by omega)
    refine WC.seq ?_
    refine WC.region ?_
    refine WL.cond (X.lss rfl rfl) (by decide) (fun h44 => ?_) (fun h44 => ?_)
    ·refine WL.nil ?_
     refine WK.nThen ?_
     refine WC.seq ?_
     refine WC.condT rfl ?_
     refine WC.skip ?_
     refine WK.nThen ?_
     refine WC.seq ?_
     refine WC.block ?_
     refine WC.seq ?_
     refine WC.region ?_
     refine WL.x (X.idxRow (k := 3) Try.runUnderlying22 Try.sizeOf62 rfl rfl rfl (by first | omega | (simp; omega) | simp) (by first | omega | (simp; omega) | simp)) (by decide) ?_
     refine WL.x (X.loadFs (k := 3) (i := k) (off := 0) (us := [.int .i64 (((gt R k)).Time), .int .i64 ((((gt R k)).Levels).Lo), .int .i64 ((((gt R k)).Levels).Hi)]) Try.isAgg62 Try.sizeOf62 rfl rfl (by first | omega | (simp; omega) | simp) rfl rfl) (by decide) ?_
     refine WL.tn (T.alloc Try.zeroValue62 rfl) (by decide) fun b45 => ?_
     refine WL.ts (T.storeBA (k := 0) Try.sizeOf62 rfl rfl rfl (one_cons rfl (one_cons rfl (one_cons rfl one_nil))) rfl rfl) ?_
     refine WL.nil ?_
     refine WK.nThen ?_
     refine WC.seq ?_
     refine WC.region ?_
     refine WL.x (X.field Try.runUnderlying25 rfl Try.sizeOf22 rfl) (by decide) ?_
     refine WL.x (X.loadB (k := 2) Try.isAgg22 rfl rfl rfl) (by decide) ?_
     refine WL.x (X.lenF (k := 1) Try.runUnderlying22 rfl rfl) (by decide) ?_
     refine WL.x (X.assign rfl) (by decide) ?_
     refine WL.nil ?_
     refine WK.nThen ?_
     refine WC.seq ?_
     refine WC.seq ?_
     refine WC.draw (π := (.cons 0 (.cons 1 (.cons 2 (.cons 3 (.cons 4 (.cons 5 (.cons 6 (.cons 7 (.cons 8 (.cons 9 (.cons 10 (.cons 11 (.cons 12 (.cons 13 .done))))))))))))))) [] [] rfl (by kernel_rfl) ?_
     refine DW.x rfl rfl (X.move rfl) (by decide) ?_
     refine DW.cond rfl rfl (X.eql rfl rfl) (by decide) (fun h46 => ?_) (fun h46 => ?_)
     ·refine DW.x rfl rfl (X.move rfl) (by decide) ?_
      refine DW.no rfl rfl (by decide) ?_
      refine DW.no rfl rfl (by decide) ?_
      refine DW.no rfl rfl (by decide) ?_
      refine DW.no rfl rfl (by decide) ?_
      refine DW.no rfl rfl (by decide) ?_
      refine DW.no rfl rfl (by decide) ?_
      refine DW.no rfl rfl (by decide) ?_
      refine DW.no rfl rfl (by decide) ?_
      refine DW.no rfl rfl (by decide) ?_
      refine DW.no rfl rfl (by decide) ?_
      refine DW.x rfl rfl (X.pickT rfl rfl rfl) (by decide) ?_
      refine DW.nil ?_
      refine WK.nThen ?_
      refine WC.condT rfl ?_
      refine WC.seq ?_
      refine WC.region ?_
      refine WL.x (X.field Try.runUnderlying25 rfl Try.sizeOf22 rfl) (by decide) ?_
      refine WL.x (X.loadB (k := 2) Try.isAgg22 rfl rfl rfl) (by decide) ?_
      refine WL.x (X.loadBA (k := 0) Try.isAgg62 Try.sizeOf62 rfl rfl rfl) (by decide) ?_
      refine WL.tl (T.lit1 sl22 rfl rfl rfl (by decide)) (by decide) fun b47 => ?_
      refine WL.ta (T.appendF (k := 1) (a := gt R k) sl22 rfl rfl rfl rfl (by first | omega | (simp; done) | (simp; omega)) (by decide)) (by decide) (fun v48 => ?_)
      refine WL.x (X.field Try.runUnderlying25 rfl Try.sizeOf22 rfl) (by decide) ?_
      refine WL.own1 (k := 1) rfl (fun ho49 => ?_)
      refine WL.ts (T.storeB (k := 2) Try.sizeOf22 rfl rfl rfl ho49 (Nat.le_of_ble_eq_true rfl)) ?_
      refine WL.nil ?_
      refine WK.nThen ?_
      refine WC.exit ?_
      refine WK.eThen ?_
      refine WK.eHit ?_
      refine WK.nThen ?_
      refine WC.region ?_
      refine WL.x (X.add rfl rfl (by omega) (by omega)) (by decide) ?_
      refine WL.x (X.move rfl) (by decide) ?_
      refine WL.nil ?_
      refine WK.nThen ?_
      have hnew_ : (jn R k).length = 0 ∨ (lastV (jn R k)).Time ≠ (gt R k).Time := (by unfold lastV; rw [← hix_]; first | exact .inl (by omega) | exact .inr (by assumption))
      have he50 : ((jn R k) ++ [gt R k]) = (jn R (k + 1)) := (jn_new hnew_).symm
      rw [he50]
      refine WK.next ((k + 1, v48)) rfl (.cons _ (.cons_cons _ (.cons_cons _ (.cons_cons _ (.cons_cons _ (.cons_cons _ (.cons_cons _ (.cons_cons _ .slnil)))))))) (.cons rfl (.cons rfl (.cons rfl (.cons rfl (.cons rfl .nil))))) ?_ ?_
      ·exact ⟨by omega, fun j hj => by rcases Nat.lt_succ_iff_lt_or_eq.1 hj with h | h; exact hall j h; subst h; exact fun hb_ => hb_.1 hnew_⟩
      ·(dsimp only; omega)
     ·refine DW.x rfl rfl (X.move rfl) (by decide) ?_
      refine DW.x rfl rfl (X.field Try.runUnderlying25 rfl Try.sizeOf22 rfl) (by decide) ?_
      refine DW.x rfl rfl (X.loadB (k := 2) Try.isAgg22 rfl rfl rfl) (by decide) ?_
      refine DW.x rfl rfl (X.move rfl) (by decide) ?_
      refine DW.x rfl rfl (X.sub rfl rfl (by omega) (by omega)) (by decide) ?_
      refine DW.x rfl rfl (X.idxRow (k := 1) Try.runUnderlying22 Try.sizeOf62 rfl rfl rfl (by first | omega | (simp; omega) | simp) (by first | omega | (simp; omega) | simp)) (by decide) ?_
      refine DW.x rfl rfl (X.field Try.runUnderlying62 rfl Try.sizeOf3 rfl) (by decide) ?_
      refine DW.x rfl rfl (X.loadFp (k := 1) (i := ((↑(jn R k).length) - 1 : Int).toNat) (off := 0) (u := .int .i64 (((gt (jn R k) (((↑(jn R k).length) - 1 : Int).toNat))).Time)) Try.isAgg3 rfl rfl (by first | omega | (simp; omega) | simp) rfl) (by decide) ?_
      refine DW.x rfl rfl (X.field Try.runUnderlying62 rfl Try.sizeOf3 rfl) (by decide) ?_
      refine DW.x rfl rfl (X.loadB (k := 0) Try.isAgg3 rfl rfl rfl) (by decide) ?_
      refine DW.condn rfl rfl (X.neq rfl rfl) (by decide) (fun h51 => ?_) (fun h51 => ?_)
      ·refine DW.x rfl rfl (X.pickF rfl rfl rfl) (by decide) ?_
       refine DW.nil ?_
       refine WK.nThen ?_
       refine WC.condT rfl ?_
       refine WC.seq ?_
       refine WC.region ?_
       refine WL.x (X.field Try.runUnderlying25 rfl Try.sizeOf22 rfl) (by decide) ?_
       refine WL.x (X.loadB (k := 2) Try.isAgg22 rfl rfl rfl) (by decide) ?_
       refine WL.x (X.loadBA (k := 0) Try.isAgg62 Try.sizeOf62 rfl rfl rfl) (by decide) ?_
       refine WL.tl (T.lit1 sl22 rfl rfl rfl (by decide)) (by decide) fun b52 => ?_
       refine WL.ta (T.appendF (k := 1) (a := gt R k) sl22 rfl rfl rfl rfl (by first | omega | (simp; done) | (simp; omega)) (by decide)) (by decide) (fun v53 => ?_)
       refine WL.x (X.field Try.runUnderlying25 rfl Try.sizeOf22 rfl) (by decide) ?_
       refine WL.own1 (k := 1) rfl (fun ho54 => ?_)
       refine WL.ts (T.storeB (k := 2) Try.sizeOf22 rfl rfl rfl ho54 (Nat.le_of_ble_eq_true rfl)) ?_
       refine WL.nil ?_
       refine WK.nThen ?_
       refine WC.exit ?_
       refine WK.eThen ?_
       refine WK.eHit ?_
       refine WK.nThen ?_
       refine WC.region ?_
       refine WL.x (X.add rfl rfl (by omega) (by omega)) (by decide) ?_
       refine WL.x (X.move rfl) (by decide) ?_
       refine WL.nil ?_
       refine WK.nThen ?_
       have hnew_ : (jn R k).length = 0 ∨ (lastV (jn R k)).Time ≠ (gt R k).Time := (by unfold lastV; rw [← hix_]; first | exact .inl (by omega) | exact .inr (by assumption))
       have he55 : ((jn R k) ++ [gt R k]) = (jn R (k + 1)) := (jn_new hnew_).symm
       rw [he55]
       refine WK.next ((k + 1, v53)) rfl (.cons _ (.cons_cons _ (.cons_cons _ (.cons_cons _ (.cons_cons _ (.cons_cons _ (.cons_cons _ (.cons_cons _ .slnil)))))))) (.cons rfl (.cons rfl (.cons rfl (.cons rfl (.cons rfl .nil))))) ?_ ?_
       ·exact ⟨by omega, fun j hj => by rcases Nat.lt_succ_iff_lt_or_eq.1 hj with h | h; exact hall j h; subst h; exact fun hb_ => hb_.1 hnew_⟩
       ·(dsimp only; omega)
      ·refine DW.x rfl rfl (X.pickF rfl rfl rfl) (by decide) ?_
       refine DW.nil ?_
       refine WK.nThen ?_
       refine WC.condF rfl ?_
       refine WC.skip ?_
       refine WK.nThen ?_
       refine WC.seq ?_
       refine WC.region ?_
       refine WL.x (X.field Try.runUnderlying25 rfl Try.sizeOf22 rfl) (by decide) ?_
       refine WL.x (X.loadB (k := 2) Try.isAgg22 rfl rfl rfl) (by decide) ?_
       refine WL.x (X.move rfl) (by decide) ?_
       refine WL.x (X.sub rfl rfl (by omega) (by omega)) (by decide) ?_
       refine WL.x (X.idxRow (k := 1) Try.runUnderlying22 Try.sizeOf62 rfl rfl rfl (by first | omega | (simp; omega) | simp) (by first | omega | (simp; omega) | simp)) (by decide) ?_
       refine WL.x (X.field Try.runUnderlying62 rfl Try.sizeOf33 rfl) (by decide) ?_
       refine WL.x (X.assign rfl) (by decide) ?_
       refine WL.nil ?_
       refine WK.nThen ?_
       refine WC.cut (G := Mem) (fun m56 => m56) (fun m56 => [blk b45 62 [.int .i64 (((gt R k)).Time), .int .i64 ((((gt R k)).Levels).Lo), .int .i64 ((((gt R k)).Levels).Hi)], rowF (vo) 62 (((jn R k).set (((↑(jn R k).length) - 1 : Int).toNat) ((Val.mk (((gt (jn R k) (((↑(jn R k).length) - 1 : Int).toNat))).Time) ((Span.mk (max ((((gt (jn R k) (((↑(jn R k).length) - 1 : Int).toNat))).Levels).Lo) ((((gt R k)).Levels).Lo)) ((((gt (jn R k) (((↑(jn R k).length) - 1 : Int).toNat))).Levels).Hi)))))).set (((↑(jn R k).length) - 1 : Int).toNat) ((Val.mk (((gt ((jn R k).set (((↑(jn R k).length) - 1 : Int).toNat) ((Val.mk (((gt (jn R k) (((↑(jn R k).length) - 1 : Int).toNat))).Time) ((Span.mk (max ((((gt (jn R k) (((↑(jn R k).length) - 1 : Int).toNat))).Levels).Lo) ((((gt R k)).Levels).Lo)) ((((gt (jn R k) (((↑(jn R k).length) - 1 : Int).toNat))).Levels).Hi)))))) (((↑(jn R k).length) - 1 : Int).toNat))).Time) ((Span.mk ((((gt ((jn R k).set (((↑(jn R k).length) - 1 : Int).toNat) ((Val.mk (((gt (jn R k) (((↑(jn R k).length) - 1 : Int).toNat))).Time) ((Span.mk (max ((((gt (jn R k) (((↑(jn R k).length) - 1 : Int).toNat))).Levels).Lo) ((((gt R k)).Levels).Lo)) ((((gt (jn R k) (((↑(jn R k).length) - 1 : Int).toNat))).Levels).Hi)))))) (((↑(jn R k).length) - 1 : Int).toNat))).Levels).Lo) (min ((((gt (jn R k) (((↑(jn R k).length) - 1 : Int).toNat))).Levels).Hi) ((((gt R k)).Levels).Hi))))))), blk b42 25 [vo, v39], rowF (v39) 72 (s.Shifts), rowF (v28) 62 (R), blk b15 25 [.slice none 0 0, .slice none 0 0], blk b14 25 [v7, v9], blk b13 25 [v1, v3]]) (fun m56 => [(4, .pointer (some ⟨b15, 0, none⟩)), (8, .pointer (some ⟨b42, 0, none⟩)), (12, .pointer (some (rp (vo) (((↑(jn R k).length) - 1 : Int).toNat * 3 + 1)))), (40, v28), (41, .int .i64 (↑R.length)), (42, .int .i64 (↑k)), (52, .pointer (some ⟨b42, 0, none⟩)), (53, vo), (54, .int .i64 (↑(jn R k).length)), (55, .int .i64 ((↑(jn R k).length) - 1)), (56, .pointer (some (rp (vo) (((↑(jn R k).length) - 1 : Int).toNat * 3)))), (57, .pointer (some (rp (vo) (((↑(jn R k).length) - 1 : Int).toNat * 3)))), (58, .int .i64 (((gt (jn R k) (((↑(jn R k).length) - 1 : Int).toNat))).Time)), (59, .pointer (some ⟨b45, 0, none⟩)), (60, .int .i64 (((gt R k)).Time)), (61, .bool false)]) (fun m56 => m37.le m56 ∧ Sl (α := Val) m56 v7 t.Values ∧ Sl (α := Shf) m56 v9 t.Shifts ∧ Sl (α := Val) m56 v1 s.Values ∧ Sl (α := Shf) m56 v3 s.Shifts) ?_ ?_
       ·refine WC.draw (π := (.cons 0 (.cons 1 (.cons 2 (.cons 3 (.cons 4 (.cons 5 (.cons 6 (.cons 7 (.cons 8 (.cons 9 (.cons 10 (.cons 11 (.cons 12 (.cons 13 (.cons 14 (.cons 15 (.cons 18 (.cons 19 (.fork (.cons 16 (.fork (.cons 17 (.cons 20 (.cons 21 (.cons 22 (.cons 23 .done))))) (.cons 20 (.cons 17 (.cons 21 (.cons 22 (.cons 23 .done))))))) (.cons 20 (.cons 16 (.cons 17 (.cons 21 (.cons 22 (.cons 23 .done)))))))))))))))))))))))))) [16, 17, 20, 23] [20, 23, 100014, 100015] rfl (by kernel_rfl) ?_
        refine DW.x rfl rfl (X.move rfl) (by decide) ?_
        refine DW.x rfl rfl (X.move rfl) (by decide) ?_
        refine DW.x rfl rfl (X.move rfl) (by decide) ?_
        refine DW.x rfl rfl (X.nilCheck rfl) (by decide) ?_
        refine DW.x rfl rfl (X.field Try.runUnderlying33 rfl Try.sizeOf3 rfl) (by decide) ?_
        refine DW.x rfl rfl (X.loadFp (k := 1) (i := ((↑(jn R k).length) - 1 : Int).toNat) (off := 1) (u := .int .i64 ((((gt (jn R k) (((↑(jn R k).length) - 1 : Int).toNat))).Levels).Lo)) Try.isAgg3 rfl rfl (by first | omega | (simp; omega) | simp) rfl) (by decide) ?_
        refine DW.x rfl rfl (X.field Try.runUnderlying62 rfl Try.sizeOf33 rfl) (by decide) ?_
        refine DW.x rfl rfl (X.field Try.runUnderlying33 rfl Try.sizeOf3 rfl) (by decide) ?_
        refine DW.x rfl rfl (X.loadB (k := 0) Try.isAgg3 rfl rfl rfl) (by decide) ?_
        refine DW.x rfl rfl (X.mx rfl rfl) (by decide) ?_
        refine DW.x rfl rfl (X.move rfl) (by decide) ?_
        refine DW.x rfl rfl (X.nilCheck rfl) (by decide) ?_
        refine DW.x rfl rfl (X.field Try.runUnderlying33 rfl Try.sizeOf3 rfl) (by decide) ?_
        refine DW.x rfl rfl (X.loadFp (k := 1) (i := ((↑(jn R k).length) - 1 : Int).toNat) (off := 2) (u := .int .i64 ((((gt (jn R k) (((↑(jn R k).length) - 1 : Int).toNat))).Levels).Hi)) Try.isAgg3 rfl rfl (by first | omega | (simp; omega) | simp) rfl) (by decide) ?_
        refine DW.xf rfl rfl rfl (fun _ _ hle_ => (X.field Try.runUnderlying62 rfl Try.sizeOf33 rfl)) (by decide) ?_
        refine DW.xf rfl rfl rfl (fun _ _ hle_ => (X.field Try.runUnderlying33 rfl Try.sizeOf3 rfl)) (by decide) ?_
        refine DW.x rfl rfl (X.nilCheck rfl) (by decide) ?_
        refine DW.x rfl rfl (X.field Try.runUnderlying33 rfl Try.sizeOf3 rfl) (by decide) ?_
        refine DW.fork (List.cons_ne_nil _ _) ?_ ?_
        ·refine DW.xp rfl rfl rfl (fun _ => (X.loadB (k := 0) Try.isAgg3 rfl rfl rfl)) (by decide) ?_
         refine DW.fork (List.cons_ne_nil _ _) ?_ ?_
         ·refine DW.xp rfl rfl rfl (fun _ => (X.mn rfl rfl)) (by decide) ?_
          refine DW.ts rfl rfl rfl rfl (T.storeFp (k := 1) (i := ((↑(jn R k).length) - 1 : Int).toNat) (off := 1) (us := [.int .i64 (max ((((gt (jn R k) (((↑(jn R k).length) - 1 : Int).toNat))).Levels).Lo) ((((gt R k)).Levels).Lo))]) ((Val.mk (((gt (jn R k) (((↑(jn R k).length) - 1 : Int).toNat))).Time) ((Span.mk (max ((((gt (jn R k) (((↑(jn R k).length) - 1 : Int).toNat))).Levels).Lo) ((((gt R k)).Levels).Lo)) ((((gt (jn R k) (((↑(jn R k).length) - 1 : Int).toNat))).Levels).Hi))))) Try.sizeOf3 rfl rfl rfl rfl (Nat.zero_lt_succ _) rfl (by first | omega | (simp; omega) | simp) rfl rfl (one_cons rfl one_nil)) ?_
          refine DW.x rfl rfl (X.nilCheck rfl) (by decide) ?_
          refine DW.x rfl rfl (X.field Try.runUnderlying33 rfl Try.sizeOf3 rfl) (by decide) ?_
          refine DW.ts rfl rfl rfl rfl (T.storeFp (k := 1) (i := ((↑(jn R k).length) - 1 : Int).toNat) (off := 2) (us := [.int .i64 (min ((((gt (jn R k) (((↑(jn R k).length) - 1 : Int).toNat))).Levels).Hi) ((((gt R k)).Levels).Hi))]) ((Val.mk (((gt ((jn R k).set (((↑(jn R k).length) - 1 : Int).toNat) ((Val.mk (((gt (jn R k) (((↑(jn R k).length) - 1 : Int).toNat))).Time) ((Span.mk (max ((((gt (jn R k) (((↑(jn R k).length) - 1 : Int).toNat))).Levels).Lo) ((((gt R k)).Levels).Lo)) ((((gt (jn R k) (((↑(jn R k).length) - 1 : Int).toNat))).Levels).Hi)))))) (((↑(jn R k).length) - 1 : Int).toNat))).Time) ((Span.mk ((((gt ((jn R k).set (((↑(jn R k).length) - 1 : Int).toNat) ((Val.mk (((gt (jn R k) (((↑(jn R k).length) - 1 : Int).toNat))).Time) ((Span.mk (max ((((gt (jn R k) (((↑(jn R k).length) - 1 : Int).toNat))).Levels).Lo) ((((gt R k)).Levels).Lo)) ((((gt (jn R k) (((↑(jn R k).length) - 1 : Int).toNat))).Levels).Hi)))))) (((↑(jn R k).length) - 1 : Int).toNat))).Levels).Lo) (min ((((gt (jn R k) (((↑(jn R k).length) - 1 : Int).toNat))).Levels).Hi) ((((gt R k)).Levels).Hi)))))) Try.sizeOf3 rfl rfl rfl rfl (Nat.zero_lt_succ _) rfl (by first | omega | (simp; omega) | simp) rfl rfl (one_cons rfl one_nil)) ?_
          refine DW.nil ?_
          refine WK.nThen ?_
          exact WK.meet m37 rfl (.refl _) (.cons rfl (.cons rfl (.cons rfl (.cons rfl (.cons rfl (.cons rfl (.cons rfl (.cons rfl (.cons rfl (.cons rfl (.cons rfl (.cons rfl (.cons rfl (.cons rfl (.cons rfl (.cons rfl .nil)))))))))))))))) ⟨(Mem.le_refl _), hs8, hs10, hs2, hs4⟩
         ·refine DW.ts rfl rfl rfl rfl (T.storeFp (k := 1) (i := ((↑(jn R k).length) - 1 : Int).toNat) (off := 1) (us := [.int .i64 (max ((((gt (jn R k) (((↑(jn R k).length) - 1 : Int).toNat))).Levels).Lo) ((((gt R k)).Levels).Lo))]) ((Val.mk (((gt (jn R k) (((↑(jn R k).length) - 1 : Int).toNat))).Time) ((Span.mk (max ((((gt (jn R k) (((↑(jn R k).length) - 1 : Int).toNat))).Levels).Lo) ((((gt R k)).Levels).Lo)) ((((gt (jn R k) (((↑(jn R k).length) - 1 : Int).toNat))).Levels).Hi))))) Try.sizeOf3 rfl rfl rfl rfl (Nat.zero_lt_succ _) rfl (by first | omega | (simp; omega) | simp) rfl rfl (one_cons rfl one_nil)) ?_
          refine DW.xp rfl rfl rfl (fun _ => (X.mn rfl rfl)) (by decide) ?_
          refine DW.x rfl rfl (X.nilCheck rfl) (by decide) ?_
          refine DW.x rfl rfl (X.field Try.runUnderlying33 rfl Try.sizeOf3 rfl) (by decide) ?_
          refine DW.ts rfl rfl rfl rfl (T.storeFp (k := 1) (i := ((↑(jn R k).length) - 1 : Int).toNat) (off := 2) (us := [.int .i64 (min ((((gt (jn R k) (((↑(jn R k).length) - 1 : Int).toNat))).Levels).Hi) ((((gt R k)).Levels).Hi))]) ((Val.mk (((gt ((jn R k).set (((↑(jn R k).length) - 1 : Int).toNat) ((Val.mk (((gt (jn R k) (((↑(jn R k).length) - 1 : Int).toNat))).Time) ((Span.mk (max ((((gt (jn R k) (((↑(jn R k).length) - 1 : Int).toNat))).Levels).Lo) ((((gt R k)).Levels).Lo)) ((((gt (jn R k) (((↑(jn R k).length) - 1 : Int).toNat))).Levels).Hi)))))) (((↑(jn R k).length) - 1 : Int).toNat))).Time) ((Span.mk ((((gt ((jn R k).set (((↑(jn R k).length) - 1 : Int).toNat) ((Val.mk (((gt (jn R k) (((↑(jn R k).length) - 1 : Int).toNat))).Time) ((Span.mk (max ((((gt (jn R k) (((↑(jn R k).length) - 1 : Int).toNat))).Levels).Lo) ((((gt R k)).Levels).Lo)) ((((gt (jn R k) (((↑(jn R k).length) - 1 : Int).toNat))).Levels).Hi)))))) (((↑(jn R k).length) - 1 : Int).toNat))).Levels).Lo) (min ((((gt (jn R k) (((↑(jn R k).length) - 1 : Int).toNat))).Levels).Hi) ((((gt R k)).Levels).Hi)))))) Try.sizeOf3 rfl rfl rfl rfl (Nat.zero_lt_succ _) rfl (by first | omega | (simp; omega) | simp) rfl rfl (one_cons rfl one_nil)) ?_
          refine DW.nil ?_
          refine WK.nThen ?_
          exact WK.meet m37 rfl (.refl _) (.cons rfl (.cons rfl (.cons rfl (.cons rfl (.cons rfl (.cons rfl (.cons rfl (.cons rfl (.cons rfl (.cons rfl (.cons rfl (.cons rfl (.cons rfl (.cons rfl (.cons rfl (.cons rfl .nil)))))))))))))))) ⟨(Mem.le_refl _), hs8, hs10, hs2, hs4⟩
        ·refine DW.ts rfl rfl rfl rfl (T.storeFp (k := 1) (i := ((↑(jn R k).length) - 1 : Int).toNat) (off := 1) (us := [.int .i64 (max ((((gt (jn R k) (((↑(jn R k).length) - 1 : Int).toNat))).Levels).Lo) ((((gt R k)).Levels).Lo))]) ((Val.mk (((gt (jn R k) (((↑(jn R k).length) - 1 : Int).toNat))).Time) ((Span.mk (max ((((gt (jn R k) (((↑(jn R k).length) - 1 : Int).toNat))).Levels).Lo) ((((gt R k)).Levels).Lo)) ((((gt (jn R k) (((↑(jn R k).length) - 1 : Int).toNat))).Levels).Hi))))) Try.sizeOf3 rfl rfl rfl rfl (Nat.zero_lt_succ _) rfl (by first | omega | (simp; omega) | simp) rfl rfl (one_cons rfl one_nil)) ?_
         refine DW.xp rfl rfl rfl (fun _ => (X.loadB (k := 0) Try.isAgg3 rfl rfl rfl)) (by decide) ?_
         refine DW.xp rfl rfl rfl (fun _ => (X.mn rfl rfl)) (by decide) ?_
         refine DW.x rfl rfl (X.nilCheck rfl) (by decide) ?_
         refine DW.x rfl rfl (X.field Try.runUnderlying33 rfl Try.sizeOf3 rfl) (by decide) ?_
         refine DW.ts rfl rfl rfl rfl (T.storeFp (k := 1) (i := ((↑(jn R k).length) - 1 : Int).toNat) (off := 2) (us := [.int .i64 (min ((((gt (jn R k) (((↑(jn R k).length) - 1 : Int).toNat))).Levels).Hi) ((((gt R k)).Levels).Hi))]) ((Val.mk (((gt ((jn R k).set (((↑(jn R k).length) - 1 : Int).toNat) ((Val.mk (((gt (jn R k) (((↑(jn R k).length) - 1 : Int).toNat))).Time) ((Span.mk (max ((((gt (jn R k) (((↑(jn R k).length) - 1 : Int).toNat))).Levels).Lo) ((((gt R k)).Levels).Lo)) ((((gt (jn R k) (((↑(jn R k).length) - 1 : Int).toNat))).Levels).Hi)))))) (((↑(jn R k).length) - 1 : Int).toNat))).Time) ((Span.mk ((((gt ((jn R k).set (((↑(jn R k).length) - 1 : Int).toNat) ((Val.mk (((gt (jn R k) (((↑(jn R k).length) - 1 : Int).toNat))).Time) ((Span.mk (max ((((gt (jn R k) (((↑(jn R k).length) - 1 : Int).toNat))).Levels).Lo) ((((gt R k)).Levels).Lo)) ((((gt (jn R k) (((↑(jn R k).length) - 1 : Int).toNat))).Levels).Hi)))))) (((↑(jn R k).length) - 1 : Int).toNat))).Levels).Lo) (min ((((gt (jn R k) (((↑(jn R k).length) - 1 : Int).toNat))).Levels).Hi) ((((gt R k)).Levels).Hi)))))) Try.sizeOf3 rfl rfl rfl rfl (Nat.zero_lt_succ _) rfl (by first | omega | (simp; omega) | simp) rfl rfl (one_cons rfl one_nil)) ?_
         refine DW.nil ?_
         refine WK.nThen ?_
         exact WK.meet m37 rfl (.refl _) (.cons rfl (.cons rfl (.cons rfl (.cons rfl (.cons rfl (.cons rfl (.cons rfl (.cons rfl (.cons rfl (.cons rfl (.cons rfl (.cons rfl (.cons rfl (.cons rfl (.cons rfl (.cons rfl .nil)))))))))))))))) ⟨(Mem.le_refl _), hs8, hs10, hs2, hs4⟩
       ·rintro m56 ⟨hle57, hs58, hs59, hs60, hs61⟩
        show WK _ _ m56 [blk b45 62 [.int .i64 (((gt R k)).Time), .int .i64 ((((gt R k)).Levels).Lo), .int .i64 ((((gt R k)).Levels).Hi)], rowF (vo) 62 (((jn R k).set (((↑(jn R k).length) - 1 : Int).toNat) ((Val.mk (((gt (jn R k) (((↑(jn R k).length) - 1 : Int).toNat))).Time) ((Span.mk (max ((((gt (jn R k) (((↑(jn R k).length) - 1 : Int).toNat))).Levels).Lo) ((((gt R k)).Levels).Lo)) ((((gt (jn R k) (((↑(jn R k).length) - 1 : Int).toNat))).Levels).Hi)))))).set (((↑(jn R k).length) - 1 : Int).toNat) ((Val.mk (((gt ((jn R k).set (((↑(jn R k).length) - 1 : Int).toNat) ((Val.mk (((gt (jn R k) (((↑(jn R k).length) - 1 : Int).toNat))).Time) ((Span.mk (max ((((gt (jn R k) (((↑(jn R k).length) - 1 : Int).toNat))).Levels).Lo) ((((gt R k)).Levels).Lo)) ((((gt (jn R k) (((↑(jn R k).length) - 1 : Int).toNat))).Levels).Hi)))))) (((↑(jn R k).length) - 1 : Int).toNat))).Time) ((Span.mk ((((gt ((jn R k).set (((↑(jn R k).length) - 1 : Int).toNat) ((Val.mk (((gt (jn R k) (((↑(jn R k).length) - 1 : Int).toNat))).Time) ((Span.mk (max ((((gt (jn R k) (((↑(jn R k).length) - 1 : Int).toNat))).Levels).Lo) ((((gt R k)).Levels).Lo)) ((((gt (jn R k) (((↑(jn R k).length) - 1 : Int).toNat))).Levels).Hi)))))) (((↑(jn R k).length) - 1 : Int).toNat))).Levels).Lo) (min ((((gt (jn R k) (((↑(jn R k).length) - 1 : Int).toNat))).Levels).Hi) ((((gt R k)).Levels).Hi))))))), blk b42 25 [vo, v39], rowF (v39) 72 (s.Shifts), rowF (v28) 62 (R), blk b15 25 [.slice none 0 0, .slice none 0 0], blk b14 25 [v7, v9], blk b13 25 [v1, v3]] [(4, .pointer (some ⟨b15, 0, none⟩)), (8, .pointer (some ⟨b42, 0, none⟩)), (12, .pointer (some (rp (vo) (((↑(jn R k).length) - 1 : Int).toNat * 3 + 1)))), (40, v28), (41, .int .i64 (↑R.length)), (42, .int .i64 (↑k)), (52, .pointer (some ⟨b42, 0, none⟩)), (53, vo), (54, .int .i64 (↑(jn R k).length)), (55, .int .i64 ((↑(jn R k).length) - 1)), (56, .pointer (some (rp (vo) (((↑(jn R k).length) - 1 : Int).toNat * 3)))), (57, .pointer (some (rp (vo) (((↑(jn R k).length) - 1 : Int).toNat * 3)))), (58, .int .i64 (((gt (jn R k) (((↑(jn R k).length) - 1 : Int).toNat))).Time)), (59, .pointer (some ⟨b45, 0, none⟩)), (60, .int .i64 (((gt R k)).Time)), (61, .bool false)] _
        replace hs2 := hs2.mono hle57
        replace hs4 := hs4.mono hle57
        replace hs8 := hs8.mono hle57
        replace hs10 := hs10.mono hle57
        replace hs19 := hs19.mono hle57
        replace hs25 := hs25.mono hle57
        have hl62 := hs58.le
        have hl63 := hs59.le
        have hl64 := hs60.le
        have hl65 := hs61.le
        refine WC.seq ?_
        have hold_ : ¬ ((jn R k).length = 0 ∨ (lastV (jn R k)).Time ≠ (gt R k).Time) := (fun h_ => by unfold lastV at h_; rw [← hix_] at h_; omega)
        have he66 : (((jn R k).set (((↑(jn R k).length) - 1 : Int).toNat) ((Val.mk (((gt (jn R k) (((↑(jn R k).length) - 1 : Int).toNat))).Time) ((Span.mk (max ((((gt (jn R k) (((↑(jn R k).length) - 1 : Int).toNat))).Levels).Lo) ((((gt R k)).Levels).Lo)) ((((gt (jn R k) (((↑(jn R k).length) - 1 : Int).toNat))).Levels).Hi)))))).set (((↑(jn R k).length) - 1 : Int).toNat) ((Val.mk (((gt ((jn R k).set (((↑(jn R k).length) - 1 : Int).toNat) ((Val.mk (((gt (jn R k) (((↑(jn R k).length) - 1 : Int).toNat))).Time) ((Span.mk (max ((((gt (jn R k) (((↑(jn R k).length) - 1 : Int).toNat))).Levels).Lo) ((((gt R k)).Levels).Lo)) ((((gt (jn R k) (((↑(jn R k).length) - 1 : Int).toNat))).Levels).Hi)))))) (((↑(jn R k).length) - 1 : Int).toNat))).Time) ((Span.mk ((((gt ((jn R k).set (((↑(jn R k).length) - 1 : Int).toNat) ((Val.mk (((gt (jn R k) (((↑(jn R k).length) - 1 : Int).toNat))).Time) ((Span.mk (max ((((gt (jn R k) (((↑(jn R k).length) - 1 : Int).toNat))).Levels).Lo) ((((gt R k)).Levels).Lo)) ((((gt (jn R k) (((↑(jn R k).length) - 1 : Int).toNat))).Levels).Hi)))))) (((↑(jn R k).length) - 1 : Int).toNat))).Levels).Lo) (min ((((gt (jn R k) (((↑(jn R k).length) - 1 : Int).toNat))).Levels).Hi) ((((gt R k)).Levels).Hi))))))) = (jn R (k + 1)) := jn_two (by omega) hold_
        rw [he66]
        have hlt_ := jn_lastT (R := R) (k := k) hix_ (by omega) hold_
        have hln_ : (jn R (k + 1)).length = (jn R k).length := (by rw [jn_old hold_, List.length_set])
        refine WC.draw (π := (.cons 0 (.cons 1 (.cons 2 (.cons 3 (.cons 4 (.cons 5 (.cons 6 (.cons 7 (.cons 8 .done)))))))))) [] [] rfl (by kernel_rfl) ?_
        refine DW.x rfl rfl (X.move rfl) (by decide) ?_
        refine DW.x rfl rfl (X.nilCheck rfl) (by decide) ?_
        refine DW.x rfl rfl (X.field Try.runUnderlying33 rfl Try.sizeOf3 rfl) (by decide) ?_
        refine DW.x rfl rfl (X.loadFp (k := 1) (i := ((↑(jn R k).length) - 1 : Int).toNat) (off := 1) (u := .int .i64 ((((gt (jn R (k + 1)) (((↑(jn R k).length) - 1 : Int).toNat))).Levels).Lo)) Try.isAgg3 rfl rfl (by first | omega | (simp; omega) | simp) rfl) (by decide) ?_
        refine DW.x rfl rfl (X.move rfl) (by decide) ?_
        refine DW.x rfl rfl (X.nilCheck rfl) (by decide) ?_
        refine DW.x rfl rfl (X.field Try.runUnderlying33 rfl Try.sizeOf3 rfl) (by decide) ?_
        refine DW.x rfl rfl (X.loadFp (k := 1) (i := ((↑(jn R k).length) - 1 : Int).toNat) (off := 2) (u := .int .i64 ((((gt (jn R (k + 1)) (((↑(jn R k).length) - 1 : Int).toNat))).Levels).Hi)) Try.isAgg3 rfl rfl (by first | omega | (simp; omega) | simp) rfl) (by decide) ?_
        refine DW.cond rfl rfl (X.gtr rfl rfl) (by decide) (fun h67 => ?_) (fun h67 => ?_)
        ·refine DW.nil ?_
         refine WK.nThen ?_
         refine WC.condT rfl ?_
         refine WC.seq ?_
         refine WC.region ?_
         refine WL.x (V := Value.agg [.slice none 0 0, .slice none 0 0].toArray) (X.build Try.zeroValue25 Try.runUnderlying25 (places25 _ Try.underlying25) rfl rfl) (by decide) ?_
         refine WL.ts (T.storeBA (k := 5) Try.sizeOf25 rfl rfl rfl (one_cons rfl (one_cons rfl one_nil)) rfl rfl) ?_
         refine WL.x (X.assign rfl) (by decide) ?_
         refine WL.nil ?_
         refine WK.nThen ?_
         refine WC.ret ?_
         refine WK.rBlock ?_
         refine WK.rThen ?_
         refine WK.rThen ?_
         refine WK.rBlock ?_
         refine WK.rThen ?_
         refine WK.retC2 5 rfl rfl rfl rfl Try.isAgg25 Try.sizeOf25 (fun w' hw' => Ret.mem hw' ?_)
         first | (exfalso; omega) | exact ⟨_, tup2 rfl (int_eq (by rw [joinR_err (by omega)])), by rw [joinR_err (by omega)]; exact ⟨_, _, rfl, .nil, .nil⟩⟩ | exact ⟨_, tup2 rfl (int_eq (by rw [joinR_sh (by omega) (by assumption)])), by rw [joinR_sh (by omega) (by assumption)]; exact ⟨_, _, rfl, .nil, .nil⟩⟩ | (have hem_ : emptyV (mrg s.Values t.Values) := (by rw [← jn_mrg hos.up hot.up hpm_ hsr_]; exact jBad_empty hsr_ (k := k) (by omega) ⟨hold_, by unfold lastV meetS; rw [← hix_]; dsimp only; rw [hlt_] at *; unfold meetV meetS at *; dsimp only at *; omega⟩)); exact ⟨_, tup2 rfl (int_eq (by rw [joinR_em (by omega) (by assumption) hem_])), by rw [joinR_em (by omega) (by assumption) hem_]; exact ⟨_, _, rfl, .nil, .nil⟩⟩ | exact ⟨_, tup2 rfl (int_eq (by rw [joinR_big (by omega) (by assumption) hfn_ (by omega)])), by rw [joinR_big (by omega) (by assumption) hfn_ (by omega)]; exact ⟨_, _, rfl, .nil, .nil⟩⟩ | exact ⟨_, tup2 rfl (int_eq (by rw [joinR_ok (by omega) (by assumption) hfn_ (by omega)])), by rw [joinR_ok (by omega) (by assumption) hfn_ (by omega)]; exact ⟨_, _, rfl, .nil, .nil⟩⟩
        ·refine DW.nil ?_
         refine WK.nThen ?_
         refine WC.condF rfl ?_
         refine WC.skip ?_
         refine WK.nBlock ?_
         refine WK.nThen ?_
         refine WC.region ?_
         refine WL.x (X.add rfl rfl (by omega) (by omega)) (by decide) ?_
         refine WL.x (X.move rfl) (by decide) ?_
         refine WL.nil ?_
         refine WK.nThen ?_
         refine WK.back hgood0 hle57 ?_
         refine WK.next ((k + 1, vo)) rfl (.cons _ (.cons_cons _ (.cons_cons _ (.cons_cons _ (.cons_cons _ (.cons_cons _ (.cons_cons _ (.cons_cons _ .slnil)))))))) (.cons rfl (.cons rfl (.cons rfl (.cons rfl (.cons rfl .nil))))) ?_ ?_
         ·exact ⟨by omega, fun j hj => by rcases Nat.lt_succ_iff_lt_or_eq.1 hj with h | h; exact hall j h; subst h; exact fun hb_ => by have h2_ := hb_.2; unfold lastV meetS at h2_; rw [← hix_] at h2_; dsimp only at h2_; rw [hlt_] at *; unfold meetV meetS at *; dsimp only at *; omega⟩
         ·(dsimp only; omega)
    ·refine WL.nil ?_
     refine WK.nThen ?_
     refine WC.seq ?_
     refine WC.condF rfl ?_
     refine WC.exit ?_
     refine WK.eThen ?_
     refine WK.eThen ?_
     refine WK.eHit ?_
     refine WK.nThen ?_
     refine WC.seq ?_
     refine WC.seq ?_
     have hkR_ : k = R.length := (by omega)
     have hjm_ : jn R k = mrg s.Values t.Values := (by rw [hkR_]; exact jn_mrg hos.up hot.up hpm_ hsr_)
     have hfn_ : ¬ emptyV (mrg s.Values t.Values) := hjm_ ▸ jn_fine (fun v hv => by rcases List.mem_append.1 (hpm_.mem_iff.1 hv) with h_ | h_; exact hos.fine v h_; exact hot.fine v h_) k (by omega) hall
     have he68 : (jn R k) = (mrg s.Values t.Values) := hjm_
     rw [he68]
     refine WC.region ?_
     refine WL.x (X.field Try.runUnderlying25 rfl Try.sizeOf22 rfl) (by decide) ?_
     refine WL.x (X.loadB (k := 1) Try.isAgg22 rfl rfl rfl) (by decide) ?_
     refine WL.x (X.lenF (k := 0) Try.runUnderlying22 rfl rfl) (by decide) ?_
     refine WL.cond (X.gtr rfl rfl) (by decide) (fun h69 => ?_) (fun h69 => ?_)
     ·refine WL.nil ?_
      refine WK.nThen ?_
      refine WC.condT rfl ?_
      refine WC.seq ?_
      refine WC.region ?_
      refine WL.x (V := Value.agg [.slice none 0 0, .slice none 0 0].toArray) (X.build Try.zeroValue25 Try.runUnderlying25 (places25 _ Try.underlying25) rfl rfl) (by decide) ?_
      refine WL.ts (T.storeBA (k := 4) Try.sizeOf25 rfl rfl rfl (one_cons rfl (one_cons rfl one_nil)) rfl rfl) ?_
      refine WL.x (X.assign rfl) (by decide) ?_
      refine WL.nil ?_
      refine WK.nThen ?_
      refine WC.ret ?_
      refine WK.rThen ?_
      refine WK.retC2 4 rfl rfl rfl rfl Try.isAgg25 Try.sizeOf25 (fun w' hw' => Ret.mem hw' ?_)
      first | (exfalso; omega) | exact ⟨_, tup2 rfl (int_eq (by rw [joinR_err (by omega)])), by rw [joinR_err (by omega)]; exact ⟨_, _, rfl, .nil, .nil⟩⟩ | exact ⟨_, tup2 rfl (int_eq (by rw [joinR_sh (by omega) (by assumption)])), by rw [joinR_sh (by omega) (by assumption)]; exact ⟨_, _, rfl, .nil, .nil⟩⟩ | (have hem_ : emptyV (mrg s.Values t.Values) := (by rw [← jn_mrg hos.up hot.up hpm_ hsr_]; exact jBad_empty hsr_ (k := k) (by omega) ⟨hold_, by unfold lastV meetS; rw [← hix_]; dsimp only; rw [hlt_] at *; unfold meetV meetS at *; dsimp only at *; omega⟩)); exact ⟨_, tup2 rfl (int_eq (by rw [joinR_em (by omega) (by assumption) hem_])), by rw [joinR_em (by omega) (by assumption) hem_]; exact ⟨_, _, rfl, .nil, .nil⟩⟩ | exact ⟨_, tup2 rfl (int_eq (by rw [joinR_big (by omega) (by assumption) hfn_ (by omega)])), by rw [joinR_big (by omega) (by assumption) hfn_ (by omega)]; exact ⟨_, _, rfl, .nil, .nil⟩⟩ | exact ⟨_, tup2 rfl (int_eq (by rw [joinR_ok (by omega) (by assumption) hfn_ (by omega)])), by rw [joinR_ok (by omega) (by assumption) hfn_ (by omega)]; exact ⟨_, _, rfl, .nil, .nil⟩⟩
     ·refine WL.nil ?_
      refine WK.nThen ?_
      refine WC.condF rfl ?_
      refine WC.skip ?_
      refine WK.nThen ?_
      refine WC.seq ?_
      refine WC.region ?_
      refine WL.x (X.loadBA (k := 1) Try.isAgg25 Try.sizeOf25 rfl rfl rfl) (by decide) ?_
      refine WL.own1 (k := 0) rfl (fun ho70 => ?_)
      refine WL.ts (T.storeBA (k := 4) Try.sizeOf25 rfl rfl rfl (one_cons ho70 (one_cons ho41 one_nil)) rfl rfl) ?_
      refine WL.x (X.assign rfl) (by decide) ?_
      refine WL.nil ?_
      refine WK.nThen ?_
      refine WC.ret ?_
      refine WK.freezeF 0 rfl rfl (by first | (simp [lenB]; omega) | (simp [lenB]; done)) (fun m71 hle72 hs73 => ?_)
      replace hs2 := hs2.mono hle72
      replace hs4 := hs4.mono hle72
      replace hs8 := hs8.mono hle72
      replace hs10 := hs10.mono hle72
      replace hs19 := hs19.mono hle72
      replace hs25 := hs25.mono hle72
      refine WK.freezeF 1 rfl rfl (by first | (simp [lenB]; omega) | (simp [lenB]; done)) (fun m74 hle75 hs76 => ?_)
      replace hs2 := hs2.mono hle75
      replace hs4 := hs4.mono hle75
      replace hs8 := hs8.mono hle75
      replace hs10 := hs10.mono hle75
      replace hs19 := hs19.mono hle75
      replace hs25 := hs25.mono hle75
      replace hs73 := hs73.mono hle75
      refine WK.retC2 2 rfl rfl rfl rfl Try.isAgg25 Try.sizeOf25 (fun w' hw' => Ret.mem hw' ?_)
      first | (exfalso; omega) | exact ⟨_, tup2 rfl (int_eq (by rw [joinR_err (by omega)])), by rw [joinR_err (by omega)]; exact ⟨_, _, rfl, hs73, hs76⟩⟩ | exact ⟨_, tup2 rfl (int_eq (by rw [joinR_sh (by omega) (by assumption)])), by rw [joinR_sh (by omega) (by assumption)]; exact ⟨_, _, rfl, hs73, hs76⟩⟩ | (have hem_ : emptyV (mrg s.Values t.Values) := (by rw [← jn_mrg hos.up hot.up hpm_ hsr_]; exact jBad_empty hsr_ (k := k) (by omega) ⟨hold_, by unfold lastV meetS; rw [← hix_]; dsimp only; rw [hlt_] at *; unfold meetV meetS at *; dsimp only at *; omega⟩)); exact ⟨_, tup2 rfl (int_eq (by rw [joinR_em (by omega) (by assumption) hem_])), by rw [joinR_em (by omega) (by assumption) hem_]; exact ⟨_, _, rfl, hs73, hs76⟩⟩ | exact ⟨_, tup2 rfl (int_eq (by rw [joinR_big (by omega) (by assumption) hfn_ (by omega)])), by rw [joinR_big (by omega) (by assumption) hfn_ (by omega)]; exact ⟨_, _, rfl, hs73, hs76⟩⟩ | exact ⟨_, tup2 rfl (int_eq (by rw [joinR_ok (by omega) (by assumption) hfn_ (by omega)])), by rw [joinR_ok (by omega) (by assumption) hfn_ (by omega)]; exact ⟨_, _, rfl, hs73, hs76⟩⟩
  ·refine WL.x (X.not rfl) (by decide) ?_
   refine WL.nil ?_
   refine WK.nThen ?_
   refine WC.condT rfl ?_
   refine WC.seq ?_
   refine WC.region ?_
   refine WL.x (V := Value.agg [.slice none 0 0, .slice none 0 0].toArray) (X.build Try.zeroValue25 Try.runUnderlying25 (places25 _ Try.underlying25) rfl rfl) (by decide) ?_
   refine WL.ts (T.storeBA (k := 0) Try.sizeOf25 rfl rfl rfl (one_cons rfl (one_cons rfl one_nil)) rfl rfl) ?_
   refine WL.x (X.assign rfl) (by decide) ?_
   refine WL.nil ?_
   refine WK.nThen ?_
   refine WC.ret ?_
   refine WK.rThen ?_
   refine WK.retC2 0 rfl rfl rfl rfl Try.isAgg25 Try.sizeOf25 (fun w' hw' => Ret.mem hw' ?_)
   first | (exfalso; omega) | exact ⟨_, tup2 rfl (int_eq (by rw [joinR_err (by omega)])), by rw [joinR_err (by omega)]; exact ⟨_, _, rfl, .nil, .nil⟩⟩ | exact ⟨_, tup2 rfl (int_eq (by rw [joinR_sh (by omega) (by assumption)])), by rw [joinR_sh (by omega) (by assumption)]; exact ⟨_, _, rfl, .nil, .nil⟩⟩ | (have hem_ : emptyV (mrg s.Values t.Values) := (by rw [← jn_mrg hos.up hot.up hpm_ hsr_]; exact jBad_empty hsr_ (k := k) (by omega) ⟨hold_, by unfold lastV meetS; rw [← hix_]; dsimp only; rw [hlt_] at *; unfold meetV meetS at *; dsimp only at *; omega⟩)); exact ⟨_, tup2 rfl (int_eq (by rw [joinR_em (by omega) (by assumption) hem_])), by rw [joinR_em (by omega) (by assumption) hem_]; exact ⟨_, _, rfl, .nil, .nil⟩⟩ | exact ⟨_, tup2 rfl (int_eq (by rw [joinR_big (by omega) (by assumption) hfn_ (by omega)])), by rw [joinR_big (by omega) (by assumption) hfn_ (by omega)]; exact ⟨_, _, rfl, .nil, .nil⟩⟩ | exact ⟨_, tup2 rfl (int_eq (by rw [joinR_ok (by omega) (by assumption) hfn_ (by omega)])), by rw [joinR_ok (by omega) (by assumption) hfn_ (by omega)]; exact ⟨_, _, rfl, .nil, .nil⟩⟩

end Go.Proofs.C8
