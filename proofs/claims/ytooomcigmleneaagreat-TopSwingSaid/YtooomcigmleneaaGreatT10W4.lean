import Derived.Test.YtooomcigmleneaaGreatKxW
import Derived.Test.YtooomcigmleneaaGreatT10Forg
import Derived.Test.YtooomcigmleneaaGreatT10W3
/- Top: walks, fourth part, by program. -/
namespace Go.Proofs.T10
open Go Go.Kx
set_option linter.unusedSimpArgs false
set_option linter.unusedVariables false

set_option maxHeartbeats 1000000 in
theorem forgets12 (m : Mem) (cp : List Value) (p : Pen) (hp : Enc.rd m cp p) {v : Value} {L : List Int} (hL : Sl m v L) (hE : listedE p L = 0) (hst : ∀ i, 0 < i → i < L.length → apartI (gt L i) (gt L (i - 1)) ≤ p.Rate) : Pure Tryz.prog 12 #[.agg cp.toArray, v] m (fun _ u => ∃ f e : Int, u = .tuple #[.int .i64 f, .int .i64 e] ∧ (e = 3 ∨ (e = 0 ∧ ∃ k : Nat, f = k ∧ k < L.length ∧ isFrom p.Band L k))) := by
 obtain rfl := hp
 have hal_ := listedE_of hE
 have hpn_ := hal_.1
 unfold penP at hpn_
 have hlen_ := hal_.2.1
 have hlv_ : ∀ i, i < L.length → -50000 ≤ gt L i ∧ gt L i ≤ 50000 := hal_.2.2
 have hl0_ := hlv_ 0 (by omega)
 have hlw_ : ∀ i, i < L.length → -200000 ≤ gt L i ∧ gt L i ≤ 200000 := fun i hi => by have := hlv_ i hi; omega
 refine Pure.start Tryz.func12 rfl Tryz.ntmps12 rfl fun wld => ?_
 refine WC.r ?_
 refine WL.tn (T.boxB rfl rfl) (by decide) fun b1 => ?_
 refine WL.ag rfl ?_
 refine WL.ag rfl ?_
 refine WL.z ?_
 refine WC.seq ?_
 refine WC.r ?_
 refine WL.y (X.loadBA (k := 0) Tryz.isAgg33 Tryz.sizeOf33 rfl rfl rfl) ?_
 refine WL.mv rfl ?_
 refine WL.y (X.call Tryz.call31 rfl (listed31 _ _ p rfl _ _ hL )) ?_
 refine WL.ag rfl ?_
 refine WL.z ?_
 refine WC.r ?_
 refine WL.mv rfl ?_
 refine WL.y (OpX.f (X.neq rfl rfl) (fun h => h hE)) ?_
 refine WL.z ?_
 refine WC.condF rfl ?_
 refine WC.skip ?_
 refine WK.nThen ?_
 refine WC.seq ?_
 refine WC.draw (π := (.cons 0 (.cons 1 (.cons 2 (.cons 3 (.cons 4 (.cons 5 (.cons 6 (.cons 7 (.cons 8 (.cons 9 (.cons 10 (.cons 11 (.cons 12 (.cons 13 .done))))))))))))))) [] [] rfl (by kernel_rfl) ?_
 refine DW.y rfl rfl (X.move rfl) ?_
 refine DW.xe rfl rfl (E.idxN 0 Tryz.runUnderlying27 Tryz.sizeOf3 rfl rfl hL (by omega)) (by decide) (fun p2 hp3 => ?_)
 refine DW.y rfl rfl (X.loadInt Tryz.isAgg3 rfl hp3) ?_
 refine DW.y rfl rfl (X.field Tryz.runUnderlying33 rfl Tryz.sizeOf3 rfl) ?_
 refine DW.y rfl rfl (X.loadB (k := 0) Tryz.isAgg3 rfl rfl rfl) ?_
 refine DW.y rfl rfl (X.sub rfl rfl (by omega) (by omega)) ?_
 refine DW.y rfl rfl (X.move rfl) ?_
 refine DW.xe rfl rfl (E.idxN 0 Tryz.runUnderlying27 Tryz.sizeOf3 rfl rfl hL (by omega)) (by decide) (fun p4 hp5 => ?_)
 refine DW.y rfl rfl (X.loadInt Tryz.isAgg3 rfl hp5) ?_
 refine DW.y rfl rfl (X.field Tryz.runUnderlying33 rfl Tryz.sizeOf3 rfl) ?_
 refine DW.y rfl rfl (X.loadB (k := 0) Tryz.isAgg3 rfl rfl rfl) ?_
 refine DW.y rfl rfl (X.add rfl rfl (by omega) (by omega)) ?_
 refine DW.y rfl rfl (X.assign rfl) ?_
 refine DW.y rfl rfl (X.assign rfl) ?_
 refine DW.nil ?_
 refine WK.nThen ?_
 refine WC.r ?_
 refine WL.ag rfl ?_
 refine WL.z ?_
 refine WC.seq ?_
 refine WC.r ?_
 refine WL.mv rfl ?_
 refine WL.y (X.len Tryz.runUnderlying27 rfl hL) ?_
 refine WL.mv rfl ?_
 refine WL.z ?_
 refine WC.block ?_
 refine WC.loop (G := Nat × Int × Int × Int) (fun (k, lo, hi, out) => L.length - k) (fun (k, lo, hi, out) => m) (fun (k, lo, hi, out) => [blk b1 33 [.int .i64 (p.Band), .int .i64 (p.Zero.Lo), .int .i64 (p.Zero.Hi), .int .i64 (p.Rate)]]) (fun (k, lo, hi, out) => [(1, v), (2, .pointer (some ⟨b1, 0, none⟩)), (7, .int .i64 (lo)), (8, .int .i64 (hi)), (9, .int .i64 (out)), (30, v), (31, .int .i64 (↑L.length)), (32, .int .i64 (↑k))]) (fun (k, lo, hi, out) => k ≤ L.length ∧ lo = loN p.Band L (k - 1) ∧ hi = hiN p.Band L (k - 1) ∧ OutI p.Band L k out) ((0, gt L 0 - p.Band, gt L 0 + p.Band, -1)) rfl (.refl _) (.cons rfl (.cons rfl (.cons rfl (.cons rfl (.cons rfl (.cons rfl (.cons rfl (.cons rfl .nil)))))))) ?_ ?_
 ·exact ⟨Nat.zero_le _, rfl, rfl, out_start _ _⟩
 ·rintro ⟨k, lo, hi, out⟩ hF6
  show WK _ _ m [blk b1 33 [.int .i64 (p.Band), .int .i64 (p.Zero.Lo), .int .i64 (p.Zero.Hi), .int .i64 (p.Rate)]] [(1, v), (2, .pointer (some ⟨b1, 0, none⟩)), (7, .int .i64 (lo)), (8, .int .i64 (hi)), (9, .int .i64 (out)), (30, v), (31, .int .i64 (↑L.length)), (32, .int .i64 (↑k))] _
  replace hF6 : k ≤ L.length ∧ lo = loN p.Band L (k - 1) ∧ hi = hiN p.Band L (k - 1) ∧ OutI p.Band L k out := hF6
  obtain ⟨hk, hlo, hhi, hO⟩ := hF6
  have hls_ : clampN p.Band lo (gt L k) = loN p.Band L k := (by rw [hlo]; exact lo_step (by omega) L k)
  have hhs_ : clampN p.Band hi (gt L k) = hiN p.Band L k := (by rw [hhi]; exact hi_step L k)
  refine WC.r ?_
  refine WL.cond (X.lss rfl rfl) (by decide) (fun h7 => ?_) (fun h7 => ?_)
  ·refine WL.z ?_
   refine WC.seq ?_
   refine WC.condT rfl ?_
   refine WC.skip ?_
   refine WK.nThen ?_
   refine WC.seq ?_
   refine WC.block ?_
   refine WC.r ?_
   refine WL.mv rfl ?_
   refine WL.xe (E.idxN k Tryz.runUnderlying27 Tryz.sizeOf3 rfl rfl hL (by omega)) (by decide) (fun p8 hp9 => ?_)
   refine WL.y (X.loadInt Tryz.isAgg3 rfl hp9) ?_
   refine WL.ag rfl ?_
   refine WL.ag rfl ?_
   refine WL.z ?_
   refine WC.seq ?_
   refine WC.seq ?_
   refine WC.draw (π := (.cons 0 (.cons 1 (.cons 2 (.cons 3 (.cons 4 (.cons 5 (.cons 6 (.cons 7 (.cons 8 (.cons 9 (.cons 10 (.cons 11 (.cons 12 (.cons 13 .done))))))))))))))) [] [] rfl (by kernel_rfl) ?_
   refine DW.y rfl rfl (X.move rfl) ?_
   refine DW.cond rfl rfl (X.gtr rfl rfl) (by decide) (fun h10 => ?_) (fun h10 => ?_)
   ·refine DW.y rfl rfl (X.move rfl) ?_
    refine DW.y rfl rfl (X.move rfl) ?_
    refine DW.y rfl rfl (X.move rfl) ?_
    refine DW.y rfl rfl (X.move rfl) ?_
    refine DW.y rfl rfl (X.sub rfl rfl (by omega) (by omega)) ?_
    refine DW.xe rfl rfl (E.idxE (k - 1) Tryz.runUnderlying27 Tryz.sizeOf3 rfl rfl hL (by omega) (by omega)) (by decide) (fun p11 hp12 => ?_)
    refine DW.y rfl rfl (X.loadInt Tryz.isAgg3 rfl hp12) ?_
    refine DW.y rfl rfl (X.call Tryz.call32 rfl (apart32 _ _ _ (by first | exact hlw_ _ (by omega) | omega) (by first | exact hlw_ _ (by omega) | omega))) ?_
    refine DW.y rfl rfl (X.field Tryz.runUnderlying33 rfl Tryz.sizeOf3 rfl) ?_
    refine DW.y rfl rfl (X.loadB (k := 0) Tryz.isAgg3 rfl rfl rfl) ?_
    refine DW.y rfl rfl (OpX.f (X.gtr rfl rfl) (by have h_ := hst k (by omega) (by omega); omega)) ?_
    refine DW.y rfl rfl (X.pickT rfl rfl rfl) ?_
    refine DW.nil ?_
    refine WK.nThen ?_
    refine WC.condF rfl ?_
    refine WC.skip ?_
    refine WK.nThen ?_
    refine WC.seq ?_
    refine WC.draw (π := (.cons 0 (.cons 1 (.cons 2 (.cons 3 (.cons 4 (.cons 5 (.cons 6 (.cons 7 (.cons 8 (.cons 9 (.cons 10 (.cons 11 .done))))))))))))) [] [] rfl (by kernel_rfl) ?_
    refine DW.y rfl rfl (X.loadBA (k := 0) Tryz.isAgg33 Tryz.sizeOf33 rfl rfl rfl) ?_
    refine DW.y (V := Value.agg [.int .i64 (p.Band), .int .i64 (p.Zero.Lo), .int .i64 (p.Zero.Hi), .int .i64 (p.Rate)].toArray) rfl rfl (X.build Tryz.zeroValue113 Tryz.runUnderlying113 (places113 _ Tryz.underlying113) rfl rfl) ?_
    refine DW.y rfl rfl (X.move rfl) ?_
    refine DW.y rfl rfl (X.move rfl) ?_
    refine DW.y rfl rfl (X.call Tryz.call33 rfl (next33 _ _ p rfl _ _ (by omega) (by first | exact hlw_ _ (by omega) | omega))) ?_
    refine DW.y rfl rfl (X.loadBA (k := 0) Tryz.isAgg33 Tryz.sizeOf33 rfl rfl rfl) ?_
    refine DW.y (V := Value.agg [.int .i64 (p.Band), .int .i64 (p.Zero.Lo), .int .i64 (p.Zero.Hi), .int .i64 (p.Rate)].toArray) rfl rfl (X.build Tryz.zeroValue113 Tryz.runUnderlying113 (places113 _ Tryz.underlying113) rfl rfl) ?_
    refine DW.y rfl rfl (X.move rfl) ?_
    refine DW.y rfl rfl (X.move rfl) ?_
    refine DW.y rfl rfl (X.call Tryz.call33 rfl (next33 _ _ p rfl _ _ (by omega) (by first | exact hlw_ _ (by omega) | omega))) ?_
    refine DW.y rfl rfl (X.assign rfl) ?_
    refine DW.y rfl rfl (X.assign rfl) ?_
    refine DW.nil ?_
    refine WK.nThen ?_
    refine WC.r ?_
    refine WL.mv rfl ?_
    refine WL.cond (X.lss rfl rfl) (by decide) (fun h13 => ?_) (fun h13 => ?_)
    ·refine WL.mv rfl ?_
     refine WL.yes rfl rfl ?_
     refine WL.mv rfl ?_
     refine WL.yes rfl rfl ?_
     refine WL.mv rfl ?_
     refine WL.yes rfl rfl ?_
     refine WL.cond (X.eql rfl rfl) (by decide) (fun h14 => ?_) (fun h14 => ?_)
     ·refine WL.y (X.pickT rfl rfl rfl) ?_
      refine WL.z ?_
      refine WC.condT rfl ?_
      refine WC.region ?_
      refine WL.mv rfl ?_
      refine WL.ag rfl ?_
      refine WL.nil ?_
      refine WK.nBlock ?_
      refine WK.nThen ?_
      refine WC.region ?_
      refine WL.y (X.add rfl rfl (by omega) (by omega)) ?_
      refine WL.mv rfl ?_
      refine WL.z ?_
      refine WK.next ((k + 1, clampN p.Band lo ((gt L k)), clampN p.Band hi ((gt L k)), ↑k)) rfl (.refl _) (.cons rfl (.cons rfl (.cons rfl (.cons rfl (.cons rfl (.cons rfl (.cons rfl (.cons rfl .nil)))))))) ?_ ?_
      ·refine ⟨by omega, hls_, hhs_, ?_⟩
       first | exact out_hit hO (by omega) (by omega) | exact out_miss hO (by omega)
      ·(dsimp only; omega)
     ·refine WL.y (X.pickT rfl rfl rfl) ?_
      refine WL.z ?_
      refine WC.condF rfl ?_
      refine WC.skip ?_
      refine WK.nBlock ?_
      refine WK.nThen ?_
      refine WC.region ?_
      refine WL.y (X.add rfl rfl (by omega) (by omega)) ?_
      refine WL.mv rfl ?_
      refine WL.z ?_
      refine WK.next ((k + 1, clampN p.Band lo ((gt L k)), clampN p.Band hi ((gt L k)), out)) rfl (.refl _) (.cons rfl (.cons rfl (.cons rfl (.cons rfl (.cons rfl (.cons rfl (.cons rfl (.cons rfl .nil)))))))) ?_ ?_
      ·refine ⟨by omega, hls_, hhs_, ?_⟩
       first | exact out_hit hO (by omega) (by omega) | exact out_miss hO (by omega)
      ·(dsimp only; omega)
    ·refine WL.mv rfl ?_
     refine WL.no rfl rfl rfl (by decide) ?_
     refine WL.no rfl rfl rfl (by decide) ?_
     refine WL.no rfl rfl rfl (by decide) ?_
     refine WL.y (X.pickF rfl rfl rfl) ?_
     refine WL.z ?_
     refine WC.condF rfl ?_
     refine WC.skip ?_
     refine WK.nBlock ?_
     refine WK.nThen ?_
     refine WC.region ?_
     refine WL.y (X.add rfl rfl (by omega) (by omega)) ?_
     refine WL.mv rfl ?_
     refine WL.z ?_
     refine WK.next ((k + 1, clampN p.Band lo ((gt L k)), clampN p.Band hi ((gt L k)), out)) rfl (.refl _) (.cons rfl (.cons rfl (.cons rfl (.cons rfl (.cons rfl (.cons rfl (.cons rfl (.cons rfl .nil)))))))) ?_ ?_
     ·refine ⟨by omega, hls_, hhs_, ?_⟩
      first | exact out_hit hO (by omega) (by omega) | exact out_miss hO (by omega)
     ·(dsimp only; omega)
   ·refine DW.y rfl rfl (X.move rfl) ?_
    refine DW.no rfl rfl (by decide) ?_
    refine DW.no rfl rfl (by decide) ?_
    refine DW.no rfl rfl (by decide) ?_
    refine DW.no rfl rfl (by decide) ?_
    refine DW.no rfl rfl (by decide) ?_
    refine DW.no rfl rfl (by decide) ?_
    refine DW.no rfl rfl (by decide) ?_
    refine DW.no rfl rfl (by decide) ?_
    refine DW.no rfl rfl (by decide) ?_
    refine DW.no rfl rfl (by decide) ?_
    refine DW.y rfl rfl (X.pickF rfl rfl rfl) ?_
    refine DW.nil ?_
    refine WK.nThen ?_
    refine WC.condF rfl ?_
    refine WC.skip ?_
    refine WK.nThen ?_
    refine WC.seq ?_
    refine WC.draw (π := (.cons 0 (.cons 1 (.cons 2 (.cons 3 (.cons 4 (.cons 5 (.cons 6 (.cons 7 (.cons 8 (.cons 9 (.cons 10 (.cons 11 .done))))))))))))) [] [] rfl (by kernel_rfl) ?_
    refine DW.y rfl rfl (X.loadBA (k := 0) Tryz.isAgg33 Tryz.sizeOf33 rfl rfl rfl) ?_
    refine DW.y (V := Value.agg [.int .i64 (p.Band), .int .i64 (p.Zero.Lo), .int .i64 (p.Zero.Hi), .int .i64 (p.Rate)].toArray) rfl rfl (X.build Tryz.zeroValue113 Tryz.runUnderlying113 (places113 _ Tryz.underlying113) rfl rfl) ?_
    refine DW.y rfl rfl (X.move rfl) ?_
    refine DW.y rfl rfl (X.move rfl) ?_
    refine DW.y rfl rfl (X.call Tryz.call33 rfl (next33 _ _ p rfl _ _ (by omega) (by first | exact hlw_ _ (by omega) | omega))) ?_
    refine DW.y rfl rfl (X.loadBA (k := 0) Tryz.isAgg33 Tryz.sizeOf33 rfl rfl rfl) ?_
    refine DW.y (V := Value.agg [.int .i64 (p.Band), .int .i64 (p.Zero.Lo), .int .i64 (p.Zero.Hi), .int .i64 (p.Rate)].toArray) rfl rfl (X.build Tryz.zeroValue113 Tryz.runUnderlying113 (places113 _ Tryz.underlying113) rfl rfl) ?_
    refine DW.y rfl rfl (X.move rfl) ?_
    refine DW.y rfl rfl (X.move rfl) ?_
    refine DW.y rfl rfl (X.call Tryz.call33 rfl (next33 _ _ p rfl _ _ (by omega) (by first | exact hlw_ _ (by omega) | omega))) ?_
    refine DW.y rfl rfl (X.assign rfl) ?_
    refine DW.y rfl rfl (X.assign rfl) ?_
    refine DW.nil ?_
    refine WK.nThen ?_
    refine WC.r ?_
    refine WL.mv rfl ?_
    refine WL.cond (X.lss rfl rfl) (by decide) (fun h15 => ?_) (fun h15 => ?_)
    ·refine WL.mv rfl ?_
     refine WL.yes rfl rfl ?_
     refine WL.mv rfl ?_
     refine WL.yes rfl rfl ?_
     refine WL.mv rfl ?_
     refine WL.yes rfl rfl ?_
     refine WL.cond (X.eql rfl rfl) (by decide) (fun h16 => ?_) (fun h16 => ?_)
     ·refine WL.y (X.pickT rfl rfl rfl) ?_
      refine WL.z ?_
      refine WC.condT rfl ?_
      refine WC.region ?_
      refine WL.mv rfl ?_
      refine WL.ag rfl ?_
      refine WL.nil ?_
      refine WK.nBlock ?_
      refine WK.nThen ?_
      refine WC.region ?_
      refine WL.y (X.add rfl rfl (by omega) (by omega)) ?_
      refine WL.mv rfl ?_
      refine WL.z ?_
      refine WK.next ((k + 1, clampN p.Band lo ((gt L k)), clampN p.Band hi ((gt L k)), ↑k)) rfl (.refl _) (.cons rfl (.cons rfl (.cons rfl (.cons rfl (.cons rfl (.cons rfl (.cons rfl (.cons rfl .nil)))))))) ?_ ?_
      ·refine ⟨by omega, hls_, hhs_, ?_⟩
       first | exact out_hit hO (by omega) (by omega) | exact out_miss hO (by omega)
      ·(dsimp only; omega)
     ·refine WL.y (X.pickT rfl rfl rfl) ?_
      refine WL.z ?_
      refine WC.condF rfl ?_
      refine WC.skip ?_
      refine WK.nBlock ?_
      refine WK.nThen ?_
      refine WC.region ?_
      refine WL.y (X.add rfl rfl (by omega) (by omega)) ?_
      refine WL.mv rfl ?_
      refine WL.z ?_
      refine WK.next ((k + 1, clampN p.Band lo ((gt L k)), clampN p.Band hi ((gt L k)), out)) rfl (.refl _) (.cons rfl (.cons rfl (.cons rfl (.cons rfl (.cons rfl (.cons rfl (.cons rfl (.cons rfl .nil)))))))) ?_ ?_
      ·refine ⟨by omega, hls_, hhs_, ?_⟩
       first | exact out_hit hO (by omega) (by omega) | exact out_miss hO (by omega)
      ·(dsimp only; omega)
    ·refine WL.mv rfl ?_
     refine WL.no rfl rfl rfl (by decide) ?_
     refine WL.no rfl rfl rfl (by decide) ?_
     refine WL.no rfl rfl rfl (by decide) ?_
     refine WL.y (X.pickF rfl rfl rfl) ?_
     refine WL.z ?_
     refine WC.condF rfl ?_
     refine WC.skip ?_
     refine WK.nBlock ?_
     refine WK.nThen ?_
     refine WC.region ?_
     refine WL.y (X.add rfl rfl (by omega) (by omega)) ?_
     refine WL.mv rfl ?_
     refine WL.z ?_
     refine WK.next ((k + 1, clampN p.Band lo ((gt L k)), clampN p.Band hi ((gt L k)), out)) rfl (.refl _) (.cons rfl (.cons rfl (.cons rfl (.cons rfl (.cons rfl (.cons rfl (.cons rfl (.cons rfl .nil)))))))) ?_ ?_
     ·refine ⟨by omega, hls_, hhs_, ?_⟩
      first | exact out_hit hO (by omega) (by omega) | exact out_miss hO (by omega)
     ·(dsimp only; omega)
  ·refine WL.z ?_
   refine WC.seq ?_
   refine WC.condF rfl ?_
   refine WC.exit ?_
   refine WK.eThen ?_
   refine WK.eThen ?_
   refine WK.eHit ?_
   refine WK.nThen ?_
   refine WC.seq ?_
   refine WC.r ?_
   refine WL.mv rfl ?_
   refine WL.cond (X.lss rfl rfl) (by decide) (fun h17 => ?_) (fun h17 => ?_)
   ·refine WL.z ?_
    refine WC.condT rfl ?_
    refine WC.r ?_
    refine WL.ag rfl ?_
    refine WL.ag rfl ?_
    refine WL.z ?_
    refine WC.ret ?_
    refine WK.rThen ?_
    refine WK.ret2 rfl rfl rfl (fun w' hw' => Ret.mem hw' ?_)
    first | exact ⟨_, _, rfl, .inl rfl⟩ | (obtain ⟨f_, h1_, h2_, h3_⟩ := out_end hO (by omega); exact ⟨_, _, rfl, .inr ⟨rfl, f_, h1_, by omega, h3_⟩⟩)
   ·refine WL.z ?_
    refine WC.condF rfl ?_
    refine WC.skip ?_
    refine WK.nThen ?_
    refine WC.r ?_
    refine WL.mv rfl ?_
    refine WL.ag rfl ?_
    refine WL.ag rfl ?_
    refine WL.z ?_
    refine WC.ret ?_
    refine WK.ret2 rfl rfl rfl (fun w' hw' => Ret.mem hw' ?_)
    first | exact ⟨_, _, rfl, .inl rfl⟩ | (obtain ⟨f_, h1_, h2_, h3_⟩ := out_end hO (by omega); exact ⟨_, _, rfl, .inr ⟨rfl, f_, h1_, by omega, h3_⟩⟩)

end Go.Proofs.T10
/- Top: walks, fifth part, by program. -/
namespace Go.Proofs.T10
open Go Go.Kx
set_option linter.unusedSimpArgs false
set_option linter.unusedVariables false

set_option maxHeartbeats 1000000 in
theorem rise76 (m : Mem) {V v : Value} {e sz n off : Nat} {xs : List Value} {L : List Span} {y : Int} (hxv : xs[off]? = some v) (hB : spB L) (hn : L.length ≤ 1000000) (hlev : 0 ≤ y ∧ y ≤ 12000) : Mut Tryz.prog 76 #[.pointer (some (rp V off)), .int .i64 y] m [row V e sz n xs, rowF v 23 L] (fun _ Es u => u = .tuple #[] ∧ ∃ v', Es = [row V e sz n (xs.set off v'), rowF v' 23 (mrg1 L ⟨y, y⟩)] ∧ v'.oneCell' = true) := by
 have hoff : off < xs.length := (List.getElem?_eq_some_iff.1 hxv).1
 have hlast : 0 < L.length → 0 ≤ (gt L (L.length - 1)).Hi ∧ (gt L (L.length - 1)).Hi ≤ 12000 := fun h_ => (spB_at hB (by omega)).2
 refine Mut.start Tryz.func76 rfl Tryz.ntmps76 rfl fun wld => ?_
 refine WC.r ?_
 refine WL.mv rfl ?_
 refine WL.y (X.nilCheck rfl) ?_
 refine WL.y (X.field Tryz.runUnderlying184 rfl Tryz.sizeOf28 rfl) ?_
 refine WL.y (X.loadRow (k := 0) Tryz.isAgg28 rfl rfl hxv) ?_
 refine WL.y (X.lenF (k := 1) Tryz.runUnderlying28 rfl rfl) ?_
 refine WL.ag rfl ?_
 refine WL.z ?_
 refine WC.seq ?_
 refine WC.r ?_
 refine WL.mv rfl ?_
 refine WL.cond (X.gtr rfl rfl) (by decide) (fun h1 => ?_) (fun h1 => ?_)
 ·refine WL.mv rfl ?_
  refine WL.yes rfl rfl ?_
  refine WL.mv rfl ?_
  refine WL.yes rfl rfl ?_
  refine WL.mv rfl ?_
  refine WL.yes rfl rfl ?_
  refine WL.y (X.nilCheck rfl) ?_
  refine WL.yes rfl rfl ?_
  refine WL.y (X.field Tryz.runUnderlying184 rfl Tryz.sizeOf28 rfl) ?_
  refine WL.yes rfl rfl ?_
  refine WL.y (X.loadRow (k := 0) Tryz.isAgg28 rfl rfl hxv) ?_
  refine WL.yes rfl rfl ?_
  refine WL.mv rfl ?_
  refine WL.yes rfl rfl ?_
  refine WL.y (X.sub rfl rfl (by omega) (by omega)) ?_
  refine WL.yes rfl rfl ?_
  refine WL.y (X.idxRowE (k := 1) (L.length - 1) Tryz.runUnderlying28 Tryz.sizeOf23 rfl rfl rfl (by omega) (by first | omega | (simp; omega) | simp)) ?_
  refine WL.yes rfl rfl ?_
  refine WL.y (X.field Tryz.runUnderlying23 rfl Tryz.sizeOf3 rfl) ?_
  refine WL.yes rfl rfl ?_
  refine WL.y (X.loadFp (k := 1) (i := L.length - 1) (off := 1) (u := .int .i64 (((gt L (L.length - 1))).Hi)) Tryz.isAgg3 rfl rfl (by first | omega | (simp; omega) | simp) rfl) ?_
  refine WL.yes rfl rfl ?_
  refine WL.y (X.add rfl rfl (by omega) (by omega)) ?_
  refine WL.yes rfl rfl ?_
  refine WL.cond (X.leq rfl rfl) (by decide) (fun h2 => ?_) (fun h2 => ?_)
  ·refine WL.y (X.pickT rfl rfl rfl) ?_
   refine WL.z ?_
   refine WC.condT rfl ?_
   refine WC.seq ?_
   refine WK.own1 (k := 1) rfl (fun ho_ => ?_)
   refine WC.draw (π := (.cons 0 (.cons 1 (.cons 2 (.cons 3 (.cons 4 (.cons 5 (.cons 6 (.cons 7 (.cons 8 (.cons 9 (.cons 10 (.cons 11 (.cons 12 (.cons 13 (.cons 14 (.cons 15 (.cons 16 (.cons 17 (.cons 18 (.cons 19 .done))))))))))))))))))))) [19] [19] rfl (by kernel_rfl) ?_
   refine DW.y rfl rfl (X.move rfl) ?_
   refine DW.y rfl rfl (X.nilCheck rfl) ?_
   refine DW.y rfl rfl (X.field Tryz.runUnderlying184 rfl Tryz.sizeOf28 rfl) ?_
   refine DW.y rfl rfl (X.loadRow (k := 0) Tryz.isAgg28 rfl rfl hxv) ?_
   refine DW.y rfl rfl (X.move rfl) ?_
   refine DW.y rfl rfl (X.sub rfl rfl (by omega) (by omega)) ?_
   refine DW.y rfl rfl (X.move rfl) ?_
   refine DW.y rfl rfl (X.nilCheck rfl) ?_
   refine DW.y rfl rfl (X.field Tryz.runUnderlying184 rfl Tryz.sizeOf28 rfl) ?_
   refine DW.y rfl rfl (X.loadRow (k := 0) Tryz.isAgg28 rfl rfl hxv) ?_
   refine DW.y rfl rfl (X.move rfl) ?_
   refine DW.y rfl rfl (X.sub rfl rfl (by omega) (by omega)) ?_
   refine DW.y rfl rfl (X.idxRowE (k := 1) (L.length - 1) Tryz.runUnderlying28 Tryz.sizeOf23 rfl rfl rfl (by omega) (by first | omega | (simp; omega) | simp)) ?_
   refine DW.y rfl rfl (X.field Tryz.runUnderlying23 rfl Tryz.sizeOf3 rfl) ?_
   refine DW.y rfl rfl (X.loadFp (k := 1) (i := L.length - 1) (off := 1) (u := .int .i64 (((gt L (L.length - 1))).Hi)) Tryz.isAgg3 rfl rfl (by first | omega | (simp; omega) | simp) rfl) ?_
   refine DW.y rfl rfl (X.move rfl) ?_
   refine DW.y rfl rfl (X.mx rfl rfl) ?_
   refine DW.y rfl rfl (X.idxRowE (k := 1) (L.length - 1) Tryz.runUnderlying28 Tryz.sizeOf23 rfl rfl rfl (by omega) (by first | omega | (simp; omega) | simp)) ?_
   refine DW.y rfl rfl (X.field Tryz.runUnderlying23 rfl Tryz.sizeOf3 rfl) ?_
   refine DW.ts rfl rfl rfl rfl (T.storeFp (k := 1) (i := L.length - 1) (off := 1) (us := [.int .i64 (max (((gt L (L.length - 1))).Hi) y)]) ((Span.mk (((gt L (L.length - 1))).Lo) (max (((gt L (L.length - 1))).Hi) y))) Tryz.sizeOf3 rfl rfl rfl rfl (Nat.zero_lt_succ _) rfl (by first | omega | (simp; omega) | simp) rfl rfl (one_cons rfl one_nil)) ?_
   refine DW.nil ?_
   refine WK.nThen ?_
   refine WC.ret ?_
   refine WK.rThen ?_
   refine WK.ret0 rfl (fun w' hw' => Ret.mut hw' ?_)
   exact ⟨rfl, v, (by rw [set_same hxv, mrg1_yes ⟨by omega, by dsimp only; omega⟩] <;> rfl), ho_⟩
  ·refine WL.y (X.pickT rfl rfl rfl) ?_
   refine WL.z ?_
   refine WC.condF rfl ?_
   refine WC.skip ?_
   refine WK.nThen ?_
   refine WC.region ?_
   refine WL.mv rfl ?_
   refine WL.mv rfl ?_
   refine WL.y (X.nilCheck rfl) ?_
   refine WL.y (X.field Tryz.runUnderlying184 rfl Tryz.sizeOf28 rfl) ?_
   refine WL.y (X.loadRow (k := 0) Tryz.isAgg28 rfl rfl hxv) ?_
   refine WL.mv rfl ?_
   refine WL.mv rfl ?_
   refine WL.y (V := Value.agg [.int .i64 (y), .int .i64 (y)].toArray) (X.build Tryz.zeroValue23 Tryz.runUnderlying23 (places23 _ Tryz.underlying23) rfl rfl) ?_
   refine WL.tl (T.lit1 sl28 rfl rfl rfl (by decide)) (by decide) fun b3 => ?_
   refine WL.ta (T.appendF (k := 1) (a := (Span.mk (y) (y))) sl28 rfl rfl rfl rfl (by first | omega | (simp; done) | (simp; omega)) (by decide)) (by decide) (fun v4 => ?_)
   refine WL.y (X.nilCheck rfl) ?_
   refine WL.y (X.field Tryz.runUnderlying184 rfl Tryz.sizeOf28 rfl) ?_
   refine WL.own1 (k := 1) rfl (fun ho5 => ?_)
   refine WL.ts (T.storeC (k := 0) Tryz.sizeOf28 rfl rfl rfl ho5 hoff) ?_
   refine WL.nil ?_
   refine WK.end0 rfl (fun w' hw' => Ret.mut hw' ?_)
   exact ⟨rfl, _, (by rw [mrg1_no (fun h_ => by have h1_ := h_.2; dsimp only at h1_; omega)] <;> rfl), ho5⟩
 ·refine WL.mv rfl ?_
  refine WL.no rfl rfl rfl (by decide) ?_
  refine WL.no rfl rfl rfl (by decide) ?_
  refine WL.no rfl rfl rfl (by decide) ?_
  refine WL.no rfl rfl rfl (by decide) ?_
  refine WL.no rfl rfl rfl (by decide) ?_
  refine WL.no rfl rfl rfl (by decide) ?_
  refine WL.no rfl rfl rfl (by decide) ?_
  refine WL.no rfl rfl rfl (by decide) ?_
  refine WL.no rfl rfl rfl (by decide) ?_
  refine WL.no rfl rfl rfl (by decide) ?_
  refine WL.no rfl rfl rfl (by decide) ?_
  refine WL.no rfl rfl rfl (by decide) ?_
  refine WL.y (X.pickF rfl rfl rfl) ?_
  refine WL.z ?_
  refine WC.condF rfl ?_
  refine WC.skip ?_
  refine WK.nThen ?_
  refine WC.region ?_
  refine WL.mv rfl ?_
  refine WL.mv rfl ?_
  refine WL.y (X.nilCheck rfl) ?_
  refine WL.y (X.field Tryz.runUnderlying184 rfl Tryz.sizeOf28 rfl) ?_
  refine WL.y (X.loadRow (k := 0) Tryz.isAgg28 rfl rfl hxv) ?_
  refine WL.mv rfl ?_
  refine WL.mv rfl ?_
  refine WL.y (V := Value.agg [.int .i64 (y), .int .i64 (y)].toArray) (X.build Tryz.zeroValue23 Tryz.runUnderlying23 (places23 _ Tryz.underlying23) rfl rfl) ?_
  refine WL.tl (T.lit1 sl28 rfl rfl rfl (by decide)) (by decide) fun b6 => ?_
  refine WL.ta (T.appendF (k := 1) (a := (Span.mk (y) (y))) sl28 rfl rfl rfl rfl (by first | omega | (simp; done) | (simp; omega)) (by decide)) (by decide) (fun v7 => ?_)
  refine WL.y (X.nilCheck rfl) ?_
  refine WL.y (X.field Tryz.runUnderlying184 rfl Tryz.sizeOf28 rfl) ?_
  refine WL.own1 (k := 1) rfl (fun ho8 => ?_)
  refine WL.ts (T.storeC (k := 0) Tryz.sizeOf28 rfl rfl rfl ho8 hoff) ?_
  refine WL.nil ?_
  refine WK.end0 rfl (fun w' hw' => Ret.mut hw' ?_)
  exact ⟨rfl, _, (by rw [mrg1_no (fun h_ => by have h1_ := h_.2; dsimp only at h1_; omega)] <;> rfl), ho8⟩

end Go.Proofs.T10
