/- Century: walks, eleventh part, by program. -/
import Derived.Test.YtednficclnjmjaaC8Know
import Derived.Test.YtednficclnjmjaaC8W10
namespace Go.Proofs.C8
open Go Go.Kx
set_option linter.unusedSimpArgs false

theorem lowest124 (m : Mem) (num : Int) (den : Int)  (hn : -4000000000000000000 ≤ num ∧ num ≤ 4000000000000000000) (hd : 0 < den ∧ den ≤ 4000000000000000000) : Exact Try.prog 124 #[.int .i64 (num), .int .i64 (den)] m (.agg [.int .i64 ((lowR num den).Num), .int .i64 ((lowR num den).Den)].toArray) := by
 refine Exact.start Try.func124 rfl Try.ntmps124 rfl fun wld => ?_
 refine WC.seq ?_
 refine WC.region ?_
 refine WL.tn (T.alloc Try.zeroValue45 rfl) (by decide) fun b1 => ?_
 refine WL.nil ?_
 refine WK.nThen ?_
 refine WC.seq ?_
 refine WC.region ?_
 refine WL.x (X.move rfl) (by decide) ?_
 refine WL.x (X.move rfl) (by decide) ?_
 refine WL.x (X.sub rfl rfl (by omega) (by omega)) (by decide) ?_
 refine WL.x (X.mx rfl rfl) (by decide) ?_
 refine WL.x (X.assign rfl) (by decide) ?_
 refine WL.nil ?_
 refine WK.nThen ?_
 refine WC.seq ?_
 refine WC.region ?_
 refine WL.x (X.move rfl) (by decide) ?_
 refine WL.x (X.assign rfl) (by decide) ?_
 refine WL.nil ?_
 refine WK.nThen ?_
 refine WC.seq ?_
 refine WC.block ?_
 refine WC.loop (G := Int × Int) (fun (x, y) => y.toNat) (fun (x, y) => m) (fun (x, y) => [blk b1 45 [.int .i64 (0), .int .i64 (0)]]) (fun (x, y) => [(0, .int .i64 (num)), (1, .int .i64 (den)), (4, .pointer (some ⟨b1, 0, none⟩)), (5, .int .i64 (x)), (6, .int .i64 (y))]) (fun (x, y) => (0 ≤ x ∧ x ≤ 4000000000000000000 ∧ 0 ≤ y ∧ y ≤ 4000000000000000000 ∧ (y = 0 → 0 < x)) ∧ Int.gcd x y = Int.gcd num den) ((max num (0 - num), den)) rfl (.refl _) (.cons rfl (.cons rfl (.cons rfl (.cons rfl (.cons rfl .nil))))) ?_ ?_
 ·exact ⟨by omega, by rw [Int.zero_sub]; exact gcd_max _ _⟩
 ·rintro ⟨x, y⟩ hF2
  show WK _ _ m [blk b1 45 [.int .i64 (0), .int .i64 (0)]] [(0, .int .i64 (num)), (1, .int .i64 (den)), (4, .pointer (some ⟨b1, 0, none⟩)), (5, .int .i64 (x)), (6, .int .i64 (y))] _
  replace hF2 : (0 ≤ x ∧ x ≤ 4000000000000000000 ∧ 0 ≤ y ∧ y ≤ 4000000000000000000 ∧ (y = 0 → 0 < x)) ∧ Int.gcd x y = Int.gcd num den := hF2
  obtain ⟨hxy, hgc⟩ := hF2
  have hmod : 0 < y → 0 ≤ x % y ∧ x % y < y := fun h => emod_bd h
  refine WC.seq ?_
  refine WC.seq ?_
  refine WC.region ?_
  refine WL.x (X.move rfl) (by decide) ?_
  refine WL.cond (X.gtr rfl rfl) (by decide) (fun h3 => ?_) (fun h3 => ?_)
  ·refine WL.nil ?_
   refine WK.nThen ?_
   refine WC.condT rfl ?_
   refine WC.skip ?_
   refine WK.nThen ?_
   refine WC.block ?_
   refine WC.seq ?_
   refine WC.region ?_
   refine WL.x (X.move rfl) (by decide) ?_
   refine WL.x (X.move rfl) (by decide) ?_
   refine WL.x (X.rem rfl rfl (by omega) (by omega)) (by decide) ?_
   refine WL.x (X.assign rfl) (by decide) ?_
   refine WL.nil ?_
   refine WK.nThen ?_
   refine WC.seq ?_
   refine WC.region ?_
   refine WL.x (X.move rfl) (by decide) ?_
   refine WL.x (X.assign rfl) (by decide) ?_
   refine WL.nil ?_
   refine WK.nThen ?_
   refine WC.region ?_
   refine WL.x (X.move rfl) (by decide) ?_
   refine WL.x (X.assign rfl) (by decide) ?_
   refine WL.nil ?_
   refine WK.nBlock ?_
   refine WK.nThen ?_
   refine WK.next ((y, x % y)) rfl (.refl _) (.cons rfl (.cons rfl (.cons rfl (.cons rfl (.cons rfl .nil))))) ?_ ?_
   ·exact ⟨by have := hmod (by omega); omega, by rw [gcd_rem]; exact hgc⟩
   ·(dsimp only; have := hmod (by omega); omega)
  ·refine WL.nil ?_
   refine WK.nThen ?_
   refine WC.condF rfl ?_
   refine WC.exit ?_
   refine WK.eThen ?_
   refine WK.eThen ?_
   refine WK.eHit ?_
   refine WK.nThen ?_
   refine WC.seq ?_
   have hg : x = ↑(Int.gcd num den) := (by rw [← hgc, show y = 0 by omega, gcd_zero (by omega)])
   have hq1 := tdiv_bd (b := x) (B := 4000000000000000000) (show -4000000000000000000 ≤ num ∧ num ≤ 4000000000000000000 by omega)
   have hq2 := tdiv_bd (b := x) (B := 4000000000000000000) (show -4000000000000000000 ≤ den ∧ den ≤ 4000000000000000000 by omega)
   refine WC.draw (π := (.cons 0 (.cons 1 (.cons 2 (.cons 3 (.cons 4 (.cons 5 (.cons 6 (.cons 7 .done))))))))) [7] [7] rfl (by kernel_rfl) ?_
   refine DW.x rfl rfl (X.move rfl) (by decide) ?_
   refine DW.x rfl rfl (X.move rfl) (by decide) ?_
   refine DW.x rfl rfl (X.quoT rfl rfl (by omega) (by omega) (by omega)) (by decide) ?_
   refine DW.x rfl rfl (X.move rfl) (by decide) ?_
   refine DW.x rfl rfl (X.move rfl) (by decide) ?_
   refine DW.x rfl rfl (X.quoT rfl rfl (by omega) (by omega) (by omega)) (by decide) ?_
   refine DW.x (V := Value.agg [.int .i64 (Int.tdiv num x), .int .i64 (Int.tdiv den x)].toArray) rfl rfl (X.build Try.zeroValue45 Try.runUnderlying45 (places45 _ Try.underlying45) rfl rfl) (by decide) ?_
   refine DW.ts rfl rfl rfl rfl (T.storeBA (k := 0) Try.sizeOf45 rfl rfl rfl (one_cons rfl (one_cons rfl one_nil)) rfl rfl) ?_
   refine DW.nil ?_
   refine WK.nThen ?_
   refine WC.ret ?_
   refine WK.retC1 0 rfl rfl rfl Try.isAgg45 Try.sizeOf45 (fun w' hw' => Ret.exact hw' ?_)
   exact agg2i (by unfold lowR; rw [hg]) (by unfold lowR; rw [hg])

end Go.Proofs.C8
