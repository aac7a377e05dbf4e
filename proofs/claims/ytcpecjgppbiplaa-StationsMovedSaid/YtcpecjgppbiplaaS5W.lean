/- Stations: walks, by program. -/
import Derived.Test.YtcpecjgppbiplaaS5Spec
namespace Go.Proofs.S5
open Go Go.Kx

theorem within65 (m : Mem) (n : Int) (lo : Int) (hi : Int)   : Exact Try.prog 65 #[.int .i64 (n), .int .i64 (lo), .int .i64 (hi)] m (.bool (decide (lo ≤ n ∧ n ≤ hi))) := by
  refine Exact.start Try.func65 rfl Try.ntmps65 rfl fun wld => ?_
  refine WC.seq ?_
  refine WC.region ?_
  refine WL.x (X.assign rfl) (by decide) ?_
  refine WL.nil ?_
  refine WK.nThen ?_
  refine WC.seq ?_
  refine WC.region ?_
  refine WL.x (X.move rfl) (by decide) ?_
  refine WL.x (X.move rfl) (by decide) ?_
  refine WL.cond (X.geq rfl rfl) (by decide) (fun h1 => ?_) (fun h1 => ?_)
  · refine WL.x (X.move rfl) (by decide) ?_
    refine WL.yes rfl rfl ?_
    refine WL.x (X.move rfl) (by decide) ?_
    refine WL.yes rfl rfl ?_
    refine WL.x (X.move rfl) (by decide) ?_
    refine WL.yes rfl rfl ?_
    refine WL.x (X.leq rfl rfl) (by decide) ?_
    refine WL.x (X.pickT rfl rfl rfl) (by decide) ?_
    refine WL.x (X.assign rfl) (by decide) ?_
    refine WL.nil ?_
    refine WK.nThen ?_
    refine WC.ret ?_
    refine WK.ret1 rfl rfl (fun w' hw' => Ret.exact hw' ?_)
    first | exact bool_true (by omega) | exact bool_false (by omega) | exact dec_eq (by omega)
  · refine WL.x (X.move rfl) (by decide) ?_
    refine WL.no rfl rfl rfl (by decide) ?_
    refine WL.no rfl rfl rfl (by decide) ?_
    refine WL.no rfl rfl rfl (by decide) ?_
    refine WL.x (X.pickF rfl rfl rfl) (by decide) ?_
    refine WL.x (X.assign rfl) (by decide) ?_
    refine WL.nil ?_
    refine WK.nThen ?_
    refine WC.ret ?_
    refine WK.ret1 rfl rfl (fun w' hw' => Ret.exact hw' ?_)
    first | exact bool_true (by omega) | exact bool_false (by omega) | exact dec_eq (by omega)

theorem sameInts24 (m : Mem) (va : Value) (a : List Int) (ha : Sl m va a) (vb : Value) (b : List Int) (hb : Sl m vb b)   : Exact Try.prog 24 #[va, vb] m (.bool (decide (a = b))) := by
  have la := ha.le
  have lb := hb.le
  refine Exact.start Try.func24 rfl Try.ntmps24 rfl fun wld => ?_
  refine WC.seq ?_
  refine WC.region ?_
  refine WL.x (X.assign rfl) (by decide) ?_
  refine WL.nil ?_
  refine WK.nThen ?_
  refine WC.seq ?_
  refine WC.seq ?_
  refine WC.region ?_
  refine WL.x (X.move rfl) (by decide) ?_
  refine WL.x (X.len Try.runUnderlying31 rfl ha) (by decide) ?_
  refine WL.x (X.move rfl) (by decide) ?_
  refine WL.x (X.len Try.runUnderlying31 rfl hb) (by decide) ?_
  refine WL.condn (X.neq rfl rfl) (by decide) (fun h1 => ?_) (fun h1 => ?_)
  · refine WL.nil ?_
    refine WK.nThen ?_
    refine WC.condT rfl ?_
    refine WC.seq ?_
    refine WC.region ?_
    refine WL.x (X.assign rfl) (by decide) ?_
    refine WL.nil ?_
    refine WK.nThen ?_
    refine WC.ret ?_
    refine WK.rThen ?_
    refine WK.ret1 rfl rfl (fun w' hw' => Ret.exact hw' ?_)
    exact bool_false (fun e => by subst e; omega)
  · refine WL.nil ?_
    refine WK.nThen ?_
    refine WC.condF rfl ?_
    refine WC.skip ?_
    refine WK.nThen ?_
    refine WC.seq ?_
    refine WC.seq ?_
    refine WC.region ?_
    refine WL.x (X.assign rfl) (by decide) ?_
    refine WL.nil ?_
    refine WK.nThen ?_
    refine WC.block ?_
    refine WC.loop (G := Nat) (fun k => a.length - k) (fun k => m) (fun k => []) (fun k => [(0, va), (1, vb), (5, .int .i64 (↑k))]) (fun k => k ≤ a.length ∧ (∀ j, j < k → gt a j = gt b j)) 0 rfl (.refl _) (.cons rfl (.cons rfl (.cons rfl .nil))) ?_ ?_
    · exact ⟨Nat.zero_le _, fun j hj => absurd hj (Nat.not_lt_zero _)⟩
    · rintro k hF2
      show WK _ _ m [] [(0, va), (1, vb), (5, .int .i64 (↑k))] _
      replace hF2 : k ≤ a.length ∧ (∀ j, j < k → gt a j = gt b j) := hF2
      obtain ⟨hk, hall⟩ := hF2
      refine WC.seq ?_
      refine WC.seq ?_
      refine WC.region ?_
      refine WL.x (X.move rfl) (by decide) ?_
      refine WL.x (X.move rfl) (by decide) ?_
      refine WL.x (X.len Try.runUnderlying31 rfl ha) (by decide) ?_
      refine WL.cond (X.lss rfl rfl) (by decide) (fun h3 => ?_) (fun h3 => ?_)
      · refine WL.nil ?_
        refine WK.nThen ?_
        refine WC.condT rfl ?_
        refine WC.skip ?_
        refine WK.nThen ?_
        refine WC.seq ?_
        refine WC.block ?_
        refine WC.seq ?_
        refine WC.draw (π := (.cons 0 (.cons 1 (.cons 2 (.cons 3 (.cons 4 (.cons 5 (.cons 6 (.cons 7 (.cons 8 .done)))))))))) [] [] rfl (by kernel_rfl) ?_
        refine DW.x rfl rfl (X.move rfl) (by decide) ?_
        refine DW.x rfl rfl (X.move rfl) (by decide) ?_
        refine DW.xe rfl rfl (E.idxN k Try.runUnderlying31 Try.sizeOf3 rfl rfl ha (by omega)) (by decide) (fun p4 hp5 => ?_)
        refine DW.x rfl rfl (X.loadInt Try.isAgg3 rfl hp5) (by decide) ?_
        refine DW.x rfl rfl (X.move rfl) (by decide) ?_
        refine DW.x rfl rfl (X.move rfl) (by decide) ?_
        refine DW.xe rfl rfl (E.idxN k Try.runUnderlying31 Try.sizeOf3 rfl rfl hb (by omega)) (by decide) (fun p6 hp7 => ?_)
        refine DW.x rfl rfl (X.loadInt Try.isAgg3 rfl hp7) (by decide) ?_
        refine DW.condn rfl rfl (X.neq rfl rfl) (by decide) (fun h8 => ?_) (fun h8 => ?_)
        · refine DW.nil ?_
          refine WK.nThen ?_
          refine WC.condT rfl ?_
          refine WC.seq ?_
          refine WC.region ?_
          refine WL.x (X.assign rfl) (by decide) ?_
          refine WL.nil ?_
          refine WK.nThen ?_
          refine WC.ret ?_
          refine WK.rBlock ?_
          refine WK.rThen ?_
          refine WK.rThen ?_
          refine WK.rBlock ?_
          refine WK.rThen ?_
          refine WK.ret1 rfl rfl (fun w' hw' => Ret.exact hw' ?_)
          exact bool_false (fun e => by subst e; contradiction)
        · refine DW.nil ?_
          refine WK.nThen ?_
          refine WC.condF rfl ?_
          refine WC.skip ?_
          refine WK.nBlock ?_
          refine WK.nThen ?_
          refine WC.region ?_
          refine WL.x (X.move rfl) (by decide) ?_
          refine WL.x (X.add rfl rfl (by omega) (by omega)) (by decide) ?_
          refine WL.x (X.assign rfl) (by decide) ?_
          refine WL.nil ?_
          refine WK.nThen ?_
          refine WK.next (k + 1) rfl (.refl _) (.cons rfl (.cons rfl (.cons rfl .nil))) ?_ ?_
          · exact ⟨by omega, fun j hj => by rcases Nat.lt_succ_iff_lt_or_eq.1 hj with h | h; exact hall j h; subst h; assumption⟩
          · omega
      · refine WL.nil ?_
        refine WK.nThen ?_
        refine WC.condF rfl ?_
        refine WC.exit ?_
        refine WK.eThen ?_
        refine WK.eThen ?_
        refine WK.eHit ?_
        refine WK.nThen ?_
        refine WC.seq ?_
        refine WC.region ?_
        refine WL.x (X.assign rfl) (by decide) ?_
        refine WL.nil ?_
        refine WK.nThen ?_
        refine WC.ret ?_
        refine WK.ret1 rfl rfl (fun w' hw' => Ret.exact hw' ?_)
        exact bool_true (ext_gt (by omega) (fun j hj => hall j (by omega)))

theorem checkWind47 (m : Mem) (cw : List Value) (w : Wind) (hw : Enc.rd m cw w)   : Exact Try.prog 47 #[.agg cw.toArray] m (.int .i64 (windE w)) := by
  obtain rfl := hw
  refine Exact.start Try.func47 rfl Try.ntmps47 rfl fun wld => ?_
  refine WC.seq ?_
  refine WC.region ?_
  refine WL.tn (T.boxB rfl rfl) (by decide) fun b1 => ?_
  refine WL.x (X.assign rfl) (by decide) ?_
  refine WL.nil ?_
  refine WK.nThen ?_
  refine WC.seq ?_
  refine WC.seq ?_
  refine WC.region ?_
  refine WL.x (X.field Try.runUnderlying23 rfl Try.sizeOf3 rfl) (by decide) ?_
  refine WL.x (X.loadB (k := 0) Try.isAgg3 rfl rfl rfl) (by decide) ?_
  refine WL.cond (X.call Try.call65 rfl (within65 _ _ _ _ )) (by decide) (fun h2 => ?_) (fun h2 => ?_)
  · refine WL.x (X.not rfl) (by decide) ?_
    refine WL.x (X.move rfl) (by decide) ?_
    refine WL.yes rfl rfl ?_
    refine WL.x (X.field Try.runUnderlying23 rfl Try.sizeOf3 rfl) (by decide) ?_
    refine WL.yes rfl rfl ?_
    refine WL.x (X.loadB (k := 0) Try.isAgg3 rfl rfl rfl) (by decide) ?_
    refine WL.yes rfl rfl ?_
    refine WL.cond (X.call Try.call65 rfl (within65 _ _ _ _ )) (by decide) (fun h3 => ?_) (fun h3 => ?_)
    · refine WL.yes rfl rfl ?_
      refine WL.x (X.not rfl) (by decide) ?_
      refine WL.x (X.pickF rfl rfl rfl) (by decide) ?_
      refine WL.nil ?_
      refine WK.nThen ?_
      refine WC.condF rfl ?_
      refine WC.skip ?_
      refine WK.nThen ?_
      refine WC.seq ?_
      refine WC.region ?_
      refine WL.x (X.assign rfl) (by decide) ?_
      refine WL.nil ?_
      refine WK.nThen ?_
      refine WC.ret ?_
      refine WK.ret1 rfl rfl (fun w' hw' => Ret.exact hw' ?_)
      first | exact int_eq (by simp only [windE]; rw [if_pos (by omega)]) | exact int_eq (by simp only [windE]; rw [if_neg (by omega)])
    · refine WL.yes rfl rfl ?_
      refine WL.x (X.not rfl) (by decide) ?_
      refine WL.x (X.pickF rfl rfl rfl) (by decide) ?_
      refine WL.nil ?_
      refine WK.nThen ?_
      refine WC.condT rfl ?_
      refine WC.seq ?_
      refine WC.region ?_
      refine WL.x (X.assign rfl) (by decide) ?_
      refine WL.nil ?_
      refine WK.nThen ?_
      refine WC.ret ?_
      refine WK.rThen ?_
      refine WK.ret1 rfl rfl (fun w' hw' => Ret.exact hw' ?_)
      first | exact int_eq (by simp only [windE]; rw [if_pos (by omega)]) | exact int_eq (by simp only [windE]; rw [if_neg (by omega)])
  · refine WL.x (X.not rfl) (by decide) ?_
    refine WL.x (X.move rfl) (by decide) ?_
    refine WL.no rfl rfl rfl (by decide) ?_
    refine WL.no rfl rfl rfl (by decide) ?_
    refine WL.no rfl rfl rfl (by decide) ?_
    refine WL.no rfl rfl rfl (by decide) ?_
    refine WL.x (X.pickT rfl rfl rfl) (by decide) ?_
    refine WL.nil ?_
    refine WK.nThen ?_
    refine WC.condT rfl ?_
    refine WC.seq ?_
    refine WC.region ?_
    refine WL.x (X.assign rfl) (by decide) ?_
    refine WL.nil ?_
    refine WK.nThen ?_
    refine WC.ret ?_
    refine WK.rThen ?_
    refine WK.ret1 rfl rfl (fun w' hw' => Ret.exact hw' ?_)
    first | exact int_eq (by simp only [windE]; rw [if_pos (by omega)]) | exact int_eq (by simp only [windE]; rw [if_neg (by omega)])

theorem high90 (m : Mem) (vl : Value) (l : List Height) (hl : Sl m vl l)   : Exact Try.prog 90 #[vl] m (.bool (decide (highOk l))) := by
  have ll := hl.le
  refine Exact.start Try.func90 rfl Try.ntmps90 rfl fun wld => ?_
  refine WC.seq ?_
  refine WC.region ?_
  refine WL.x (X.assign rfl) (by decide) ?_
  refine WL.nil ?_
  refine WK.nThen ?_
  refine WC.seq ?_
  refine WC.seq ?_
  refine WC.region ?_
  refine WL.x (X.move rfl) (by decide) ?_
  refine WL.x (X.len Try.runUnderlying56 rfl hl) (by decide) ?_
  refine WL.x (X.move rfl) (by decide) ?_
  refine WL.nil ?_
  refine WK.nThen ?_
  refine WC.block ?_
  refine WC.loop (G := Nat) (fun k => l.length - k) (fun k => m) (fun k => []) (fun k => [(0, vl), (5, vl), (6, .int .i64 (↑l.length)), (7, .int .i64 (↑k))]) (fun k => k ≤ l.length ∧ (∀ j, j < k → heightAt l j)) 0 rfl (.refl _) (.cons rfl (.cons rfl (.cons rfl (.cons rfl .nil)))) ?_ ?_
  · exact ⟨Nat.zero_le _, fun j hj => absurd hj (Nat.not_lt_zero _)⟩
  · rintro k hF1
    show WK _ _ m [] [(0, vl), (5, vl), (6, .int .i64 (↑l.length)), (7, .int .i64 (↑k))] _
    replace hF1 : k ≤ l.length ∧ (∀ j, j < k → heightAt l j) := hF1
    obtain ⟨hk, hall⟩ := hF1
    refine WC.seq ?_
    refine WC.region ?_
    refine WL.cond (X.lss rfl rfl) (by decide) (fun h2 => ?_) (fun h2 => ?_)
    · refine WL.nil ?_
      refine WK.nThen ?_
      refine WC.seq ?_
      refine WC.condT rfl ?_
      refine WC.skip ?_
      refine WK.nThen ?_
      refine WC.seq ?_
      refine WC.block ?_
      refine WC.seq ?_
      refine WC.region ?_
      refine WL.x (X.move rfl) (by decide) ?_
      refine WL.xe (E.idxN k Try.runUnderlying56 Try.sizeOf71 rfl rfl hl (by omega)) (by decide) (fun p3 hp4 => ?_)
      refine WL.xe (E.loadAgg Try.isAgg71 Try.sizeOf71 rfl hp4) (by decide) (fun c5 hc6 => ?_)
      obtain rfl := hc6
      refine WL.tn (T.alloc Try.zeroValue71 rfl) (by decide) fun b7 => ?_
      refine WL.x (X.assign rfl) (by decide) ?_
      refine WL.ts (T.storeBA (k := 0) Try.sizeOf71 rfl rfl rfl (one_cons rfl (one_cons rfl (one_cons rfl one_nil))) rfl rfl) ?_
      refine WL.nil ?_
      refine WK.nThen ?_
      refine WC.seq ?_
      refine WC.draw (π := (.cons 0 (.cons 1 (.cons 2 (.cons 3 (.cons 4 (.cons 5 (.cons 6 (.cons 7 (.cons 8 (.cons 9 (.cons 10 (.cons 11 (.cons 12 (.cons 13 (.cons 14 (.cons 15 (.cons 16 (.cons 17 (.cons 18 (.cons 19 (.cons 20 (.cons 21 (.cons 22 (.cons 23 (.cons 24 (.cons 25 (.cons 26 (.cons 27 (.cons 28 (.cons 29 (.cons 30 (.cons 31 (.cons 32 (.cons 33 (.cons 34 (.cons 35 (.cons 36 (.cons 37 (.cons 38 (.cons 39 (.cons 40 (.cons 41 (.cons 42 .done)))))))))))))))))))))))))))))))))))))))))))) [] [] rfl (by kernel_rfl) ?_
      refine DW.x rfl rfl (X.move rfl) (by decide) ?_
      refine DW.cond rfl rfl (X.eql rfl rfl) (by decide) (fun h8 => ?_) (fun h8 => ?_)
      · refine DW.x rfl rfl (X.move rfl) (by decide) ?_
        refine DW.x rfl rfl (X.field Try.runUnderlying71 rfl Try.sizeOf3 rfl) (by decide) ?_
        refine DW.x rfl rfl (X.loadB (k := 0) Try.isAgg3 rfl rfl rfl) (by decide) ?_
        refine DW.condn rfl rfl (X.neq rfl rfl) (by decide) (fun h9 => ?_) (fun h9 => ?_)
        · refine DW.x rfl rfl (X.pickT rfl rfl rfl) (by decide) ?_
          refine DW.x rfl rfl (X.move rfl) (by decide) ?_
          refine DW.no rfl rfl (by decide) ?_
          refine DW.no rfl rfl (by decide) ?_
          refine DW.no rfl rfl (by decide) ?_
          refine DW.no rfl rfl (by decide) ?_
          refine DW.no rfl rfl (by decide) ?_
          refine DW.no rfl rfl (by decide) ?_
          refine DW.no rfl rfl (by decide) ?_
          refine DW.no rfl rfl (by decide) ?_
          refine DW.no rfl rfl (by decide) ?_
          refine DW.no rfl rfl (by decide) ?_
          refine DW.no rfl rfl (by decide) ?_
          refine DW.no rfl rfl (by decide) ?_
          refine DW.no rfl rfl (by decide) ?_
          refine DW.x rfl rfl (X.pickT rfl rfl rfl) (by decide) ?_
          refine DW.x rfl rfl (X.move rfl) (by decide) ?_
          refine DW.no rfl rfl (by decide) ?_
          refine DW.no rfl rfl (by decide) ?_
          refine DW.no rfl rfl (by decide) ?_
          refine DW.x rfl rfl (X.pickT rfl rfl rfl) (by decide) ?_
          refine DW.x rfl rfl (X.move rfl) (by decide) ?_
          refine DW.no rfl rfl (by decide) ?_
          refine DW.no rfl rfl (by decide) ?_
          refine DW.no rfl rfl (by decide) ?_
          refine DW.no rfl rfl (by decide) ?_
          refine DW.no rfl rfl (by decide) ?_
          refine DW.no rfl rfl (by decide) ?_
          refine DW.no rfl rfl (by decide) ?_
          refine DW.no rfl rfl (by decide) ?_
          refine DW.x rfl rfl (X.pickT rfl rfl rfl) (by decide) ?_
          refine DW.x rfl rfl (X.move rfl) (by decide) ?_
          refine DW.no rfl rfl (by decide) ?_
          refine DW.no rfl rfl (by decide) ?_
          refine DW.no rfl rfl (by decide) ?_
          refine DW.no rfl rfl (by decide) ?_
          refine DW.x rfl rfl (X.pickT rfl rfl rfl) (by decide) ?_
          refine DW.nil ?_
          refine WK.nThen ?_
          refine WC.condT rfl ?_
          refine WC.seq ?_
          refine WC.region ?_
          refine WL.x (X.assign rfl) (by decide) ?_
          refine WL.nil ?_
          refine WK.nThen ?_
          refine WC.ret ?_
          refine WK.rBlock ?_
          refine WK.rThen ?_
          refine WK.rThen ?_
          refine WK.rBlock ?_
          refine WK.rThen ?_
          refine WK.ret1 rfl rfl (fun w' hw' => Ret.exact hw' ?_)
          first | exact bool_false (fun h => by have := h.2 k (by omega); unfold heightAt at this; omega) | exact dec_eq ⟨fun h => ⟨by omega, fun j hj => hall j (by omega)⟩, fun h => by have := h.1; omega⟩
        · refine DW.x rfl rfl (X.pickT rfl rfl rfl) (by decide) ?_
          refine DW.x rfl rfl (X.move rfl) (by decide) ?_
          refine DW.x rfl rfl (X.move rfl) (by decide) ?_
          refine DW.cond rfl rfl (X.gtr rfl rfl) (by decide) (fun h10 => ?_) (fun h10 => ?_)
          · refine DW.x rfl rfl (X.move rfl) (by decide) ?_
            refine DW.x rfl rfl (X.field Try.runUnderlying71 rfl Try.sizeOf3 rfl) (by decide) ?_
            refine DW.x rfl rfl (X.loadB (k := 0) Try.isAgg3 rfl rfl rfl) (by decide) ?_
            refine DW.x rfl rfl (X.move rfl) (by decide) ?_
            refine DW.x rfl rfl (X.move rfl) (by decide) ?_
            refine DW.x rfl rfl (X.sub rfl rfl (by omega) (by omega)) (by decide) ?_
            refine DW.xe rfl rfl (E.idxE (k - 1) Try.runUnderlying56 Try.sizeOf71 rfl rfl hl (by omega) (by omega)) (by decide) (fun p11 hp12 => ?_)
            have hp13 := At.Height_0 hp12
            refine DW.x rfl rfl (X.field Try.runUnderlying71 rfl Try.sizeOf3 rfl) (by decide) ?_
            refine DW.x rfl rfl (X.loadInt Try.isAgg3 rfl hp13) (by decide) ?_
            refine DW.cond rfl rfl (X.leq rfl rfl) (by decide) (fun h14 => ?_) (fun h14 => ?_)
            · refine DW.x rfl rfl (X.pickT rfl rfl rfl) (by decide) ?_
              refine DW.x rfl rfl (X.pickF rfl rfl rfl) (by decide) ?_
              refine DW.x rfl rfl (X.move rfl) (by decide) ?_
              refine DW.no rfl rfl (by decide) ?_
              refine DW.no rfl rfl (by decide) ?_
              refine DW.no rfl rfl (by decide) ?_
              refine DW.x rfl rfl (X.pickT rfl rfl rfl) (by decide) ?_
              refine DW.x rfl rfl (X.move rfl) (by decide) ?_
              refine DW.no rfl rfl (by decide) ?_
              refine DW.no rfl rfl (by decide) ?_
              refine DW.no rfl rfl (by decide) ?_
              refine DW.no rfl rfl (by decide) ?_
              refine DW.no rfl rfl (by decide) ?_
              refine DW.no rfl rfl (by decide) ?_
              refine DW.no rfl rfl (by decide) ?_
              refine DW.no rfl rfl (by decide) ?_
              refine DW.x rfl rfl (X.pickT rfl rfl rfl) (by decide) ?_
              refine DW.x rfl rfl (X.move rfl) (by decide) ?_
              refine DW.no rfl rfl (by decide) ?_
              refine DW.no rfl rfl (by decide) ?_
              refine DW.no rfl rfl (by decide) ?_
              refine DW.no rfl rfl (by decide) ?_
              refine DW.x rfl rfl (X.pickT rfl rfl rfl) (by decide) ?_
              refine DW.nil ?_
              refine WK.nThen ?_
              refine WC.condT rfl ?_
              refine WC.seq ?_
              refine WC.region ?_
              refine WL.x (X.assign rfl) (by decide) ?_
              refine WL.nil ?_
              refine WK.nThen ?_
              refine WC.ret ?_
              refine WK.rBlock ?_
              refine WK.rThen ?_
              refine WK.rThen ?_
              refine WK.rBlock ?_
              refine WK.rThen ?_
              refine WK.ret1 rfl rfl (fun w' hw' => Ret.exact hw' ?_)
              first | exact bool_false (fun h => by have := h.2 k (by omega); unfold heightAt at this; omega) | exact dec_eq ⟨fun h => ⟨by omega, fun j hj => hall j (by omega)⟩, fun h => by have := h.1; omega⟩
            · refine DW.x rfl rfl (X.pickT rfl rfl rfl) (by decide) ?_
              refine DW.x rfl rfl (X.pickF rfl rfl rfl) (by decide) ?_
              refine DW.x rfl rfl (X.move rfl) (by decide) ?_
              refine DW.x rfl rfl (X.field Try.runUnderlying71 rfl Try.sizeOf3 rfl) (by decide) ?_
              refine DW.x rfl rfl (X.loadB (k := 0) Try.isAgg3 rfl rfl rfl) (by decide) ?_
              refine DW.cond rfl rfl (X.gtr rfl rfl) (by decide) (fun h15 => ?_) (fun h15 => ?_)
              · refine DW.x rfl rfl (X.pickF rfl rfl rfl) (by decide) ?_
                refine DW.x rfl rfl (X.move rfl) (by decide) ?_
                refine DW.no rfl rfl (by decide) ?_
                refine DW.no rfl rfl (by decide) ?_
                refine DW.no rfl rfl (by decide) ?_
                refine DW.no rfl rfl (by decide) ?_
                refine DW.no rfl rfl (by decide) ?_
                refine DW.no rfl rfl (by decide) ?_
                refine DW.no rfl rfl (by decide) ?_
                refine DW.no rfl rfl (by decide) ?_
                refine DW.x rfl rfl (X.pickT rfl rfl rfl) (by decide) ?_
                refine DW.x rfl rfl (X.move rfl) (by decide) ?_
                refine DW.no rfl rfl (by decide) ?_
                refine DW.no rfl rfl (by decide) ?_
                refine DW.no rfl rfl (by decide) ?_
                refine DW.no rfl rfl (by decide) ?_
                refine DW.x rfl rfl (X.pickT rfl rfl rfl) (by decide) ?_
                refine DW.nil ?_
                refine WK.nThen ?_
                refine WC.condT rfl ?_
                refine WC.seq ?_
                refine WC.region ?_
                refine WL.x (X.assign rfl) (by decide) ?_
                refine WL.nil ?_
                refine WK.nThen ?_
                refine WC.ret ?_
                refine WK.rBlock ?_
                refine WK.rThen ?_
                refine WK.rThen ?_
                refine WK.rBlock ?_
                refine WK.rThen ?_
                refine WK.ret1 rfl rfl (fun w' hw' => Ret.exact hw' ?_)
                first | exact bool_false (fun h => by have := h.2 k (by omega); unfold heightAt at this; omega) | exact dec_eq ⟨fun h => ⟨by omega, fun j hj => hall j (by omega)⟩, fun h => by have := h.1; omega⟩
              · refine DW.x rfl rfl (X.pickF rfl rfl rfl) (by decide) ?_
                refine DW.x rfl rfl (X.move rfl) (by decide) ?_
                refine DW.x rfl rfl (X.field Try.runUnderlying71 rfl Try.sizeOf49 rfl) (by decide) ?_
                refine DW.x rfl rfl (X.field Try.runUnderlying49 rfl Try.sizeOf3 rfl) (by decide) ?_
                refine DW.x rfl rfl (X.loadB (k := 0) Try.isAgg3 rfl rfl rfl) (by decide) ?_
                refine DW.x rfl rfl (X.field Try.runUnderlying71 rfl Try.sizeOf49 rfl) (by decide) ?_
                refine DW.x rfl rfl (X.field Try.runUnderlying49 rfl Try.sizeOf3 rfl) (by decide) ?_
                refine DW.x rfl rfl (X.loadB (k := 0) Try.isAgg3 rfl rfl rfl) (by decide) ?_
                refine DW.cond rfl rfl (X.call Try.call65 rfl (within65 _ _ _ _ )) (by decide) (fun h16 => ?_) (fun h16 => ?_)
                · refine DW.x rfl rfl (X.not rfl) (by decide) ?_
                  refine DW.x rfl rfl (X.pickF rfl rfl rfl) (by decide) ?_
                  refine DW.x rfl rfl (X.move rfl) (by decide) ?_
                  refine DW.x rfl rfl (X.field Try.runUnderlying71 rfl Try.sizeOf49 rfl) (by decide) ?_
                  refine DW.x rfl rfl (X.field Try.runUnderlying49 rfl Try.sizeOf3 rfl) (by decide) ?_
                  refine DW.x rfl rfl (X.loadB (k := 0) Try.isAgg3 rfl rfl rfl) (by decide) ?_
                  refine DW.cond rfl rfl (X.gtr rfl rfl) (by decide) (fun h17 => ?_) (fun h17 => ?_)
                  · refine DW.x rfl rfl (X.pickF rfl rfl rfl) (by decide) ?_
                    refine DW.nil ?_
                    refine WK.nThen ?_
                    refine WC.condT rfl ?_
                    refine WC.seq ?_
                    refine WC.region ?_
                    refine WL.x (X.assign rfl) (by decide) ?_
                    refine WL.nil ?_
                    refine WK.nThen ?_
                    refine WC.ret ?_
                    refine WK.rBlock ?_
                    refine WK.rThen ?_
                    refine WK.rThen ?_
                    refine WK.rBlock ?_
                    refine WK.rThen ?_
                    refine WK.ret1 rfl rfl (fun w' hw' => Ret.exact hw' ?_)
                    first | exact bool_false (fun h => by have := h.2 k (by omega); unfold heightAt at this; omega) | exact dec_eq ⟨fun h => ⟨by omega, fun j hj => hall j (by omega)⟩, fun h => by have := h.1; omega⟩
                  · refine DW.x rfl rfl (X.pickF rfl rfl rfl) (by decide) ?_
                    refine DW.nil ?_
                    refine WK.nThen ?_
                    refine WC.condF rfl ?_
                    refine WC.skip ?_
                    refine WK.nBlock ?_
                    refine WK.nThen ?_
                    refine WC.region ?_
                    refine WL.x (X.add rfl rfl (by omega) (by omega)) (by decide) ?_
                    refine WL.x (X.move rfl) (by decide) ?_
                    refine WL.nil ?_
                    refine WK.nThen ?_
                    refine WK.next (k + 1) rfl (.cons _ .slnil) (.cons rfl (.cons rfl (.cons rfl (.cons rfl .nil)))) ?_ ?_
                    · exact ⟨by omega, fun j hj => by rcases Nat.lt_succ_iff_lt_or_eq.1 hj with h | h; exact hall j h; subst h; (unfold heightAt; omega)⟩
                    · omega
                · refine DW.x rfl rfl (X.not rfl) (by decide) ?_
                  refine DW.x rfl rfl (X.pickF rfl rfl rfl) (by decide) ?_
                  refine DW.x rfl rfl (X.move rfl) (by decide) ?_
                  refine DW.no rfl rfl (by decide) ?_
                  refine DW.no rfl rfl (by decide) ?_
                  refine DW.no rfl rfl (by decide) ?_
                  refine DW.no rfl rfl (by decide) ?_
                  refine DW.x rfl rfl (X.pickT rfl rfl rfl) (by decide) ?_
                  refine DW.nil ?_
                  refine WK.nThen ?_
                  refine WC.condT rfl ?_
                  refine WC.seq ?_
                  refine WC.region ?_
                  refine WL.x (X.assign rfl) (by decide) ?_
                  refine WL.nil ?_
                  refine WK.nThen ?_
                  refine WC.ret ?_
                  refine WK.rBlock ?_
                  refine WK.rThen ?_
                  refine WK.rThen ?_
                  refine WK.rBlock ?_
                  refine WK.rThen ?_
                  refine WK.ret1 rfl rfl (fun w' hw' => Ret.exact hw' ?_)
                  first | exact bool_false (fun h => by have := h.2 k (by omega); unfold heightAt at this; omega) | exact dec_eq ⟨fun h => ⟨by omega, fun j hj => hall j (by omega)⟩, fun h => by have := h.1; omega⟩
          · refine DW.x rfl rfl (X.move rfl) (by decide) ?_
            refine DW.no rfl rfl (by decide) ?_
            refine DW.no rfl rfl (by decide) ?_
            refine DW.no rfl rfl (by decide) ?_
            refine DW.no rfl rfl (by decide) ?_
            refine DW.no rfl rfl (by decide) ?_
            refine DW.no rfl rfl (by decide) ?_
            refine DW.no rfl rfl (by decide) ?_
            refine DW.no rfl rfl (by decide) ?_
            refine DW.no rfl rfl (by decide) ?_
            refine DW.x rfl rfl (X.pickF rfl rfl rfl) (by decide) ?_
            refine DW.x rfl rfl (X.pickF rfl rfl rfl) (by decide) ?_
            refine DW.x rfl rfl (X.move rfl) (by decide) ?_
            refine DW.x rfl rfl (X.field Try.runUnderlying71 rfl Try.sizeOf3 rfl) (by decide) ?_
            refine DW.x rfl rfl (X.loadB (k := 0) Try.isAgg3 rfl rfl rfl) (by decide) ?_
            refine DW.cond rfl rfl (X.gtr rfl rfl) (by decide) (fun h18 => ?_) (fun h18 => ?_)
            · refine DW.x rfl rfl (X.pickF rfl rfl rfl) (by decide) ?_
              refine DW.x rfl rfl (X.move rfl) (by decide) ?_
              refine DW.no rfl rfl (by decide) ?_
              refine DW.no rfl rfl (by decide) ?_
              refine DW.no rfl rfl (by decide) ?_
              refine DW.no rfl rfl (by decide) ?_
              refine DW.no rfl rfl (by decide) ?_
              refine DW.no rfl rfl (by decide) ?_
              refine DW.no rfl rfl (by decide) ?_
              refine DW.no rfl rfl (by decide) ?_
              refine DW.x rfl rfl (X.pickT rfl rfl rfl) (by decide) ?_
              refine DW.x rfl rfl (X.move rfl) (by decide) ?_
              refine DW.no rfl rfl (by decide) ?_
              refine DW.no rfl rfl (by decide) ?_
              refine DW.no rfl rfl (by decide) ?_
              refine DW.no rfl rfl (by decide) ?_
              refine DW.x rfl rfl (X.pickT rfl rfl rfl) (by decide) ?_
              refine DW.nil ?_
              refine WK.nThen ?_
              refine WC.condT rfl ?_
              refine WC.seq ?_
              refine WC.region ?_
              refine WL.x (X.assign rfl) (by decide) ?_
              refine WL.nil ?_
              refine WK.nThen ?_
              refine WC.ret ?_
              refine WK.rBlock ?_
              refine WK.rThen ?_
              refine WK.rThen ?_
              refine WK.rBlock ?_
              refine WK.rThen ?_
              refine WK.ret1 rfl rfl (fun w' hw' => Ret.exact hw' ?_)
              first | exact bool_false (fun h => by have := h.2 k (by omega); unfold heightAt at this; omega) | exact dec_eq ⟨fun h => ⟨by omega, fun j hj => hall j (by omega)⟩, fun h => by have := h.1; omega⟩
            · refine DW.x rfl rfl (X.pickF rfl rfl rfl) (by decide) ?_
              refine DW.x rfl rfl (X.move rfl) (by decide) ?_
              refine DW.x rfl rfl (X.field Try.runUnderlying71 rfl Try.sizeOf49 rfl) (by decide) ?_
              refine DW.x rfl rfl (X.field Try.runUnderlying49 rfl Try.sizeOf3 rfl) (by decide) ?_
              refine DW.x rfl rfl (X.loadB (k := 0) Try.isAgg3 rfl rfl rfl) (by decide) ?_
              refine DW.x rfl rfl (X.field Try.runUnderlying71 rfl Try.sizeOf49 rfl) (by decide) ?_
              refine DW.x rfl rfl (X.field Try.runUnderlying49 rfl Try.sizeOf3 rfl) (by decide) ?_
              refine DW.x rfl rfl (X.loadB (k := 0) Try.isAgg3 rfl rfl rfl) (by decide) ?_
              refine DW.cond rfl rfl (X.call Try.call65 rfl (within65 _ _ _ _ )) (by decide) (fun h19 => ?_) (fun h19 => ?_)
              · refine DW.x rfl rfl (X.not rfl) (by decide) ?_
                refine DW.x rfl rfl (X.pickF rfl rfl rfl) (by decide) ?_
                refine DW.x rfl rfl (X.move rfl) (by decide) ?_
                refine DW.x rfl rfl (X.field Try.runUnderlying71 rfl Try.sizeOf49 rfl) (by decide) ?_
                refine DW.x rfl rfl (X.field Try.runUnderlying49 rfl Try.sizeOf3 rfl) (by decide) ?_
                refine DW.x rfl rfl (X.loadB (k := 0) Try.isAgg3 rfl rfl rfl) (by decide) ?_
                refine DW.cond rfl rfl (X.gtr rfl rfl) (by decide) (fun h20 => ?_) (fun h20 => ?_)
                · refine DW.x rfl rfl (X.pickF rfl rfl rfl) (by decide) ?_
                  refine DW.nil ?_
                  refine WK.nThen ?_
                  refine WC.condT rfl ?_
                  refine WC.seq ?_
                  refine WC.region ?_
                  refine WL.x (X.assign rfl) (by decide) ?_
                  refine WL.nil ?_
                  refine WK.nThen ?_
                  refine WC.ret ?_
                  refine WK.rBlock ?_
                  refine WK.rThen ?_
                  refine WK.rThen ?_
                  refine WK.rBlock ?_
                  refine WK.rThen ?_
                  refine WK.ret1 rfl rfl (fun w' hw' => Ret.exact hw' ?_)
                  first | exact bool_false (fun h => by have := h.2 k (by omega); unfold heightAt at this; omega) | exact dec_eq ⟨fun h => ⟨by omega, fun j hj => hall j (by omega)⟩, fun h => by have := h.1; omega⟩
                · refine DW.x rfl rfl (X.pickF rfl rfl rfl) (by decide) ?_
                  refine DW.nil ?_
                  refine WK.nThen ?_
                  refine WC.condF rfl ?_
                  refine WC.skip ?_
                  refine WK.nBlock ?_
                  refine WK.nThen ?_
                  refine WC.region ?_
                  refine WL.x (X.add rfl rfl (by omega) (by omega)) (by decide) ?_
                  refine WL.x (X.move rfl) (by decide) ?_
                  refine WL.nil ?_
                  refine WK.nThen ?_
                  refine WK.next (k + 1) rfl (.cons _ .slnil) (.cons rfl (.cons rfl (.cons rfl (.cons rfl .nil)))) ?_ ?_
                  · exact ⟨by omega, fun j hj => by rcases Nat.lt_succ_iff_lt_or_eq.1 hj with h | h; exact hall j h; subst h; (unfold heightAt; omega)⟩
                  · omega
              · refine DW.x rfl rfl (X.not rfl) (by decide) ?_
                refine DW.x rfl rfl (X.pickF rfl rfl rfl) (by decide) ?_
                refine DW.x rfl rfl (X.move rfl) (by decide) ?_
                refine DW.no rfl rfl (by decide) ?_
                refine DW.no rfl rfl (by decide) ?_
                refine DW.no rfl rfl (by decide) ?_
                refine DW.no rfl rfl (by decide) ?_
                refine DW.x rfl rfl (X.pickT rfl rfl rfl) (by decide) ?_
                refine DW.nil ?_
                refine WK.nThen ?_
                refine WC.condT rfl ?_
                refine WC.seq ?_
                refine WC.region ?_
                refine WL.x (X.assign rfl) (by decide) ?_
                refine WL.nil ?_
                refine WK.nThen ?_
                refine WC.ret ?_
                refine WK.rBlock ?_
                refine WK.rThen ?_
                refine WK.rThen ?_
                refine WK.rBlock ?_
                refine WK.rThen ?_
                refine WK.ret1 rfl rfl (fun w' hw' => Ret.exact hw' ?_)
                first | exact bool_false (fun h => by have := h.2 k (by omega); unfold heightAt at this; omega) | exact dec_eq ⟨fun h => ⟨by omega, fun j hj => hall j (by omega)⟩, fun h => by have := h.1; omega⟩
      · refine DW.x rfl rfl (X.move rfl) (by decide) ?_
        refine DW.no rfl rfl (by decide) ?_
        refine DW.no rfl rfl (by decide) ?_
        refine DW.no rfl rfl (by decide) ?_
        refine DW.x rfl rfl (X.pickF rfl rfl rfl) (by decide) ?_
        refine DW.x rfl rfl (X.move rfl) (by decide) ?_
        refine DW.x rfl rfl (X.move rfl) (by decide) ?_
        refine DW.cond rfl rfl (X.gtr rfl rfl) (by decide) (fun h21 => ?_) (fun h21 => ?_)
        · refine DW.x rfl rfl (X.move rfl) (by decide) ?_
          refine DW.x rfl rfl (X.field Try.runUnderlying71 rfl Try.sizeOf3 rfl) (by decide) ?_
          refine DW.x rfl rfl (X.loadB (k := 0) Try.isAgg3 rfl rfl rfl) (by decide) ?_
          refine DW.x rfl rfl (X.move rfl) (by decide) ?_
          refine DW.x rfl rfl (X.move rfl) (by decide) ?_
          refine DW.x rfl rfl (X.sub rfl rfl (by omega) (by omega)) (by decide) ?_
          refine DW.xe rfl rfl (E.idxE (k - 1) Try.runUnderlying56 Try.sizeOf71 rfl rfl hl (by omega) (by omega)) (by decide) (fun p22 hp23 => ?_)
          have hp24 := At.Height_0 hp23
          refine DW.x rfl rfl (X.field Try.runUnderlying71 rfl Try.sizeOf3 rfl) (by decide) ?_
          refine DW.x rfl rfl (X.loadInt Try.isAgg3 rfl hp24) (by decide) ?_
          refine DW.cond rfl rfl (X.leq rfl rfl) (by decide) (fun h25 => ?_) (fun h25 => ?_)
          · refine DW.x rfl rfl (X.pickT rfl rfl rfl) (by decide) ?_
            refine DW.x rfl rfl (X.pickF rfl rfl rfl) (by decide) ?_
            refine DW.x rfl rfl (X.move rfl) (by decide) ?_
            refine DW.no rfl rfl (by decide) ?_
            refine DW.no rfl rfl (by decide) ?_
            refine DW.no rfl rfl (by decide) ?_
            refine DW.x rfl rfl (X.pickT rfl rfl rfl) (by decide) ?_
            refine DW.x rfl rfl (X.move rfl) (by decide) ?_
            refine DW.no rfl rfl (by decide) ?_
            refine DW.no rfl rfl (by decide) ?_
            refine DW.no rfl rfl (by decide) ?_
            refine DW.no rfl rfl (by decide) ?_
            refine DW.no rfl rfl (by decide) ?_
            refine DW.no rfl rfl (by decide) ?_
            refine DW.no rfl rfl (by decide) ?_
            refine DW.no rfl rfl (by decide) ?_
            refine DW.x rfl rfl (X.pickT rfl rfl rfl) (by decide) ?_
            refine DW.x rfl rfl (X.move rfl) (by decide) ?_
            refine DW.no rfl rfl (by decide) ?_
            refine DW.no rfl rfl (by decide) ?_
            refine DW.no rfl rfl (by decide) ?_
            refine DW.no rfl rfl (by decide) ?_
            refine DW.x rfl rfl (X.pickT rfl rfl rfl) (by decide) ?_
            refine DW.nil ?_
            refine WK.nThen ?_
            refine WC.condT rfl ?_
            refine WC.seq ?_
            refine WC.region ?_
            refine WL.x (X.assign rfl) (by decide) ?_
            refine WL.nil ?_
            refine WK.nThen ?_
            refine WC.ret ?_
            refine WK.rBlock ?_
            refine WK.rThen ?_
            refine WK.rThen ?_
            refine WK.rBlock ?_
            refine WK.rThen ?_
            refine WK.ret1 rfl rfl (fun w' hw' => Ret.exact hw' ?_)
            first | exact bool_false (fun h => by have := h.2 k (by omega); unfold heightAt at this; omega) | exact dec_eq ⟨fun h => ⟨by omega, fun j hj => hall j (by omega)⟩, fun h => by have := h.1; omega⟩
          · refine DW.x rfl rfl (X.pickT rfl rfl rfl) (by decide) ?_
            refine DW.x rfl rfl (X.pickF rfl rfl rfl) (by decide) ?_
            refine DW.x rfl rfl (X.move rfl) (by decide) ?_
            refine DW.x rfl rfl (X.field Try.runUnderlying71 rfl Try.sizeOf3 rfl) (by decide) ?_
            refine DW.x rfl rfl (X.loadB (k := 0) Try.isAgg3 rfl rfl rfl) (by decide) ?_
            refine DW.cond rfl rfl (X.gtr rfl rfl) (by decide) (fun h26 => ?_) (fun h26 => ?_)
            · refine DW.x rfl rfl (X.pickF rfl rfl rfl) (by decide) ?_
              refine DW.x rfl rfl (X.move rfl) (by decide) ?_
              refine DW.no rfl rfl (by decide) ?_
              refine DW.no rfl rfl (by decide) ?_
              refine DW.no rfl rfl (by decide) ?_
              refine DW.no rfl rfl (by decide) ?_
              refine DW.no rfl rfl (by decide) ?_
              refine DW.no rfl rfl (by decide) ?_
              refine DW.no rfl rfl (by decide) ?_
              refine DW.no rfl rfl (by decide) ?_
              refine DW.x rfl rfl (X.pickT rfl rfl rfl) (by decide) ?_
              refine DW.x rfl rfl (X.move rfl) (by decide) ?_
              refine DW.no rfl rfl (by decide) ?_
              refine DW.no rfl rfl (by decide) ?_
              refine DW.no rfl rfl (by decide) ?_
              refine DW.no rfl rfl (by decide) ?_
              refine DW.x rfl rfl (X.pickT rfl rfl rfl) (by decide) ?_
              refine DW.nil ?_
              refine WK.nThen ?_
              refine WC.condT rfl ?_
              refine WC.seq ?_
              refine WC.region ?_
              refine WL.x (X.assign rfl) (by decide) ?_
              refine WL.nil ?_
              refine WK.nThen ?_
              refine WC.ret ?_
              refine WK.rBlock ?_
              refine WK.rThen ?_
              refine WK.rThen ?_
              refine WK.rBlock ?_
              refine WK.rThen ?_
              refine WK.ret1 rfl rfl (fun w' hw' => Ret.exact hw' ?_)
              first | exact bool_false (fun h => by have := h.2 k (by omega); unfold heightAt at this; omega) | exact dec_eq ⟨fun h => ⟨by omega, fun j hj => hall j (by omega)⟩, fun h => by have := h.1; omega⟩
            · refine DW.x rfl rfl (X.pickF rfl rfl rfl) (by decide) ?_
              refine DW.x rfl rfl (X.move rfl) (by decide) ?_
              refine DW.x rfl rfl (X.field Try.runUnderlying71 rfl Try.sizeOf49 rfl) (by decide) ?_
              refine DW.x rfl rfl (X.field Try.runUnderlying49 rfl Try.sizeOf3 rfl) (by decide) ?_
              refine DW.x rfl rfl (X.loadB (k := 0) Try.isAgg3 rfl rfl rfl) (by decide) ?_
              refine DW.x rfl rfl (X.field Try.runUnderlying71 rfl Try.sizeOf49 rfl) (by decide) ?_
              refine DW.x rfl rfl (X.field Try.runUnderlying49 rfl Try.sizeOf3 rfl) (by decide) ?_
              refine DW.x rfl rfl (X.loadB (k := 0) Try.isAgg3 rfl rfl rfl) (by decide) ?_
              refine DW.cond rfl rfl (X.call Try.call65 rfl (within65 _ _ _ _ )) (by decide) (fun h27 => ?_) (fun h27 => ?_)
              · refine DW.x rfl rfl (X.not rfl) (by decide) ?_
                refine DW.x rfl rfl (X.pickF rfl rfl rfl) (by decide) ?_
                refine DW.x rfl rfl (X.move rfl) (by decide) ?_
                refine DW.x rfl rfl (X.field Try.runUnderlying71 rfl Try.sizeOf49 rfl) (by decide) ?_
                refine DW.x rfl rfl (X.field Try.runUnderlying49 rfl Try.sizeOf3 rfl) (by decide) ?_
                refine DW.x rfl rfl (X.loadB (k := 0) Try.isAgg3 rfl rfl rfl) (by decide) ?_
                refine DW.cond rfl rfl (X.gtr rfl rfl) (by decide) (fun h28 => ?_) (fun h28 => ?_)
                · refine DW.x rfl rfl (X.pickF rfl rfl rfl) (by decide) ?_
                  refine DW.nil ?_
                  refine WK.nThen ?_
                  refine WC.condT rfl ?_
                  refine WC.seq ?_
                  refine WC.region ?_
                  refine WL.x (X.assign rfl) (by decide) ?_
                  refine WL.nil ?_
                  refine WK.nThen ?_
                  refine WC.ret ?_
                  refine WK.rBlock ?_
                  refine WK.rThen ?_
                  refine WK.rThen ?_
                  refine WK.rBlock ?_
                  refine WK.rThen ?_
                  refine WK.ret1 rfl rfl (fun w' hw' => Ret.exact hw' ?_)
                  first | exact bool_false (fun h => by have := h.2 k (by omega); unfold heightAt at this; omega) | exact dec_eq ⟨fun h => ⟨by omega, fun j hj => hall j (by omega)⟩, fun h => by have := h.1; omega⟩
                · refine DW.x rfl rfl (X.pickF rfl rfl rfl) (by decide) ?_
                  refine DW.nil ?_
                  refine WK.nThen ?_
                  refine WC.condF rfl ?_
                  refine WC.skip ?_
                  refine WK.nBlock ?_
                  refine WK.nThen ?_
                  refine WC.region ?_
                  refine WL.x (X.add rfl rfl (by omega) (by omega)) (by decide) ?_
                  refine WL.x (X.move rfl) (by decide) ?_
                  refine WL.nil ?_
                  refine WK.nThen ?_
                  refine WK.next (k + 1) rfl (.cons _ .slnil) (.cons rfl (.cons rfl (.cons rfl (.cons rfl .nil)))) ?_ ?_
                  · exact ⟨by omega, fun j hj => by rcases Nat.lt_succ_iff_lt_or_eq.1 hj with h | h; exact hall j h; subst h; (unfold heightAt; omega)⟩
                  · omega
              · refine DW.x rfl rfl (X.not rfl) (by decide) ?_
                refine DW.x rfl rfl (X.pickF rfl rfl rfl) (by decide) ?_
                refine DW.x rfl rfl (X.move rfl) (by decide) ?_
                refine DW.no rfl rfl (by decide) ?_
                refine DW.no rfl rfl (by decide) ?_
                refine DW.no rfl rfl (by decide) ?_
                refine DW.no rfl rfl (by decide) ?_
                refine DW.x rfl rfl (X.pickT rfl rfl rfl) (by decide) ?_
                refine DW.nil ?_
                refine WK.nThen ?_
                refine WC.condT rfl ?_
                refine WC.seq ?_
                refine WC.region ?_
                refine WL.x (X.assign rfl) (by decide) ?_
                refine WL.nil ?_
                refine WK.nThen ?_
                refine WC.ret ?_
                refine WK.rBlock ?_
                refine WK.rThen ?_
                refine WK.rThen ?_
                refine WK.rBlock ?_
                refine WK.rThen ?_
                refine WK.ret1 rfl rfl (fun w' hw' => Ret.exact hw' ?_)
                first | exact bool_false (fun h => by have := h.2 k (by omega); unfold heightAt at this; omega) | exact dec_eq ⟨fun h => ⟨by omega, fun j hj => hall j (by omega)⟩, fun h => by have := h.1; omega⟩
        · refine DW.x rfl rfl (X.move rfl) (by decide) ?_
          refine DW.no rfl rfl (by decide) ?_
          refine DW.no rfl rfl (by decide) ?_
          refine DW.no rfl rfl (by decide) ?_
          refine DW.no rfl rfl (by decide) ?_
          refine DW.no rfl rfl (by decide) ?_
          refine DW.no rfl rfl (by decide) ?_
          refine DW.no rfl rfl (by decide) ?_
          refine DW.no rfl rfl (by decide) ?_
          refine DW.no rfl rfl (by decide) ?_
          refine DW.x rfl rfl (X.pickF rfl rfl rfl) (by decide) ?_
          refine DW.x rfl rfl (X.pickF rfl rfl rfl) (by decide) ?_
          refine DW.x rfl rfl (X.move rfl) (by decide) ?_
          refine DW.x rfl rfl (X.field Try.runUnderlying71 rfl Try.sizeOf3 rfl) (by decide) ?_
          refine DW.x rfl rfl (X.loadB (k := 0) Try.isAgg3 rfl rfl rfl) (by decide) ?_
          refine DW.cond rfl rfl (X.gtr rfl rfl) (by decide) (fun h29 => ?_) (fun h29 => ?_)
          · refine DW.x rfl rfl (X.pickF rfl rfl rfl) (by decide) ?_
            refine DW.x rfl rfl (X.move rfl) (by decide) ?_
            refine DW.no rfl rfl (by decide) ?_
            refine DW.no rfl rfl (by decide) ?_
            refine DW.no rfl rfl (by decide) ?_
            refine DW.no rfl rfl (by decide) ?_
            refine DW.no rfl rfl (by decide) ?_
            refine DW.no rfl rfl (by decide) ?_
            refine DW.no rfl rfl (by decide) ?_
            refine DW.no rfl rfl (by decide) ?_
            refine DW.x rfl rfl (X.pickT rfl rfl rfl) (by decide) ?_
            refine DW.x rfl rfl (X.move rfl) (by decide) ?_
            refine DW.no rfl rfl (by decide) ?_
            refine DW.no rfl rfl (by decide) ?_
            refine DW.no rfl rfl (by decide) ?_
            refine DW.no rfl rfl (by decide) ?_
            refine DW.x rfl rfl (X.pickT rfl rfl rfl) (by decide) ?_
            refine DW.nil ?_
            refine WK.nThen ?_
            refine WC.condT rfl ?_
            refine WC.seq ?_
            refine WC.region ?_
            refine WL.x (X.assign rfl) (by decide) ?_
            refine WL.nil ?_
            refine WK.nThen ?_
            refine WC.ret ?_
            refine WK.rBlock ?_
            refine WK.rThen ?_
            refine WK.rThen ?_
            refine WK.rBlock ?_
            refine WK.rThen ?_
            refine WK.ret1 rfl rfl (fun w' hw' => Ret.exact hw' ?_)
            first | exact bool_false (fun h => by have := h.2 k (by omega); unfold heightAt at this; omega) | exact dec_eq ⟨fun h => ⟨by omega, fun j hj => hall j (by omega)⟩, fun h => by have := h.1; omega⟩
          · refine DW.x rfl rfl (X.pickF rfl rfl rfl) (by decide) ?_
            refine DW.x rfl rfl (X.move rfl) (by decide) ?_
            refine DW.x rfl rfl (X.field Try.runUnderlying71 rfl Try.sizeOf49 rfl) (by decide) ?_
            refine DW.x rfl rfl (X.field Try.runUnderlying49 rfl Try.sizeOf3 rfl) (by decide) ?_
            refine DW.x rfl rfl (X.loadB (k := 0) Try.isAgg3 rfl rfl rfl) (by decide) ?_
            refine DW.x rfl rfl (X.field Try.runUnderlying71 rfl Try.sizeOf49 rfl) (by decide) ?_
            refine DW.x rfl rfl (X.field Try.runUnderlying49 rfl Try.sizeOf3 rfl) (by decide) ?_
            refine DW.x rfl rfl (X.loadB (k := 0) Try.isAgg3 rfl rfl rfl) (by decide) ?_
            refine DW.cond rfl rfl (X.call Try.call65 rfl (within65 _ _ _ _ )) (by decide) (fun h30 => ?_) (fun h30 => ?_)
            · refine DW.x rfl rfl (X.not rfl) (by decide) ?_
              refine DW.x rfl rfl (X.pickF rfl rfl rfl) (by decide) ?_
              refine DW.x rfl rfl (X.move rfl) (by decide) ?_
              refine DW.x rfl rfl (X.field Try.runUnderlying71 rfl Try.sizeOf49 rfl) (by decide) ?_
              refine DW.x rfl rfl (X.field Try.runUnderlying49 rfl Try.sizeOf3 rfl) (by decide) ?_
              refine DW.x rfl rfl (X.loadB (k := 0) Try.isAgg3 rfl rfl rfl) (by decide) ?_
              refine DW.cond rfl rfl (X.gtr rfl rfl) (by decide) (fun h31 => ?_) (fun h31 => ?_)
              · refine DW.x rfl rfl (X.pickF rfl rfl rfl) (by decide) ?_
                refine DW.nil ?_
                refine WK.nThen ?_
                refine WC.condT rfl ?_
                refine WC.seq ?_
                refine WC.region ?_
                refine WL.x (X.assign rfl) (by decide) ?_
                refine WL.nil ?_
                refine WK.nThen ?_
                refine WC.ret ?_
                refine WK.rBlock ?_
                refine WK.rThen ?_
                refine WK.rThen ?_
                refine WK.rBlock ?_
                refine WK.rThen ?_
                refine WK.ret1 rfl rfl (fun w' hw' => Ret.exact hw' ?_)
                first | exact bool_false (fun h => by have := h.2 k (by omega); unfold heightAt at this; omega) | exact dec_eq ⟨fun h => ⟨by omega, fun j hj => hall j (by omega)⟩, fun h => by have := h.1; omega⟩
              · refine DW.x rfl rfl (X.pickF rfl rfl rfl) (by decide) ?_
                refine DW.nil ?_
                refine WK.nThen ?_
                refine WC.condF rfl ?_
                refine WC.skip ?_
                refine WK.nBlock ?_
                refine WK.nThen ?_
                refine WC.region ?_
                refine WL.x (X.add rfl rfl (by omega) (by omega)) (by decide) ?_
                refine WL.x (X.move rfl) (by decide) ?_
                refine WL.nil ?_
                refine WK.nThen ?_
                refine WK.next (k + 1) rfl (.cons _ .slnil) (.cons rfl (.cons rfl (.cons rfl (.cons rfl .nil)))) ?_ ?_
                · exact ⟨by omega, fun j hj => by rcases Nat.lt_succ_iff_lt_or_eq.1 hj with h | h; exact hall j h; subst h; (unfold heightAt; omega)⟩
                · omega
            · refine DW.x rfl rfl (X.not rfl) (by decide) ?_
              refine DW.x rfl rfl (X.pickF rfl rfl rfl) (by decide) ?_
              refine DW.x rfl rfl (X.move rfl) (by decide) ?_
              refine DW.no rfl rfl (by decide) ?_
              refine DW.no rfl rfl (by decide) ?_
              refine DW.no rfl rfl (by decide) ?_
              refine DW.no rfl rfl (by decide) ?_
              refine DW.x rfl rfl (X.pickT rfl rfl rfl) (by decide) ?_
              refine DW.nil ?_
              refine WK.nThen ?_
              refine WC.condT rfl ?_
              refine WC.seq ?_
              refine WC.region ?_
              refine WL.x (X.assign rfl) (by decide) ?_
              refine WL.nil ?_
              refine WK.nThen ?_
              refine WC.ret ?_
              refine WK.rBlock ?_
              refine WK.rThen ?_
              refine WK.rThen ?_
              refine WK.rBlock ?_
              refine WK.rThen ?_
              refine WK.ret1 rfl rfl (fun w' hw' => Ret.exact hw' ?_)
              first | exact bool_false (fun h => by have := h.2 k (by omega); unfold heightAt at this; omega) | exact dec_eq ⟨fun h => ⟨by omega, fun j hj => hall j (by omega)⟩, fun h => by have := h.1; omega⟩
    · refine WL.nil ?_
      refine WK.nThen ?_
      refine WC.seq ?_
      refine WC.condF rfl ?_
      refine WC.exit ?_
      refine WK.eThen ?_
      refine WK.eThen ?_
      refine WK.eHit ?_
      refine WK.nThen ?_
      refine WC.seq ?_
      refine WC.region ?_
      refine WL.x (X.move rfl) (by decide) ?_
      refine WL.x (X.len Try.runUnderlying56 rfl hl) (by decide) ?_
      refine WL.x (X.call Try.call65 rfl (within65 _ _ _ _ )) (by decide) ?_
      refine WL.x (X.assign rfl) (by decide) ?_
      refine WL.nil ?_
      refine WK.nThen ?_
      refine WC.ret ?_
      refine WK.ret1 rfl rfl (fun w' hw' => Ret.exact hw' ?_)
      first | exact bool_false (fun h => by have := h.2 k (by omega); unfold heightAt at this; omega) | exact dec_eq ⟨fun h => ⟨by omega, fun j hj => hall j (by omega)⟩, fun h => by have := h.1; omega⟩

theorem check53 (m : Mem) (vl : Value) (l : List Station) (hl : Sl m vl l)   : Exact Try.prog 53 #[vl] m (.tuple #[.int .i64 ((checkS l).1), .int .i64 ((checkS l).2)]) := by
  have ll := hl.le
  refine Exact.start Try.func53 rfl Try.ntmps53 rfl fun wld => ?_
  refine WC.seq ?_
  refine WC.region ?_
  refine WL.x (X.assign rfl) (by decide) ?_
  refine WL.x (X.assign rfl) (by decide) ?_
  refine WL.nil ?_
  refine WK.nThen ?_
  refine WC.seq ?_
  refine WC.seq ?_
  refine WC.region ?_
  refine WL.x (X.move rfl) (by decide) ?_
  refine WL.x (X.len Try.runUnderlying24 rfl hl) (by decide) ?_
  refine WL.cond (X.gtr rfl rfl) (by decide) (fun h1 => ?_) (fun h1 => ?_)
  · refine WL.nil ?_
    refine WK.nThen ?_
    refine WC.condT rfl ?_
    refine WC.seq ?_
    refine WC.region ?_
    refine WL.x (X.assign rfl) (by decide) ?_
    refine WL.x (X.assign rfl) (by decide) ?_
    refine WL.nil ?_
    refine WK.nThen ?_
    refine WC.ret ?_
    refine WK.rThen ?_
    refine WK.ret2 rfl rfl rfl (fun w' hw' => Ret.exact hw' ?_)
    first | (have hc := checkS_big (l := l) (by omega); exact tup2 (int_eq (by rw [hc])) (int_eq (by rw [hc]))) | (have hbad : badAt l k = 50 := (by unfold badAt; rw [if_pos (by unfold placedOk; omega)]); have hc := checkS_bad (l := l) (k := k) (by omega) (by omega) hall (by omega); exact tup2 (int_eq (by rw [hc]; exact hbad.symm)) (int_eq (by rw [hc]))) | (have hbad : badAt l k = 50 := (by unfold badAt; rw [if_pos (.inl (by assumption))]); have hc := checkS_bad (l := l) (k := k) (by omega) (by omega) hall (by omega); exact tup2 (int_eq (by rw [hc]; exact hbad.symm)) (int_eq (by rw [hc]))) | (have hbad : badAt l k = 51 := (by unfold badAt; rw [if_neg (by unfold placedOk; omega), if_pos (by assumption)]); have hc := checkS_bad (l := l) (k := k) (by omega) (by omega) hall (by omega); exact tup2 (int_eq (by rw [hc]; exact hbad.symm)) (int_eq (by rw [hc]))) | (have hbad : badAt l k = 51 := (by unfold badAt; rw [if_neg (by unfold placedOk at *; omega), if_pos (by assumption)]); have hc := checkS_bad (l := l) (k := k) (by omega) (by omega) hall (by omega); exact tup2 (int_eq (by rw [hc]; exact hbad.symm)) (int_eq (by rw [hc]))) | (have hc := checkS_ok (l := l) (by omega) (fun j hj => hall j (by omega)); exact tup2 (int_eq (by rw [hc])) (int_eq (by rw [hc])))
  · refine WL.nil ?_
    refine WK.nThen ?_
    refine WC.condF rfl ?_
    refine WC.skip ?_
    refine WK.nThen ?_
    refine WC.seq ?_
    refine WC.seq ?_
    refine WC.region ?_
    refine WL.x (X.move rfl) (by decide) ?_
    refine WL.x (X.len Try.runUnderlying24 rfl hl) (by decide) ?_
    refine WL.x (X.move rfl) (by decide) ?_
    refine WL.nil ?_
    refine WK.nThen ?_
    refine WC.block ?_
    refine WC.loop (G := Nat) (fun k => l.length - k) (fun k => m) (fun k => []) (fun k => [(0, vl), (9, vl), (10, .int .i64 (↑l.length)), (11, .int .i64 (↑k))]) (fun k => k ≤ l.length ∧ (∀ j, j < k → badAt l j = 0)) 0 rfl (.refl _) (.cons rfl (.cons rfl (.cons rfl (.cons rfl .nil)))) ?_ ?_
    · exact ⟨Nat.zero_le _, fun j hj => absurd hj (Nat.not_lt_zero _)⟩
    · rintro k hF2
      show WK _ _ m [] [(0, vl), (9, vl), (10, .int .i64 (↑l.length)), (11, .int .i64 (↑k))] _
      replace hF2 : k ≤ l.length ∧ (∀ j, j < k → badAt l j = 0) := hF2
      obtain ⟨hk, hall⟩ := hF2
      refine WC.seq ?_
      refine WC.region ?_
      refine WL.cond (X.lss rfl rfl) (by decide) (fun h3 => ?_) (fun h3 => ?_)
      · refine WL.nil ?_
        refine WK.nThen ?_
        refine WC.seq ?_
        refine WC.condT rfl ?_
        refine WC.skip ?_
        refine WK.nThen ?_
        refine WC.seq ?_
        refine WC.block ?_
        refine WC.seq ?_
        refine WC.region ?_
        refine WL.x (X.move rfl) (by decide) ?_
        refine WL.xe (E.idxN k Try.runUnderlying24 Try.sizeOf58 rfl rfl hl (by omega)) (by decide) (fun p4 hp5 => ?_)
        refine WL.xe (E.loadAgg Try.isAgg58 Try.sizeOf58 rfl hp5) (by decide) (fun c6 hc7 => ?_)
        obtain ⟨v8, rfl, hs9⟩ := hc7
        have hl10 := hs9.le
        refine WL.tn (T.alloc Try.zeroValue58 rfl) (by decide) fun b11 => ?_
        refine WL.x (X.assign rfl) (by decide) ?_
        refine WL.ts (T.storeBA (k := 0) Try.sizeOf58 rfl rfl rfl (one_cons rfl (one_cons rfl (one_cons rfl (one_cons hs9.one one_nil)))) rfl rfl) ?_
        refine WL.nil ?_
        refine WK.nThen ?_
        refine WC.block ?_
        refine WC.seq ?_
        refine WC.seq ?_
        refine WC.region ?_
        refine WL.x (X.field Try.runUnderlying58 rfl Try.sizeOf3 rfl) (by decide) ?_
        refine WL.x (X.loadB (k := 0) Try.isAgg3 rfl rfl rfl) (by decide) ?_
        refine WL.cond (X.call Try.call65 rfl (within65 _ _ _ _ )) (by decide) (fun h12 => ?_) (fun h12 => ?_)
        · refine WL.x (X.not rfl) (by decide) ?_
          refine WL.x (X.assign rfl) (by decide) ?_
          refine WL.nil ?_
          refine WK.nThen ?_
          refine WC.condF rfl ?_
          refine WC.seq ?_
          refine WC.draw (π := (.cons 0 (.cons 1 (.cons 2 (.cons 3 (.cons 4 (.cons 5 (.cons 6 (.cons 7 (.cons 8 (.cons 9 (.cons 10 (.cons 11 (.cons 12 (.cons 13 .done))))))))))))))) [] [] rfl (by kernel_rfl) ?_
          refine DW.x rfl rfl (X.move rfl) (by decide) ?_
          refine DW.cond rfl rfl (X.gtr rfl rfl) (by decide) (fun h13 => ?_) (fun h13 => ?_)
          · refine DW.x rfl rfl (X.move rfl) (by decide) ?_
            refine DW.x rfl rfl (X.field Try.runUnderlying58 rfl Try.sizeOf3 rfl) (by decide) ?_
            refine DW.x rfl rfl (X.loadB (k := 0) Try.isAgg3 rfl rfl rfl) (by decide) ?_
            refine DW.x rfl rfl (X.move rfl) (by decide) ?_
            refine DW.x rfl rfl (X.move rfl) (by decide) ?_
            refine DW.x rfl rfl (X.sub rfl rfl (by omega) (by omega)) (by decide) ?_
            refine DW.xe rfl rfl (E.idxE (k - 1) Try.runUnderlying24 Try.sizeOf58 rfl rfl hl (by omega) (by omega)) (by decide) (fun p14 hp15 => ?_)
            have hp16 := At.Station_0 hp15
            refine DW.x rfl rfl (X.field Try.runUnderlying58 rfl Try.sizeOf3 rfl) (by decide) ?_
            refine DW.x rfl rfl (X.loadInt Try.isAgg3 rfl hp16) (by decide) ?_
            refine DW.cond rfl rfl (X.leq rfl rfl) (by decide) (fun h17 => ?_) (fun h17 => ?_)
            · refine DW.x rfl rfl (X.pickT rfl rfl rfl) (by decide) ?_
              refine DW.x rfl rfl (X.assign rfl) (by decide) ?_
              refine DW.nil ?_
              refine WK.nThen ?_
              refine WC.condT rfl ?_
              refine WC.skip ?_
              refine WK.nThen ?_
              refine WC.condT rfl ?_
              refine WC.seq ?_
              refine WC.region ?_
              refine WL.x (X.move rfl) (by decide) ?_
              refine WL.x (X.assign rfl) (by decide) ?_
              refine WL.x (X.assign rfl) (by decide) ?_
              refine WL.nil ?_
              refine WK.nThen ?_
              refine WC.ret ?_
              refine WK.rBlock ?_
              refine WK.rBlock ?_
              refine WK.rThen ?_
              refine WK.rThen ?_
              refine WK.rBlock ?_
              refine WK.rThen ?_
              refine WK.ret2 rfl rfl rfl (fun w' hw' => Ret.exact hw' ?_)
              first | (have hc := checkS_big (l := l) (by omega); exact tup2 (int_eq (by rw [hc])) (int_eq (by rw [hc]))) | (have hbad : badAt l k = 50 := (by unfold badAt; rw [if_pos (by unfold placedOk; omega)]); have hc := checkS_bad (l := l) (k := k) (by omega) (by omega) hall (by omega); exact tup2 (int_eq (by rw [hc]; exact hbad.symm)) (int_eq (by rw [hc]))) | (have hbad : badAt l k = 50 := (by unfold badAt; rw [if_pos (.inl (by assumption))]); have hc := checkS_bad (l := l) (k := k) (by omega) (by omega) hall (by omega); exact tup2 (int_eq (by rw [hc]; exact hbad.symm)) (int_eq (by rw [hc]))) | (have hbad : badAt l k = 51 := (by unfold badAt; rw [if_neg (by unfold placedOk; omega), if_pos (by assumption)]); have hc := checkS_bad (l := l) (k := k) (by omega) (by omega) hall (by omega); exact tup2 (int_eq (by rw [hc]; exact hbad.symm)) (int_eq (by rw [hc]))) | (have hbad : badAt l k = 51 := (by unfold badAt; rw [if_neg (by unfold placedOk at *; omega), if_pos (by assumption)]); have hc := checkS_bad (l := l) (k := k) (by omega) (by omega) hall (by omega); exact tup2 (int_eq (by rw [hc]; exact hbad.symm)) (int_eq (by rw [hc]))) | (have hc := checkS_ok (l := l) (by omega) (fun j hj => hall j (by omega)); exact tup2 (int_eq (by rw [hc])) (int_eq (by rw [hc])))
            · refine DW.x rfl rfl (X.pickT rfl rfl rfl) (by decide) ?_
              refine DW.x rfl rfl (X.assign rfl) (by decide) ?_
              refine DW.nil ?_
              refine WK.nThen ?_
              refine WC.condF rfl ?_
              refine WC.seq ?_
              refine WC.region ?_
              refine WL.x (X.field Try.runUnderlying58 rfl Try.sizeOf3 rfl) (by decide) ?_
              refine WL.x (X.loadB (k := 0) Try.isAgg3 rfl rfl rfl) (by decide) ?_
              refine WL.cond (X.call Try.call65 rfl (within65 _ _ _ _ )) (by decide) (fun h18 => ?_) (fun h18 => ?_)
              · refine WL.x (X.not rfl) (by decide) ?_
                refine WL.x (X.assign rfl) (by decide) ?_
                refine WL.nil ?_
                refine WK.nThen ?_
                refine WC.condF rfl ?_
                refine WC.region ?_
                refine WL.x (X.field Try.runUnderlying58 rfl Try.sizeOf3 rfl) (by decide) ?_
                refine WL.x (X.loadB (k := 0) Try.isAgg3 rfl rfl rfl) (by decide) ?_
                refine WL.cond (X.call Try.call65 rfl (within65 _ _ _ _ )) (by decide) (fun h19 => ?_) (fun h19 => ?_)
                · refine WL.x (X.not rfl) (by decide) ?_
                  refine WL.x (X.assign rfl) (by decide) ?_
                  refine WL.nil ?_
                  refine WK.nThen ?_
                  refine WC.condF rfl ?_
                  refine WC.seq ?_
                  refine WC.region ?_
                  refine WL.x (X.field Try.runUnderlying58 rfl Try.sizeOf56 rfl) (by decide) ?_
                  refine WL.x (X.loadB (k := 0) Try.isAgg56 rfl rfl rfl) (by decide) ?_
                  refine WL.cond (X.call Try.call90 rfl (high90 _ _ _ hs9 )) (by decide) (fun h20 => ?_) (fun h20 => ?_)
                  · refine WL.x (X.not rfl) (by decide) ?_
                    refine WL.x (X.assign rfl) (by decide) ?_
                    refine WL.nil ?_
                    refine WK.nThen ?_
                    refine WC.condF rfl ?_
                    refine WC.skip ?_
                    refine WK.nBlock ?_
                    refine WK.nBlock ?_
                    refine WK.nThen ?_
                    refine WC.region ?_
                    refine WL.x (X.add rfl rfl (by omega) (by omega)) (by decide) ?_
                    refine WL.x (X.move rfl) (by decide) ?_
                    refine WL.nil ?_
                    refine WK.nThen ?_
                    refine WK.next (k + 1) rfl (.cons _ .slnil) (.cons rfl (.cons rfl (.cons rfl (.cons rfl .nil)))) ?_ ?_
                    · exact ⟨by omega, fun j hj => by rcases Nat.lt_succ_iff_lt_or_eq.1 hj with h | h; exact hall j h; subst h; (unfold badAt; rw [if_neg (by unfold placedOk at *; omega), if_neg (by simpa using ‹highOk _›)])⟩
                    · omega
                  · refine WL.x (X.not rfl) (by decide) ?_
                    refine WL.x (X.assign rfl) (by decide) ?_
                    refine WL.nil ?_
                    refine WK.nThen ?_
                    refine WC.condT rfl ?_
                    refine WC.seq ?_
                    refine WC.region ?_
                    refine WL.x (X.move rfl) (by decide) ?_
                    refine WL.x (X.assign rfl) (by decide) ?_
                    refine WL.x (X.assign rfl) (by decide) ?_
                    refine WL.nil ?_
                    refine WK.nThen ?_
                    refine WC.ret ?_
                    refine WK.rBlock ?_
                    refine WK.rBlock ?_
                    refine WK.rThen ?_
                    refine WK.rThen ?_
                    refine WK.rBlock ?_
                    refine WK.rThen ?_
                    refine WK.ret2 rfl rfl rfl (fun w' hw' => Ret.exact hw' ?_)
                    first | (have hc := checkS_big (l := l) (by omega); exact tup2 (int_eq (by rw [hc])) (int_eq (by rw [hc]))) | (have hbad : badAt l k = 50 := (by unfold badAt; rw [if_pos (by unfold placedOk; omega)]); have hc := checkS_bad (l := l) (k := k) (by omega) (by omega) hall (by omega); exact tup2 (int_eq (by rw [hc]; exact hbad.symm)) (int_eq (by rw [hc]))) | (have hbad : badAt l k = 50 := (by unfold badAt; rw [if_pos (.inl (by assumption))]); have hc := checkS_bad (l := l) (k := k) (by omega) (by omega) hall (by omega); exact tup2 (int_eq (by rw [hc]; exact hbad.symm)) (int_eq (by rw [hc]))) | (have hbad : badAt l k = 51 := (by unfold badAt; rw [if_neg (by unfold placedOk; omega), if_pos (by assumption)]); have hc := checkS_bad (l := l) (k := k) (by omega) (by omega) hall (by omega); exact tup2 (int_eq (by rw [hc]; exact hbad.symm)) (int_eq (by rw [hc]))) | (have hbad : badAt l k = 51 := (by unfold badAt; rw [if_neg (by unfold placedOk at *; omega), if_pos (by assumption)]); have hc := checkS_bad (l := l) (k := k) (by omega) (by omega) hall (by omega); exact tup2 (int_eq (by rw [hc]; exact hbad.symm)) (int_eq (by rw [hc]))) | (have hc := checkS_ok (l := l) (by omega) (fun j hj => hall j (by omega)); exact tup2 (int_eq (by rw [hc])) (int_eq (by rw [hc])))
                · refine WL.x (X.not rfl) (by decide) ?_
                  refine WL.x (X.assign rfl) (by decide) ?_
                  refine WL.nil ?_
                  refine WK.nThen ?_
                  refine WC.condT rfl ?_
                  refine WC.seq ?_
                  refine WC.region ?_
                  refine WL.x (X.move rfl) (by decide) ?_
                  refine WL.x (X.assign rfl) (by decide) ?_
                  refine WL.x (X.assign rfl) (by decide) ?_
                  refine WL.nil ?_
                  refine WK.nThen ?_
                  refine WC.ret ?_
                  refine WK.rBlock ?_
                  refine WK.rBlock ?_
                  refine WK.rThen ?_
                  refine WK.rThen ?_
                  refine WK.rBlock ?_
                  refine WK.rThen ?_
                  refine WK.ret2 rfl rfl rfl (fun w' hw' => Ret.exact hw' ?_)
                  first | (have hc := checkS_big (l := l) (by omega); exact tup2 (int_eq (by rw [hc])) (int_eq (by rw [hc]))) | (have hbad : badAt l k = 50 := (by unfold badAt; rw [if_pos (by unfold placedOk; omega)]); have hc := checkS_bad (l := l) (k := k) (by omega) (by omega) hall (by omega); exact tup2 (int_eq (by rw [hc]; exact hbad.symm)) (int_eq (by rw [hc]))) | (have hbad : badAt l k = 50 := (by unfold badAt; rw [if_pos (.inl (by assumption))]); have hc := checkS_bad (l := l) (k := k) (by omega) (by omega) hall (by omega); exact tup2 (int_eq (by rw [hc]; exact hbad.symm)) (int_eq (by rw [hc]))) | (have hbad : badAt l k = 51 := (by unfold badAt; rw [if_neg (by unfold placedOk; omega), if_pos (by assumption)]); have hc := checkS_bad (l := l) (k := k) (by omega) (by omega) hall (by omega); exact tup2 (int_eq (by rw [hc]; exact hbad.symm)) (int_eq (by rw [hc]))) | (have hbad : badAt l k = 51 := (by unfold badAt; rw [if_neg (by unfold placedOk at *; omega), if_pos (by assumption)]); have hc := checkS_bad (l := l) (k := k) (by omega) (by omega) hall (by omega); exact tup2 (int_eq (by rw [hc]; exact hbad.symm)) (int_eq (by rw [hc]))) | (have hc := checkS_ok (l := l) (by omega) (fun j hj => hall j (by omega)); exact tup2 (int_eq (by rw [hc])) (int_eq (by rw [hc])))
              · refine WL.x (X.not rfl) (by decide) ?_
                refine WL.x (X.assign rfl) (by decide) ?_
                refine WL.nil ?_
                refine WK.nThen ?_
                refine WC.condT rfl ?_
                refine WC.skip ?_
                refine WK.nThen ?_
                refine WC.condT rfl ?_
                refine WC.seq ?_
                refine WC.region ?_
                refine WL.x (X.move rfl) (by decide) ?_
                refine WL.x (X.assign rfl) (by decide) ?_
                refine WL.x (X.assign rfl) (by decide) ?_
                refine WL.nil ?_
                refine WK.nThen ?_
                refine WC.ret ?_
                refine WK.rBlock ?_
                refine WK.rBlock ?_
                refine WK.rThen ?_
                refine WK.rThen ?_
                refine WK.rBlock ?_
                refine WK.rThen ?_
                refine WK.ret2 rfl rfl rfl (fun w' hw' => Ret.exact hw' ?_)
                first | (have hc := checkS_big (l := l) (by omega); exact tup2 (int_eq (by rw [hc])) (int_eq (by rw [hc]))) | (have hbad : badAt l k = 50 := (by unfold badAt; rw [if_pos (by unfold placedOk; omega)]); have hc := checkS_bad (l := l) (k := k) (by omega) (by omega) hall (by omega); exact tup2 (int_eq (by rw [hc]; exact hbad.symm)) (int_eq (by rw [hc]))) | (have hbad : badAt l k = 50 := (by unfold badAt; rw [if_pos (.inl (by assumption))]); have hc := checkS_bad (l := l) (k := k) (by omega) (by omega) hall (by omega); exact tup2 (int_eq (by rw [hc]; exact hbad.symm)) (int_eq (by rw [hc]))) | (have hbad : badAt l k = 51 := (by unfold badAt; rw [if_neg (by unfold placedOk; omega), if_pos (by assumption)]); have hc := checkS_bad (l := l) (k := k) (by omega) (by omega) hall (by omega); exact tup2 (int_eq (by rw [hc]; exact hbad.symm)) (int_eq (by rw [hc]))) | (have hbad : badAt l k = 51 := (by unfold badAt; rw [if_neg (by unfold placedOk at *; omega), if_pos (by assumption)]); have hc := checkS_bad (l := l) (k := k) (by omega) (by omega) hall (by omega); exact tup2 (int_eq (by rw [hc]; exact hbad.symm)) (int_eq (by rw [hc]))) | (have hc := checkS_ok (l := l) (by omega) (fun j hj => hall j (by omega)); exact tup2 (int_eq (by rw [hc])) (int_eq (by rw [hc])))
          · refine DW.x rfl rfl (X.move rfl) (by decide) ?_
            refine DW.no rfl rfl (by decide) ?_
            refine DW.no rfl rfl (by decide) ?_
            refine DW.no rfl rfl (by decide) ?_
            refine DW.no rfl rfl (by decide) ?_
            refine DW.no rfl rfl (by decide) ?_
            refine DW.no rfl rfl (by decide) ?_
            refine DW.no rfl rfl (by decide) ?_
            refine DW.no rfl rfl (by decide) ?_
            refine DW.no rfl rfl (by decide) ?_
            refine DW.x rfl rfl (X.pickF rfl rfl rfl) (by decide) ?_
            refine DW.x rfl rfl (X.assign rfl) (by decide) ?_
            refine DW.nil ?_
            refine WK.nThen ?_
            refine WC.condF rfl ?_
            refine WC.seq ?_
            refine WC.region ?_
            refine WL.x (X.field Try.runUnderlying58 rfl Try.sizeOf3 rfl) (by decide) ?_
            refine WL.x (X.loadB (k := 0) Try.isAgg3 rfl rfl rfl) (by decide) ?_
            refine WL.cond (X.call Try.call65 rfl (within65 _ _ _ _ )) (by decide) (fun h21 => ?_) (fun h21 => ?_)
            · refine WL.x (X.not rfl) (by decide) ?_
              refine WL.x (X.assign rfl) (by decide) ?_
              refine WL.nil ?_
              refine WK.nThen ?_
              refine WC.condF rfl ?_
              refine WC.region ?_
              refine WL.x (X.field Try.runUnderlying58 rfl Try.sizeOf3 rfl) (by decide) ?_
              refine WL.x (X.loadB (k := 0) Try.isAgg3 rfl rfl rfl) (by decide) ?_
              refine WL.cond (X.call Try.call65 rfl (within65 _ _ _ _ )) (by decide) (fun h22 => ?_) (fun h22 => ?_)
              · refine WL.x (X.not rfl) (by decide) ?_
                refine WL.x (X.assign rfl) (by decide) ?_
                refine WL.nil ?_
                refine WK.nThen ?_
                refine WC.condF rfl ?_
                refine WC.seq ?_
                refine WC.region ?_
                refine WL.x (X.field Try.runUnderlying58 rfl Try.sizeOf56 rfl) (by decide) ?_
                refine WL.x (X.loadB (k := 0) Try.isAgg56 rfl rfl rfl) (by decide) ?_
                refine WL.cond (X.call Try.call90 rfl (high90 _ _ _ hs9 )) (by decide) (fun h23 => ?_) (fun h23 => ?_)
                · refine WL.x (X.not rfl) (by decide) ?_
                  refine WL.x (X.assign rfl) (by decide) ?_
                  refine WL.nil ?_
                  refine WK.nThen ?_
                  refine WC.condF rfl ?_
                  refine WC.skip ?_
                  refine WK.nBlock ?_
                  refine WK.nBlock ?_
                  refine WK.nThen ?_
                  refine WC.region ?_
                  refine WL.x (X.add rfl rfl (by omega) (by omega)) (by decide) ?_
                  refine WL.x (X.move rfl) (by decide) ?_
                  refine WL.nil ?_
                  refine WK.nThen ?_
                  refine WK.next (k + 1) rfl (.cons _ .slnil) (.cons rfl (.cons rfl (.cons rfl (.cons rfl .nil)))) ?_ ?_
                  · exact ⟨by omega, fun j hj => by rcases Nat.lt_succ_iff_lt_or_eq.1 hj with h | h; exact hall j h; subst h; (unfold badAt; rw [if_neg (by unfold placedOk at *; omega), if_neg (by simpa using ‹highOk _›)])⟩
                  · omega
                · refine WL.x (X.not rfl) (by decide) ?_
                  refine WL.x (X.assign rfl) (by decide) ?_
                  refine WL.nil ?_
                  refine WK.nThen ?_
                  refine WC.condT rfl ?_
                  refine WC.seq ?_
                  refine WC.region ?_
                  refine WL.x (X.move rfl) (by decide) ?_
                  refine WL.x (X.assign rfl) (by decide) ?_
                  refine WL.x (X.assign rfl) (by decide) ?_
                  refine WL.nil ?_
                  refine WK.nThen ?_
                  refine WC.ret ?_
                  refine WK.rBlock ?_
                  refine WK.rBlock ?_
                  refine WK.rThen ?_
                  refine WK.rThen ?_
                  refine WK.rBlock ?_
                  refine WK.rThen ?_
                  refine WK.ret2 rfl rfl rfl (fun w' hw' => Ret.exact hw' ?_)
                  first | (have hc := checkS_big (l := l) (by omega); exact tup2 (int_eq (by rw [hc])) (int_eq (by rw [hc]))) | (have hbad : badAt l k = 50 := (by unfold badAt; rw [if_pos (by unfold placedOk; omega)]); have hc := checkS_bad (l := l) (k := k) (by omega) (by omega) hall (by omega); exact tup2 (int_eq (by rw [hc]; exact hbad.symm)) (int_eq (by rw [hc]))) | (have hbad : badAt l k = 50 := (by unfold badAt; rw [if_pos (.inl (by assumption))]); have hc := checkS_bad (l := l) (k := k) (by omega) (by omega) hall (by omega); exact tup2 (int_eq (by rw [hc]; exact hbad.symm)) (int_eq (by rw [hc]))) | (have hbad : badAt l k = 51 := (by unfold badAt; rw [if_neg (by unfold placedOk; omega), if_pos (by assumption)]); have hc := checkS_bad (l := l) (k := k) (by omega) (by omega) hall (by omega); exact tup2 (int_eq (by rw [hc]; exact hbad.symm)) (int_eq (by rw [hc]))) | (have hbad : badAt l k = 51 := (by unfold badAt; rw [if_neg (by unfold placedOk at *; omega), if_pos (by assumption)]); have hc := checkS_bad (l := l) (k := k) (by omega) (by omega) hall (by omega); exact tup2 (int_eq (by rw [hc]; exact hbad.symm)) (int_eq (by rw [hc]))) | (have hc := checkS_ok (l := l) (by omega) (fun j hj => hall j (by omega)); exact tup2 (int_eq (by rw [hc])) (int_eq (by rw [hc])))
              · refine WL.x (X.not rfl) (by decide) ?_
                refine WL.x (X.assign rfl) (by decide) ?_
                refine WL.nil ?_
                refine WK.nThen ?_
                refine WC.condT rfl ?_
                refine WC.seq ?_
                refine WC.region ?_
                refine WL.x (X.move rfl) (by decide) ?_
                refine WL.x (X.assign rfl) (by decide) ?_
                refine WL.x (X.assign rfl) (by decide) ?_
                refine WL.nil ?_
                refine WK.nThen ?_
                refine WC.ret ?_
                refine WK.rBlock ?_
                refine WK.rBlock ?_
                refine WK.rThen ?_
                refine WK.rThen ?_
                refine WK.rBlock ?_
                refine WK.rThen ?_
                refine WK.ret2 rfl rfl rfl (fun w' hw' => Ret.exact hw' ?_)
                first | (have hc := checkS_big (l := l) (by omega); exact tup2 (int_eq (by rw [hc])) (int_eq (by rw [hc]))) | (have hbad : badAt l k = 50 := (by unfold badAt; rw [if_pos (by unfold placedOk; omega)]); have hc := checkS_bad (l := l) (k := k) (by omega) (by omega) hall (by omega); exact tup2 (int_eq (by rw [hc]; exact hbad.symm)) (int_eq (by rw [hc]))) | (have hbad : badAt l k = 50 := (by unfold badAt; rw [if_pos (.inl (by assumption))]); have hc := checkS_bad (l := l) (k := k) (by omega) (by omega) hall (by omega); exact tup2 (int_eq (by rw [hc]; exact hbad.symm)) (int_eq (by rw [hc]))) | (have hbad : badAt l k = 51 := (by unfold badAt; rw [if_neg (by unfold placedOk; omega), if_pos (by assumption)]); have hc := checkS_bad (l := l) (k := k) (by omega) (by omega) hall (by omega); exact tup2 (int_eq (by rw [hc]; exact hbad.symm)) (int_eq (by rw [hc]))) | (have hbad : badAt l k = 51 := (by unfold badAt; rw [if_neg (by unfold placedOk at *; omega), if_pos (by assumption)]); have hc := checkS_bad (l := l) (k := k) (by omega) (by omega) hall (by omega); exact tup2 (int_eq (by rw [hc]; exact hbad.symm)) (int_eq (by rw [hc]))) | (have hc := checkS_ok (l := l) (by omega) (fun j hj => hall j (by omega)); exact tup2 (int_eq (by rw [hc])) (int_eq (by rw [hc])))
            · refine WL.x (X.not rfl) (by decide) ?_
              refine WL.x (X.assign rfl) (by decide) ?_
              refine WL.nil ?_
              refine WK.nThen ?_
              refine WC.condT rfl ?_
              refine WC.skip ?_
              refine WK.nThen ?_
              refine WC.condT rfl ?_
              refine WC.seq ?_
              refine WC.region ?_
              refine WL.x (X.move rfl) (by decide) ?_
              refine WL.x (X.assign rfl) (by decide) ?_
              refine WL.x (X.assign rfl) (by decide) ?_
              refine WL.nil ?_
              refine WK.nThen ?_
              refine WC.ret ?_
              refine WK.rBlock ?_
              refine WK.rBlock ?_
              refine WK.rThen ?_
              refine WK.rThen ?_
              refine WK.rBlock ?_
              refine WK.rThen ?_
              refine WK.ret2 rfl rfl rfl (fun w' hw' => Ret.exact hw' ?_)
              first | (have hc := checkS_big (l := l) (by omega); exact tup2 (int_eq (by rw [hc])) (int_eq (by rw [hc]))) | (have hbad : badAt l k = 50 := (by unfold badAt; rw [if_pos (by unfold placedOk; omega)]); have hc := checkS_bad (l := l) (k := k) (by omega) (by omega) hall (by omega); exact tup2 (int_eq (by rw [hc]; exact hbad.symm)) (int_eq (by rw [hc]))) | (have hbad : badAt l k = 50 := (by unfold badAt; rw [if_pos (.inl (by assumption))]); have hc := checkS_bad (l := l) (k := k) (by omega) (by omega) hall (by omega); exact tup2 (int_eq (by rw [hc]; exact hbad.symm)) (int_eq (by rw [hc]))) | (have hbad : badAt l k = 51 := (by unfold badAt; rw [if_neg (by unfold placedOk; omega), if_pos (by assumption)]); have hc := checkS_bad (l := l) (k := k) (by omega) (by omega) hall (by omega); exact tup2 (int_eq (by rw [hc]; exact hbad.symm)) (int_eq (by rw [hc]))) | (have hbad : badAt l k = 51 := (by unfold badAt; rw [if_neg (by unfold placedOk at *; omega), if_pos (by assumption)]); have hc := checkS_bad (l := l) (k := k) (by omega) (by omega) hall (by omega); exact tup2 (int_eq (by rw [hc]; exact hbad.symm)) (int_eq (by rw [hc]))) | (have hc := checkS_ok (l := l) (by omega) (fun j hj => hall j (by omega)); exact tup2 (int_eq (by rw [hc])) (int_eq (by rw [hc])))
        · refine WL.x (X.not rfl) (by decide) ?_
          refine WL.x (X.assign rfl) (by decide) ?_
          refine WL.nil ?_
          refine WK.nThen ?_
          refine WC.condT rfl ?_
          refine WC.skip ?_
          refine WK.nThen ?_
          refine WC.condT rfl ?_
          refine WC.seq ?_
          refine WC.region ?_
          refine WL.x (X.move rfl) (by decide) ?_
          refine WL.x (X.assign rfl) (by decide) ?_
          refine WL.x (X.assign rfl) (by decide) ?_
          refine WL.nil ?_
          refine WK.nThen ?_
          refine WC.ret ?_
          refine WK.rBlock ?_
          refine WK.rBlock ?_
          refine WK.rThen ?_
          refine WK.rThen ?_
          refine WK.rBlock ?_
          refine WK.rThen ?_
          refine WK.ret2 rfl rfl rfl (fun w' hw' => Ret.exact hw' ?_)
          first | (have hc := checkS_big (l := l) (by omega); exact tup2 (int_eq (by rw [hc])) (int_eq (by rw [hc]))) | (have hbad : badAt l k = 50 := (by unfold badAt; rw [if_pos (by unfold placedOk; omega)]); have hc := checkS_bad (l := l) (k := k) (by omega) (by omega) hall (by omega); exact tup2 (int_eq (by rw [hc]; exact hbad.symm)) (int_eq (by rw [hc]))) | (have hbad : badAt l k = 50 := (by unfold badAt; rw [if_pos (.inl (by assumption))]); have hc := checkS_bad (l := l) (k := k) (by omega) (by omega) hall (by omega); exact tup2 (int_eq (by rw [hc]; exact hbad.symm)) (int_eq (by rw [hc]))) | (have hbad : badAt l k = 51 := (by unfold badAt; rw [if_neg (by unfold placedOk; omega), if_pos (by assumption)]); have hc := checkS_bad (l := l) (k := k) (by omega) (by omega) hall (by omega); exact tup2 (int_eq (by rw [hc]; exact hbad.symm)) (int_eq (by rw [hc]))) | (have hbad : badAt l k = 51 := (by unfold badAt; rw [if_neg (by unfold placedOk at *; omega), if_pos (by assumption)]); have hc := checkS_bad (l := l) (k := k) (by omega) (by omega) hall (by omega); exact tup2 (int_eq (by rw [hc]; exact hbad.symm)) (int_eq (by rw [hc]))) | (have hc := checkS_ok (l := l) (by omega) (fun j hj => hall j (by omega)); exact tup2 (int_eq (by rw [hc])) (int_eq (by rw [hc])))
      · refine WL.nil ?_
        refine WK.nThen ?_
        refine WC.seq ?_
        refine WC.condF rfl ?_
        refine WC.exit ?_
        refine WK.eThen ?_
        refine WK.eThen ?_
        refine WK.eHit ?_
        refine WK.nThen ?_
        refine WC.seq ?_
        refine WC.region ?_
        refine WL.x (X.assign rfl) (by decide) ?_
        refine WL.x (X.assign rfl) (by decide) ?_
        refine WL.nil ?_
        refine WK.nThen ?_
        refine WC.ret ?_
        refine WK.ret2 rfl rfl rfl (fun w' hw' => Ret.exact hw' ?_)
        first | (have hc := checkS_big (l := l) (by omega); exact tup2 (int_eq (by rw [hc])) (int_eq (by rw [hc]))) | (have hbad : badAt l k = 50 := (by unfold badAt; rw [if_pos (by unfold placedOk; omega)]); have hc := checkS_bad (l := l) (k := k) (by omega) (by omega) hall (by omega); exact tup2 (int_eq (by rw [hc]; exact hbad.symm)) (int_eq (by rw [hc]))) | (have hbad : badAt l k = 50 := (by unfold badAt; rw [if_pos (.inl (by assumption))]); have hc := checkS_bad (l := l) (k := k) (by omega) (by omega) hall (by omega); exact tup2 (int_eq (by rw [hc]; exact hbad.symm)) (int_eq (by rw [hc]))) | (have hbad : badAt l k = 51 := (by unfold badAt; rw [if_neg (by unfold placedOk; omega), if_pos (by assumption)]); have hc := checkS_bad (l := l) (k := k) (by omega) (by omega) hall (by omega); exact tup2 (int_eq (by rw [hc]; exact hbad.symm)) (int_eq (by rw [hc]))) | (have hbad : badAt l k = 51 := (by unfold badAt; rw [if_neg (by unfold placedOk at *; omega), if_pos (by assumption)]); have hc := checkS_bad (l := l) (k := k) (by omega) (by omega) hall (by omega); exact tup2 (int_eq (by rw [hc]; exact hbad.symm)) (int_eq (by rw [hc]))) | (have hc := checkS_ok (l := l) (by omega) (fun j hj => hall j (by omega)); exact tup2 (int_eq (by rw [hc])) (int_eq (by rw [hc])))

theorem alone80 (m : Mem) (vl : Value) (l : List Station) (hl : Sl m vl l)   : Exact Try.prog 80 #[vl] m (.int .i64 (aloneE l)) := by
  have ll := hl.le
  refine Exact.start Try.func80 rfl Try.ntmps80 rfl fun wld => ?_
  refine WC.seq ?_
  refine WC.region ?_
  refine WL.x (X.assign rfl) (by decide) ?_
  refine WL.nil ?_
  refine WK.nThen ?_
  refine WC.seq ?_
  refine WC.seq ?_
  refine WC.region ?_
  refine WL.x (X.move rfl) (by decide) ?_
  refine WL.x (X.len Try.runUnderlying24 rfl hl) (by decide) ?_
  refine WL.x (X.move rfl) (by decide) ?_
  refine WL.nil ?_
  refine WK.nThen ?_
  refine WC.block ?_
  refine WC.loop (G := Nat) (fun k => l.length - k) (fun k => m) (fun k => []) (fun k => [(7, vl), (8, .int .i64 (↑l.length)), (9, .int .i64 (↑k))]) (fun k => k ≤ l.length ∧ (∀ j, j < k → oneE (gt l j) = 0)) 0 rfl (.refl _) (.cons rfl (.cons rfl (.cons rfl .nil))) ?_ ?_
  · exact ⟨Nat.zero_le _, fun j hj => absurd hj (Nat.not_lt_zero _)⟩
  · rintro k hF1
    show WK _ _ m [] [(7, vl), (8, .int .i64 (↑l.length)), (9, .int .i64 (↑k))] _
    replace hF1 : k ≤ l.length ∧ (∀ j, j < k → oneE (gt l j) = 0) := hF1
    obtain ⟨hk, hall⟩ := hF1
    refine WK.good (fun hgood0 => ?_)
    refine WC.seq ?_
    refine WC.region ?_
    refine WL.cond (X.lss rfl rfl) (by decide) (fun h2 => ?_) (fun h2 => ?_)
    · refine WL.nil ?_
      refine WK.nThen ?_
      refine WC.seq ?_
      refine WC.condT rfl ?_
      refine WC.skip ?_
      refine WK.nThen ?_
      refine WC.seq ?_
      refine WC.block ?_
      refine WC.seq ?_
      refine WC.region ?_
      refine WL.xe (E.idxN k Try.runUnderlying24 Try.sizeOf58 rfl rfl hl (by omega)) (by decide) (fun p3 hp4 => ?_)
      refine WL.xe (E.loadAgg Try.isAgg58 Try.sizeOf58 rfl hp4) (by decide) (fun c5 hc6 => ?_)
      obtain ⟨v7, rfl, hs8⟩ := hc6
      have hl9 := hs8.le
      refine WL.tn (T.alloc Try.zeroValue58 rfl) (by decide) fun b10 => ?_
      refine WL.ts (T.storeBA (k := 0) Try.sizeOf58 rfl rfl rfl (one_cons rfl (one_cons rfl (one_cons rfl (one_cons hs8.one one_nil)))) rfl rfl) ?_
      refine WL.nil ?_
      refine WK.nThen ?_
      refine WC.seq ?_
      refine WC.region ?_
      refine WL.x (X.loadBA (k := 0) Try.isAgg58 Try.sizeOf58 rfl rfl rfl) (by decide) ?_
      refine WL.tm (T.litM (α := Station) (vals := [.agg [.int .i64 ((gt l k).ID), .int .i64 ((gt l k).X), .int .i64 ((gt l k).Y), v7].toArray]) (L := [gt l k]) sl24 rfl (.cons rfl ⟨_, rfl, hs8⟩ .nil) rfl rfl) (by decide) (fun m11 v12 hle13 hs14 => ?_)
      replace hl := hl.mono hle13
      replace hp4 := hp4.mono hle13
      replace hs8 := hs8.mono hle13
      refine WL.x (X.call Try.call53 rfl (check53 _ _ _ hs14 )) (by decide) ?_
      refine WL.x (X.move rfl) (by decide) ?_
      refine WL.x (X.extract rfl rfl) (by decide) ?_
      refine WL.x (X.extract rfl rfl) (by decide) ?_
      refine WL.x (X.assign rfl) (by decide) ?_
      refine WL.x (X.assign rfl) (by decide) ?_
      refine WL.nil ?_
      refine WK.nThen ?_
      refine WC.seq ?_
      refine WC.region ?_
      refine WL.x (X.move rfl) (by decide) ?_
      refine WL.condn (X.neq rfl rfl) (by decide) (fun h15 => ?_) (fun h15 => ?_)
      · refine WL.nil ?_
        refine WK.nThen ?_
        refine WC.condT rfl ?_
        refine WC.seq ?_
        refine WC.region ?_
        refine WL.x (X.move rfl) (by decide) ?_
        refine WL.x (X.assign rfl) (by decide) ?_
        refine WL.nil ?_
        refine WK.nThen ?_
        refine WC.ret ?_
        refine WK.rBlock ?_
        refine WK.rThen ?_
        refine WK.rThen ?_
        refine WK.rBlock ?_
        refine WK.rThen ?_
        refine WK.ret1 rfl rfl (fun w' hw' => Ret.exact hw' ?_)
        first | exact int_eq (aloneE_bad (by omega) hall (by assumption)).symm | exact int_eq (aloneE_ok (fun j hj => hall j (by omega))).symm
      · refine WL.nil ?_
        refine WK.nThen ?_
        refine WC.condF rfl ?_
        refine WC.skip ?_
        refine WK.nBlock ?_
        refine WK.nThen ?_
        refine WC.region ?_
        refine WL.x (X.add rfl rfl (by omega) (by omega)) (by decide) ?_
        refine WL.x (X.move rfl) (by decide) ?_
        refine WL.nil ?_
        refine WK.nThen ?_
        refine WK.back hgood0 hle13 ?_
        refine WK.next (k + 1) rfl (.cons _ .slnil) (.cons rfl (.cons rfl (.cons rfl .nil))) ?_ ?_
        · exact ⟨by omega, fun j hj => by rcases Nat.lt_succ_iff_lt_or_eq.1 hj with h | h; exact hall j h; subst h; (simpa [oneE] using ‹(checkS _).1 = 0›)⟩
        · omega
    · refine WL.nil ?_
      refine WK.nThen ?_
      refine WC.seq ?_
      refine WC.condF rfl ?_
      refine WC.exit ?_
      refine WK.eThen ?_
      refine WK.eThen ?_
      refine WK.eHit ?_
      refine WK.nThen ?_
      refine WC.seq ?_
      refine WC.region ?_
      refine WL.x (X.assign rfl) (by decide) ?_
      refine WL.nil ?_
      refine WK.nThen ?_
      refine WC.ret ?_
      refine WK.ret1 rfl rfl (fun w' hw' => Ret.exact hw' ?_)
      first | exact int_eq (aloneE_bad (by omega) hall (by assumption)).symm | exact int_eq (aloneE_ok (fun j hj => hall j (by omega))).symm

theorem distance81 (m : Mem) (ca : List Value) (a : Station) (ha : Enc.rd m ca a) (cb : List Value) (b : Station) (hb : Enc.rd m cb b)  (hpa : placedOk a) (hpb : placedOk b) : Exact Try.prog 81 #[.agg ca.toArray, .agg cb.toArray] m (.int .i64 (distS a b)) := by
  obtain ⟨v1, rfl, hs2⟩ := ha
  have hl3 := hs2.le
  obtain ⟨v4, rfl, hs5⟩ := hb
  have hl6 := hs5.le
  have ha1 := hpa.2.1
  have ha2 := hpa.2.2
  have hb1 := hpb.2.1
  have hb2 := hpb.2.2
  have hx2 := sq_bd (x := a.X - b.X) (by omega) (by omega)
  have hy2 := sq_bd (x := a.Y - b.Y) (by omega) (by omega)
  have hd2 : dist2 a b = (a.X - b.X) * (a.X - b.X) + (a.Y - b.Y) * (a.Y - b.Y) := rfl
  refine Exact.start Try.func81 rfl Try.ntmps81 rfl fun wld => ?_
  refine WC.seq ?_
  refine WC.region ?_
  refine WL.tn (T.boxB rfl rfl) (by decide) fun b7 => ?_
  refine WL.tn (T.boxB rfl rfl) (by decide) fun b8 => ?_
  refine WL.x (X.assign rfl) (by decide) ?_
  refine WL.nil ?_
  refine WK.nThen ?_
  refine WC.seq ?_
  refine WC.draw (π := (.cons 0 (.cons 1 (.cons 2 (.cons 3 (.cons 4 (.cons 5 (.cons 6 (.cons 7 (.cons 8 (.cons 9 (.cons 10 (.cons 11 .done))))))))))))) [] [] rfl (by kernel_rfl) ?_
  refine DW.x rfl rfl (X.field Try.runUnderlying58 rfl Try.sizeOf3 rfl) (by decide) ?_
  refine DW.x rfl rfl (X.loadB (k := 1) Try.isAgg3 rfl rfl rfl) (by decide) ?_
  refine DW.x rfl rfl (X.field Try.runUnderlying58 rfl Try.sizeOf3 rfl) (by decide) ?_
  refine DW.x rfl rfl (X.loadB (k := 0) Try.isAgg3 rfl rfl rfl) (by decide) ?_
  refine DW.x rfl rfl (X.sub rfl rfl (by omega) (by omega)) (by decide) ?_
  refine DW.x rfl rfl (X.field Try.runUnderlying58 rfl Try.sizeOf3 rfl) (by decide) ?_
  refine DW.x rfl rfl (X.loadB (k := 1) Try.isAgg3 rfl rfl rfl) (by decide) ?_
  refine DW.x rfl rfl (X.field Try.runUnderlying58 rfl Try.sizeOf3 rfl) (by decide) ?_
  refine DW.x rfl rfl (X.loadB (k := 0) Try.isAgg3 rfl rfl rfl) (by decide) ?_
  refine DW.x rfl rfl (X.sub rfl rfl (by omega) (by omega)) (by decide) ?_
  refine DW.x rfl rfl (X.assign rfl) (by decide) ?_
  refine DW.x rfl rfl (X.assign rfl) (by decide) ?_
  refine DW.nil ?_
  refine WK.nThen ?_
  refine WC.seq ?_
  refine WC.region ?_
  refine WL.x (X.assign rfl) (by decide) ?_
  refine WL.nil ?_
  refine WK.nThen ?_
  refine WC.seq ?_
  refine WC.block ?_
  refine WC.loop (G := Nat) (fun k => sqUp (dist2 a b).toNat - k) (fun k => m) (fun k => [blk b8 58 [.int .i64 (b.ID), .int .i64 (b.X), .int .i64 (b.Y), v4], blk b7 58 [.int .i64 (a.ID), .int .i64 (a.X), .int .i64 (a.Y), v1]]) (fun k => [(5, .int .i64 (a.X - b.X)), (6, .int .i64 (a.Y - b.Y)), (7, .int .i64 (↑k))]) (fun k => k ≤ sqUp (dist2 a b).toNat) 0 rfl (.refl _) (.cons rfl (.cons rfl (.cons rfl .nil))) ?_ ?_
  · exact Nat.zero_le _
  · rintro k hF9
    show WK _ _ m [blk b8 58 [.int .i64 (b.ID), .int .i64 (b.X), .int .i64 (b.Y), v4], blk b7 58 [.int .i64 (a.ID), .int .i64 (a.X), .int .i64 (a.Y), v1]] [(5, .int .i64 (a.X - b.X)), (6, .int .i64 (a.Y - b.Y)), (7, .int .i64 (↑k))] _
    replace hF9 : k ≤ sqUp (dist2 a b).toNat := hF9
    have hk := hF9
    have hkk := sqk_bd hpa hpb hk
    have hkb := sqUp_le (dist2 a b).toNat
    have hdb := dist2_bd hpa hpb
    refine WC.seq ?_
    refine WC.seq ?_
    refine WC.region ?_
    refine WL.x (X.move rfl) (by decide) ?_
    refine WL.x (X.move rfl) (by decide) ?_
    refine WL.x (X.mul rfl rfl (by omega) (by omega)) (by decide) ?_
    refine WL.x (X.move rfl) (by decide) ?_
    refine WL.x (X.move rfl) (by decide) ?_
    refine WL.x (X.mul rfl rfl (by omega) (by omega)) (by decide) ?_
    refine WL.x (X.move rfl) (by decide) ?_
    refine WL.x (X.move rfl) (by decide) ?_
    refine WL.x (X.mul rfl rfl (by omega) (by omega)) (by decide) ?_
    refine WL.x (X.add rfl rfl (by omega) (by omega)) (by decide) ?_
    refine WL.cond (X.lss rfl rfl) (by decide) (fun h10 => ?_) (fun h10 => ?_)
    · refine WL.nil ?_
      refine WK.nThen ?_
      refine WC.condT rfl ?_
      refine WC.skip ?_
      refine WK.nThen ?_
      refine WC.block ?_
      refine WC.region ?_
      refine WL.x (X.move rfl) (by decide) ?_
      refine WL.x (X.add rfl rfl (by omega) (by omega)) (by decide) ?_
      refine WL.x (X.assign rfl) (by decide) ?_
      refine WL.nil ?_
      refine WK.nBlock ?_
      refine WK.nThen ?_
      refine WK.next (k + 1) rfl (.refl _) (.cons rfl (.cons rfl (.cons rfl .nil))) ?_ ?_
      · exact sqUp_step (by omega) (by omega)
      · (have := sqUp_step (a := a) (b := b) (k := k) (by omega) (by omega)); omega
    · refine WL.nil ?_
      refine WK.nThen ?_
      refine WC.condF rfl ?_
      refine WC.exit ?_
      refine WK.eThen ?_
      refine WK.eThen ?_
      refine WK.eHit ?_
      refine WK.nThen ?_
      refine WC.seq ?_
      refine WC.region ?_
      refine WL.x (X.move rfl) (by decide) ?_
      refine WL.x (X.assign rfl) (by decide) ?_
      refine WL.nil ?_
      refine WK.nThen ?_
      refine WC.ret ?_
      refine WK.ret1 rfl rfl (fun w' hw' => Ret.exact hw' ?_)
      exact int_eq (sqUp_end (by omega) hk (by omega))

theorem bound84 (m : Mem) (cw : List Value) (w : Wind) (hw : Enc.rd m cw w) (ca : List Value) (a : Station) (ha : Enc.rd m ca a) (cb : List Value) (b : Station) (hb : Enc.rd m cb b)  (hpw : windE w = 0) (hpa : placedOk a) (hpb : placedOk b) : Exact Try.prog 84 #[.agg cw.toArray, .agg ca.toArray, .agg cb.toArray] m (.int .i64 (boundS w a b)) := by
  obtain rfl := hw
  obtain ⟨v1, rfl, hs2⟩ := ha
  have hl3 := hs2.le
  obtain ⟨v4, rfl, hs5⟩ := hb
  have hl6 := hs5.le
  have hmul := each_bd hpw hpa hpb
  have hw1 := windE_zero hpw
  refine Exact.start Try.func84 rfl Try.ntmps84 rfl fun wld => ?_
  refine WC.seq ?_
  refine WC.region ?_
  refine WL.tn (T.boxB rfl rfl) (by decide) fun b7 => ?_
  refine WL.tn (T.boxB rfl rfl) (by decide) fun b8 => ?_
  refine WL.tn (T.boxB rfl rfl) (by decide) fun b9 => ?_
  refine WL.x (X.assign rfl) (by decide) ?_
  refine WL.nil ?_
  refine WK.nThen ?_
  refine WC.seq ?_
  refine WC.seq ?_
  refine WC.region ?_
  refine WL.x (X.field Try.runUnderlying58 rfl Try.sizeOf3 rfl) (by decide) ?_
  refine WL.x (X.loadB (k := 1) Try.isAgg3 rfl rfl rfl) (by decide) ?_
  refine WL.x (X.field Try.runUnderlying58 rfl Try.sizeOf3 rfl) (by decide) ?_
  refine WL.x (X.loadB (k := 0) Try.isAgg3 rfl rfl rfl) (by decide) ?_
  refine WL.cond (X.eql rfl rfl) (by decide) (fun h10 => ?_) (fun h10 => ?_)
  · refine WL.nil ?_
    refine WK.nThen ?_
    refine WC.condT rfl ?_
    refine WC.seq ?_
    refine WC.region ?_
    refine WL.x (X.assign rfl) (by decide) ?_
    refine WL.nil ?_
    refine WK.nThen ?_
    refine WC.ret ?_
    refine WK.rThen ?_
    refine WK.ret1 rfl rfl (fun w' hw' => Ret.exact hw' ?_)
    first | exact int_eq (by unfold boundS; rw [if_pos (by assumption)]) | exact int_eq (by unfold boundS; rw [if_neg (by assumption)])
  · refine WL.nil ?_
    refine WK.nThen ?_
    refine WC.condF rfl ?_
    refine WC.skip ?_
    refine WK.nThen ?_
    refine WC.seq ?_
    refine WC.draw (π := (.cons 0 (.cons 1 (.cons 2 (.cons 3 (.cons 4 (.cons 5 (.cons 6 (.cons 7 (.cons 8 (.cons 9 (.cons 10 .done)))))))))))) [] [] rfl (by kernel_rfl) ?_
    refine DW.x rfl rfl (X.field Try.runUnderlying23 rfl Try.sizeOf3 rfl) (by decide) ?_
    refine DW.x rfl rfl (X.loadB (k := 2) Try.isAgg3 rfl rfl rfl) (by decide) ?_
    refine DW.x rfl rfl (X.field Try.runUnderlying23 rfl Try.sizeOf3 rfl) (by decide) ?_
    refine DW.x rfl rfl (X.loadB (k := 2) Try.isAgg3 rfl rfl rfl) (by decide) ?_
    refine DW.x rfl rfl (X.loadBA (k := 1) Try.isAgg58 Try.sizeOf58 rfl rfl rfl) (by decide) ?_
    refine DW.x rfl rfl (X.loadBA (k := 0) Try.isAgg58 Try.sizeOf58 rfl rfl rfl) (by decide) ?_
    refine DW.x rfl rfl (X.call Try.call81 rfl (distance81 _ _ a ⟨_, rfl, hs2⟩ _ b ⟨_, rfl, hs5⟩ (by assumption) (by assumption))) (by decide) ?_
    refine DW.x rfl rfl (X.mul rfl rfl (by omega) (by omega)) (by decide) ?_
    refine DW.x rfl rfl (X.quo rfl rfl (by omega) (by omega) (by omega)) (by decide) ?_
    refine DW.x rfl rfl (X.add rfl rfl (by omega) (by omega)) (by decide) ?_
    refine DW.x rfl rfl (X.assign rfl) (by decide) ?_
    refine DW.nil ?_
    refine WK.nThen ?_
    refine WC.ret ?_
    refine WK.ret1 rfl rfl (fun w' hw' => Ret.exact hw' ?_)
    first | exact int_eq (by unfold boundS; rw [if_pos (by assumption)]) | exact int_eq (by unfold boundS; rw [if_neg (by assumption)])

theorem sea75 (m : Mem) (level : Int) (height : Int)  (hl : 0 ≤ level ∧ level ≤ 12001) (hh : 0 ≤ height ∧ height ≤ 4000) : Exact Try.prog 75 #[.int .i64 (level), .int .i64 (height)] m (.int .i64 (seaS level height)) := by
  have hm := sea_mul hl hh
  refine Exact.start Try.func75 rfl Try.ntmps75 rfl fun wld => ?_
  refine WC.seq ?_
  refine WC.region ?_
  refine WL.x (X.assign rfl) (by decide) ?_
  refine WL.nil ?_
  refine WK.nThen ?_
  refine WC.seq ?_
  refine WC.region ?_
  refine WL.x (X.move rfl) (by decide) ?_
  refine WL.x (X.move rfl) (by decide) ?_
  refine WL.x (X.move rfl) (by decide) ?_
  refine WL.x (X.mul rfl rfl (by omega) (by omega)) (by decide) ?_
  refine WL.x (X.quo rfl rfl (by omega) (by omega) (by omega)) (by decide) ?_
  refine WL.x (X.add rfl rfl (by omega) (by omega)) (by decide) ?_
  refine WL.x (X.assign rfl) (by decide) ?_
  refine WL.nil ?_
  refine WK.nThen ?_
  refine WC.ret ?_
  refine WK.ret1 rfl rfl (fun w' hw' => Ret.exact hw' ?_)
  rfl

theorem seas79 (m : Mem) (level : Int) (ch : List Value) (h : Span) (hh : Enc.rd m ch h)  (hl : 0 ≤ level ∧ level ≤ 12001) (hs : spanOk h) : Exact Try.prog 79 #[.int .i64 (level), .agg ch.toArray] m (.agg [.int .i64 (seaS level h.Lo), .int .i64 (seaS level h.Hi)].toArray) := by
  obtain rfl := hh
  have hs1 := hs.1
  have hs2 := hs.2
  refine Exact.start Try.func79 rfl Try.ntmps79 rfl fun wld => ?_
  refine WC.seq ?_
  refine WC.region ?_
  refine WL.tn (T.boxB rfl rfl) (by decide) fun b1 => ?_
  refine WL.tn (T.alloc Try.zeroValue49 rfl) (by decide) fun b2 => ?_
  refine WL.nil ?_
  refine WK.nThen ?_
  refine WC.seq ?_
  refine WC.draw (π := (.cons 0 (.cons 1 (.cons 2 (.cons 3 (.cons 4 (.cons 5 (.cons 6 (.cons 7 (.cons 8 (.cons 9 .done))))))))))) [9] [9] rfl (by kernel_rfl) ?_
  refine DW.x rfl rfl (X.move rfl) (by decide) ?_
  refine DW.x rfl rfl (X.field Try.runUnderlying49 rfl Try.sizeOf3 rfl) (by decide) ?_
  refine DW.x rfl rfl (X.loadB (k := 1) Try.isAgg3 rfl rfl rfl) (by decide) ?_
  refine DW.x rfl rfl (X.call Try.call75 rfl (sea75 _ _ _ (by omega) (by omega))) (by decide) ?_
  refine DW.x rfl rfl (X.move rfl) (by decide) ?_
  refine DW.x rfl rfl (X.field Try.runUnderlying49 rfl Try.sizeOf3 rfl) (by decide) ?_
  refine DW.x rfl rfl (X.loadB (k := 1) Try.isAgg3 rfl rfl rfl) (by decide) ?_
  refine DW.x rfl rfl (X.call Try.call75 rfl (sea75 _ _ _ (by omega) (by omega))) (by decide) ?_
  refine DW.x (V := Value.agg [.int .i64 (seaS level h.Lo), .int .i64 (seaS level h.Hi)].toArray) rfl rfl (X.build Try.zeroValue49 Try.runUnderlying49 (places49 _ Try.underlying49) rfl rfl) (by decide) ?_
  refine DW.ts rfl rfl rfl rfl (T.storeBA (k := 0) Try.sizeOf49 rfl rfl rfl (one_cons rfl (one_cons rfl one_nil)) rfl rfl) ?_
  refine DW.nil ?_
  refine WK.nThen ?_
  refine WC.ret ?_
  refine WK.retC1 0 rfl rfl rfl Try.isAgg49 Try.sizeOf49 (fun w' hw' => Ret.exact hw' ?_)
  rfl

theorem one40 (m : Mem) (cs : List Value) (s : Station) (hs : Enc.rd m cs s)   : Exact Try.prog 40 #[.agg cs.toArray] m (.bool (decide ((↑s.Heights.length : Int) ≤ 40))) := by
  obtain ⟨v1, rfl, hs2⟩ := hs
  have hl3 := hs2.le
  refine Exact.start Try.func40 rfl Try.ntmps40 rfl fun wld => ?_
  refine WC.seq ?_
  refine WC.region ?_
  refine WL.tn (T.boxB rfl rfl) (by decide) fun b4 => ?_
  refine WL.x (X.assign rfl) (by decide) ?_
  refine WL.nil ?_
  refine WK.nThen ?_
  refine WC.seq ?_
  refine WC.region ?_
  refine WL.x (X.field Try.runUnderlying58 rfl Try.sizeOf56 rfl) (by decide) ?_
  refine WL.x (X.loadB (k := 0) Try.isAgg56 rfl rfl rfl) (by decide) ?_
  refine WL.x (X.len Try.runUnderlying56 rfl hs2) (by decide) ?_
  refine WL.x (X.leq rfl rfl) (by decide) ?_
  refine WL.x (X.assign rfl) (by decide) ?_
  refine WL.nil ?_
  refine WK.nThen ?_
  refine WC.ret ?_
  refine WK.ret1 rfl rfl (fun w' hw' => Ret.exact hw' ?_)
  rfl

end Go.Proofs.S5
