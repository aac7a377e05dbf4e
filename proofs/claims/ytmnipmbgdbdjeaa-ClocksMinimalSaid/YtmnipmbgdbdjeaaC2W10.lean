import Derived.Test.YtmnipmbgdbdjeaaC2W9
import Derived.Test.YtmnipmbgdbdjeaaC2LN
/- Clocks: walks, tenth part, by program. -/
namespace Go.Proofs.C2
open Go Go.Kx
set_option linter.unusedVariables false

theorem pick34 (m : Mem) (vm_ : Value) (m_ : List Mark) (hm_ : Sl m vm_ m_) (vl : Value) (l : List Int) (hl : Sl m vl l)  (h1 : l.length ≤ 1000) : Pure Try.prog 34 #[vm_, vl] m (fun m' v => ∃ r0, v = r0 ∧ Sl m' r0 (pickN m_ l l.length)) := by
  have lm_ := hm_.le
  have ll := hl.le
  refine Pure.start Try.func34 rfl Try.ntmps34 rfl fun wld => ?_
  refine WC.seq ?_
  refine WC.region ?_
  refine WL.x (X.assign rfl) (by decide) ?_
  refine WL.nil ?_
  refine WK.nThen ?_
  refine WC.seq ?_
  refine WK.ownF Mark 33 ?_
  refine WC.region ?_
  refine WL.x (X.assign rfl) (by decide) ?_
  refine WL.nil ?_
  refine WK.nThen ?_
  refine WC.seq ?_
  refine WC.seq ?_
  refine WC.region ?_
  refine WL.x (X.assign rfl) (by decide) ?_
  refine WL.nil ?_
  refine WK.nThen ?_
  refine WC.block ?_
  refine WC.loop (G := Nat × Value) (fun (k, vo) => l.length - k) (fun (k, vo) => m) (fun (k, vo) => [rowF (vo) 33 (pickN m_ l k)]) (fun (k, vo) => [(0, vm_), (1, vl), (5, vo), (6, .int .i64 (↑k))]) (fun (k, vo) => k ≤ l.length) ((0, Value.slice none 0 0)) rfl (.refl _) (.cons rfl (.cons rfl (.cons rfl (.cons rfl .nil)))) ?_ ?_
  · exact Nat.zero_le _
  · rintro ⟨k, vo⟩ hF1
    show WK _ _ m [rowF (vo) 33 (pickN m_ l k)] [(0, vm_), (1, vl), (5, vo), (6, .int .i64 (↑k))] _
    replace hF1 : k ≤ l.length := hF1
    have hk := hF1
    refine WC.seq ?_
    refine WC.seq ?_
    refine WC.region ?_
    refine WL.x (X.move rfl) (by decide) ?_
    refine WL.x (X.move rfl) (by decide) ?_
    refine WL.x (X.len Try.runUnderlying29 rfl hl) (by decide) ?_
    refine WL.cond (X.lss rfl rfl) (by decide) (fun h2 => ?_) (fun h2 => ?_)
    · refine WL.nil ?_
      refine WK.nThen ?_
      refine WC.condT rfl ?_
      refine WC.skip ?_
      refine WK.nThen ?_
      refine WC.seq ?_
      refine WC.block ?_
      refine WC.seq ?_
      have hwl := pickN_len m_ l k
      refine WC.region ?_
      refine WL.x (X.move rfl) (by decide) ?_
      refine WL.x (X.move rfl) (by decide) ?_
      refine WL.xe (E.idxN k Try.runUnderlying29 Try.sizeOf3 rfl rfl hl (by omega)) (by decide) (fun p3 hp4 => ?_)
      refine WL.x (X.loadInt Try.isAgg3 rfl hp4) (by decide) ?_
      refine WL.cond (X.geq rfl rfl) (by decide) (fun h5 => ?_) (fun h5 => ?_)
      · refine WL.x (X.move rfl) (by decide) ?_
        refine WL.yes rfl rfl ?_
        refine WL.x (X.move rfl) (by decide) ?_
        refine WL.yes rfl rfl ?_
        refine WL.x (X.move rfl) (by decide) ?_
        refine WL.yes rfl rfl ?_
        refine WL.xe (E.idxN k Try.runUnderlying29 Try.sizeOf3 rfl rfl hl (by omega)) (by decide) (fun p6 hp7 => ?_)
        refine WL.yes rfl rfl ?_
        refine WL.x (X.loadInt Try.isAgg3 rfl hp7) (by decide) ?_
        refine WL.yes rfl rfl ?_
        refine WL.x (X.move rfl) (by decide) ?_
        refine WL.yes rfl rfl ?_
        refine WL.x (X.len Try.runUnderlying26 rfl hm_) (by decide) ?_
        refine WL.yes rfl rfl ?_
        refine WL.cond (X.lss rfl rfl) (by decide) (fun h8 => ?_) (fun h8 => ?_)
        · refine WL.x (X.pickT rfl rfl rfl) (by decide) ?_
          refine WL.nil ?_
          refine WK.nThen ?_
          refine WC.condT rfl ?_
          refine WC.region ?_
          refine WL.x (X.move rfl) (by decide) ?_
          refine WL.x (X.move rfl) (by decide) ?_
          refine WL.x (X.move rfl) (by decide) ?_
          refine WL.x (X.move rfl) (by decide) ?_
          refine WL.xe (E.idxN k Try.runUnderlying29 Try.sizeOf3 rfl rfl hl (by omega)) (by decide) (fun p9 hp10 => ?_)
          refine WL.x (X.loadInt Try.isAgg3 rfl hp10) (by decide) ?_
          refine WL.xe (E.idx Try.runUnderlying26 Try.sizeOf33 rfl rfl hm_ (by omega) (by omega)) (by decide) (fun p11 hp12 => ?_)
          refine WL.xe (E.loadAgg Try.isAgg33 Try.sizeOf33 rfl hp12) (by decide) (fun c13 hc14 => ?_)
          obtain rfl := hc14
          refine WL.tl (T.lit1 sl26 rfl rfl rfl (by decide)) (by decide) fun b15 => ?_
          refine WL.ta (T.appendF (k := 0) (a := gt m_ ((gt l k : Int).toNat)) sl26 rfl rfl rfl rfl (by first | omega | (simp; done) | (simp; omega)) (by decide)) (by decide) (fun v16 => ?_)
          refine WL.x (X.assign rfl) (by decide) ?_
          refine WL.nil ?_
          refine WK.nBlock ?_
          refine WK.nThen ?_
          refine WC.region ?_
          refine WL.x (X.move rfl) (by decide) ?_
          refine WL.x (X.add rfl rfl (by omega) (by omega)) (by decide) ?_
          refine WL.x (X.assign rfl) (by decide) ?_
          refine WL.nil ?_
          refine WK.nThen ?_
          have he17 : ((pickN m_ l k) ++ [gt m_ ((gt l k : Int).toNat)]) = (pickN m_ l ((k + 1))) := (by first | exact pickN_yes ⟨by omega, by omega⟩ | exact pickN_no (fun h_ => by unfold inM at h_; omega))
          rw [he17]
          refine WK.next ((k + 1, v16)) rfl (.refl _) (.cons rfl (.cons rfl (.cons rfl (.cons rfl .nil)))) ?_ ?_
          · omega
          · (dsimp only; omega)
        · refine WL.x (X.pickT rfl rfl rfl) (by decide) ?_
          refine WL.nil ?_
          refine WK.nThen ?_
          refine WC.condF rfl ?_
          refine WC.skip ?_
          refine WK.nBlock ?_
          refine WK.nThen ?_
          refine WC.region ?_
          refine WL.x (X.move rfl) (by decide) ?_
          refine WL.x (X.add rfl rfl (by omega) (by omega)) (by decide) ?_
          refine WL.x (X.assign rfl) (by decide) ?_
          refine WL.nil ?_
          refine WK.nThen ?_
          have he18 : (pickN m_ l k) = (pickN m_ l ((k + 1))) := (by first | exact pickN_yes ⟨by omega, by omega⟩ | exact pickN_no (fun h_ => by unfold inM at h_; omega))
          rw [he18]
          refine WK.next ((k + 1, vo)) rfl (.refl _) (.cons rfl (.cons rfl (.cons rfl (.cons rfl .nil)))) ?_ ?_
          · omega
          · (dsimp only; omega)
      · refine WL.x (X.move rfl) (by decide) ?_
        refine WL.no rfl rfl rfl (by decide) ?_
        refine WL.no rfl rfl rfl (by decide) ?_
        refine WL.no rfl rfl rfl (by decide) ?_
        refine WL.no rfl rfl rfl (by decide) ?_
        refine WL.no rfl rfl rfl (by decide) ?_
        refine WL.no rfl rfl rfl (by decide) ?_
        refine WL.no rfl rfl rfl (by decide) ?_
        refine WL.x (X.pickF rfl rfl rfl) (by decide) ?_
        refine WL.nil ?_
        refine WK.nThen ?_
        refine WC.condF rfl ?_
        refine WC.skip ?_
        refine WK.nBlock ?_
        refine WK.nThen ?_
        refine WC.region ?_
        refine WL.x (X.move rfl) (by decide) ?_
        refine WL.x (X.add rfl rfl (by omega) (by omega)) (by decide) ?_
        refine WL.x (X.assign rfl) (by decide) ?_
        refine WL.nil ?_
        refine WK.nThen ?_
        have he19 : (pickN m_ l k) = (pickN m_ l ((k + 1))) := (by first | exact pickN_yes ⟨by omega, by omega⟩ | exact pickN_no (fun h_ => by unfold inM at h_; omega))
        rw [he19]
        refine WK.next ((k + 1, vo)) rfl (.refl _) (.cons rfl (.cons rfl (.cons rfl (.cons rfl .nil)))) ?_ ?_
        · omega
        · (dsimp only; omega)
    · refine WL.nil ?_
      refine WK.nThen ?_
      refine WC.condF rfl ?_
      refine WC.exit ?_
      refine WK.eThen ?_
      refine WK.eThen ?_
      refine WK.eHit ?_
      refine WK.nThen ?_
      refine WC.seq ?_
      obtain rfl : k = l.length := (by omega)
      refine WC.region ?_
      refine WL.x (X.move rfl) (by decide) ?_
      refine WL.x (X.assign rfl) (by decide) ?_
      refine WL.nil ?_
      refine WK.nThen ?_
      refine WC.ret ?_
      refine WK.freezeF 0 rfl rfl (by have := pickN_len m_ l l.length; unfold lenB; omega) (fun m20 hle21 hs22 => ?_)
      replace hm_ := hm_.mono hle21
      replace hl := hl.mono hle21
      refine WK.ret1 rfl rfl (fun w' hw' => Ret.mem hw' ?_)
      exact ⟨_, rfl, hs22⟩

end Go.Proofs.C2
