/- Century: walks, ninth part, by program. -/
import Derived.Test.YtednficclnjmjaaC8Law
import Derived.Test.YtednficclnjmjaaC8W8
namespace Go.Proofs.C8
open Go Go.Kx
set_option linter.unusedSimpArgs false

theorem few22 (m : Mem) (cs : List Value) (s : Ser) (hs : Enc.rd m cs s)   : Exact Try.prog 22 #[.agg cs.toArray] m (.bool (decide (fewP s))) := by
  obtain ⟨v1, v3, rfl, hs2, hs4⟩ := hs
  have hl5 := hs2.le
  have hl6 := hs4.le
  refine Exact.start Try.func22 rfl Try.ntmps22 rfl fun wld => ?_
  refine WC.seq ?_
  refine WC.region ?_
  refine WL.tn (T.boxB rfl rfl) (by decide) fun b7 => ?_
  refine WL.x (X.assign rfl) (by decide) ?_
  refine WL.nil ?_
  refine WK.nThen ?_
  refine WC.seq ?_
  refine WC.region ?_
  refine WL.x (X.field Try.runUnderlying25 rfl Try.sizeOf22 rfl) (by decide) ?_
  refine WL.x (X.loadB (k := 0) Try.isAgg22 rfl rfl rfl) (by decide) ?_
  refine WL.x (X.len Try.runUnderlying22 rfl hs2) (by decide) ?_
  refine WL.cond (X.leq rfl rfl) (by decide) (fun h8 => ?_) (fun h8 => ?_)
  · refine WL.x (X.move rfl) (by decide) ?_
    refine WL.no rfl rfl rfl (by decide) ?_
    refine WL.no rfl rfl rfl (by decide) ?_
    refine WL.no rfl rfl rfl (by decide) ?_
    refine WL.no rfl rfl rfl (by decide) ?_
    refine WL.no rfl rfl rfl (by decide) ?_
    refine WL.noU rfl rfl (by decide) ?_
    refine WL.noU rfl rfl (by decide) ?_
    refine WL.noU rfl rfl (by decide) ?_
    refine WL.noU rfl rfl (by decide) ?_
    refine WL.no rfl rfl rfl (by decide) ?_
    refine WL.x (X.pickT rfl rfl rfl) (by decide) ?_
    refine WL.x (X.move rfl) (by decide) ?_
    refine WL.yes rfl rfl ?_
    refine WL.x (X.field Try.runUnderlying25 rfl Try.sizeOf23 rfl) (by decide) ?_
    refine WL.yes rfl rfl ?_
    refine WL.x (X.loadB (k := 0) Try.isAgg23 rfl rfl rfl) (by decide) ?_
    refine WL.yes rfl rfl ?_
    refine WL.x (X.len Try.runUnderlying23 rfl hs4) (by decide) ?_
    refine WL.yes rfl rfl ?_
    refine WL.cond (X.leq rfl rfl) (by decide) (fun h9 => ?_) (fun h9 => ?_)
    · refine WL.yes rfl rfl ?_
      refine WL.x (X.move rfl) (by decide) ?_
      refine WL.no rfl rfl rfl (by decide) ?_
      refine WL.no rfl rfl rfl (by decide) ?_
      refine WL.no rfl rfl rfl (by decide) ?_
      refine WL.no rfl rfl rfl (by decide) ?_
      refine WL.no rfl rfl rfl (by decide) ?_
      refine WL.noU rfl rfl (by decide) ?_
      refine WL.noU rfl rfl (by decide) ?_
      refine WL.noU rfl rfl (by decide) ?_
      refine WL.noU rfl rfl (by decide) ?_
      refine WL.no rfl rfl rfl (by decide) ?_
      refine WL.yes rfl rfl ?_
      refine WL.x (X.pickT rfl rfl rfl) (by decide) ?_
      refine WL.x (X.pickT rfl rfl rfl) (by decide) ?_
      refine WL.x (X.assign rfl) (by decide) ?_
      refine WL.nil ?_
      refine WK.nThen ?_
      refine WC.ret ?_
      refine WK.ret1 rfl rfl (fun w' hw' => Ret.exact hw' ?_)
      first | exact bool_true (by unfold fewP; omega) | exact bool_false (by unfold fewP; omega) | exact dec_eq (by unfold fewP; omega)
    · refine WL.yes rfl rfl ?_
      refine WL.x (X.move rfl) (by decide) ?_
      refine WL.yes rfl rfl ?_
      refine WL.x (X.field Try.runUnderlying25 rfl Try.sizeOf23 rfl) (by decide) ?_
      refine WL.yes rfl rfl ?_
      refine WL.x (X.loadB (k := 0) Try.isAgg23 rfl rfl rfl) (by decide) ?_
      refine WL.yes rfl rfl ?_
      refine WL.x (X.len Try.runUnderlying23 rfl hs4) (by decide) ?_
      refine WL.yes rfl rfl ?_
      refine WL.cond (X.gtr rfl rfl) (by decide) (fun h10 => ?_) (fun h10 => ?_)
      · refine WL.yes rfl rfl ?_
        refine WL.x (X.move rfl) (by decide) ?_
        refine WL.yes rfl rfl ?_
        refine WL.x (X.field Try.runUnderlying25 rfl Try.sizeOf23 rfl) (by decide) ?_
        refine WL.yes rfl rfl ?_
        refine WL.x (X.loadB (k := 0) Try.isAgg23 rfl rfl rfl) (by decide) ?_
        refine WL.yes rfl rfl ?_
        refine WL.x (X.len Try.runUnderlying23 rfl hs4) (by decide) ?_
        refine WL.yes rfl rfl ?_
        refine WL.x (X.leq rfl rfl) (by decide) ?_
        refine WL.yes rfl rfl ?_
        refine WL.x (X.pickT rfl rfl rfl) (by decide) ?_
        refine WL.yes rfl rfl ?_
        refine WL.x (X.pickF rfl rfl rfl) (by decide) ?_
        refine WL.x (X.pickT rfl rfl rfl) (by decide) ?_
        refine WL.x (X.assign rfl) (by decide) ?_
        refine WL.nil ?_
        refine WK.nThen ?_
        refine WC.ret ?_
        refine WK.ret1 rfl rfl (fun w' hw' => Ret.exact hw' ?_)
        first | exact bool_true (by unfold fewP; omega) | exact bool_false (by unfold fewP; omega) | exact dec_eq (by unfold fewP; omega)
      · refine WL.yes rfl rfl ?_
        refine WL.x (X.move rfl) (by decide) ?_
        refine WL.no rfl rfl rfl (by decide) ?_
        refine WL.no rfl rfl rfl (by decide) ?_
        refine WL.no rfl rfl rfl (by decide) ?_
        refine WL.no rfl rfl rfl (by decide) ?_
        refine WL.yes rfl rfl ?_
        refine WL.x (X.pickF rfl rfl rfl) (by decide) ?_
        refine WL.yes rfl rfl ?_
        refine WL.x (X.pickF rfl rfl rfl) (by decide) ?_
        refine WL.x (X.pickT rfl rfl rfl) (by decide) ?_
        refine WL.x (X.assign rfl) (by decide) ?_
        refine WL.nil ?_
        refine WK.nThen ?_
        refine WC.ret ?_
        refine WK.ret1 rfl rfl (fun w' hw' => Ret.exact hw' ?_)
        first | exact bool_true (by unfold fewP; omega) | exact bool_false (by unfold fewP; omega) | exact dec_eq (by unfold fewP; omega)
  · refine WL.x (X.move rfl) (by decide) ?_
    refine WL.yes rfl rfl ?_
    refine WL.x (X.field Try.runUnderlying25 rfl Try.sizeOf22 rfl) (by decide) ?_
    refine WL.yes rfl rfl ?_
    refine WL.x (X.loadB (k := 0) Try.isAgg22 rfl rfl rfl) (by decide) ?_
    refine WL.yes rfl rfl ?_
    refine WL.x (X.len Try.runUnderlying22 rfl hs2) (by decide) ?_
    refine WL.yes rfl rfl ?_
    refine WL.cond (X.gtr rfl rfl) (by decide) (fun h11 => ?_) (fun h11 => ?_)
    · refine WL.yes rfl rfl ?_
      refine WL.x (X.move rfl) (by decide) ?_
      refine WL.yes rfl rfl ?_
      refine WL.x (X.field Try.runUnderlying25 rfl Try.sizeOf22 rfl) (by decide) ?_
      refine WL.yes rfl rfl ?_
      refine WL.x (X.loadB (k := 0) Try.isAgg22 rfl rfl rfl) (by decide) ?_
      refine WL.yes rfl rfl ?_
      refine WL.x (X.len Try.runUnderlying22 rfl hs2) (by decide) ?_
      refine WL.yes rfl rfl ?_
      refine WL.cond (X.leq rfl rfl) (by decide) (fun h12 => ?_) (fun h12 => ?_)
      · refine WL.yes rfl rfl ?_
        refine WL.x (X.pickT rfl rfl rfl) (by decide) ?_
        refine WL.x (X.pickF rfl rfl rfl) (by decide) ?_
        refine WL.x (X.move rfl) (by decide) ?_
        refine WL.yes rfl rfl ?_
        refine WL.x (X.field Try.runUnderlying25 rfl Try.sizeOf23 rfl) (by decide) ?_
        refine WL.yes rfl rfl ?_
        refine WL.x (X.loadB (k := 0) Try.isAgg23 rfl rfl rfl) (by decide) ?_
        refine WL.yes rfl rfl ?_
        refine WL.x (X.len Try.runUnderlying23 rfl hs4) (by decide) ?_
        refine WL.yes rfl rfl ?_
        refine WL.cond (X.leq rfl rfl) (by decide) (fun h13 => ?_) (fun h13 => ?_)
        · refine WL.yes rfl rfl ?_
          refine WL.x (X.move rfl) (by decide) ?_
          refine WL.no rfl rfl rfl (by decide) ?_
          refine WL.no rfl rfl rfl (by decide) ?_
          refine WL.no rfl rfl rfl (by decide) ?_
          refine WL.no rfl rfl rfl (by decide) ?_
          refine WL.no rfl rfl rfl (by decide) ?_
          refine WL.noU rfl rfl (by decide) ?_
          refine WL.noU rfl rfl (by decide) ?_
          refine WL.noU rfl rfl (by decide) ?_
          refine WL.noU rfl rfl (by decide) ?_
          refine WL.no rfl rfl rfl (by decide) ?_
          refine WL.yes rfl rfl ?_
          refine WL.x (X.pickT rfl rfl rfl) (by decide) ?_
          refine WL.x (X.pickT rfl rfl rfl) (by decide) ?_
          refine WL.x (X.assign rfl) (by decide) ?_
          refine WL.nil ?_
          refine WK.nThen ?_
          refine WC.ret ?_
          refine WK.ret1 rfl rfl (fun w' hw' => Ret.exact hw' ?_)
          first | exact bool_true (by unfold fewP; omega) | exact bool_false (by unfold fewP; omega) | exact dec_eq (by unfold fewP; omega)
        · refine WL.yes rfl rfl ?_
          refine WL.x (X.move rfl) (by decide) ?_
          refine WL.yes rfl rfl ?_
          refine WL.x (X.field Try.runUnderlying25 rfl Try.sizeOf23 rfl) (by decide) ?_
          refine WL.yes rfl rfl ?_
          refine WL.x (X.loadB (k := 0) Try.isAgg23 rfl rfl rfl) (by decide) ?_
          refine WL.yes rfl rfl ?_
          refine WL.x (X.len Try.runUnderlying23 rfl hs4) (by decide) ?_
          refine WL.yes rfl rfl ?_
          refine WL.cond (X.gtr rfl rfl) (by decide) (fun h14 => ?_) (fun h14 => ?_)
          · refine WL.yes rfl rfl ?_
            refine WL.x (X.move rfl) (by decide) ?_
            refine WL.yes rfl rfl ?_
            refine WL.x (X.field Try.runUnderlying25 rfl Try.sizeOf23 rfl) (by decide) ?_
            refine WL.yes rfl rfl ?_
            refine WL.x (X.loadB (k := 0) Try.isAgg23 rfl rfl rfl) (by decide) ?_
            refine WL.yes rfl rfl ?_
            refine WL.x (X.len Try.runUnderlying23 rfl hs4) (by decide) ?_
            refine WL.yes rfl rfl ?_
            refine WL.x (X.leq rfl rfl) (by decide) ?_
            refine WL.yes rfl rfl ?_
            refine WL.x (X.pickT rfl rfl rfl) (by decide) ?_
            refine WL.yes rfl rfl ?_
            refine WL.x (X.pickF rfl rfl rfl) (by decide) ?_
            refine WL.x (X.pickT rfl rfl rfl) (by decide) ?_
            refine WL.x (X.assign rfl) (by decide) ?_
            refine WL.nil ?_
            refine WK.nThen ?_
            refine WC.ret ?_
            refine WK.ret1 rfl rfl (fun w' hw' => Ret.exact hw' ?_)
            first | exact bool_true (by unfold fewP; omega) | exact bool_false (by unfold fewP; omega) | exact dec_eq (by unfold fewP; omega)
          · refine WL.yes rfl rfl ?_
            refine WL.x (X.move rfl) (by decide) ?_
            refine WL.no rfl rfl rfl (by decide) ?_
            refine WL.no rfl rfl rfl (by decide) ?_
            refine WL.no rfl rfl rfl (by decide) ?_
            refine WL.no rfl rfl rfl (by decide) ?_
            refine WL.yes rfl rfl ?_
            refine WL.x (X.pickF rfl rfl rfl) (by decide) ?_
            refine WL.yes rfl rfl ?_
            refine WL.x (X.pickF rfl rfl rfl) (by decide) ?_
            refine WL.x (X.pickT rfl rfl rfl) (by decide) ?_
            refine WL.x (X.assign rfl) (by decide) ?_
            refine WL.nil ?_
            refine WK.nThen ?_
            refine WC.ret ?_
            refine WK.ret1 rfl rfl (fun w' hw' => Ret.exact hw' ?_)
            first | exact bool_true (by unfold fewP; omega) | exact bool_false (by unfold fewP; omega) | exact dec_eq (by unfold fewP; omega)
      · refine WL.yes rfl rfl ?_
        refine WL.x (X.pickT rfl rfl rfl) (by decide) ?_
        refine WL.x (X.pickF rfl rfl rfl) (by decide) ?_
        refine WL.x (X.move rfl) (by decide) ?_
        refine WL.no rfl rfl rfl (by decide) ?_
        refine WL.no rfl rfl rfl (by decide) ?_
        refine WL.no rfl rfl rfl (by decide) ?_
        refine WL.no rfl rfl rfl (by decide) ?_
        refine WL.no rfl rfl rfl (by decide) ?_
        refine WL.noU rfl rfl (by decide) ?_
        refine WL.noU rfl rfl (by decide) ?_
        refine WL.noU rfl rfl (by decide) ?_
        refine WL.noU rfl rfl (by decide) ?_
        refine WL.noU rfl rfl (by decide) ?_
        refine WL.noU rfl rfl (by decide) ?_
        refine WL.noU rfl rfl (by decide) ?_
        refine WL.noU rfl rfl (by decide) ?_
        refine WL.noU rfl rfl (by decide) ?_
        refine WL.noU rfl rfl (by decide) ?_
        refine WL.no rfl rfl rfl (by decide) ?_
        refine WL.x (X.pickF rfl rfl rfl) (by decide) ?_
        refine WL.x (X.assign rfl) (by decide) ?_
        refine WL.nil ?_
        refine WK.nThen ?_
        refine WC.ret ?_
        refine WK.ret1 rfl rfl (fun w' hw' => Ret.exact hw' ?_)
        first | exact bool_true (by unfold fewP; omega) | exact bool_false (by unfold fewP; omega) | exact dec_eq (by unfold fewP; omega)
    · refine WL.yes rfl rfl ?_
      refine WL.x (X.move rfl) (by decide) ?_
      refine WL.no rfl rfl rfl (by decide) ?_
      refine WL.no rfl rfl rfl (by decide) ?_
      refine WL.no rfl rfl rfl (by decide) ?_
      refine WL.no rfl rfl rfl (by decide) ?_
      refine WL.yes rfl rfl ?_
      refine WL.x (X.pickF rfl rfl rfl) (by decide) ?_
      refine WL.x (X.pickF rfl rfl rfl) (by decide) ?_
      refine WL.x (X.move rfl) (by decide) ?_
      refine WL.no rfl rfl rfl (by decide) ?_
      refine WL.no rfl rfl rfl (by decide) ?_
      refine WL.no rfl rfl rfl (by decide) ?_
      refine WL.no rfl rfl rfl (by decide) ?_
      refine WL.no rfl rfl rfl (by decide) ?_
      refine WL.noU rfl rfl (by decide) ?_
      refine WL.noU rfl rfl (by decide) ?_
      refine WL.noU rfl rfl (by decide) ?_
      refine WL.noU rfl rfl (by decide) ?_
      refine WL.noU rfl rfl (by decide) ?_
      refine WL.noU rfl rfl (by decide) ?_
      refine WL.noU rfl rfl (by decide) ?_
      refine WL.noU rfl rfl (by decide) ?_
      refine WL.noU rfl rfl (by decide) ?_
      refine WL.noU rfl rfl (by decide) ?_
      refine WL.no rfl rfl rfl (by decide) ?_
      refine WL.x (X.pickF rfl rfl rfl) (by decide) ?_
      refine WL.x (X.assign rfl) (by decide) ?_
      refine WL.nil ?_
      refine WK.nThen ?_
      refine WC.ret ?_
      refine WK.ret1 rfl rfl (fun w' hw' => Ret.exact hw' ?_)
      first | exact bool_true (by unfold fewP; omega) | exact bool_false (by unfold fewP; omega) | exact dec_eq (by unfold fewP; omega)

theorem turned35 (m : Mem) (cs : List Value) (s : Ser) (hs : Enc.rd m cs s)  (hok : Ok s) : Pure Try.prog 35 #[.agg cs.toArray] m (fun m' v => ∃ r0, v = .agg r0.toArray ∧ Enc.rd m' r0 (turnS s)) := by
  obtain ⟨v1, v3, rfl, hs2, hs4⟩ := hs
  have hl5 := hs2.le
  have hl6 := hs4.le
  have hnV := hok.nV
  have hnX := hok.nX
  refine Pure.start Try.func35 rfl Try.ntmps35 rfl fun wld => ?_
  refine WC.seq ?_
  refine WC.region ?_
  refine WL.tn (T.boxB rfl rfl) (by decide) fun b7 => ?_
  refine WL.tn (T.alloc Try.zeroValue25 rfl) (by decide) fun b8 => ?_
  refine WL.nil ?_
  refine WK.nThen ?_
  refine WC.seq ?_
  refine WC.region ?_
  refine WL.tn (T.alloc Try.zeroValue25 rfl) (by decide) fun b9 => ?_
  refine WL.nil ?_
  refine WK.nThen ?_
  refine WC.seq ?_
  refine WC.seq ?_
  refine WK.ownF Val 62 ?_
  refine WK.ownF Shf 72 ?_
  refine WC.region ?_
  refine WL.x (X.assign rfl) (by decide) ?_
  refine WL.nil ?_
  refine WK.nThen ?_
  refine WC.block ?_
  refine WC.loop (G := Nat × Value) (fun (k, va) => s.Values.length - k) (fun (k, va) => m) (fun (k, va) => [rowF ((.slice none 0 0)) 72 (([] : List Shf)), rowF (va) 62 ((List.range k).map (fun i => (⟨(gt s.Values i).Time, ⟨24000 - (gt s.Values i).Levels.Hi, 24000 - (gt s.Values i).Levels.Lo⟩⟩ : Val))), blk b9 25 [va, (.slice none 0 0)], blk b8 25 [.slice none 0 0, .slice none 0 0], blk b7 25 [v1, v3]]) (fun (k, va) => [(1, .pointer (some ⟨b7, 0, none⟩)), (2, .pointer (some ⟨b8, 0, none⟩)), (3, .pointer (some ⟨b9, 0, none⟩)), (4, .int .i64 (↑k))]) (fun (k, va) => k ≤ s.Values.length) ((0, Value.slice none 0 0)) rfl (.refl _) (.cons rfl (.cons rfl (.cons rfl (.cons rfl .nil)))) ?_ ?_
  · exact Nat.zero_le _
  · rintro ⟨k, va⟩ hF10
    show WK _ _ m [rowF ((.slice none 0 0)) 72 (([] : List Shf)), rowF (va) 62 ((List.range k).map (fun i => (⟨(gt s.Values i).Time, ⟨24000 - (gt s.Values i).Levels.Hi, 24000 - (gt s.Values i).Levels.Lo⟩⟩ : Val))), blk b9 25 [va, (.slice none 0 0)], blk b8 25 [.slice none 0 0, .slice none 0 0], blk b7 25 [v1, v3]] [(1, .pointer (some ⟨b7, 0, none⟩)), (2, .pointer (some ⟨b8, 0, none⟩)), (3, .pointer (some ⟨b9, 0, none⟩)), (4, .int .i64 (↑k))] _
    replace hF10 : k ≤ s.Values.length := hF10
    have hk := hF10
    have hvl := fun h => hok.vl (i := k) h
    refine WC.seq ?_
    refine WC.seq ?_
    refine WC.region ?_
    refine WL.x (X.move rfl) (by decide) ?_
    refine WL.x (X.field Try.runUnderlying25 rfl Try.sizeOf22 rfl) (by decide) ?_
    refine WL.x (X.loadB (k := 4) Try.isAgg22 rfl rfl rfl) (by decide) ?_
    refine WL.x (X.len Try.runUnderlying22 rfl hs2) (by decide) ?_
    refine WL.cond (X.lss rfl rfl) (by decide) (fun h11 => ?_) (fun h11 => ?_)
    · refine WL.nil ?_
      refine WK.nThen ?_
      refine WC.condT rfl ?_
      refine WC.skip ?_
      refine WK.nThen ?_
      refine WC.seq ?_
      refine WC.block ?_
      refine WC.seq ?_
      refine WC.region ?_
      refine WL.x (X.field Try.runUnderlying25 rfl Try.sizeOf22 rfl) (by decide) ?_
      refine WL.x (X.loadB (k := 4) Try.isAgg22 rfl rfl rfl) (by decide) ?_
      refine WL.x (X.move rfl) (by decide) ?_
      refine WL.xe (E.idxN k Try.runUnderlying22 Try.sizeOf62 rfl rfl hs2 (by omega)) (by decide) (fun p12 hp13 => ?_)
      refine WL.xe (E.loadAgg Try.isAgg62 Try.sizeOf62 rfl hp13) (by decide) (fun c14 hc15 => ?_)
      obtain rfl := hc15
      refine WL.tn (T.alloc Try.zeroValue62 rfl) (by decide) fun b16 => ?_
      refine WL.ts (T.storeBA (k := 0) Try.sizeOf62 rfl rfl rfl (one_cons rfl (one_cons rfl (one_cons rfl one_nil))) rfl rfl) ?_
      refine WL.nil ?_
      refine WK.nThen ?_
      refine WC.region ?_
      refine WL.x (X.field Try.runUnderlying25 rfl Try.sizeOf22 rfl) (by decide) ?_
      refine WL.x (X.loadB (k := 3) Try.isAgg22 rfl rfl rfl) (by decide) ?_
      refine WL.x (X.field Try.runUnderlying62 rfl Try.sizeOf3 rfl) (by decide) ?_
      refine WL.x (X.loadB (k := 0) Try.isAgg3 rfl rfl rfl) (by decide) ?_
      refine WL.x (X.field Try.runUnderlying62 rfl Try.sizeOf33 rfl) (by decide) ?_
      refine WL.x (X.field Try.runUnderlying33 rfl Try.sizeOf3 rfl) (by decide) ?_
      refine WL.x (X.loadB (k := 0) Try.isAgg3 rfl rfl rfl) (by decide) ?_
      refine WL.x (X.sub rfl rfl (by omega) (by omega)) (by decide) ?_
      refine WL.x (X.field Try.runUnderlying62 rfl Try.sizeOf33 rfl) (by decide) ?_
      refine WL.x (X.field Try.runUnderlying33 rfl Try.sizeOf3 rfl) (by decide) ?_
      refine WL.x (X.loadB (k := 0) Try.isAgg3 rfl rfl rfl) (by decide) ?_
      refine WL.x (X.sub rfl rfl (by omega) (by omega)) (by decide) ?_
      refine WL.x (V := Value.agg [.int .i64 (24000 - (((gt s.Values k).Levels).Hi)), .int .i64 (24000 - (((gt s.Values k).Levels).Lo))].toArray) (X.build Try.zeroValue33 Try.runUnderlying33 (places33 _ Try.underlying33) rfl rfl) (by decide) ?_
      refine WL.x (V := Value.agg [.int .i64 ((gt s.Values k).Time), .int .i64 (24000 - (((gt s.Values k).Levels).Hi)), .int .i64 (24000 - (((gt s.Values k).Levels).Lo))].toArray) (X.build Try.zeroValue62 Try.runUnderlying62 (places62 _ Try.underlying62) rfl rfl) (by decide) ?_
      refine WL.tl (T.lit1 sl22 rfl rfl rfl (by decide)) (by decide) fun b17 => ?_
      refine WL.ta (T.appendF (k := 2) (a := (Val.mk ((gt s.Values k).Time) ((Span.mk (24000 - (((gt s.Values k).Levels).Hi)) (24000 - (((gt s.Values k).Levels).Lo)))))) sl22 rfl rfl rfl rfl (by first | omega | (simp; omega)) (by decide)) (by decide) (fun v18 => ?_)
      refine WL.x (X.field Try.runUnderlying25 rfl Try.sizeOf22 rfl) (by decide) ?_
      refine WL.own1 (k := 2) rfl (fun ho19 => ?_)
      refine WL.ts (T.storeB (k := 3) Try.sizeOf22 rfl rfl rfl ho19 (Nat.le_of_ble_eq_true rfl)) ?_
      refine WL.nil ?_
      refine WK.nBlock ?_
      refine WK.nThen ?_
      refine WC.region ?_
      refine WL.x (X.move rfl) (by decide) ?_
      refine WL.x (X.add rfl rfl (by omega) (by omega)) (by decide) ?_
      refine WL.x (X.assign rfl) (by decide) ?_
      refine WL.nil ?_
      refine WK.nThen ?_
      have he20 : (((List.range k).map (fun i => (⟨(gt s.Values i).Time, ⟨24000 - (gt s.Values i).Levels.Hi, 24000 - (gt s.Values i).Levels.Lo⟩⟩ : Val))) ++ [(Val.mk ((gt s.Values k).Time) ((Span.mk (24000 - (((gt s.Values k).Levels).Hi)) (24000 - (((gt s.Values k).Levels).Lo)))))]) = ((List.range (k + 1)).map (fun i => (⟨(gt s.Values i).Time, ⟨24000 - (gt s.Values i).Levels.Hi, 24000 - (gt s.Values i).Levels.Lo⟩⟩ : Val))) := map_succ _ _
      rw [he20]
      refine WK.next ((k + 1, v18)) rfl (.cons _ (.cons_cons _ (.cons_cons _ (.cons_cons _ (.cons_cons _ (.cons_cons _ .slnil)))))) (.cons rfl (.cons rfl (.cons rfl (.cons rfl .nil)))) ?_ ?_
      · omega
      · (dsimp only; omega)
    · refine WL.nil ?_
      refine WK.nThen ?_
      refine WC.condF rfl ?_
      refine WC.exit ?_
      refine WK.eThen ?_
      refine WK.eThen ?_
      refine WK.eHit ?_
      refine WK.nThen ?_
      refine WC.seq ?_
      refine WC.seq ?_
      refine WC.region ?_
      refine WL.x (X.assign rfl) (by decide) ?_
      refine WL.nil ?_
      refine WK.nThen ?_
      refine WC.block ?_
      refine WC.loop (G := Nat × Value) (fun (i, vb) => s.Shifts.length - i) (fun (i, vb) => m) (fun (i, vb) => [rowF (vb) 72 ((List.range i).map (fun i => (⟨(gt s.Shifts i).Time, ⟨-(gt s.Shifts i).Levels.Hi, -(gt s.Shifts i).Levels.Lo⟩⟩ : Shf))), rowF (va) 62 ((List.range k).map (fun i => (⟨(gt s.Values i).Time, ⟨24000 - (gt s.Values i).Levels.Hi, 24000 - (gt s.Values i).Levels.Lo⟩⟩ : Val))), blk b9 25 [va, vb], blk b8 25 [.slice none 0 0, .slice none 0 0], blk b7 25 [v1, v3]]) (fun (i, vb) => [(1, .pointer (some ⟨b7, 0, none⟩)), (2, .pointer (some ⟨b8, 0, none⟩)), (3, .pointer (some ⟨b9, 0, none⟩)), (6, .int .i64 (↑i))]) (fun (i, vb) => i ≤ s.Shifts.length) ((0, (Value.slice none 0 0))) rfl (.refl _) (.cons rfl (.cons rfl (.cons rfl (.cons rfl .nil)))) ?_ ?_
      · exact Nat.zero_le _
      · rintro ⟨i, vb⟩ hF21
        show WK _ _ m [rowF (vb) 72 ((List.range i).map (fun i => (⟨(gt s.Shifts i).Time, ⟨-(gt s.Shifts i).Levels.Hi, -(gt s.Shifts i).Levels.Lo⟩⟩ : Shf))), rowF (va) 62 ((List.range k).map (fun i => (⟨(gt s.Values i).Time, ⟨24000 - (gt s.Values i).Levels.Hi, 24000 - (gt s.Values i).Levels.Lo⟩⟩ : Val))), blk b9 25 [va, vb], blk b8 25 [.slice none 0 0, .slice none 0 0], blk b7 25 [v1, v3]] [(1, .pointer (some ⟨b7, 0, none⟩)), (2, .pointer (some ⟨b8, 0, none⟩)), (3, .pointer (some ⟨b9, 0, none⟩)), (6, .int .i64 (↑i))] _
        replace hF21 : i ≤ s.Shifts.length := hF21
        have hi := hF21
        have hxl := fun h => hok.xl (i := i) h
        refine WC.seq ?_
        refine WC.seq ?_
        refine WC.region ?_
        refine WL.x (X.move rfl) (by decide) ?_
        refine WL.x (X.field Try.runUnderlying25 rfl Try.sizeOf23 rfl) (by decide) ?_
        refine WL.x (X.loadB (k := 4) Try.isAgg23 rfl rfl rfl) (by decide) ?_
        refine WL.x (X.len Try.runUnderlying23 rfl hs4) (by decide) ?_
        refine WL.cond (X.lss rfl rfl) (by decide) (fun h22 => ?_) (fun h22 => ?_)
        · refine WL.nil ?_
          refine WK.nThen ?_
          refine WC.condT rfl ?_
          refine WC.skip ?_
          refine WK.nThen ?_
          refine WC.seq ?_
          refine WC.block ?_
          refine WC.seq ?_
          refine WC.region ?_
          refine WL.x (X.field Try.runUnderlying25 rfl Try.sizeOf23 rfl) (by decide) ?_
          refine WL.x (X.loadB (k := 4) Try.isAgg23 rfl rfl rfl) (by decide) ?_
          refine WL.x (X.move rfl) (by decide) ?_
          refine WL.xe (E.idxN i Try.runUnderlying23 Try.sizeOf72 rfl rfl hs4 (by omega)) (by decide) (fun p23 hp24 => ?_)
          refine WL.xe (E.loadAgg Try.isAgg72 Try.sizeOf72 rfl hp24) (by decide) (fun c25 hc26 => ?_)
          obtain rfl := hc26
          refine WL.tn (T.alloc Try.zeroValue72 rfl) (by decide) fun b27 => ?_
          refine WL.ts (T.storeBA (k := 0) Try.sizeOf72 rfl rfl rfl (one_cons rfl (one_cons rfl (one_cons rfl one_nil))) rfl rfl) ?_
          refine WL.nil ?_
          refine WK.nThen ?_
          refine WC.region ?_
          refine WL.x (X.field Try.runUnderlying25 rfl Try.sizeOf23 rfl) (by decide) ?_
          refine WL.x (X.loadB (k := 3) Try.isAgg23 rfl rfl rfl) (by decide) ?_
          refine WL.x (X.field Try.runUnderlying72 rfl Try.sizeOf3 rfl) (by decide) ?_
          refine WL.x (X.loadB (k := 0) Try.isAgg3 rfl rfl rfl) (by decide) ?_
          refine WL.x (X.field Try.runUnderlying72 rfl Try.sizeOf33 rfl) (by decide) ?_
          refine WL.x (X.field Try.runUnderlying33 rfl Try.sizeOf3 rfl) (by decide) ?_
          refine WL.x (X.loadB (k := 0) Try.isAgg3 rfl rfl rfl) (by decide) ?_
          refine WL.x (X.neg rfl (by omega) (by omega)) (by decide) ?_
          refine WL.x (X.field Try.runUnderlying72 rfl Try.sizeOf33 rfl) (by decide) ?_
          refine WL.x (X.field Try.runUnderlying33 rfl Try.sizeOf3 rfl) (by decide) ?_
          refine WL.x (X.loadB (k := 0) Try.isAgg3 rfl rfl rfl) (by decide) ?_
          refine WL.x (X.neg rfl (by omega) (by omega)) (by decide) ?_
          refine WL.x (V := Value.agg [.int .i64 (-(((gt s.Shifts i).Levels).Hi)), .int .i64 (-(((gt s.Shifts i).Levels).Lo))].toArray) (X.build Try.zeroValue33 Try.runUnderlying33 (places33 _ Try.underlying33) rfl rfl) (by decide) ?_
          refine WL.x (V := Value.agg [.int .i64 ((gt s.Shifts i).Time), .int .i64 (-(((gt s.Shifts i).Levels).Hi)), .int .i64 (-(((gt s.Shifts i).Levels).Lo))].toArray) (X.build Try.zeroValue72 Try.runUnderlying72 (places72 _ Try.underlying72) rfl rfl) (by decide) ?_
          refine WL.tl (T.lit1 sl23 rfl rfl rfl (by decide)) (by decide) fun b28 => ?_
          refine WL.ta (T.appendF (k := 1) (a := (Shf.mk ((gt s.Shifts i).Time) ((Span.mk (-(((gt s.Shifts i).Levels).Hi)) (-(((gt s.Shifts i).Levels).Lo)))))) sl23 rfl rfl rfl rfl (by first | omega | (simp; omega)) (by decide)) (by decide) (fun v29 => ?_)
          refine WL.x (X.field Try.runUnderlying25 rfl Try.sizeOf23 rfl) (by decide) ?_
          refine WL.own1 (k := 1) rfl (fun ho30 => ?_)
          refine WL.ts (T.storeB (k := 3) Try.sizeOf23 rfl rfl rfl ho30 (Nat.le_of_ble_eq_true rfl)) ?_
          refine WL.nil ?_
          refine WK.nBlock ?_
          refine WK.nThen ?_
          refine WC.region ?_
          refine WL.x (X.move rfl) (by decide) ?_
          refine WL.x (X.add rfl rfl (by omega) (by omega)) (by decide) ?_
          refine WL.x (X.assign rfl) (by decide) ?_
          refine WL.nil ?_
          refine WK.nThen ?_
          have he31 : (((List.range i).map (fun i => (⟨(gt s.Shifts i).Time, ⟨-(gt s.Shifts i).Levels.Hi, -(gt s.Shifts i).Levels.Lo⟩⟩ : Shf))) ++ [(Shf.mk ((gt s.Shifts i).Time) ((Span.mk (-(((gt s.Shifts i).Levels).Hi)) (-(((gt s.Shifts i).Levels).Lo)))))]) = ((List.range (i + 1)).map (fun i => (⟨(gt s.Shifts i).Time, ⟨-(gt s.Shifts i).Levels.Hi, -(gt s.Shifts i).Levels.Lo⟩⟩ : Shf))) := map_succ _ _
          rw [he31]
          refine WK.next ((i + 1, v29)) rfl (.cons _ (.refl _)) (.cons rfl (.cons rfl (.cons rfl (.cons rfl .nil)))) ?_ ?_
          · omega
          · (dsimp only; omega)
        · refine WL.nil ?_
          refine WK.nThen ?_
          refine WC.condF rfl ?_
          refine WC.exit ?_
          refine WK.eThen ?_
          refine WK.eThen ?_
          refine WK.eHit ?_
          refine WK.nThen ?_
          refine WC.seq ?_
          obtain rfl : k = s.Values.length := (by omega)
          obtain rfl : i = s.Shifts.length := (by omega)
          refine WC.region ?_
          refine WL.x (X.loadBA (k := 2) Try.isAgg25 Try.sizeOf25 rfl rfl rfl) (by decide) ?_
          refine WL.own1 (k := 1) rfl (fun ho32 => ?_)
          refine WL.own1 (k := 0) rfl (fun ho33 => ?_)
          refine WL.ts (T.storeBA (k := 3) Try.sizeOf25 rfl rfl rfl (one_cons ho32 (one_cons ho33 one_nil)) rfl rfl) ?_
          refine WL.nil ?_
          refine WK.nThen ?_
          refine WC.ret ?_
          refine WK.freezeF 1 rfl rfl (by simp [lenB]; omega) (fun m34 hle35 hs36 => ?_)
          replace hs2 := hs2.mono hle35
          replace hs4 := hs4.mono hle35
          refine WK.freezeF 0 rfl rfl (by simp [lenB]; omega) (fun m37 hle38 hs39 => ?_)
          replace hs2 := hs2.mono hle38
          replace hs4 := hs4.mono hle38
          replace hs36 := hs36.mono hle38
          refine WK.retC1 1 rfl rfl rfl Try.isAgg25 Try.sizeOf25 (fun w' hw' => Ret.mem hw' ?_)
          exact ⟨_, rfl, ⟨_, _, rfl, hs36, hs39⟩⟩

end Go.Proofs.C8
