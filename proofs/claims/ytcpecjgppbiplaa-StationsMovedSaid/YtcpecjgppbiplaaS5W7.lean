/- Stations: walks, by program: the wind kept, sea levels of levels, mixed lists. -/
import Derived.Test.YtcpecjgppbiplaaS5Mix
import Derived.Test.YtcpecjgppbiplaaS5W6
namespace Go.Proofs.S5
open Go Go.Kx

theorem height49 (m : Mem) (cs : List Value) (s : Station) (hs : Enc.rd m cs s) (week : Int)   : Exact Try.prog 49 #[.agg cs.toArray, .int .i64 (week)] m (.tuple #[.agg [.int .i64 ((heightR s week).1.Lo), .int .i64 ((heightR s week).1.Hi)].toArray, .int .i64 ((heightR s week).2)]) := by
  obtain ⟨v1, rfl, hs2⟩ := hs
  have hl3 := hs2.le
  have h1 := aloneE_one s
  refine Exact.start Try.func49 rfl Try.ntmps49 rfl fun wld => ?_
  refine WC.seq ?_
  refine WC.region ?_
  refine WL.tn (T.boxB rfl rfl) (by decide) fun b4 => ?_
  refine WL.tn (T.alloc Try.zeroValue49 rfl) (by decide) fun b5 => ?_
  refine WL.x (X.assign rfl) (by decide) ?_
  refine WL.nil ?_
  refine WK.nThen ?_
  refine WC.seq ?_
  refine WC.region ?_
  refine WL.x (X.loadBA (k := 1) Try.isAgg58 Try.sizeOf58 rfl rfl rfl) (by decide) ?_
  refine WL.tm (T.litM (α := Station) (vals := [.agg [.int .i64 (s.ID), .int .i64 (s.X), .int .i64 (s.Y), v1].toArray]) (L := [s]) sl24 rfl (.cons rfl ⟨_, rfl, hs2⟩ .nil) rfl rfl) (by decide) (fun m6 v7 hle8 hs9 => ?_)
  replace hs2 := hs2.mono hle8
  refine WL.x (X.call Try.call80 rfl (alone80 _ _ _ hs9 )) (by decide) ?_
  refine WL.x (X.assign rfl) (by decide) ?_
  refine WL.nil ?_
  refine WK.nThen ?_
  refine WC.seq ?_
  refine WC.block ?_
  refine WC.seq ?_
  refine WC.region ?_
  refine WL.x (X.move rfl) (by decide) ?_
  refine WL.condn (X.neq rfl rfl) (by decide) (fun h10 => ?_) (fun h10 => ?_)
  · refine WL.x (X.assign rfl) (by decide) ?_
    refine WL.nil ?_
    refine WK.nThen ?_
    refine WC.condT rfl ?_
    refine WC.seq ?_
    refine WC.region ?_
    refine WL.x (V := Value.agg [.int .i64 (0), .int .i64 (0)].toArray) (X.build Try.zeroValue49 Try.runUnderlying49 (places49 _ Try.underlying49) rfl rfl) (by decide) ?_
    refine WL.x (X.move rfl) (by decide) ?_
    refine WL.ts (T.storeBA (k := 0) Try.sizeOf49 rfl rfl rfl (one_cons rfl (one_cons rfl one_nil)) rfl rfl) ?_
    refine WL.x (X.assign rfl) (by decide) ?_
    refine WL.nil ?_
    refine WK.nThen ?_
    refine WC.ret ?_
    refine WK.rBlock ?_
    refine WK.rThen ?_
    refine WK.retC2 0 rfl rfl rfl rfl Try.isAgg49 Try.sizeOf49 (fun w' hw' => Ret.exact hw' ?_)
    first | exact tup2 (agg2 (by unfold heightR; rw [if_pos (by omega)]) (by unfold heightR; rw [if_pos (by omega)])) (int_eq (by unfold heightR; rw [if_pos (by omega)]; omega)) | exact tup2 (agg2 (by unfold heightR; rw [if_neg (by omega), if_neg (by omega)]) (by unfold heightR; rw [if_neg (by omega), if_neg (by omega)])) (int_eq (by unfold heightR; rw [if_neg (by omega), if_neg (by omega)])) | exact tup2 (agg2 (by unfold heightR; rw [if_neg (by omega), if_pos (by omega)]) (by unfold heightR; rw [if_neg (by omega), if_pos (by omega)])) (int_eq (by unfold heightR; rw [if_neg (by omega), if_pos (by omega)]))
  · refine WL.x (X.assign rfl) (by decide) ?_
    refine WL.nil ?_
    refine WK.nThen ?_
    refine WC.condF rfl ?_
    refine WC.seq ?_
    refine WC.region ?_
    refine WL.x (X.move rfl) (by decide) ?_
    refine WL.cond (X.call Try.call65 rfl (within65 _ _ _ _ )) (by decide) (fun h11 => ?_) (fun h11 => ?_)
    · refine WL.x (X.not rfl) (by decide) ?_
      refine WL.x (X.assign rfl) (by decide) ?_
      refine WL.nil ?_
      refine WK.nThen ?_
      refine WC.condF rfl ?_
      refine WC.skip ?_
      refine WK.nBlock ?_
      refine WK.nThen ?_
      refine WC.seq ?_
      refine WC.region ?_
      refine WL.x (X.loadBA (k := 1) Try.isAgg58 Try.sizeOf58 rfl rfl rfl) (by decide) ?_
      refine WL.x (X.move rfl) (by decide) ?_
      refine WL.x (X.call Try.call87 rfl (height87 _ _ s ⟨_, rfl, hs2⟩ _ (by have := oneE_zero (s := s) (by omega); exact this.2) (by omega))) (by decide) ?_
      refine WL.ts (T.storeBA (k := 0) Try.sizeOf49 rfl rfl rfl (one_cons rfl (one_cons rfl one_nil)) rfl rfl) ?_
      refine WL.x (X.assign rfl) (by decide) ?_
      refine WL.nil ?_
      refine WK.nThen ?_
      refine WC.ret ?_
      refine WK.retC2 0 rfl rfl rfl rfl Try.isAgg49 Try.sizeOf49 (fun w' hw' => Ret.exact hw' ?_)
      first | exact tup2 (agg2 (by unfold heightR; rw [if_pos (by omega)]) (by unfold heightR; rw [if_pos (by omega)])) (int_eq (by unfold heightR; rw [if_pos (by omega)]; omega)) | exact tup2 (agg2 (by unfold heightR; rw [if_neg (by omega), if_neg (by omega)]) (by unfold heightR; rw [if_neg (by omega), if_neg (by omega)])) (int_eq (by unfold heightR; rw [if_neg (by omega), if_neg (by omega)])) | exact tup2 (agg2 (by unfold heightR; rw [if_neg (by omega), if_pos (by omega)]) (by unfold heightR; rw [if_neg (by omega), if_pos (by omega)])) (int_eq (by unfold heightR; rw [if_neg (by omega), if_pos (by omega)]))
    · refine WL.x (X.not rfl) (by decide) ?_
      refine WL.x (X.assign rfl) (by decide) ?_
      refine WL.nil ?_
      refine WK.nThen ?_
      refine WC.condT rfl ?_
      refine WC.seq ?_
      refine WC.region ?_
      refine WL.x (V := Value.agg [.int .i64 (0), .int .i64 (0)].toArray) (X.build Try.zeroValue49 Try.runUnderlying49 (places49 _ Try.underlying49) rfl rfl) (by decide) ?_
      refine WL.ts (T.storeBA (k := 0) Try.sizeOf49 rfl rfl rfl (one_cons rfl (one_cons rfl one_nil)) rfl rfl) ?_
      refine WL.x (X.assign rfl) (by decide) ?_
      refine WL.nil ?_
      refine WK.nThen ?_
      refine WC.ret ?_
      refine WK.rBlock ?_
      refine WK.rThen ?_
      refine WK.retC2 0 rfl rfl rfl rfl Try.isAgg49 Try.sizeOf49 (fun w' hw' => Ret.exact hw' ?_)
      first | exact tup2 (agg2 (by unfold heightR; rw [if_pos (by omega)]) (by unfold heightR; rw [if_pos (by omega)])) (int_eq (by unfold heightR; rw [if_pos (by omega)]; omega)) | exact tup2 (agg2 (by unfold heightR; rw [if_neg (by omega), if_neg (by omega)]) (by unfold heightR; rw [if_neg (by omega), if_neg (by omega)])) (int_eq (by unfold heightR; rw [if_neg (by omega), if_neg (by omega)])) | exact tup2 (agg2 (by unfold heightR; rw [if_neg (by omega), if_pos (by omega)]) (by unfold heightR; rw [if_neg (by omega), if_pos (by omega)])) (int_eq (by unfold heightR; rw [if_neg (by omega), if_pos (by omega)]))

end Go.Proofs.S5
