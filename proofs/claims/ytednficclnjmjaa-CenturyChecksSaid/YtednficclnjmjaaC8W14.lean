import Derived.Test.YtednficclnjmjaaC8Ref3
import Derived.Test.YtednficclnjmjaaC8W13
/- Century: walks, fourteenth part, by program. -/
namespace Go.Proofs.C8
open Go Go.Kx
set_option linter.unusedSimpArgs false

theorem evens51 (m : Mem) (cs : List Value) (s : Ser) (hs : Enc.rd m cs s)   : Pure Try.prog 51 #[.agg cs.toArray] m (fun m' v => ∃ r0, v = .tuple #[r0, .int .i64 ((evsR s).2)] ∧ Sl m' r0 ((evsR s).1)) := by
 obtain ⟨v1, v3, rfl, hs2, hs4⟩ := hs
 have hl5 := hs2.le
 have hl6 := hs4.le
 refine Pure.start Try.func51 rfl Try.ntmps51 rfl fun wld => ?_
 refine WC.seq ?_
 refine WC.region ?_
 refine WL.tn (T.boxB rfl rfl) (by decide) fun b7 => ?_
 refine WL.x (X.assign rfl) (by decide) ?_
 refine WL.x (X.assign rfl) (by decide) ?_
 refine WL.nil ?_
 refine WK.nThen ?_
 refine WC.seq ?_
 refine WC.region ?_
 refine WL.x (X.loadBA (k := 0) Try.isAgg25 Try.sizeOf25 rfl rfl rfl) (by decide) ?_
 refine WL.x (X.call Try.call97 rfl (check97 _ _ s ⟨_, _, rfl, hs2, hs4⟩ )) (by decide) ?_
 refine WL.x (X.assign rfl) (by decide) ?_
 refine WL.nil ?_
 refine WK.nThen ?_
 refine WC.seq ?_
 refine WC.seq ?_
 refine WC.region ?_
 refine WL.x (X.move rfl) (by decide) ?_
 refine WL.condn (X.neq rfl rfl) (by decide) (fun h8 => ?_) (fun h8 => ?_)
 ·refine WL.nil ?_
  refine WK.nThen ?_
  refine WC.condT rfl ?_
  refine WC.seq ?_
  refine WC.region ?_
  refine WL.x (X.move rfl) (by decide) ?_
  refine WL.x (X.assign rfl) (by decide) ?_
  refine WL.x (X.assign rfl) (by decide) ?_
  refine WL.nil ?_
  refine WK.nThen ?_
  refine WC.ret ?_
  refine WK.rThen ?_
  refine WK.ret2 rfl rfl rfl (fun w' hw' => Ret.mem hw' ?_)
  exact ⟨_, tup2 rfl (int_eq (by unfold evsR; rw [if_pos (by omega)])), by unfold evsR; rw [if_pos (by omega)]; exact .nil⟩
 ·refine WL.nil ?_
  refine WK.nThen ?_
  refine WC.condF rfl ?_
  refine WC.skip ?_
  refine WK.nThen ?_
  refine WC.seq ?_
  have hok := Ok.of (s := s) (by omega)
  have hnV := hok.nV
  refine WK.ownF Span 33 ?_
  refine WC.region ?_
  refine WL.x (X.assign rfl) (by decide) ?_
  refine WL.nil ?_
  refine WK.nThen ?_
  refine WC.seq ?_
  refine WC.seq ?_
  refine WC.region ?_
  refine WL.x (X.assign rfl) (by decide) ?_
  refine WL.nil ?_
  refine WK.nThen ?_
  refine WC.block ?_
  refine WC.loop (G := Nat × Value) (fun (k, vo) => s.Values.length - k) (fun (k, vo) => m) (fun (k, vo) => [rowF (vo) 33 ((List.range k).map (evS s)), blk b7 25 [v1, v3]]) (fun (k, vo) => [(1, .pointer (some ⟨b7, 0, none⟩)), (5, vo), (6, .int .i64 (↑k))]) (fun (k, vo) => k ≤ s.Values.length) ((0, Value.slice none 0 0)) rfl (.refl _) (.cons rfl (.cons rfl (.cons rfl .nil))) ?_ ?_
  ·exact Nat.zero_le _
  ·rintro ⟨k, vo⟩ hF9
   show WK _ _ m [rowF (vo) 33 ((List.range k).map (evS s)), blk b7 25 [v1, v3]] [(1, .pointer (some ⟨b7, 0, none⟩)), (5, vo), (6, .int .i64 (↑k))] _
   replace hF9 : k ≤ s.Values.length := hF9
   have hk := hF9
   have hvb := fun h => evS_bd hok (i := k) h
   refine WC.seq ?_
   refine WC.seq ?_
   refine WC.region ?_
   refine WL.x (X.move rfl) (by decide) ?_
   refine WL.x (X.field Try.runUnderlying25 rfl Try.sizeOf22 rfl) (by decide) ?_
   refine WL.x (X.loadB (k := 1) Try.isAgg22 rfl rfl rfl) (by decide) ?_
   refine WL.x (X.len Try.runUnderlying22 rfl hs2) (by decide) ?_
   refine WL.cond (X.lss rfl rfl) (by decide) (fun h10 => ?_) (fun h10 => ?_)
   ·refine WL.nil ?_
    refine WK.nThen ?_
    refine WC.condT rfl ?_
    refine WC.skip ?_
    refine WK.nThen ?_
    refine WC.seq ?_
    refine WC.block ?_
    refine WC.region ?_
    refine WL.x (X.move rfl) (by decide) ?_
    refine WL.x (X.loadBA (k := 1) Try.isAgg25 Try.sizeOf25 rfl rfl rfl) (by decide) ?_
    refine WL.x (X.move rfl) (by decide) ?_
    refine WL.x (X.call Try.call111 rfl (even111 _ ⟨_, _, rfl, hs2, hs4⟩ hok k _ (by omega) (by omega))) (by decide) ?_
    refine WL.tl (T.lit1 sl74 rfl rfl rfl (by decide)) (by decide) fun b11 => ?_
    refine WL.ta (T.appendF (k := 0) (a := evS s k) sl74 rfl rfl rfl rfl (by first | omega | (simp; omega)) (by decide)) (by decide) (fun v12 => ?_)
    refine WL.x (X.assign rfl) (by decide) ?_
    refine WL.nil ?_
    refine WK.nBlock ?_
    refine WK.nThen ?_
    refine WC.region ?_
    refine WL.x (X.move rfl) (by decide) ?_
    refine WL.x (X.add rfl rfl (by omega) (by omega)) (by decide) ?_
    refine WL.x (X.assign rfl) (by decide) ?_
    refine WL.nil ?_
    refine WK.nThen ?_
    have he13 : (((List.range k).map (evS s)) ++ [evS s k]) = ((List.range (k + 1)).map (evS s)) := map_succ _ _
    rw [he13]
    refine WK.next ((k + 1, v12)) rfl (.refl _) (.cons rfl (.cons rfl (.cons rfl .nil))) ?_ ?_
    ·omega
    ·(dsimp only; omega)
   ·refine WL.nil ?_
    refine WK.nThen ?_
    refine WC.condF rfl ?_
    refine WC.exit ?_
    refine WK.eThen ?_
    refine WK.eThen ?_
    refine WK.eHit ?_
    refine WK.nThen ?_
    refine WC.seq ?_
    refine WC.region ?_
    refine WL.x (X.move rfl) (by decide) ?_
    refine WL.x (X.assign rfl) (by decide) ?_
    refine WL.x (X.assign rfl) (by decide) ?_
    refine WL.nil ?_
    refine WK.nThen ?_
    refine WC.ret ?_
    refine WK.freezeF 0 rfl rfl (by simp [lenB]; omega) (fun m14 hle15 hs16 => ?_)
    replace hs2 := hs2.mono hle15
    replace hs4 := hs4.mono hle15
    refine WK.ret2 rfl rfl rfl (fun w' hw' => Ret.mem hw' ?_)
    obtain rfl : k = s.Values.length := (by omega)
    exact ⟨_, tup2 rfl (int_eq (by unfold evsR; rw [if_neg (by omega)])), by unfold evsR; rw [if_neg (by omega)]; exact hs16⟩

end Go.Proofs.C8
