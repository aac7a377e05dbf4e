import Derived.Test.YtednficclnjmjaaC8Ref4
import Derived.Test.YtednficclnjmjaaC8W13
/- Century: walks, fourteenth part, by program. -/
namespace Go.Proofs.C8
open Go Go.Kx
set_option linter.unusedSimpArgs false

theorem falls33 (m : Mem) (cs : List Value) (s : Ser) (hs : Enc.rd m cs s)   : Pure Try.prog 33 #[.agg cs.toArray] m (fun m' v => ∃ r0, v = .tuple #[r0, .int .i64 ((fallR s).2)] ∧ Sl m' r0 ((fallR s).1)) := by
 obtain ⟨v1, v3, rfl, hs2, hs4⟩ := hs
 have hl5 := hs2.le
 have hl6 := hs4.le
 refine Pure.start Try.func33 rfl Try.ntmps33 rfl fun wld => ?_
 refine WC.seq ?_
 refine WC.region ?_
 refine WL.tn (T.boxB rfl rfl) (by decide) fun b7 => ?_
 refine WL.x (X.assign rfl) (by decide) ?_
 refine WL.x (X.assign rfl) (by decide) ?_
 refine WL.nil ?_
 refine WK.nThen ?_
 refine WC.seq ?_
 refine WC.region ?_
 refine WL.x (X.loadBA (k := 0) Try.isAgg25 Try.sizeOf25 rfl rfl rfl) (by decide) ?_
 refine WL.x (X.call Try.call97 rfl (check97 _ _ s ⟨_, _, rfl, hs2, hs4⟩ )) (by decide) ?_
 refine WL.x (X.assign rfl) (by decide) ?_
 refine WL.nil ?_
 refine WK.nThen ?_
 refine WC.seq ?_
 refine WC.seq ?_
 refine WC.region ?_
 refine WL.x (X.move rfl) (by decide) ?_
 refine WL.condn (X.neq rfl rfl) (by decide) (fun h8 => ?_) (fun h8 => ?_)
 ·refine WL.nil ?_
  refine WK.nThen ?_
  refine WC.condT rfl ?_
  refine WC.seq ?_
  refine WC.region ?_
  refine WL.x (X.move rfl) (by decide) ?_
  refine WL.x (X.assign rfl) (by decide) ?_
  refine WL.x (X.assign rfl) (by decide) ?_
  refine WL.nil ?_
  refine WK.nThen ?_
  refine WC.ret ?_
  refine WK.rThen ?_
  refine WK.ret2 rfl rfl rfl (fun w' hw' => Ret.mem hw' ?_)
  first | exact ⟨_, tup2 rfl (int_eq (by rw [fallR_err (by omega)])), by rw [fallR_err (by omega)]; exact .nil⟩ | exact ⟨_, tup2 rfl (int_eq (by rw [fallR_no (by omega) (fun j hj => hall j (by omega))])), by rw [fallR_no (by omega) (fun j hj => hall j (by omega))]; exact .nil⟩
 ·refine WL.nil ?_
  refine WK.nThen ?_
  refine WC.condF rfl ?_
  refine WC.skip ?_
  refine WK.nThen ?_
  refine WC.seq ?_
  refine WC.seq ?_
  have hok := Ok.of (s := s) (by omega)
  have hnV := hok.nV
  refine WC.region ?_
  refine WL.x (X.assign rfl) (by decide) ?_
  refine WL.nil ?_
  refine WK.nThen ?_
  refine WC.block ?_
  refine WC.loop (G := Nat) (fun i => s.Values.length - i) (fun i => m) (fun i => [blk b7 25 [v1, v3]]) (fun i => [(1, .pointer (some ⟨b7, 0, none⟩)), (5, .int .i64 (↑i))]) (fun i => i ≤ s.Values.length ∧ (∀ j, j < i → fallK s j = s.Values.length)) 0 rfl (.refl _) (.cons rfl (.cons rfl .nil)) ?_ ?_
  ·exact ⟨Nat.zero_le _, fun j hj => absurd hj (Nat.not_lt_zero _)⟩
  ·rintro i hF9
   show WK _ _ m [blk b7 25 [v1, v3]] [(1, .pointer (some ⟨b7, 0, none⟩)), (5, .int .i64 (↑i))] _
   replace hF9 : i ≤ s.Values.length ∧ (∀ j, j < i → fallK s j = s.Values.length) := hF9
   obtain ⟨hi, hall⟩ := hF9
   refine WC.seq ?_
   refine WC.seq ?_
   refine WC.region ?_
   refine WL.x (X.move rfl) (by decide) ?_
   refine WL.x (X.field Try.runUnderlying25 rfl Try.sizeOf22 rfl) (by decide) ?_
   refine WL.x (X.loadB (k := 0) Try.isAgg22 rfl rfl rfl) (by decide) ?_
   refine WL.x (X.len Try.runUnderlying22 rfl hs2) (by decide) ?_
   refine WL.cond (X.lss rfl rfl) (by decide) (fun h10 => ?_) (fun h10 => ?_)
   ·refine WL.nil ?_
    refine WK.nThen ?_
    refine WC.condT rfl ?_
    refine WC.skip ?_
    refine WK.nThen ?_
    refine WC.seq ?_
    refine WC.block ?_
    refine WC.seq ?_
    refine WC.region ?_
    refine WL.x (X.move rfl) (by decide) ?_
    refine WL.x (X.add rfl rfl (by omega) (by omega)) (by decide) ?_
    refine WL.x (X.assign rfl) (by decide) ?_
    refine WL.nil ?_
    refine WK.nThen ?_
    refine WC.block ?_
    refine WC.loop (G := Nat) (fun k => s.Values.length - k) (fun k => m) (fun k => [blk b7 25 [v1, v3]]) (fun k => [(1, .pointer (some ⟨b7, 0, none⟩)), (5, .int .i64 (↑i)), (6, .int .i64 (↑k))]) (fun k => (i + 1 ≤ k ∧ k ≤ s.Values.length) ∧ ∀ j, i + 1 + j < k → ¬ fallP s i j) (i + 1) rfl (.refl _) (.cons rfl (.cons rfl (.cons rfl .nil))) ?_ ?_
    ·exact ⟨by omega, fun j hj => by omega⟩
    ·rintro k hF11
     show WK _ _ m [blk b7 25 [v1, v3]] [(1, .pointer (some ⟨b7, 0, none⟩)), (5, .int .i64 (↑i)), (6, .int .i64 (↑k))] _
     replace hF11 : (i + 1 ≤ k ∧ k ≤ s.Values.length) ∧ ∀ j, i + 1 + j < k → ¬ fallP s i j := hF11
     obtain ⟨hk, hin⟩ := hF11
     refine WC.seq ?_
     refine WC.seq ?_
     refine WC.region ?_
     refine WL.x (X.move rfl) (by decide) ?_
     refine WL.x (X.field Try.runUnderlying25 rfl Try.sizeOf22 rfl) (by decide) ?_
     refine WL.x (X.loadB (k := 0) Try.isAgg22 rfl rfl rfl) (by decide) ?_
     refine WL.x (X.len Try.runUnderlying22 rfl hs2) (by decide) ?_
     refine WL.cond (X.lss rfl rfl) (by decide) (fun h12 => ?_) (fun h12 => ?_)
     ·refine WL.nil ?_
      refine WK.nThen ?_
      refine WC.condT rfl ?_
      refine WC.skip ?_
      refine WK.nThen ?_
      refine WC.seq ?_
      refine WC.block ?_
      refine WC.seq ?_
      refine WC.region ?_
      refine WL.x (X.loadBA (k := 0) Try.isAgg25 Try.sizeOf25 rfl rfl rfl) (by decide) ?_
      refine WL.x (X.move rfl) (by decide) ?_
      refine WL.x (X.move rfl) (by decide) ?_
      refine WL.x (X.call Try.call88 rfl (later88 _ ⟨_, _, rfl, hs2, hs4⟩ hok k i _ _ (by omega) (by omega) (by omega) (by omega))) (by decide) ?_
      refine WL.x (X.fieldV Try.runUnderlying33 rfl Try.sizeOf3 rfl Try.isAgg3 rfl) (by decide) ?_
      refine WL.cond (X.lss rfl rfl) (by decide) (fun h13 => ?_) (fun h13 => ?_)
      ·refine WL.nil ?_
       refine WK.nThen ?_
       refine WC.condT rfl ?_
       refine WC.seq ?_
       refine WC.draw (π := (.cons 0 (.cons 1 (.cons 2 (.cons 3 (.cons 4 (.cons 5 (.cons 6 (.cons 7 (.cons 8 (.cons 9 (.cons 10 (.cons 11 (.cons 12 (.cons 13 (.cons 14 .done)))))))))))))))) [12] [] rfl (by kernel_rfl) ?_
       refine DW.x rfl rfl (X.field Try.runUnderlying25 rfl Try.sizeOf22 rfl) (by decide) ?_
       refine DW.x rfl rfl (X.loadB (k := 0) Try.isAgg22 rfl rfl rfl) (by decide) ?_
       refine DW.x rfl rfl (X.move rfl) (by decide) ?_
       refine DW.xe rfl rfl (E.idxN i Try.runUnderlying22 Try.sizeOf62 rfl rfl hs2 (by omega)) (by decide) (fun p14 hp15 => ?_)
       have hp16 := At.Val_0 hp15
       refine DW.x rfl rfl (X.field Try.runUnderlying62 rfl Try.sizeOf3 rfl) (by decide) ?_
       refine DW.x rfl rfl (X.loadInt Try.isAgg3 rfl hp16) (by decide) ?_
       refine DW.x rfl rfl (X.field Try.runUnderlying25 rfl Try.sizeOf22 rfl) (by decide) ?_
       refine DW.x rfl rfl (X.loadB (k := 0) Try.isAgg22 rfl rfl rfl) (by decide) ?_
       refine DW.x rfl rfl (X.move rfl) (by decide) ?_
       refine DW.xe rfl rfl (E.idxN k Try.runUnderlying22 Try.sizeOf62 rfl rfl hs2 (by omega)) (by decide) (fun p17 hp18 => ?_)
       have hp19 := At.Val_0 hp18
       refine DW.x rfl rfl (X.field Try.runUnderlying62 rfl Try.sizeOf3 rfl) (by decide) ?_
       refine DW.x rfl rfl (X.loadInt Try.isAgg3 rfl hp19) (by decide) ?_
       refine DW.tm rfl rfl rfl (T.litM (α := Int) (vals := [.int .i64 ((gt s.Values i).Time), .int .i64 ((gt s.Values k).Time)]) (L := [(gt s.Values i).Time, (gt s.Values k).Time]) sl28 rfl (.cons rfl rfl (.cons rfl rfl .nil)) rfl rfl) (by decide) (fun m20 v21 hle22 hs23 => ?_)
       replace hs2 := hs2.mono hle22
       replace hs4 := hs4.mono hle22
       replace hp15 := hp15.mono hle22
       replace hp16 := hp16.mono hle22
       replace hp18 := hp18.mono hle22
       replace hp19 := hp19.mono hle22
       refine DW.x rfl rfl (X.assign rfl) (by decide) ?_
       refine DW.x rfl rfl (X.assign rfl) (by decide) ?_
       refine DW.nil ?_
       refine WK.nThen ?_
       refine WC.ret ?_
       refine WK.rBlock ?_
       refine WK.rThen ?_
       refine WK.rThen ?_
       refine WK.rBlock ?_
       refine WK.rBlock ?_
       refine WK.rThen ?_
       refine WK.rThen ?_
       refine WK.rBlock ?_
       refine WK.rThen ?_
       refine WK.ret2 rfl rfl rfl (fun w' hw' => Ret.mem hw' ?_)
       first | exact ⟨_, tup2 rfl (int_eq (by rw [fallR_yes (i := i) (k := k) (by omega) (by omega) (by omega) hall hin (by unfold fallP; rw [show i + 1 + (k - (i + 1)) = k by omega]; omega)])), by rw [fallR_yes (i := i) (k := k) (by omega) (by omega) (by omega) hall hin (by unfold fallP; rw [show i + 1 + (k - (i + 1)) = k by omega]; omega)]; exact hs23⟩
      ·refine WL.nil ?_
       refine WK.nThen ?_
       refine WC.condF rfl ?_
       refine WC.skip ?_
       refine WK.nBlock ?_
       refine WK.nThen ?_
       refine WC.region ?_
       refine WL.x (X.move rfl) (by decide) ?_
       refine WL.x (X.add rfl rfl (by omega) (by omega)) (by decide) ?_
       refine WL.x (X.assign rfl) (by decide) ?_
       refine WL.nil ?_
       refine WK.nThen ?_
       refine WK.next (k + 1) rfl (.refl _) (.cons rfl (.cons rfl (.cons rfl .nil))) ?_ ?_
       ·exact ⟨by omega, fun j hj => by rcases Nat.lt_or_ge (i + 1 + j) k with h | h; exact hin j h; unfold fallP; rw [show i + 1 + j = k by omega]; omega⟩
       ·omega
     ·refine WL.nil ?_
      refine WK.nThen ?_
      refine WC.condF rfl ?_
      refine WC.exit ?_
      refine WK.eThen ?_
      refine WK.eThen ?_
      refine WK.eHit ?_
      refine WK.nBlock ?_
      refine WK.nThen ?_
      refine WC.region ?_
      refine WL.x (X.move rfl) (by decide) ?_
      refine WL.x (X.add rfl rfl (by omega) (by omega)) (by decide) ?_
      refine WL.x (X.assign rfl) (by decide) ?_
      refine WL.nil ?_
      refine WK.nThen ?_
      refine WK.next (i + 1) rfl (.refl _) (.cons rfl (.cons rfl .nil)) ?_ ?_
      ·exact ⟨by omega, fun j hj => by rcases Nat.lt_succ_iff_lt_or_eq.1 hj with h | h; exact hall j h; subst h; exact fallK_no (by omega) (fun q hq => hin q (by omega))⟩
      ·omega
   ·refine WL.nil ?_
    refine WK.nThen ?_
    refine WC.condF rfl ?_
    refine WC.exit ?_
    refine WK.eThen ?_
    refine WK.eThen ?_
    refine WK.eHit ?_
    refine WK.nThen ?_
    refine WC.seq ?_
    refine WC.region ?_
    refine WL.x (X.assign rfl) (by decide) ?_
    refine WL.x (X.assign rfl) (by decide) ?_
    refine WL.nil ?_
    refine WK.nThen ?_
    refine WC.ret ?_
    refine WK.ret2 rfl rfl rfl (fun w' hw' => Ret.mem hw' ?_)
    first | exact ⟨_, tup2 rfl (int_eq (by rw [fallR_err (by omega)])), by rw [fallR_err (by omega)]; exact .nil⟩ | exact ⟨_, tup2 rfl (int_eq (by rw [fallR_no (by omega) (fun j hj => hall j (by omega))])), by rw [fallR_no (by omega) (fun j hj => hall j (by omega))]; exact .nil⟩

theorem run98 (m : Mem) {cr : List Value} {s : Ser} (hs : Enc.rd m cr s) (hok : Ok s) (a : Nat) (ia : Int) (hia : ia = a) (ha : a < s.Values.length) (most : Int) (hm : 0 ≤ most ∧ most ≤ 24000) : Exact Try.prog 98 #[.agg cr.toArray, .int .i64 ia, .int .i64 most] m (.int .i64 (↑(nxt s most a) - ↑a : Int)) := by
 obtain ⟨v1, v3, rfl, hs2, hs4⟩ := hs
 have hl5 := hs2.le
 have hl6 := hs4.le
 subst hia
 have hnV := hok.nV
 have hnX := hok.nX
 have hva := hok.vl ha
 refine Exact.start Try.func98 rfl Try.ntmps98 rfl fun wld => ?_
 refine WC.seq ?_
 refine WC.region ?_
 refine WL.tn (T.boxB rfl rfl) (by decide) fun b7 => ?_
 refine WL.x (X.assign rfl) (by decide) ?_
 refine WL.nil ?_
 refine WK.nThen ?_
 refine WC.seq ?_
 refine WC.region ?_
 refine WL.x (X.field Try.runUnderlying25 rfl Try.sizeOf22 rfl) (by decide) ?_
 refine WL.x (X.loadB (k := 0) Try.isAgg22 rfl rfl rfl) (by decide) ?_
 refine WL.x (X.move rfl) (by decide) ?_
 refine WL.xe (E.idxN a Try.runUnderlying22 Try.sizeOf62 rfl rfl hs2 (by omega)) (by decide) (fun p8 hp9 => ?_)
 have hp10 := At.Val_1 hp9
 refine WL.x (X.field Try.runUnderlying62 rfl Try.sizeOf33 rfl) (by decide) ?_
 have hp11 := At.Span_0 hp10
 refine WL.x (X.field Try.runUnderlying33 rfl Try.sizeOf3 rfl) (by decide) ?_
 refine WL.x (X.loadInt Try.isAgg3 rfl hp11) (by decide) ?_
 refine WL.x (X.move rfl) (by decide) ?_
 refine WL.x (X.sub rfl rfl (by omega) (by omega)) (by decide) ?_
 refine WL.x (X.assign rfl) (by decide) ?_
 refine WL.nil ?_
 refine WK.nThen ?_
 refine WC.seq ?_
 refine WC.region ?_
 refine WL.x (X.field Try.runUnderlying25 rfl Try.sizeOf22 rfl) (by decide) ?_
 refine WL.x (X.loadB (k := 0) Try.isAgg22 rfl rfl rfl) (by decide) ?_
 refine WL.x (X.move rfl) (by decide) ?_
 refine WL.xe (E.idxN a Try.runUnderlying22 Try.sizeOf62 rfl rfl hs2 (by omega)) (by decide) (fun p12 hp13 => ?_)
 have hp14 := At.Val_1 hp13
 refine WL.x (X.field Try.runUnderlying62 rfl Try.sizeOf33 rfl) (by decide) ?_
 have hp15 := At.Span_1 hp14
 refine WL.x (X.field Try.runUnderlying33 rfl Try.sizeOf3 rfl) (by decide) ?_
 refine WL.x (X.loadInt Try.isAgg3 rfl hp15) (by decide) ?_
 refine WL.x (X.assign rfl) (by decide) ?_
 refine WL.nil ?_
 refine WK.nThen ?_
 refine WC.seq ?_
 refine WC.seq ?_
 refine WC.region ?_
 refine WL.x (X.move rfl) (by decide) ?_
 refine WL.x (X.add rfl rfl (by omega) (by omega)) (by decide) ?_
 refine WL.x (X.assign rfl) (by decide) ?_
 refine WL.nil ?_
 refine WK.nThen ?_
 refine WC.block ?_
 refine WC.loop (G := Nat × Int × Int) (fun (k, lo, hi) => s.Values.length - k) (fun (k, lo, hi) => m) (fun (k, lo, hi) => [blk b7 25 [v1, v3]]) (fun (k, lo, hi) => [(1, .int .i64 (↑a)), (2, .int .i64 (most)), (3, .pointer (some ⟨b7, 0, none⟩)), (7, .int .i64 (lo)), (8, .int .i64 (hi)), (9, .int .i64 (↑k))]) (fun (k, lo, hi) => (a < k ∧ k ≤ s.Values.length) ∧ (lo = (runK s most a (k - 1)).Lo ∧ hi = (runK s most a (k - 1)).Hi) ∧ ∀ j, a < j → j < k → ¬ runBad s most a j) ((a + 1, (((gt s.Values a).Levels).Lo) - most, ((gt s.Values a).Levels).Hi)) rfl (.refl _) (.cons rfl (.cons rfl (.cons rfl (.cons rfl (.cons rfl (.cons rfl .nil)))))) ?_ ?_
 ·exact ⟨by omega, by rw [Nat.add_sub_cancel, runK_start]; exact ⟨rfl, rfl⟩, fun j h1 h2 => by omega⟩
 ·rintro ⟨k, lo, hi⟩ hF16
  show WK _ _ m [blk b7 25 [v1, v3]] [(1, .int .i64 (↑a)), (2, .int .i64 (most)), (3, .pointer (some ⟨b7, 0, none⟩)), (7, .int .i64 (lo)), (8, .int .i64 (hi)), (9, .int .i64 (↑k))] _
  replace hF16 : (a < k ∧ k ≤ s.Values.length) ∧ (lo = (runK s most a (k - 1)).Lo ∧ hi = (runK s most a (k - 1)).Hi) ∧ ∀ j, a < j → j < k → ¬ runBad s most a j := hF16
  obtain ⟨hk, hlh, hall⟩ := hF16
  have hrb := run_bd hok hm hk.1 hk.2 hall
  have hst := runK_step (s := s) (most := most) hk.1
  have hst1 := congrArg Span.Lo hst
  have hst2 := congrArg Span.Hi hst
  dsimp only at hst1 hst2
  have hbt := bt_bd hok (gt s.Values (k - 1)).Time (gt s.Values k).Time (Nat.le_refl _)
  have hbt1 : (bt s.Shifts (gt s.Values (k - 1)).Time (gt s.Values k).Time).Lo = btLo s.Shifts (gt s.Values (k - 1)).Time (gt s.Values k).Time s.Shifts.length := rfl
  have hbt2 : (bt s.Shifts (gt s.Values (k - 1)).Time (gt s.Values k).Time).Hi = btHi s.Shifts (gt s.Values (k - 1)).Time (gt s.Values k).Time s.Shifts.length := rfl
  have hvk := fun h => hok.vl (i := k) h
  refine WC.seq ?_
  refine WC.seq ?_
  refine WC.region ?_
  refine WL.x (X.move rfl) (by decide) ?_
  refine WL.x (X.field Try.runUnderlying25 rfl Try.sizeOf22 rfl) (by decide) ?_
  refine WL.x (X.loadB (k := 0) Try.isAgg22 rfl rfl rfl) (by decide) ?_
  refine WL.x (X.len Try.runUnderlying22 rfl hs2) (by decide) ?_
  refine WL.cond (X.lss rfl rfl) (by decide) (fun h17 => ?_) (fun h17 => ?_)
  ·refine WL.nil ?_
   refine WK.nThen ?_
   refine WC.condT rfl ?_
   refine WC.skip ?_
   refine WK.nThen ?_
   refine WC.seq ?_
   refine WC.block ?_
   refine WC.seq ?_
   refine WC.draw (π := (.cons 0 (.cons 1 (.cons 2 (.cons 3 (.cons 4 (.cons 5 (.cons 6 (.cons 7 (.cons 8 (.cons 9 (.cons 10 (.cons 11 (.cons 12 (.cons 13 (.cons 14 (.cons 15 (.cons 16 .done)))))))))))))))))) [15, 16] [16] rfl (by kernel_rfl) ?_
   refine DW.x rfl rfl (X.loadBA (k := 0) Try.isAgg25 Try.sizeOf25 rfl rfl rfl) (by decide) ?_
   refine DW.x rfl rfl (X.field Try.runUnderlying25 rfl Try.sizeOf22 rfl) (by decide) ?_
   refine DW.x rfl rfl (X.loadB (k := 0) Try.isAgg22 rfl rfl rfl) (by decide) ?_
   refine DW.x rfl rfl (X.move rfl) (by decide) ?_
   refine DW.x rfl rfl (X.sub rfl rfl (by omega) (by omega)) (by decide) ?_
   refine DW.xe rfl rfl (E.idxE (k - 1) Try.runUnderlying22 Try.sizeOf62 rfl rfl hs2 (by omega) (by omega)) (by decide) (fun p18 hp19 => ?_)
   have hp20 := At.Val_0 hp19
   refine DW.x rfl rfl (X.field Try.runUnderlying62 rfl Try.sizeOf3 rfl) (by decide) ?_
   refine DW.x rfl rfl (X.loadInt Try.isAgg3 rfl hp20) (by decide) ?_
   refine DW.x rfl rfl (X.field Try.runUnderlying25 rfl Try.sizeOf22 rfl) (by decide) ?_
   refine DW.x rfl rfl (X.loadB (k := 0) Try.isAgg22 rfl rfl rfl) (by decide) ?_
   refine DW.x rfl rfl (X.move rfl) (by decide) ?_
   refine DW.xe rfl rfl (E.idxN k Try.runUnderlying22 Try.sizeOf62 rfl rfl hs2 (by omega)) (by decide) (fun p21 hp22 => ?_)
   have hp23 := At.Val_0 hp22
   refine DW.x rfl rfl (X.field Try.runUnderlying62 rfl Try.sizeOf3 rfl) (by decide) ?_
   refine DW.x rfl rfl (X.loadInt Try.isAgg3 rfl hp23) (by decide) ?_
   refine DW.x rfl rfl (X.call Try.call143 rfl (moved143 _ _ s ⟨_, _, rfl, hs2, hs4⟩ _ _ (by assumption))) (by decide) ?_
   refine DW.tn rfl rfl rfl (T.alloc Try.zeroValue33 rfl) (by decide) fun b24 => ?_
   refine DW.ts rfl rfl rfl rfl (T.storeBA (k := 0) Try.sizeOf33 rfl rfl rfl (one_cons rfl (one_cons rfl one_nil)) rfl rfl) ?_
   refine DW.nil ?_
   refine WK.nThen ?_
   refine WC.seq ?_
   refine WC.draw (π := (.cons 0 (.cons 1 (.cons 2 (.cons 3 (.cons 4 (.cons 5 (.cons 6 (.cons 7 (.cons 8 (.cons 9 (.cons 10 (.cons 11 (.cons 12 (.cons 13 (.cons 14 .done)))))))))))))))) [] [] rfl (by kernel_rfl) ?_
   refine DW.x rfl rfl (X.move rfl) (by decide) ?_
   refine DW.x rfl rfl (X.field Try.runUnderlying33 rfl Try.sizeOf3 rfl) (by decide) ?_
   refine DW.x rfl rfl (X.loadB (k := 0) Try.isAgg3 rfl rfl rfl) (by decide) ?_
   refine DW.x rfl rfl (X.add rfl rfl (by omega) (by omega)) (by decide) ?_
   refine DW.x rfl rfl (X.field Try.runUnderlying25 rfl Try.sizeOf22 rfl) (by decide) ?_
   refine DW.x rfl rfl (X.loadB (k := 1) Try.isAgg22 rfl rfl rfl) (by decide) ?_
   refine DW.x rfl rfl (X.move rfl) (by decide) ?_
   refine DW.xe rfl rfl (E.idxN k Try.runUnderlying22 Try.sizeOf62 rfl rfl hs2 (by omega)) (by decide) (fun p25 hp26 => ?_)
   have hp27 := At.Val_1 hp26
   refine DW.x rfl rfl (X.field Try.runUnderlying62 rfl Try.sizeOf33 rfl) (by decide) ?_
   have hp28 := At.Span_0 hp27
   refine DW.x rfl rfl (X.field Try.runUnderlying33 rfl Try.sizeOf3 rfl) (by decide) ?_
   refine DW.x rfl rfl (X.loadInt Try.isAgg3 rfl hp28) (by decide) ?_
   refine DW.x rfl rfl (X.move rfl) (by decide) ?_
   refine DW.x rfl rfl (X.sub rfl rfl (by omega) (by omega)) (by decide) ?_
   refine DW.x rfl rfl (X.mx rfl rfl) (by decide) ?_
   refine DW.x rfl rfl (X.assign rfl) (by decide) ?_
   refine DW.nil ?_
   refine WK.nThen ?_
   refine WC.seq ?_
   refine WC.draw (π := (.cons 0 (.cons 1 (.cons 2 (.cons 3 (.cons 4 (.cons 5 (.cons 6 (.cons 7 (.cons 8 (.cons 9 (.cons 10 (.cons 11 (.cons 12 .done)))))))))))))) [] [] rfl (by kernel_rfl) ?_
   refine DW.x rfl rfl (X.move rfl) (by decide) ?_
   refine DW.x rfl rfl (X.field Try.runUnderlying33 rfl Try.sizeOf3 rfl) (by decide) ?_
   refine DW.x rfl rfl (X.loadB (k := 0) Try.isAgg3 rfl rfl rfl) (by decide) ?_
   refine DW.x rfl rfl (X.add rfl rfl (by omega) (by omega)) (by decide) ?_
   refine DW.x rfl rfl (X.field Try.runUnderlying25 rfl Try.sizeOf22 rfl) (by decide) ?_
   refine DW.x rfl rfl (X.loadB (k := 1) Try.isAgg22 rfl rfl rfl) (by decide) ?_
   refine DW.x rfl rfl (X.move rfl) (by decide) ?_
   refine DW.xe rfl rfl (E.idxN k Try.runUnderlying22 Try.sizeOf62 rfl rfl hs2 (by omega)) (by decide) (fun p29 hp30 => ?_)
   have hp31 := At.Val_1 hp30
   refine DW.x rfl rfl (X.field Try.runUnderlying62 rfl Try.sizeOf33 rfl) (by decide) ?_
   have hp32 := At.Span_1 hp31
   refine DW.x rfl rfl (X.field Try.runUnderlying33 rfl Try.sizeOf3 rfl) (by decide) ?_
   refine DW.x rfl rfl (X.loadInt Try.isAgg3 rfl hp32) (by decide) ?_
   refine DW.x rfl rfl (X.mn rfl rfl) (by decide) ?_
   refine DW.x rfl rfl (X.assign rfl) (by decide) ?_
   refine DW.nil ?_
   refine WK.nThen ?_
   refine WC.seq ?_
   refine WC.region ?_
   refine WL.x (X.move rfl) (by decide) ?_
   refine WL.x (X.move rfl) (by decide) ?_
   refine WL.cond (X.gtr rfl rfl) (by decide) (fun h33 => ?_) (fun h33 => ?_)
   ·refine WL.nil ?_
    refine WK.nThen ?_
    refine WC.condT rfl ?_
    refine WC.seq ?_
    refine WC.region ?_
    refine WL.x (X.move rfl) (by decide) ?_
    refine WL.x (X.move rfl) (by decide) ?_
    refine WL.x (X.sub rfl rfl (by omega) (by omega)) (by decide) ?_
    refine WL.x (X.assign rfl) (by decide) ?_
    refine WL.nil ?_
    refine WK.nThen ?_
    refine WC.ret ?_
    refine WK.rBlock ?_
    refine WK.rThen ?_
    refine WK.rThen ?_
    refine WK.rBlock ?_
    refine WK.rThen ?_
    refine WK.ret1 rfl rfl (fun w' hw' => Ret.exact hw' ?_)
    exact int_eq (by have e_ := run_nxt (s := s) (most := most) (k := k) (by omega) (by omega) hall (fun _ => by unfold runBad; omega); omega)
   ·refine WL.nil ?_
    refine WK.nThen ?_
    refine WC.condF rfl ?_
    refine WC.skip ?_
    refine WK.nBlock ?_
    refine WK.nThen ?_
    refine WC.region ?_
    refine WL.x (X.move rfl) (by decide) ?_
    refine WL.x (X.add rfl rfl (by omega) (by omega)) (by decide) ?_
    refine WL.x (X.assign rfl) (by decide) ?_
    refine WL.nil ?_
    refine WK.nThen ?_
    refine WK.next ((k + 1, max (lo + ((bt s.Shifts (((gt s.Values (k - 1)).Time)) (((gt s.Values k).Time))).Lo)) ((((gt s.Values k).Levels).Lo) - most), min (hi + ((bt s.Shifts (((gt s.Values (k - 1)).Time)) (((gt s.Values k).Time))).Hi)) (((gt s.Values k).Levels).Hi))) rfl (.cons _ (.cons_cons _ .slnil)) (.cons rfl (.cons rfl (.cons rfl (.cons rfl (.cons rfl (.cons rfl .nil)))))) ?_ ?_
    ·exact ⟨by omega, ⟨by rw [Nat.add_sub_cancel]; omega, by rw [Nat.add_sub_cancel]; omega⟩, fun j h1 h2 hb => by rcases Nat.lt_or_ge j k with h | h; exact hall j h1 h hb; obtain rfl : j = k := (by omega); unfold runBad at hb; omega⟩
    ·(dsimp only; omega)
  ·refine WL.nil ?_
   refine WK.nThen ?_
   refine WC.condF rfl ?_
   refine WC.exit ?_
   refine WK.eThen ?_
   refine WK.eThen ?_
   refine WK.eHit ?_
   refine WK.nThen ?_
   refine WC.seq ?_
   refine WC.region ?_
   refine WL.x (X.field Try.runUnderlying25 rfl Try.sizeOf22 rfl) (by decide) ?_
   refine WL.x (X.loadB (k := 0) Try.isAgg22 rfl rfl rfl) (by decide) ?_
   refine WL.x (X.len Try.runUnderlying22 rfl hs2) (by decide) ?_
   refine WL.x (X.move rfl) (by decide) ?_
   refine WL.x (X.sub rfl rfl (by omega) (by omega)) (by decide) ?_
   refine WL.x (X.assign rfl) (by decide) ?_
   refine WL.nil ?_
   refine WK.nThen ?_
   refine WC.ret ?_
   refine WK.ret1 rfl rfl (fun w' hw' => Ret.exact hw' ?_)
   exact int_eq (by have e_ := run_nxt (s := s) (most := most) (k := k) (by omega) (by omega) hall (fun _ => by unfold runBad; omega); omega)

theorem steps29 (m : Mem) (cs : List Value) (s : Ser) (hs : Enc.rd m cs s) (most : Int)   : Pure Try.prog 29 #[.agg cs.toArray, .int .i64 (most)] m (fun m' v => ∃ r1, v = .tuple #[.int .i64 (↑(stpR s most).1.length), r1, .int .i64 ((stpR s most).2)] ∧ Sl m' r1 ((stpR s most).1)) := by
 obtain ⟨v1, v3, rfl, hs2, hs4⟩ := hs
 have hl5 := hs2.le
 have hl6 := hs4.le
 refine Pure.start Try.func29 rfl Try.ntmps29 rfl fun wld => ?_
 refine WC.seq ?_
 refine WC.region ?_
 refine WL.tn (T.boxB rfl rfl) (by decide) fun b7 => ?_
 refine WL.x (X.assign rfl) (by decide) ?_
 refine WL.x (X.assign rfl) (by decide) ?_
 refine WL.x (X.assign rfl) (by decide) ?_
 refine WL.nil ?_
 refine WK.nThen ?_
 refine WC.seq ?_
 refine WC.region ?_
 refine WL.x (X.loadBA (k := 0) Try.isAgg25 Try.sizeOf25 rfl rfl rfl) (by decide) ?_
 refine WL.x (X.call Try.call97 rfl (check97 _ _ s ⟨_, _, rfl, hs2, hs4⟩ )) (by decide) ?_
 refine WL.x (X.assign rfl) (by decide) ?_
 refine WL.nil ?_
 refine WK.nThen ?_
 refine WC.seq ?_
 refine WC.seq ?_
 refine WC.region ?_
 refine WL.x (X.move rfl) (by decide) ?_
 refine WL.cond (X.eql rfl rfl) (by decide) (fun h8 => ?_) (fun h8 => ?_)
 ·refine WL.x (X.move rfl) (by decide) ?_
  refine WL.yes rfl rfl ?_
  refine WL.x (X.move rfl) (by decide) ?_
  refine WL.yes rfl rfl ?_
  refine WL.cond (X.call Try.call86 rfl (within86 _ _ _ _ )) (by decide) (fun h9 => ?_) (fun h9 => ?_)
  ·refine WL.yes rfl rfl ?_
   refine WL.x (X.not rfl) (by decide) ?_
   refine WL.x (X.pickT rfl rfl rfl) (by decide) ?_
   refine WL.nil ?_
   refine WK.nThen ?_
   refine WC.condF rfl ?_
   refine WC.skip ?_
   refine WK.nThen ?_
   refine WC.seq ?_
   refine WC.seq ?_
   refine WC.region ?_
   refine WL.x (X.move rfl) (by decide) ?_
   refine WL.condn (X.neq rfl rfl) (by decide) (fun h10 => ?_) (fun h10 => ?_)
   ·refine WL.nil ?_
    refine WK.nThen ?_
    refine WC.condT rfl ?_
    refine WC.seq ?_
    refine WC.region ?_
    refine WL.x (X.move rfl) (by decide) ?_
    refine WL.x (X.assign rfl) (by decide) ?_
    refine WL.x (X.assign rfl) (by decide) ?_
    refine WL.x (X.assign rfl) (by decide) ?_
    refine WL.nil ?_
    refine WK.nThen ?_
    refine WC.ret ?_
    refine WK.rThen ?_
    refine WK.ret3 rfl rfl rfl rfl (fun w' hw' => Ret.mem hw' ?_)
    first | exact ⟨_, tup3 (int_eq (by rw [stpR_err (by omega)]; rfl)) rfl (int_eq (by rw [stpR_err (by omega)])), by rw [stpR_err (by omega)]; exact .nil⟩ | exact ⟨_, tup3 (int_eq (by rw [stpR_arg (by omega) (by omega)]; rfl)) rfl (int_eq (by rw [stpR_arg (by omega) (by omega)])), by rw [stpR_arg (by omega) (by omega)]; exact .nil⟩
   ·refine WL.nil ?_
    refine WK.nThen ?_
    refine WC.condF rfl ?_
    refine WC.skip ?_
    refine WK.nThen ?_
    refine WC.seq ?_
    have hok := Ok.of (s := s) (by omega)
    have hnV := hok.nV
    have hmm : 0 ≤ most ∧ most ≤ 24000 := (by omega)
    refine WK.ownF Int 3 ?_
    refine WC.region ?_
    refine WL.x (X.assign rfl) (by decide) ?_
    refine WL.nil ?_
    refine WK.nThen ?_
    refine WC.seq ?_
    refine WC.seq ?_
    refine WC.region ?_
    refine WL.x (X.assign rfl) (by decide) ?_
    refine WL.nil ?_
    refine WK.nThen ?_
    refine WC.block ?_
    refine WC.loop (G := Nat × Value × List Int) (fun (a, vo, Lo) => s.Values.length - a) (fun (a, vo, Lo) => m) (fun (a, vo, Lo) => [rowF (vo) 3 (Lo), blk b7 25 [v1, v3]]) (fun (a, vo, Lo) => [(1, .int .i64 (most)), (2, .pointer (some ⟨b7, 0, none⟩)), (8, vo), (9, .int .i64 (↑a))]) (fun (a, vo, Lo) => a ≤ s.Values.length ∧ Lo.length ≤ a ∧ Lo ++ stpF s most (s.Values.length - a) a = stpL s most) ((0, Value.slice none 0 0, [])) rfl (.refl _) (.cons rfl (.cons rfl (.cons rfl (.cons rfl .nil)))) ?_ ?_
    ·exact ⟨Nat.zero_le _, Nat.le_refl _, by simp [stpL]⟩
    ·rintro ⟨a, vo, Lo⟩ hF11
     show WK _ _ m [rowF (vo) 3 (Lo), blk b7 25 [v1, v3]] [(1, .int .i64 (most)), (2, .pointer (some ⟨b7, 0, none⟩)), (8, vo), (9, .int .i64 (↑a))] _
     replace hF11 : a ≤ s.Values.length ∧ Lo.length ≤ a ∧ Lo ++ stpF s most (s.Values.length - a) a = stpL s most := hF11
     obtain ⟨ha, hLo, hst⟩ := hF11
     refine WC.seq ?_
     refine WC.seq ?_
     refine WC.region ?_
     refine WL.x (X.move rfl) (by decide) ?_
     refine WL.x (X.field Try.runUnderlying25 rfl Try.sizeOf22 rfl) (by decide) ?_
     refine WL.x (X.loadB (k := 1) Try.isAgg22 rfl rfl rfl) (by decide) ?_
     refine WL.x (X.len Try.runUnderlying22 rfl hs2) (by decide) ?_
     refine WL.cond (X.lss rfl rfl) (by decide) (fun h12 => ?_) (fun h12 => ?_)
     ·refine WL.nil ?_
      refine WK.nThen ?_
      refine WC.condT rfl ?_
      refine WC.skip ?_
      refine WK.nThen ?_
      refine WC.block ?_
      refine WC.seq ?_
      have hnb := nxt_bd (s := s) (most := most) (a := a) (by omega)
      refine WC.region ?_
      refine WL.x (X.move rfl) (by decide) ?_
      refine WL.x (X.loadBA (k := 1) Try.isAgg25 Try.sizeOf25 rfl rfl rfl) (by decide) ?_
      refine WL.x (X.move rfl) (by decide) ?_
      refine WL.x (X.move rfl) (by decide) ?_
      refine WL.x (X.call Try.call98 rfl (run98 _ ⟨_, _, rfl, hs2, hs4⟩ hok a _ (by omega) (by omega) most (by omega))) (by decide) ?_
      refine WL.x (X.add rfl rfl (by first | omega | (simp; omega)) (by first | omega | (simp; omega))) (by decide) ?_
      refine WL.x (X.assign rfl) (by decide) ?_
      refine WL.nil ?_
      refine WK.nThen ?_
      refine WC.seq ?_
      have e9_ : (↑a + ((↑(nxt s most a) - ↑a : Int)) : Int) = ↑(nxt s most a) := (by omega)
      rw [e9_]
      refine WC.region ?_
      refine WL.x (X.move rfl) (by decide) ?_
      refine WL.x (X.field Try.runUnderlying25 rfl Try.sizeOf22 rfl) (by decide) ?_
      refine WL.x (X.loadB (k := 1) Try.isAgg22 rfl rfl rfl) (by decide) ?_
      refine WL.x (X.len Try.runUnderlying22 rfl hs2) (by decide) ?_
      refine WL.cond (X.lss rfl rfl) (by decide) (fun h13 => ?_) (fun h13 => ?_)
      ·refine WL.nil ?_
       refine WK.nThen ?_
       refine WC.condT rfl ?_
       refine WC.region ?_
       refine WL.x (X.move rfl) (by decide) ?_
       refine WL.x (X.field Try.runUnderlying25 rfl Try.sizeOf22 rfl) (by decide) ?_
       refine WL.x (X.loadB (k := 1) Try.isAgg22 rfl rfl rfl) (by decide) ?_
       refine WL.x (X.move rfl) (by decide) ?_
       refine WL.xe (E.idx Try.runUnderlying22 Try.sizeOf62 rfl rfl hs2 (by first | omega | (simp; omega)) (by first | omega | (simp; omega))) (by decide) (fun p14 hp15 => ?_)
       have hp16 := At.Val_0 hp15
       refine WL.x (X.field Try.runUnderlying62 rfl Try.sizeOf3 rfl) (by decide) ?_
       refine WL.x (X.loadInt Try.isAgg3 rfl hp16) (by decide) ?_
       refine WL.tl (T.lit1 sl28 rfl rfl rfl (by decide)) (by decide) fun b17 => ?_
       refine WL.ta (T.appendF (k := 0) (a := ((gt s.Values ((↑(nxt s most a) : Int).toNat)).Time : Int)) sl28 rfl rfl rfl rfl (by first | omega | (simp; omega)) (by decide)) (by decide) (fun v18 => ?_)
       refine WL.x (X.assign rfl) (by decide) ?_
       refine WL.nil ?_
       refine WK.nBlock ?_
       refine WK.nThen ?_
       refine WK.next ((nxt s most a, v18, Lo ++ [((gt s.Values ((↑(nxt s most a) : Int).toNat)).Time : Int)])) rfl (.refl _) (.cons rfl (.cons rfl (.cons rfl (.cons rfl .nil)))) ?_ ?_
       ·first | exact ⟨by omega, by simp; omega, by rw [← hst, stp_more (a := a) (by omega) (by omega)]; simp⟩ | exact ⟨by omega, by omega, by rw [← hst, stp_end (a := a) (by omega) (by omega), show s.Values.length - nxt s most a = 0 by omega]; rfl⟩
       ·(dsimp only; omega)
      ·refine WL.nil ?_
       refine WK.nThen ?_
       refine WC.condF rfl ?_
       refine WC.skip ?_
       refine WK.nBlock ?_
       refine WK.nThen ?_
       refine WK.next ((nxt s most a, vo, Lo)) rfl (.refl _) (.cons rfl (.cons rfl (.cons rfl (.cons rfl .nil)))) ?_ ?_
       ·first | exact ⟨by omega, by simp; omega, by rw [← hst, stp_more (a := a) (by omega) (by omega)]; simp⟩ | exact ⟨by omega, by omega, by rw [← hst, stp_end (a := a) (by omega) (by omega), show s.Values.length - nxt s most a = 0 by omega]; rfl⟩
       ·(dsimp only; omega)
     ·refine WL.nil ?_
      refine WK.nThen ?_
      refine WC.condF rfl ?_
      refine WC.exit ?_
      refine WK.eThen ?_
      refine WK.eThen ?_
      refine WK.eHit ?_
      refine WK.nThen ?_
      refine WC.seq ?_
      refine WC.region ?_
      refine WL.x (X.move rfl) (by decide) ?_
      refine WL.x (X.lenF (k := 0) Try.runUnderlying28 rfl rfl) (by decide) ?_
      refine WL.x (X.move rfl) (by decide) ?_
      refine WL.x (X.assign rfl) (by decide) ?_
      refine WL.x (X.assign rfl) (by decide) ?_
      refine WL.x (X.assign rfl) (by decide) ?_
      refine WL.nil ?_
      refine WK.nThen ?_
      refine WC.ret ?_
      refine WK.freezeF 0 rfl rfl (by simp [lenB]; omega) (fun m19 hle20 hs21 => ?_)
      replace hs2 := hs2.mono hle20
      replace hs4 := hs4.mono hle20
      refine WK.ret3 rfl rfl rfl rfl (fun w' hw' => Ret.mem hw' ?_)
      have hfin : stpR s most = (Lo, 0) := stpR_ok (by omega) hmm (by rw [← hst, show s.Values.length - a = 0 by omega]; simp [stpF])
      exact ⟨_, tup3 (int_eq (by rw [hfin])) rfl (int_eq (by rw [hfin])), by rw [hfin]; exact hs21⟩
  ·refine WL.yes rfl rfl ?_
   refine WL.x (X.not rfl) (by decide) ?_
   refine WL.x (X.pickT rfl rfl rfl) (by decide) ?_
   refine WL.nil ?_
   refine WK.nThen ?_
   refine WC.condT rfl ?_
   refine WC.seq ?_
   refine WC.region ?_
   refine WL.x (X.assign rfl) (by decide) ?_
   refine WL.x (X.assign rfl) (by decide) ?_
   refine WL.x (X.assign rfl) (by decide) ?_
   refine WL.nil ?_
   refine WK.nThen ?_
   refine WC.ret ?_
   refine WK.rThen ?_
   refine WK.ret3 rfl rfl rfl rfl (fun w' hw' => Ret.mem hw' ?_)
   first | exact ⟨_, tup3 (int_eq (by rw [stpR_err (by omega)]; rfl)) rfl (int_eq (by rw [stpR_err (by omega)])), by rw [stpR_err (by omega)]; exact .nil⟩ | exact ⟨_, tup3 (int_eq (by rw [stpR_arg (by omega) (by omega)]; rfl)) rfl (int_eq (by rw [stpR_arg (by omega) (by omega)])), by rw [stpR_arg (by omega) (by omega)]; exact .nil⟩
 ·refine WL.x (X.move rfl) (by decide) ?_
  refine WL.no rfl rfl rfl (by decide) ?_
  refine WL.no rfl rfl rfl (by decide) ?_
  refine WL.no rfl rfl rfl (by decide) ?_
  refine WL.x (X.pickF rfl rfl rfl) (by decide) ?_
  refine WL.nil ?_
  refine WK.nThen ?_
  refine WC.condF rfl ?_
  refine WC.skip ?_
  refine WK.nThen ?_
  refine WC.seq ?_
  refine WC.seq ?_
  refine WC.region ?_
  refine WL.x (X.move rfl) (by decide) ?_
  refine WL.condn (X.neq rfl rfl) (by decide) (fun h22 => ?_) (fun h22 => ?_)
  ·refine WL.nil ?_
   refine WK.nThen ?_
   refine WC.condT rfl ?_
   refine WC.seq ?_
   refine WC.region ?_
   refine WL.x (X.move rfl) (by decide) ?_
   refine WL.x (X.assign rfl) (by decide) ?_
   refine WL.x (X.assign rfl) (by decide) ?_
   refine WL.x (X.assign rfl) (by decide) ?_
   refine WL.nil ?_
   refine WK.nThen ?_
   refine WC.ret ?_
   refine WK.rThen ?_
   refine WK.ret3 rfl rfl rfl rfl (fun w' hw' => Ret.mem hw' ?_)
   first | exact ⟨_, tup3 (int_eq (by rw [stpR_err (by omega)]; rfl)) rfl (int_eq (by rw [stpR_err (by omega)])), by rw [stpR_err (by omega)]; exact .nil⟩ | exact ⟨_, tup3 (int_eq (by rw [stpR_arg (by omega) (by omega)]; rfl)) rfl (int_eq (by rw [stpR_arg (by omega) (by omega)])), by rw [stpR_arg (by omega) (by omega)]; exact .nil⟩
  ·refine WL.nil ?_
   refine WK.nThen ?_
   refine WC.condF rfl ?_
   refine WC.skip ?_
   refine WK.nThen ?_
   refine WC.seq ?_
   have hok := Ok.of (s := s) (by omega)
   have hnV := hok.nV
   have hmm : 0 ≤ most ∧ most ≤ 24000 := (by omega)
   refine WK.ownF Int 3 ?_
   refine WC.region ?_
   refine WL.x (X.assign rfl) (by decide) ?_
   refine WL.nil ?_
   refine WK.nThen ?_
   refine WC.seq ?_
   refine WC.seq ?_
   refine WC.region ?_
   refine WL.x (X.assign rfl) (by decide) ?_
   refine WL.nil ?_
   refine WK.nThen ?_
   refine WC.block ?_
   refine WC.loop (G := Nat × Value × List Int) (fun (a, vo, Lo) => s.Values.length - a) (fun (a, vo, Lo) => m) (fun (a, vo, Lo) => [rowF (vo) 3 (Lo), blk b7 25 [v1, v3]]) (fun (a, vo, Lo) => [(1, .int .i64 (most)), (2, .pointer (some ⟨b7, 0, none⟩)), (8, vo), (9, .int .i64 (↑a))]) (fun (a, vo, Lo) => a ≤ s.Values.length ∧ Lo.length ≤ a ∧ Lo ++ stpF s most (s.Values.length - a) a = stpL s most) ((0, Value.slice none 0 0, [])) rfl (.refl _) (.cons rfl (.cons rfl (.cons rfl (.cons rfl .nil)))) ?_ ?_
   ·exact ⟨Nat.zero_le _, Nat.le_refl _, by simp [stpL]⟩
   ·rintro ⟨a, vo, Lo⟩ hF23
    show WK _ _ m [rowF (vo) 3 (Lo), blk b7 25 [v1, v3]] [(1, .int .i64 (most)), (2, .pointer (some ⟨b7, 0, none⟩)), (8, vo), (9, .int .i64 (↑a))] _
    replace hF23 : a ≤ s.Values.length ∧ Lo.length ≤ a ∧ Lo ++ stpF s most (s.Values.length - a) a = stpL s most := hF23
    obtain ⟨ha, hLo, hst⟩ := hF23
    refine WC.seq ?_
    refine WC.seq ?_
    refine WC.region ?_
    refine WL.x (X.move rfl) (by decide) ?_
    refine WL.x (X.field Try.runUnderlying25 rfl Try.sizeOf22 rfl) (by decide) ?_
    refine WL.x (X.loadB (k := 1) Try.isAgg22 rfl rfl rfl) (by decide) ?_
    refine WL.x (X.len Try.runUnderlying22 rfl hs2) (by decide) ?_
    refine WL.cond (X.lss rfl rfl) (by decide) (fun h24 => ?_) (fun h24 => ?_)
    ·refine WL.nil ?_
     refine WK.nThen ?_
     refine WC.condT rfl ?_
     refine WC.skip ?_
     refine WK.nThen ?_
     refine WC.block ?_
     refine WC.seq ?_
     have hnb := nxt_bd (s := s) (most := most) (a := a) (by omega)
     refine WC.region ?_
     refine WL.x (X.move rfl) (by decide) ?_
     refine WL.x (X.loadBA (k := 1) Try.isAgg25 Try.sizeOf25 rfl rfl rfl) (by decide) ?_
     refine WL.x (X.move rfl) (by decide) ?_
     refine WL.x (X.move rfl) (by decide) ?_
     refine WL.x (X.call Try.call98 rfl (run98 _ ⟨_, _, rfl, hs2, hs4⟩ hok a _ (by omega) (by omega) most (by omega))) (by decide) ?_
     refine WL.x (X.add rfl rfl (by first | omega | (simp; omega)) (by first | omega | (simp; omega))) (by decide) ?_
     refine WL.x (X.assign rfl) (by decide) ?_
     refine WL.nil ?_
     refine WK.nThen ?_
     refine WC.seq ?_
     have e9_ : (↑a + ((↑(nxt s most a) - ↑a : Int)) : Int) = ↑(nxt s most a) := (by omega)
     rw [e9_]
     refine WC.region ?_
     refine WL.x (X.move rfl) (by decide) ?_
     refine WL.x (X.field Try.runUnderlying25 rfl Try.sizeOf22 rfl) (by decide) ?_
     refine WL.x (X.loadB (k := 1) Try.isAgg22 rfl rfl rfl) (by decide) ?_
     refine WL.x (X.len Try.runUnderlying22 rfl hs2) (by decide) ?_
     refine WL.cond (X.lss rfl rfl) (by decide) (fun h25 => ?_) (fun h25 => ?_)
     ·refine WL.nil ?_
      refine WK.nThen ?_
      refine WC.condT rfl ?_
      refine WC.region ?_
      refine WL.x (X.move rfl) (by decide) ?_
      refine WL.x (X.field Try.runUnderlying25 rfl Try.sizeOf22 rfl) (by decide) ?_
      refine WL.x (X.loadB (k := 1) Try.isAgg22 rfl rfl rfl) (by decide) ?_
      refine WL.x (X.move rfl) (by decide) ?_
      refine WL.xe (E.idx Try.runUnderlying22 Try.sizeOf62 rfl rfl hs2 (by first | omega | (simp; omega)) (by first | omega | (simp; omega))) (by decide) (fun p26 hp27 => ?_)
      have hp28 := At.Val_0 hp27
      refine WL.x (X.field Try.runUnderlying62 rfl Try.sizeOf3 rfl) (by decide) ?_
      refine WL.x (X.loadInt Try.isAgg3 rfl hp28) (by decide) ?_
      refine WL.tl (T.lit1 sl28 rfl rfl rfl (by decide)) (by decide) fun b29 => ?_
      refine WL.ta (T.appendF (k := 0) (a := ((gt s.Values ((↑(nxt s most a) : Int).toNat)).Time : Int)) sl28 rfl rfl rfl rfl (by first | omega | (simp; omega)) (by decide)) (by decide) (fun v30 => ?_)
      refine WL.x (X.assign rfl) (by decide) ?_
      refine WL.nil ?_
      refine WK.nBlock ?_
      refine WK.nThen ?_
      refine WK.next ((nxt s most a, v30, Lo ++ [((gt s.Values ((↑(nxt s most a) : Int).toNat)).Time : Int)])) rfl (.refl _) (.cons rfl (.cons rfl (.cons rfl (.cons rfl .nil)))) ?_ ?_
      ·first | exact ⟨by omega, by simp; omega, by rw [← hst, stp_more (a := a) (by omega) (by omega)]; simp⟩ | exact ⟨by omega, by omega, by rw [← hst, stp_end (a := a) (by omega) (by omega), show s.Values.length - nxt s most a = 0 by omega]; rfl⟩
      ·(dsimp only; omega)
     ·refine WL.nil ?_
      refine WK.nThen ?_
      refine WC.condF rfl ?_
      refine WC.skip ?_
      refine WK.nBlock ?_
      refine WK.nThen ?_
      refine WK.next ((nxt s most a, vo, Lo)) rfl (.refl _) (.cons rfl (.cons rfl (.cons rfl (.cons rfl .nil)))) ?_ ?_
      ·first | exact ⟨by omega, by simp; omega, by rw [← hst, stp_more (a := a) (by omega) (by omega)]; simp⟩ | exact ⟨by omega, by omega, by rw [← hst, stp_end (a := a) (by omega) (by omega), show s.Values.length - nxt s most a = 0 by omega]; rfl⟩
      ·(dsimp only; omega)
    ·refine WL.nil ?_
     refine WK.nThen ?_
     refine WC.condF rfl ?_
     refine WC.exit ?_
     refine WK.eThen ?_
     refine WK.eThen ?_
     refine WK.eHit ?_
     refine WK.nThen ?_
     refine WC.seq ?_
     refine WC.region ?_
     refine WL.x (X.move rfl) (by decide) ?_
     refine WL.x (X.lenF (k := 0) Try.runUnderlying28 rfl rfl) (by decide) ?_
     refine WL.x (X.move rfl) (by decide) ?_
     refine WL.x (X.assign rfl) (by decide) ?_
     refine WL.x (X.assign rfl) (by decide) ?_
     refine WL.x (X.assign rfl) (by decide) ?_
     refine WL.nil ?_
     refine WK.nThen ?_
     refine WC.ret ?_
     refine WK.freezeF 0 rfl rfl (by simp [lenB]; omega) (fun m31 hle32 hs33 => ?_)
     replace hs2 := hs2.mono hle32
     replace hs4 := hs4.mono hle32
     refine WK.ret3 rfl rfl rfl rfl (fun w' hw' => Ret.mem hw' ?_)
     have hfin : stpR s most = (Lo, 0) := stpR_ok (by omega) hmm (by rw [← hst, show s.Values.length - a = 0 by omega]; simp [stpF])
     exact ⟨_, tup3 (int_eq (by rw [hfin])) rfl (int_eq (by rw [hfin])), by rw [hfin]; exact hs33⟩

theorem common87 (m : Mem) (cs : List Value) (s : Ser) (hs : Enc.rd m cs s) (ct : List Value) (t : Ser) (ht : Enc.rd m ct t)  (hos : Ok s) (hot : Ok t) : Pure Try.prog 87 #[.agg cs.toArray, .agg ct.toArray] m (fun m' v => ∃ r0, v = r0 ∧ Sl m' r0 (prL s t)) := by
 obtain ⟨v1, v3, rfl, hs2, hs4⟩ := hs
 have hl5 := hs2.le
 have hl6 := hs4.le
 obtain ⟨v7, v9, rfl, hs8, hs10⟩ := ht
 have hl11 := hs8.le
 have hl12 := hs10.le
 have hnV := hos.nV
 refine Pure.start Try.func87 rfl Try.ntmps87 rfl fun wld => ?_
 refine WC.seq ?_
 refine WC.region ?_
 refine WL.tn (T.boxB rfl rfl) (by decide) fun b13 => ?_
 refine WL.tn (T.boxB rfl rfl) (by decide) fun b14 => ?_
 refine WL.x (X.assign rfl) (by decide) ?_
 refine WL.nil ?_
 refine WK.nThen ?_
 refine WC.seq ?_
 refine WK.ownF Pr 119 ?_
 refine WC.region ?_
 refine WL.x (X.assign rfl) (by decide) ?_
 refine WL.nil ?_
 refine WK.nThen ?_
 refine WC.seq ?_
 refine WC.seq ?_
 refine WC.region ?_
 refine WL.x (X.assign rfl) (by decide) ?_
 refine WL.nil ?_
 refine WK.nThen ?_
 refine WC.block ?_
 refine WC.loop (G := Nat × Value) (fun (i, vo) => s.Values.length - i) (fun (i, vo) => m) (fun (i, vo) => [rowF (vo) 119 (prN s t i), blk b14 25 [v7, v9], blk b13 25 [v1, v3]]) (fun (i, vo) => [(2, .pointer (some ⟨b13, 0, none⟩)), (3, .pointer (some ⟨b14, 0, none⟩)), (5, vo), (6, .int .i64 (↑i))]) (fun (i, vo) => i ≤ s.Values.length) ((0, Value.slice none 0 0)) rfl (.refl _) (.cons rfl (.cons rfl (.cons rfl (.cons rfl .nil)))) ?_ ?_
 ·exact Nat.zero_le _
 ·rintro ⟨i, vo⟩ hF15
  show WK _ _ m [rowF (vo) 119 (prN s t i), blk b14 25 [v7, v9], blk b13 25 [v1, v3]] [(2, .pointer (some ⟨b13, 0, none⟩)), (3, .pointer (some ⟨b14, 0, none⟩)), (5, vo), (6, .int .i64 (↑i))] _
  replace hF15 : i ≤ s.Values.length := hF15
  have hi := hF15
  have hpn := prN_len s t i
  refine WC.seq ?_
  refine WC.seq ?_
  refine WC.region ?_
  refine WL.x (X.move rfl) (by decide) ?_
  refine WL.x (X.field Try.runUnderlying25 rfl Try.sizeOf22 rfl) (by decide) ?_
  refine WL.x (X.loadB (k := 2) Try.isAgg22 rfl rfl rfl) (by decide) ?_
  refine WL.x (X.len Try.runUnderlying22 rfl hs2) (by decide) ?_
  refine WL.cond (X.lss rfl rfl) (by decide) (fun h16 => ?_) (fun h16 => ?_)
  ·refine WL.nil ?_
   refine WK.nThen ?_
   refine WC.condT rfl ?_
   refine WC.skip ?_
   refine WK.nThen ?_
   refine WC.seq ?_
   refine WC.block ?_
   refine WC.seq ?_
   refine WC.region ?_
   refine WL.x (X.assign rfl) (by decide) ?_
   refine WL.nil ?_
   refine WK.nThen ?_
   refine WC.block ?_
   have he17 : (prN s t i) = (prI s t i 0) := (prI_zero s t i).symm
   rw [he17]
   refine WC.loop (G := Nat × Value) (fun (k, vp) => t.Values.length - k) (fun (k, vp) => m) (fun (k, vp) => [rowF (vp) 119 (prI s t i k), blk b14 25 [v7, v9], blk b13 25 [v1, v3]]) (fun (k, vp) => [(2, .pointer (some ⟨b13, 0, none⟩)), (3, .pointer (some ⟨b14, 0, none⟩)), (5, vp), (6, .int .i64 (↑i)), (7, .int .i64 (↑k))]) (fun (k, vp) => k ≤ t.Values.length) ((0, vo)) rfl (.refl _) (.cons rfl (.cons rfl (.cons rfl (.cons rfl (.cons rfl .nil))))) ?_ ?_
   ·exact Nat.zero_le _
   ·rintro ⟨k, vp⟩ hF18
    show WK _ _ m [rowF (vp) 119 (prI s t i k), blk b14 25 [v7, v9], blk b13 25 [v1, v3]] [(2, .pointer (some ⟨b13, 0, none⟩)), (3, .pointer (some ⟨b14, 0, none⟩)), (5, vp), (6, .int .i64 (↑i)), (7, .int .i64 (↑k))] _
    replace hF18 : k ≤ t.Values.length := hF18
    have hk := hF18
    have hpl := prI_len s t i k
    refine WC.seq ?_
    refine WC.seq ?_
    refine WC.region ?_
    refine WL.x (X.move rfl) (by decide) ?_
    refine WL.x (X.field Try.runUnderlying25 rfl Try.sizeOf22 rfl) (by decide) ?_
    refine WL.x (X.loadB (k := 1) Try.isAgg22 rfl rfl rfl) (by decide) ?_
    refine WL.x (X.len Try.runUnderlying22 rfl hs8) (by decide) ?_
    refine WL.cond (X.lss rfl rfl) (by decide) (fun h19 => ?_) (fun h19 => ?_)
    ·refine WL.nil ?_
     refine WK.nThen ?_
     refine WC.condT rfl ?_
     refine WC.skip ?_
     refine WK.nThen ?_
     refine WC.seq ?_
     refine WC.block ?_
     refine WC.seq ?_
     refine WC.draw (π := (.cons 0 (.cons 1 (.cons 2 (.cons 3 (.cons 4 (.cons 5 (.cons 6 (.cons 7 (.cons 8 (.cons 9 (.cons 10 (.cons 11 (.cons 12 .done)))))))))))))) [] [] rfl (by kernel_rfl) ?_
     refine DW.x rfl rfl (X.field Try.runUnderlying25 rfl Try.sizeOf22 rfl) (by decide) ?_
     refine DW.x rfl rfl (X.loadB (k := 2) Try.isAgg22 rfl rfl rfl) (by decide) ?_
     refine DW.x rfl rfl (X.move rfl) (by decide) ?_
     refine DW.xe rfl rfl (E.idxN i Try.runUnderlying22 Try.sizeOf62 rfl rfl hs2 (by omega)) (by decide) (fun p20 hp21 => ?_)
     have hp22 := At.Val_0 hp21
     refine DW.x rfl rfl (X.field Try.runUnderlying62 rfl Try.sizeOf3 rfl) (by decide) ?_
     refine DW.x rfl rfl (X.loadInt Try.isAgg3 rfl hp22) (by decide) ?_
     refine DW.x rfl rfl (X.field Try.runUnderlying25 rfl Try.sizeOf22 rfl) (by decide) ?_
     refine DW.x rfl rfl (X.loadB (k := 1) Try.isAgg22 rfl rfl rfl) (by decide) ?_
     refine DW.x rfl rfl (X.move rfl) (by decide) ?_
     refine DW.xe rfl rfl (E.idxN k Try.runUnderlying22 Try.sizeOf62 rfl rfl hs8 (by omega)) (by decide) (fun p23 hp24 => ?_)
     have hp25 := At.Val_0 hp24
     refine DW.x rfl rfl (X.field Try.runUnderlying62 rfl Try.sizeOf3 rfl) (by decide) ?_
     refine DW.x rfl rfl (X.loadInt Try.isAgg3 rfl hp25) (by decide) ?_
     refine DW.cond rfl rfl (X.eql rfl rfl) (by decide) (fun h26 => ?_) (fun h26 => ?_)
     ·refine DW.nil ?_
      refine WK.nThen ?_
      refine WC.condT rfl ?_
      refine WC.region ?_
      refine WL.x (X.move rfl) (by decide) ?_
      refine WL.x (X.move rfl) (by decide) ?_
      refine WL.x (X.move rfl) (by decide) ?_
      refine WL.x (V := Value.agg [.int .i64 (↑i), .int .i64 (↑k)].toArray) (X.build Try.zeroValue119 Try.runUnderlying119 (places119 _ Try.underlying119) rfl rfl) (by decide) ?_
      refine WL.tl (T.lit1 sl115 rfl rfl rfl (by decide)) (by decide) fun b27 => ?_
      refine WL.ta (T.appendF (k := 0) (a := (Pr.mk (↑i) (↑k))) sl115 rfl rfl rfl rfl (by first | omega | (simp; done) | (simp; omega)) (by decide)) (by decide) (fun v28 => ?_)
      refine WL.x (X.assign rfl) (by decide) ?_
      refine WL.nil ?_
      refine WK.nBlock ?_
      refine WK.nThen ?_
      refine WC.region ?_
      refine WL.x (X.move rfl) (by decide) ?_
      refine WL.x (X.add rfl rfl (by omega) (by omega)) (by decide) ?_
      refine WL.x (X.assign rfl) (by decide) ?_
      refine WL.nil ?_
      refine WK.nThen ?_
      have he29 : ((prI s t i k) ++ [(Pr.mk (↑i) (↑k))]) = (prI s t i (k + 1)) := (by first | exact prI_yes hot (by omega) (by omega) | exact prI_no (by omega))
      rw [he29]
      refine WK.next ((k + 1, v28)) rfl (.refl _) (.cons rfl (.cons rfl (.cons rfl (.cons rfl (.cons rfl .nil))))) ?_ ?_
      ·omega
      ·(dsimp only; omega)
     ·refine DW.nil ?_
      refine WK.nThen ?_
      refine WC.condF rfl ?_
      refine WC.skip ?_
      refine WK.nBlock ?_
      refine WK.nThen ?_
      refine WC.region ?_
      refine WL.x (X.move rfl) (by decide) ?_
      refine WL.x (X.add rfl rfl (by omega) (by omega)) (by decide) ?_
      refine WL.x (X.assign rfl) (by decide) ?_
      refine WL.nil ?_
      refine WK.nThen ?_
      have he30 : (prI s t i k) = (prI s t i (k + 1)) := (by first | exact prI_yes hot (by omega) (by omega) | exact prI_no (by omega))
      rw [he30]
      refine WK.next ((k + 1, vp)) rfl (.refl _) (.cons rfl (.cons rfl (.cons rfl (.cons rfl (.cons rfl .nil))))) ?_ ?_
      ·omega
      ·(dsimp only; omega)
    ·refine WL.nil ?_
     refine WK.nThen ?_
     refine WC.condF rfl ?_
     refine WC.exit ?_
     refine WK.eThen ?_
     refine WK.eThen ?_
     refine WK.eHit ?_
     refine WK.nBlock ?_
     refine WK.nThen ?_
     refine WC.region ?_
     refine WL.x (X.move rfl) (by decide) ?_
     refine WL.x (X.add rfl rfl (by omega) (by omega)) (by decide) ?_
     refine WL.x (X.assign rfl) (by decide) ?_
     refine WL.nil ?_
     refine WK.nThen ?_
     have he31 : (prI s t i k) = (prN s t (i + 1)) := (prI_end (by omega))
     rw [he31]
     refine WK.next ((i + 1, vp)) rfl (.refl _) (.cons rfl (.cons rfl (.cons rfl (.cons rfl .nil)))) ?_ ?_
     ·omega
     ·(dsimp only; omega)
  ·refine WL.nil ?_
   refine WK.nThen ?_
   refine WC.condF rfl ?_
   refine WC.exit ?_
   refine WK.eThen ?_
   refine WK.eThen ?_
   refine WK.eHit ?_
   refine WK.nThen ?_
   refine WC.seq ?_
   refine WC.region ?_
   refine WL.x (X.move rfl) (by decide) ?_
   refine WL.x (X.assign rfl) (by decide) ?_
   refine WL.nil ?_
   refine WK.nThen ?_
   refine WC.ret ?_
   refine WK.freezeF 0 rfl rfl (by simp [lenB]; omega) (fun m32 hle33 hs34 => ?_)
   replace hs2 := hs2.mono hle33
   replace hs4 := hs4.mono hle33
   replace hs8 := hs8.mono hle33
   replace hs10 := hs10.mono hle33
   refine WK.ret1 rfl rfl (fun w' hw' => Ret.mem hw' ?_)
   obtain rfl : i = s.Values.length := (by omega)
   exact ⟨_, rfl, hs34⟩

theorem break24 (m : Mem) (cs : List Value) (s : Ser) (hs : Enc.rd m cs s) (ct : List Value) (t : Ser) (ht : Enc.rd m ct t) (least : Int)   : Pure Try.prog 24 #[.agg cs.toArray, .agg ct.toArray, .int .i64 (least)] m (fun m' v => ∃ r0, v = .tuple #[r0, .int .i64 ((brkR s t least).2)] ∧ Sl m' r0 ((brkR s t least).1)) := by
 obtain ⟨v1, v3, rfl, hs2, hs4⟩ := hs
 have hl5 := hs2.le
 have hl6 := hs4.le
 obtain ⟨v7, v9, rfl, hs8, hs10⟩ := ht
 have hl11 := hs8.le
 have hl12 := hs10.le
 refine Pure.start Try.func24 rfl Try.ntmps24 rfl fun wld => ?_
 refine WC.seq ?_
 refine WC.region ?_
 refine WL.tn (T.boxB rfl rfl) (by decide) fun b13 => ?_
 refine WL.tn (T.boxB rfl rfl) (by decide) fun b14 => ?_
 refine WL.x (X.assign rfl) (by decide) ?_
 refine WL.x (X.assign rfl) (by decide) ?_
 refine WL.nil ?_
 refine WK.nThen ?_
 refine WC.seq ?_
 refine WC.region ?_
 refine WL.x (X.loadBA (k := 1) Try.isAgg25 Try.sizeOf25 rfl rfl rfl) (by decide) ?_
 refine WL.x (X.loadBA (k := 0) Try.isAgg25 Try.sizeOf25 rfl rfl rfl) (by decide) ?_
 refine WL.x (X.call Try.call85 rfl (both85 _ _ s ⟨_, _, rfl, hs2, hs4⟩ _ t ⟨_, _, rfl, hs8, hs10⟩ )) (by decide) ?_
 refine WL.x (X.assign rfl) (by decide) ?_
 refine WL.nil ?_
 refine WK.nThen ?_
 refine WC.seq ?_
 refine WC.seq ?_
 refine WC.region ?_
 refine WL.x (X.move rfl) (by decide) ?_
 refine WL.cond (X.eql rfl rfl) (by decide) (fun h15 => ?_) (fun h15 => ?_)
 ·refine WL.x (X.move rfl) (by decide) ?_
  refine WL.yes rfl rfl ?_
  refine WL.x (X.move rfl) (by decide) ?_
  refine WL.yes rfl rfl ?_
  refine WL.cond (X.call Try.call86 rfl (within86 _ _ _ _ )) (by decide) (fun h16 => ?_) (fun h16 => ?_)
  ·refine WL.yes rfl rfl ?_
   refine WL.x (X.not rfl) (by decide) ?_
   refine WL.x (X.pickT rfl rfl rfl) (by decide) ?_
   refine WL.nil ?_
   refine WK.nThen ?_
   refine WC.condF rfl ?_
   refine WC.skip ?_
   refine WK.nThen ?_
   refine WC.seq ?_
   refine WC.seq ?_
   refine WC.region ?_
   refine WL.x (X.move rfl) (by decide) ?_
   refine WL.condn (X.neq rfl rfl) (by decide) (fun h17 => ?_) (fun h17 => ?_)
   ·refine WL.nil ?_
    refine WK.nThen ?_
    refine WC.condT rfl ?_
    refine WC.seq ?_
    refine WC.region ?_
    refine WL.x (X.move rfl) (by decide) ?_
    refine WL.x (X.assign rfl) (by decide) ?_
    refine WL.x (X.assign rfl) (by decide) ?_
    refine WL.nil ?_
    refine WK.nThen ?_
    refine WC.ret ?_
    refine WK.rThen ?_
    refine WK.ret2 rfl rfl rfl (fun w' hw' => Ret.mem hw' ?_)
    first | exact ⟨_, tup2 rfl (int_eq (by unfold brkR; rw [if_pos (by omega)])), by unfold brkR; rw [if_pos (by omega)]; exact .nil⟩ | exact ⟨_, tup2 rfl (int_eq (by unfold brkR; rw [if_neg (by omega), if_pos (by omega)])), by unfold brkR; rw [if_neg (by omega), if_pos (by omega)]; exact .nil⟩
   ·refine WL.nil ?_
    refine WK.nThen ?_
    refine WC.condF rfl ?_
    refine WC.skip ?_
    refine WK.nThen ?_
    refine WC.seq ?_
    have h2z := twoE_zero (s := s) (t := t) (by omega)
    have hos := Ok.of h2z.1
    have hot := Ok.of h2z.2
    have hnV := hos.nV
    have hcl := comL_len s t
    have hpl := prL_len s t
    refine WC.region ?_
    refine WL.x (X.loadBA (k := 1) Try.isAgg25 Try.sizeOf25 rfl rfl rfl) (by decide) ?_
    refine WL.x (X.loadBA (k := 0) Try.isAgg25 Try.sizeOf25 rfl rfl rfl) (by decide) ?_
    refine WL.tm (T.call Try.call87 rfl (common87 _ _ s ⟨_, _, rfl, hs2, hs4⟩ _ t ⟨_, _, rfl, hs8, hs10⟩ (by assumption) (by assumption))) (by decide) fun m18 r19 hle20 hR21 => ?_
    obtain ⟨v22, hv_, hs23⟩ := hR21
    rw [← hv_] at hs23
    clear hv_ v22
    replace hs2 := hs2.mono hle20
    replace hs4 := hs4.mono hle20
    replace hs8 := hs8.mono hle20
    replace hs10 := hs10.mono hle20
    have hl24 := hs23.le
    refine WL.x (X.assign rfl) (by decide) ?_
    refine WL.nil ?_
    refine WK.nThen ?_
    refine WC.seq ?_
    refine WK.ownF Int 3 ?_
    refine WC.region ?_
    refine WL.x (X.assign rfl) (by decide) ?_
    refine WL.nil ?_
    refine WK.nThen ?_
    refine WC.seq ?_
    refine WC.seq ?_
    refine WC.region ?_
    refine WL.x (X.assign rfl) (by decide) ?_
    refine WL.nil ?_
    refine WK.nThen ?_
    refine WC.block ?_
    refine WC.loop (G := Nat × Value) (fun (n, vo) => (comL s t).length + 1 - n) (fun (n, vo) => m18) (fun (n, vo) => [rowF (vo) 3 (brkN s t least n), blk b14 25 [v7, v9], blk b13 25 [v1, v3]]) (fun (n, vo) => [(2, .int .i64 (least)), (3, .pointer (some ⟨b13, 0, none⟩)), (4, .pointer (some ⟨b14, 0, none⟩)), (9, r19), (10, vo), (11, .int .i64 (↑n))]) (fun (n, vo) => 1 ≤ n ∧ (n ≤ (comL s t).length ∨ n = 1)) ((1, Value.slice none 0 0)) rfl (.refl _) (.cons rfl (.cons rfl (.cons rfl (.cons rfl (.cons rfl (.cons rfl .nil)))))) ?_ ?_
    ·exact ⟨Nat.le_refl _, .inr rfl⟩
    ·rintro ⟨n, vo⟩ hF25
     show WK _ _ m18 [rowF (vo) 3 (brkN s t least n), blk b14 25 [v7, v9], blk b13 25 [v1, v3]] [(2, .int .i64 (least)), (3, .pointer (some ⟨b13, 0, none⟩)), (4, .pointer (some ⟨b14, 0, none⟩)), (9, r19), (10, vo), (11, .int .i64 (↑n))] _
     replace hF25 : 1 ≤ n ∧ (n ≤ (comL s t).length ∨ n = 1) := hF25
     have hn := hF25
     have hbl := brkN_len s t least n
     refine WC.seq ?_
     refine WC.seq ?_
     refine WC.region ?_
     refine WL.x (X.move rfl) (by decide) ?_
     refine WL.x (X.move rfl) (by decide) ?_
     refine WL.x (X.len Try.runUnderlying115 rfl hs23) (by decide) ?_
     refine WL.cond (X.lss rfl rfl) (by decide) (fun h26 => ?_) (fun h26 => ?_)
     ·refine WL.nil ?_
      refine WK.nThen ?_
      refine WC.condT rfl ?_
      refine WC.skip ?_
      refine WK.nThen ?_
      refine WC.seq ?_
      refine WC.block ?_
      refine WC.seq ?_
      have hc1 := com_bd (s := s) (t := t) (n := n) (by omega)
      have hc2 := com_bd (s := s) (t := t) (n := n - 1) (by omega)
      have hg1 := gap_bd hos (gt (comL s t) n).a.toNat (gt (comL s t) (n - 1)).a.toNat
      have hg2 := gap_bd hot (gt (comL s t) n).b.toNat (gt (comL s t) (n - 1)).b.toNat
      have hp1_ := prL_at (s := s) (t := t) (i := n) (by omega)
      have hp2_ := prL_at (s := s) (t := t) (i := n - 1) (by omega)
      have hqs1 : (gt (prL s t) n).s = (gt (comL s t) n).a := congrArg Pr.s hp1_
      have hqt1 : (gt (prL s t) n).t = (gt (comL s t) n).b := congrArg Pr.t hp1_
      have hqs2 : (gt (prL s t) (n - 1)).s = (gt (comL s t) (n - 1)).a := congrArg Pr.s hp2_
      have hqt2 : (gt (prL s t) (n - 1)).t = (gt (comL s t) (n - 1)).b := congrArg Pr.t hp2_
      have hgs : gap s (gt (prL s t) n).s.toNat (gt (prL s t) (n - 1)).s.toNat = gap s (gt (comL s t) n).a.toNat (gt (comL s t) (n - 1)).a.toNat := (by rw [hqs1, hqs2])
      have hgt : gap t (gt (prL s t) n).t.toNat (gt (prL s t) (n - 1)).t.toNat = gap t (gt (comL s t) n).b.toNat (gt (comL s t) (n - 1)).b.toNat := (by rw [hqt1, hqt2])
      have hgsl := congrArg Span.Lo hgs
      have hgsh := congrArg Span.Hi hgs
      have hgtl := congrArg Span.Lo hgt
      have hgth := congrArg Span.Hi hgt
      refine WC.draw (π := (.cons 0 (.cons 1 (.cons 2 (.cons 3 (.cons 4 (.cons 5 (.cons 6 (.cons 7 (.cons 8 (.cons 9 (.cons 10 (.cons 11 (.cons 12 (.cons 13 (.cons 14 .done)))))))))))))))) [13, 14] [14] rfl (by kernel_rfl) ?_
      refine DW.x rfl rfl (X.loadBA (k := 2) Try.isAgg25 Try.sizeOf25 rfl rfl rfl) (by decide) ?_
      refine DW.x rfl rfl (X.move rfl) (by decide) ?_
      refine DW.x rfl rfl (X.move rfl) (by decide) ?_
      refine DW.x rfl rfl (X.sub rfl rfl (by omega) (by omega)) (by decide) ?_
      refine DW.xe rfl rfl (E.idxE (n - 1) Try.runUnderlying115 Try.sizeOf119 rfl rfl hs23 (by omega) (by omega)) (by decide) (fun p27 hp28 => ?_)
      have hp29 := At.Pr_0 hp28
      refine DW.x rfl rfl (X.field Try.runUnderlying119 rfl Try.sizeOf3 rfl) (by decide) ?_
      refine DW.x rfl rfl (X.loadInt Try.isAgg3 rfl hp29) (by decide) ?_
      refine DW.x rfl rfl (X.move rfl) (by decide) ?_
      refine DW.x rfl rfl (X.move rfl) (by decide) ?_
      refine DW.xe rfl rfl (E.idxN n Try.runUnderlying115 Try.sizeOf119 rfl rfl hs23 (by omega)) (by decide) (fun p30 hp31 => ?_)
      have hp32 := At.Pr_0 hp31
      refine DW.x rfl rfl (X.field Try.runUnderlying119 rfl Try.sizeOf3 rfl) (by decide) ?_
      refine DW.x rfl rfl (X.loadInt Try.isAgg3 rfl hp32) (by decide) ?_
      refine DW.x rfl rfl (X.call Try.call88 rfl (later88 _ ⟨_, _, rfl, hs2, hs4⟩ hos (((gt (prL s t) n).s : Int).toNat) (((gt (prL s t) (n - 1)).s : Int).toNat) _ _ (by omega) (by omega) (by omega) (by omega))) (by decide) ?_
      refine DW.tn rfl rfl rfl (T.alloc Try.zeroValue33 rfl) (by decide) fun b33 => ?_
      refine DW.ts rfl rfl rfl rfl (T.storeBA (k := 0) Try.sizeOf33 rfl rfl rfl (one_cons rfl (one_cons rfl one_nil)) rfl rfl) ?_
      refine DW.nil ?_
      refine WK.nThen ?_
      refine WC.seq ?_
      refine WC.draw (π := (.cons 0 (.cons 1 (.cons 2 (.cons 3 (.cons 4 (.cons 5 (.cons 6 (.cons 7 (.cons 8 (.cons 9 (.cons 10 (.cons 11 (.cons 12 (.cons 13 (.cons 14 .done)))))))))))))))) [13, 14] [14] rfl (by kernel_rfl) ?_
      refine DW.x rfl rfl (X.loadBA (k := 2) Try.isAgg25 Try.sizeOf25 rfl rfl rfl) (by decide) ?_
      refine DW.x rfl rfl (X.move rfl) (by decide) ?_
      refine DW.x rfl rfl (X.move rfl) (by decide) ?_
      refine DW.x rfl rfl (X.sub rfl rfl (by omega) (by omega)) (by decide) ?_
      refine DW.xe rfl rfl (E.idxE (n - 1) Try.runUnderlying115 Try.sizeOf119 rfl rfl hs23 (by omega) (by omega)) (by decide) (fun p34 hp35 => ?_)
      have hp36 := At.Pr_1 hp35
      refine DW.x rfl rfl (X.field Try.runUnderlying119 rfl Try.sizeOf3 rfl) (by decide) ?_
      refine DW.x rfl rfl (X.loadInt Try.isAgg3 rfl hp36) (by decide) ?_
      refine DW.x rfl rfl (X.move rfl) (by decide) ?_
      refine DW.x rfl rfl (X.move rfl) (by decide) ?_
      refine DW.xe rfl rfl (E.idxN n Try.runUnderlying115 Try.sizeOf119 rfl rfl hs23 (by omega)) (by decide) (fun p37 hp38 => ?_)
      have hp39 := At.Pr_1 hp38
      refine DW.x rfl rfl (X.field Try.runUnderlying119 rfl Try.sizeOf3 rfl) (by decide) ?_
      refine DW.x rfl rfl (X.loadInt Try.isAgg3 rfl hp39) (by decide) ?_
      refine DW.x rfl rfl (X.call Try.call88 rfl (later88 _ ⟨_, _, rfl, hs8, hs10⟩ hot (((gt (prL s t) n).t : Int).toNat) (((gt (prL s t) (n - 1)).t : Int).toNat) _ _ (by omega) (by omega) (by omega) (by omega))) (by decide) ?_
      refine DW.tn rfl rfl rfl (T.alloc Try.zeroValue33 rfl) (by decide) fun b40 => ?_
      refine DW.ts rfl rfl rfl rfl (T.storeBA (k := 0) Try.sizeOf33 rfl rfl rfl (one_cons rfl (one_cons rfl one_nil)) rfl rfl) ?_
      refine DW.nil ?_
      refine WK.nThen ?_
      refine WC.seq ?_
      refine WC.region ?_
      refine WL.x (X.field Try.runUnderlying33 rfl Try.sizeOf3 rfl) (by decide) ?_
      refine WL.x (X.loadB (k := 1) Try.isAgg3 rfl rfl rfl) (by decide) ?_
      refine WL.x (X.field Try.runUnderlying33 rfl Try.sizeOf3 rfl) (by decide) ?_
      refine WL.x (X.loadB (k := 0) Try.isAgg3 rfl rfl rfl) (by decide) ?_
      refine WL.x (X.sub rfl rfl (by omega) (by omega)) (by decide) ?_
      refine WL.x (X.move rfl) (by decide) ?_
      refine WL.cond (X.geq rfl rfl) (by decide) (fun h41 => ?_) (fun h41 => ?_)
      ·refine WL.x (X.move rfl) (by decide) ?_
       refine WL.no rfl rfl rfl (by decide) ?_
       refine WL.no rfl rfl rfl (by decide) ?_
       refine WL.no rfl rfl rfl (by decide) ?_
       refine WL.no rfl rfl rfl (by decide) ?_
       refine WL.no rfl rfl rfl (by decide) ?_
       refine WL.no rfl rfl rfl (by decide) ?_
       refine WL.no rfl rfl rfl (by decide) ?_
       refine WL.no rfl rfl rfl (by decide) ?_
       refine WL.x (X.pickT rfl rfl rfl) (by decide) ?_
       refine WL.nil ?_
       refine WK.nThen ?_
       refine WC.condT rfl ?_
       refine WC.draw (π := (.cons 0 (.cons 1 (.cons 2 (.cons 3 (.cons 4 (.cons 5 (.cons 6 (.cons 7 (.cons 8 (.cons 9 (.cons 10 (.cons 11 (.cons 12 (.cons 13 .done))))))))))))))) [11, 12] [12] rfl (by kernel_rfl) ?_
       refine DW.x rfl rfl (X.move rfl) (by decide) ?_
       refine DW.x rfl rfl (X.field Try.runUnderlying25 rfl Try.sizeOf22 rfl) (by decide) ?_
       refine DW.x rfl rfl (X.loadB (k := 4) Try.isAgg22 rfl rfl rfl) (by decide) ?_
       refine DW.x rfl rfl (X.move rfl) (by decide) ?_
       refine DW.x rfl rfl (X.move rfl) (by decide) ?_
       refine DW.xe rfl rfl (E.idxN n Try.runUnderlying115 Try.sizeOf119 rfl rfl hs23 (by omega)) (by decide) (fun p42 hp43 => ?_)
       have hp44 := At.Pr_0 hp43
       refine DW.x rfl rfl (X.field Try.runUnderlying119 rfl Try.sizeOf3 rfl) (by decide) ?_
       refine DW.x rfl rfl (X.loadInt Try.isAgg3 rfl hp44) (by decide) ?_
       refine DW.xe rfl rfl (E.idx Try.runUnderlying22 Try.sizeOf62 rfl rfl hs2 (by omega) (by omega)) (by decide) (fun p45 hp46 => ?_)
       have hp47 := At.Val_0 hp46
       refine DW.x rfl rfl (X.field Try.runUnderlying62 rfl Try.sizeOf3 rfl) (by decide) ?_
       refine DW.x rfl rfl (X.loadInt Try.isAgg3 rfl hp47) (by decide) ?_
       refine DW.tl rfl rfl rfl (T.lit1 sl28 rfl rfl rfl (by decide)) (by decide) fun b48 => ?_
       refine DW.ta rfl rfl rfl rfl (T.appendF (k := 2) (a := (gt s.Values (((gt (prL s t) n).s : Int).toNat)).Time) sl28 rfl rfl rfl rfl (by first | omega | (simp; done) | (simp; omega)) (by decide)) (by decide) (fun v49 => ?_)
       refine DW.x rfl rfl (X.assign rfl) (by decide) ?_
       refine DW.nil ?_
       refine WK.nBlock ?_
       refine WK.nThen ?_
       refine WC.region ?_
       refine WL.x (X.move rfl) (by decide) ?_
       refine WL.x (X.add rfl rfl (by omega) (by omega)) (by decide) ?_
       refine WL.x (X.assign rfl) (by decide) ?_
       refine WL.nil ?_
       refine WK.nThen ?_
       have he50 : ((brkN s t least n) ++ [(gt s.Values (((gt (prL s t) n).s : Int).toNat)).Time]) = (brkN s t least (n + 1)) := (by rw [brkN]; first | rw [if_pos ⟨by omega, by unfold brkP; omega⟩, hqs1] | rw [if_neg (fun h => by have h2 := h.2; unfold brkP at h2; omega)])
       rw [he50]
       refine WK.next ((n + 1, v49)) rfl (.cons _ (.cons _ (.cons_cons _ (.cons_cons _ (.cons_cons _ .slnil))))) (.cons rfl (.cons rfl (.cons rfl (.cons rfl (.cons rfl (.cons rfl .nil)))))) ?_ ?_
       ·omega
       ·(dsimp only; omega)
      ·refine WL.x (X.move rfl) (by decide) ?_
       refine WL.yes rfl rfl ?_
       refine WL.x (X.field Try.runUnderlying33 rfl Try.sizeOf3 rfl) (by decide) ?_
       refine WL.yes rfl rfl ?_
       refine WL.x (X.loadB (k := 1) Try.isAgg3 rfl rfl rfl) (by decide) ?_
       refine WL.yes rfl rfl ?_
       refine WL.x (X.field Try.runUnderlying33 rfl Try.sizeOf3 rfl) (by decide) ?_
       refine WL.yes rfl rfl ?_
       refine WL.x (X.loadB (k := 0) Try.isAgg3 rfl rfl rfl) (by decide) ?_
       refine WL.yes rfl rfl ?_
       refine WL.x (X.sub rfl rfl (by omega) (by omega)) (by decide) ?_
       refine WL.yes rfl rfl ?_
       refine WL.x (X.move rfl) (by decide) ?_
       refine WL.yes rfl rfl ?_
       refine WL.x (X.sub rfl rfl (by omega) (by omega)) (by decide) ?_
       refine WL.yes rfl rfl ?_
       refine WL.cond (X.leq rfl rfl) (by decide) (fun h51 => ?_) (fun h51 => ?_)
       ·refine WL.x (X.pickF rfl rfl rfl) (by decide) ?_
        refine WL.nil ?_
        refine WK.nThen ?_
        refine WC.condT rfl ?_
        refine WC.draw (π := (.cons 0 (.cons 1 (.cons 2 (.cons 3 (.cons 4 (.cons 5 (.cons 6 (.cons 7 (.cons 8 (.cons 9 (.cons 10 (.cons 11 (.cons 12 (.cons 13 .done))))))))))))))) [11, 12] [12] rfl (by kernel_rfl) ?_
        refine DW.x rfl rfl (X.move rfl) (by decide) ?_
        refine DW.x rfl rfl (X.field Try.runUnderlying25 rfl Try.sizeOf22 rfl) (by decide) ?_
        refine DW.x rfl rfl (X.loadB (k := 4) Try.isAgg22 rfl rfl rfl) (by decide) ?_
        refine DW.x rfl rfl (X.move rfl) (by decide) ?_
        refine DW.x rfl rfl (X.move rfl) (by decide) ?_
        refine DW.xe rfl rfl (E.idxN n Try.runUnderlying115 Try.sizeOf119 rfl rfl hs23 (by omega)) (by decide) (fun p52 hp53 => ?_)
        have hp54 := At.Pr_0 hp53
        refine DW.x rfl rfl (X.field Try.runUnderlying119 rfl Try.sizeOf3 rfl) (by decide) ?_
        refine DW.x rfl rfl (X.loadInt Try.isAgg3 rfl hp54) (by decide) ?_
        refine DW.xe rfl rfl (E.idx Try.runUnderlying22 Try.sizeOf62 rfl rfl hs2 (by omega) (by omega)) (by decide) (fun p55 hp56 => ?_)
        have hp57 := At.Val_0 hp56
        refine DW.x rfl rfl (X.field Try.runUnderlying62 rfl Try.sizeOf3 rfl) (by decide) ?_
        refine DW.x rfl rfl (X.loadInt Try.isAgg3 rfl hp57) (by decide) ?_
        refine DW.tl rfl rfl rfl (T.lit1 sl28 rfl rfl rfl (by decide)) (by decide) fun b58 => ?_
        refine DW.ta rfl rfl rfl rfl (T.appendF (k := 2) (a := (gt s.Values (((gt (prL s t) n).s : Int).toNat)).Time) sl28 rfl rfl rfl rfl (by first | omega | (simp; done) | (simp; omega)) (by decide)) (by decide) (fun v59 => ?_)
        refine DW.x rfl rfl (X.assign rfl) (by decide) ?_
        refine DW.nil ?_
        refine WK.nBlock ?_
        refine WK.nThen ?_
        refine WC.region ?_
        refine WL.x (X.move rfl) (by decide) ?_
        refine WL.x (X.add rfl rfl (by omega) (by omega)) (by decide) ?_
        refine WL.x (X.assign rfl) (by decide) ?_
        refine WL.nil ?_
        refine WK.nThen ?_
        have he60 : ((brkN s t least n) ++ [(gt s.Values (((gt (prL s t) n).s : Int).toNat)).Time]) = (brkN s t least (n + 1)) := (by rw [brkN]; first | rw [if_pos ⟨by omega, by unfold brkP; omega⟩, hqs1] | rw [if_neg (fun h => by have h2 := h.2; unfold brkP at h2; omega)])
        rw [he60]
        refine WK.next ((n + 1, v59)) rfl (.cons _ (.cons _ (.cons_cons _ (.cons_cons _ (.cons_cons _ .slnil))))) (.cons rfl (.cons rfl (.cons rfl (.cons rfl (.cons rfl (.cons rfl .nil)))))) ?_ ?_
        ·omega
        ·(dsimp only; omega)
       ·refine WL.x (X.pickF rfl rfl rfl) (by decide) ?_
        refine WL.nil ?_
        refine WK.nThen ?_
        refine WC.condF rfl ?_
        refine WC.skip ?_
        refine WK.nBlock ?_
        refine WK.nThen ?_
        refine WC.region ?_
        refine WL.x (X.move rfl) (by decide) ?_
        refine WL.x (X.add rfl rfl (by omega) (by omega)) (by decide) ?_
        refine WL.x (X.assign rfl) (by decide) ?_
        refine WL.nil ?_
        refine WK.nThen ?_
        have he61 : (brkN s t least n) = (brkN s t least (n + 1)) := (by rw [brkN]; first | rw [if_pos ⟨by omega, by unfold brkP; omega⟩, hqs1] | rw [if_neg (fun h => by have h2 := h.2; unfold brkP at h2; omega)])
        rw [he61]
        refine WK.next ((n + 1, vo)) rfl (.cons _ (.cons _ (.cons_cons _ (.cons_cons _ (.cons_cons _ .slnil))))) (.cons rfl (.cons rfl (.cons rfl (.cons rfl (.cons rfl (.cons rfl .nil)))))) ?_ ?_
        ·omega
        ·(dsimp only; omega)
     ·refine WL.nil ?_
      refine WK.nThen ?_
      refine WC.condF rfl ?_
      refine WC.exit ?_
      refine WK.eThen ?_
      refine WK.eThen ?_
      refine WK.eHit ?_
      refine WK.nThen ?_
      refine WC.seq ?_
      refine WC.region ?_
      refine WL.x (X.move rfl) (by decide) ?_
      refine WL.x (X.assign rfl) (by decide) ?_
      refine WL.x (X.assign rfl) (by decide) ?_
      refine WL.nil ?_
      refine WK.nThen ?_
      refine WC.ret ?_
      refine WK.freezeF 0 rfl rfl (by simp [lenB]; omega) (fun m62 hle63 hs64 => ?_)
      replace hs2 := hs2.mono hle63
      replace hs4 := hs4.mono hle63
      replace hs8 := hs8.mono hle63
      replace hs10 := hs10.mono hle63
      replace hs23 := hs23.mono hle63
      refine WK.ret2 rfl rfl rfl (fun w' hw' => Ret.mem hw' ?_)
      first | exact ⟨_, tup2 rfl (int_eq (by unfold brkR; rw [if_neg (by omega), if_neg (by omega)])), by unfold brkR; rw [if_neg (by omega), if_neg (by omega)]; exact (brk_end hn (by omega) ▸ hs64)⟩
  ·refine WL.yes rfl rfl ?_
   refine WL.x (X.not rfl) (by decide) ?_
   refine WL.x (X.pickT rfl rfl rfl) (by decide) ?_
   refine WL.nil ?_
   refine WK.nThen ?_
   refine WC.condT rfl ?_
   refine WC.seq ?_
   refine WC.region ?_
   refine WL.x (X.assign rfl) (by decide) ?_
   refine WL.x (X.assign rfl) (by decide) ?_
   refine WL.nil ?_
   refine WK.nThen ?_
   refine WC.ret ?_
   refine WK.rThen ?_
   refine WK.ret2 rfl rfl rfl (fun w' hw' => Ret.mem hw' ?_)
   first | exact ⟨_, tup2 rfl (int_eq (by unfold brkR; rw [if_pos (by omega)])), by unfold brkR; rw [if_pos (by omega)]; exact .nil⟩ | exact ⟨_, tup2 rfl (int_eq (by unfold brkR; rw [if_neg (by omega), if_pos (by omega)])), by unfold brkR; rw [if_neg (by omega), if_pos (by omega)]; exact .nil⟩
 ·refine WL.x (X.move rfl) (by decide) ?_
  refine WL.no rfl rfl rfl (by decide) ?_
  refine WL.no rfl rfl rfl (by decide) ?_
  refine WL.no rfl rfl rfl (by decide) ?_
  refine WL.x (X.pickF rfl rfl rfl) (by decide) ?_
  refine WL.nil ?_
  refine WK.nThen ?_
  refine WC.condF rfl ?_
  refine WC.skip ?_
  refine WK.nThen ?_
  refine WC.seq ?_
  refine WC.seq ?_
  refine WC.region ?_
  refine WL.x (X.move rfl) (by decide) ?_
  refine WL.condn (X.neq rfl rfl) (by decide) (fun h65 => ?_) (fun h65 => ?_)
  ·refine WL.nil ?_
   refine WK.nThen ?_
   refine WC.condT rfl ?_
   refine WC.seq ?_
   refine WC.region ?_
   refine WL.x (X.move rfl) (by decide) ?_
   refine WL.x (X.assign rfl) (by decide) ?_
   refine WL.x (X.assign rfl) (by decide) ?_
   refine WL.nil ?_
   refine WK.nThen ?_
   refine WC.ret ?_
   refine WK.rThen ?_
   refine WK.ret2 rfl rfl rfl (fun w' hw' => Ret.mem hw' ?_)
   first | exact ⟨_, tup2 rfl (int_eq (by unfold brkR; rw [if_pos (by omega)])), by unfold brkR; rw [if_pos (by omega)]; exact .nil⟩ | exact ⟨_, tup2 rfl (int_eq (by unfold brkR; rw [if_neg (by omega), if_pos (by omega)])), by unfold brkR; rw [if_neg (by omega), if_pos (by omega)]; exact .nil⟩
  ·refine WL.nil ?_
   refine WK.nThen ?_
   refine WC.condF rfl ?_
   refine WC.skip ?_
   refine WK.nThen ?_
   refine WC.seq ?_
   have h2z := twoE_zero (s := s) (t := t) (by omega)
   have hos := Ok.of h2z.1
   have hot := Ok.of h2z.2
   have hnV := hos.nV
   have hcl := comL_len s t
   have hpl := prL_len s t
   refine WC.region ?_
   refine WL.x (X.loadBA (k := 1) Try.isAgg25 Try.sizeOf25 rfl rfl rfl) (by decide) ?_
   refine WL.x (X.loadBA (k := 0) Try.isAgg25 Try.sizeOf25 rfl rfl rfl) (by decide) ?_
   refine WL.tm (T.call Try.call87 rfl (common87 _ _ s ⟨_, _, rfl, hs2, hs4⟩ _ t ⟨_, _, rfl, hs8, hs10⟩ (by assumption) (by assumption))) (by decide) fun m66 r67 hle68 hR69 => ?_
   obtain ⟨v70, hv_, hs71⟩ := hR69
   rw [← hv_] at hs71
   clear hv_ v70
   replace hs2 := hs2.mono hle68
   replace hs4 := hs4.mono hle68
   replace hs8 := hs8.mono hle68
   replace hs10 := hs10.mono hle68
   have hl72 := hs71.le
   refine WL.x (X.assign rfl) (by decide) ?_
   refine WL.nil ?_
   refine WK.nThen ?_
   refine WC.seq ?_
   refine WK.ownF Int 3 ?_
   refine WC.region ?_
   refine WL.x (X.assign rfl) (by decide) ?_
   refine WL.nil ?_
   refine WK.nThen ?_
   refine WC.seq ?_
   refine WC.seq ?_
   refine WC.region ?_
   refine WL.x (X.assign rfl) (by decide) ?_
   refine WL.nil ?_
   refine WK.nThen ?_
   refine WC.block ?_
   refine WC.loop (G := Nat × Value) (fun (n, vo) => (comL s t).length + 1 - n) (fun (n, vo) => m66) (fun (n, vo) => [rowF (vo) 3 (brkN s t least n), blk b14 25 [v7, v9], blk b13 25 [v1, v3]]) (fun (n, vo) => [(2, .int .i64 (least)), (3, .pointer (some ⟨b13, 0, none⟩)), (4, .pointer (some ⟨b14, 0, none⟩)), (9, r67), (10, vo), (11, .int .i64 (↑n))]) (fun (n, vo) => 1 ≤ n ∧ (n ≤ (comL s t).length ∨ n = 1)) ((1, Value.slice none 0 0)) rfl (.refl _) (.cons rfl (.cons rfl (.cons rfl (.cons rfl (.cons rfl (.cons rfl .nil)))))) ?_ ?_
   ·exact ⟨Nat.le_refl _, .inr rfl⟩
   ·rintro ⟨n, vo⟩ hF73
    show WK _ _ m66 [rowF (vo) 3 (brkN s t least n), blk b14 25 [v7, v9], blk b13 25 [v1, v3]] [(2, .int .i64 (least)), (3, .pointer (some ⟨b13, 0, none⟩)), (4, .pointer (some ⟨b14, 0, none⟩)), (9, r67), (10, vo), (11, .int .i64 (↑n))] _
    replace hF73 : 1 ≤ n ∧ (n ≤ (comL s t).length ∨ n = 1) := hF73
    have hn := hF73
    have hbl := brkN_len s t least n
    refine WC.seq ?_
    refine WC.seq ?_
    refine WC.region ?_
    refine WL.x (X.move rfl) (by decide) ?_
    refine WL.x (X.move rfl) (by decide) ?_
    refine WL.x (X.len Try.runUnderlying115 rfl hs71) (by decide) ?_
    refine WL.cond (X.lss rfl rfl) (by decide) (fun h74 => ?_) (fun h74 => ?_)
    ·refine WL.nil ?_
     refine WK.nThen ?_
     refine WC.condT rfl ?_
     refine WC.skip ?_
     refine WK.nThen ?_
     refine WC.seq ?_
     refine WC.block ?_
     refine WC.seq ?_
     have hc1 := com_bd (s := s) (t := t) (n := n) (by omega)
     have hc2 := com_bd (s := s) (t := t) (n := n - 1) (by omega)
     have hg1 := gap_bd hos (gt (comL s t) n).a.toNat (gt (comL s t) (n - 1)).a.toNat
     have hg2 := gap_bd hot (gt (comL s t) n).b.toNat (gt (comL s t) (n - 1)).b.toNat
     have hp1_ := prL_at (s := s) (t := t) (i := n) (by omega)
     have hp2_ := prL_at (s := s) (t := t) (i := n - 1) (by omega)
     have hqs1 : (gt (prL s t) n).s = (gt (comL s t) n).a := congrArg Pr.s hp1_
     have hqt1 : (gt (prL s t) n).t = (gt (comL s t) n).b := congrArg Pr.t hp1_
     have hqs2 : (gt (prL s t) (n - 1)).s = (gt (comL s t) (n - 1)).a := congrArg Pr.s hp2_
     have hqt2 : (gt (prL s t) (n - 1)).t = (gt (comL s t) (n - 1)).b := congrArg Pr.t hp2_
     have hgs : gap s (gt (prL s t) n).s.toNat (gt (prL s t) (n - 1)).s.toNat = gap s (gt (comL s t) n).a.toNat (gt (comL s t) (n - 1)).a.toNat := (by rw [hqs1, hqs2])
     have hgt : gap t (gt (prL s t) n).t.toNat (gt (prL s t) (n - 1)).t.toNat = gap t (gt (comL s t) n).b.toNat (gt (comL s t) (n - 1)).b.toNat := (by rw [hqt1, hqt2])
     have hgsl := congrArg Span.Lo hgs
     have hgsh := congrArg Span.Hi hgs
     have hgtl := congrArg Span.Lo hgt
     have hgth := congrArg Span.Hi hgt
     refine WC.draw (π := (.cons 0 (.cons 1 (.cons 2 (.cons 3 (.cons 4 (.cons 5 (.cons 6 (.cons 7 (.cons 8 (.cons 9 (.cons 10 (.cons 11 (.cons 12 (.cons 13 (.cons 14 .done)))))))))))))))) [13, 14] [14] rfl (by kernel_rfl) ?_
     refine DW.x rfl rfl (X.loadBA (k := 2) Try.isAgg25 Try.sizeOf25 rfl rfl rfl) (by decide) ?_
     refine DW.x rfl rfl (X.move rfl) (by decide) ?_
     refine DW.x rfl rfl (X.move rfl) (by decide) ?_
     refine DW.x rfl rfl (X.sub rfl rfl (by omega) (by omega)) (by decide) ?_
     refine DW.xe rfl rfl (E.idxE (n - 1) Try.runUnderlying115 Try.sizeOf119 rfl rfl hs71 (by omega) (by omega)) (by decide) (fun p75 hp76 => ?_)
     have hp77 := At.Pr_0 hp76
     refine DW.x rfl rfl (X.field Try.runUnderlying119 rfl Try.sizeOf3 rfl) (by decide) ?_
     refine DW.x rfl rfl (X.loadInt Try.isAgg3 rfl hp77) (by decide) ?_
     refine DW.x rfl rfl (X.move rfl) (by decide) ?_
     refine DW.x rfl rfl (X.move rfl) (by decide) ?_
     refine DW.xe rfl rfl (E.idxN n Try.runUnderlying115 Try.sizeOf119 rfl rfl hs71 (by omega)) (by decide) (fun p78 hp79 => ?_)
     have hp80 := At.Pr_0 hp79
     refine DW.x rfl rfl (X.field Try.runUnderlying119 rfl Try.sizeOf3 rfl) (by decide) ?_
     refine DW.x rfl rfl (X.loadInt Try.isAgg3 rfl hp80) (by decide) ?_
     refine DW.x rfl rfl (X.call Try.call88 rfl (later88 _ ⟨_, _, rfl, hs2, hs4⟩ hos (((gt (prL s t) n).s : Int).toNat) (((gt (prL s t) (n - 1)).s : Int).toNat) _ _ (by omega) (by omega) (by omega) (by omega))) (by decide) ?_
     refine DW.tn rfl rfl rfl (T.alloc Try.zeroValue33 rfl) (by decide) fun b81 => ?_
     refine DW.ts rfl rfl rfl rfl (T.storeBA (k := 0) Try.sizeOf33 rfl rfl rfl (one_cons rfl (one_cons rfl one_nil)) rfl rfl) ?_
     refine DW.nil ?_
     refine WK.nThen ?_
     refine WC.seq ?_
     refine WC.draw (π := (.cons 0 (.cons 1 (.cons 2 (.cons 3 (.cons 4 (.cons 5 (.cons 6 (.cons 7 (.cons 8 (.cons 9 (.cons 10 (.cons 11 (.cons 12 (.cons 13 (.cons 14 .done)))))))))))))))) [13, 14] [14] rfl (by kernel_rfl) ?_
     refine DW.x rfl rfl (X.loadBA (k := 2) Try.isAgg25 Try.sizeOf25 rfl rfl rfl) (by decide) ?_
     refine DW.x rfl rfl (X.move rfl) (by decide) ?_
     refine DW.x rfl rfl (X.move rfl) (by decide) ?_
     refine DW.x rfl rfl (X.sub rfl rfl (by omega) (by omega)) (by decide) ?_
     refine DW.xe rfl rfl (E.idxE (n - 1) Try.runUnderlying115 Try.sizeOf119 rfl rfl hs71 (by omega) (by omega)) (by decide) (fun p82 hp83 => ?_)
     have hp84 := At.Pr_1 hp83
     refine DW.x rfl rfl (X.field Try.runUnderlying119 rfl Try.sizeOf3 rfl) (by decide) ?_
     refine DW.x rfl rfl (X.loadInt Try.isAgg3 rfl hp84) (by decide) ?_
     refine DW.x rfl rfl (X.move rfl) (by decide) ?_
     refine DW.x rfl rfl (X.move rfl) (by decide) ?_
     refine DW.xe rfl rfl (E.idxN n Try.runUnderlying115 Try.sizeOf119 rfl rfl hs71 (by omega)) (by decide) (fun p85 hp86 => ?_)
     have hp87 := At.Pr_1 hp86
     refine DW.x rfl rfl (X.field Try.runUnderlying119 rfl Try.sizeOf3 rfl) (by decide) ?_
     refine DW.x rfl rfl (X.loadInt Try.isAgg3 rfl hp87) (by decide) ?_
     refine DW.x rfl rfl (X.call Try.call88 rfl (later88 _ ⟨_, _, rfl, hs8, hs10⟩ hot (((gt (prL s t) n).t : Int).toNat) (((gt (prL s t) (n - 1)).t : Int).toNat) _ _ (by omega) (by omega) (by omega) (by omega))) (by decide) ?_
     refine DW.tn rfl rfl rfl (T.alloc Try.zeroValue33 rfl) (by decide) fun b88 => ?_
     refine DW.ts rfl rfl rfl rfl (T.storeBA (k := 0) Try.sizeOf33 rfl rfl rfl (one_cons rfl (one_cons rfl one_nil)) rfl rfl) ?_
     refine DW.nil ?_
     refine WK.nThen ?_
     refine WC.seq ?_
     refine WC.region ?_
     refine WL.x (X.field Try.runUnderlying33 rfl Try.sizeOf3 rfl) (by decide) ?_
     refine WL.x (X.loadB (k := 1) Try.isAgg3 rfl rfl rfl) (by decide) ?_
     refine WL.x (X.field Try.runUnderlying33 rfl Try.sizeOf3 rfl) (by decide) ?_
     refine WL.x (X.loadB (k := 0) Try.isAgg3 rfl rfl rfl) (by decide) ?_
     refine WL.x (X.sub rfl rfl (by omega) (by omega)) (by decide) ?_
     refine WL.x (X.move rfl) (by decide) ?_
     refine WL.cond (X.geq rfl rfl) (by decide) (fun h89 => ?_) (fun h89 => ?_)
     ·refine WL.x (X.move rfl) (by decide) ?_
      refine WL.no rfl rfl rfl (by decide) ?_
      refine WL.no rfl rfl rfl (by decide) ?_
      refine WL.no rfl rfl rfl (by decide) ?_
      refine WL.no rfl rfl rfl (by decide) ?_
      refine WL.no rfl rfl rfl (by decide) ?_
      refine WL.no rfl rfl rfl (by decide) ?_
      refine WL.no rfl rfl rfl (by decide) ?_
      refine WL.no rfl rfl rfl (by decide) ?_
      refine WL.x (X.pickT rfl rfl rfl) (by decide) ?_
      refine WL.nil ?_
      refine WK.nThen ?_
      refine WC.condT rfl ?_
      refine WC.draw (π := (.cons 0 (.cons 1 (.cons 2 (.cons 3 (.cons 4 (.cons 5 (.cons 6 (.cons 7 (.cons 8 (.cons 9 (.cons 10 (.cons 11 (.cons 12 (.cons 13 .done))))))))))))))) [11, 12] [12] rfl (by kernel_rfl) ?_
      refine DW.x rfl rfl (X.move rfl) (by decide) ?_
      refine DW.x rfl rfl (X.field Try.runUnderlying25 rfl Try.sizeOf22 rfl) (by decide) ?_
      refine DW.x rfl rfl (X.loadB (k := 4) Try.isAgg22 rfl rfl rfl) (by decide) ?_
      refine DW.x rfl rfl (X.move rfl) (by decide) ?_
      refine DW.x rfl rfl (X.move rfl) (by decide) ?_
      refine DW.xe rfl rfl (E.idxN n Try.runUnderlying115 Try.sizeOf119 rfl rfl hs71 (by omega)) (by decide) (fun p90 hp91 => ?_)
      have hp92 := At.Pr_0 hp91
      refine DW.x rfl rfl (X.field Try.runUnderlying119 rfl Try.sizeOf3 rfl) (by decide) ?_
      refine DW.x rfl rfl (X.loadInt Try.isAgg3 rfl hp92) (by decide) ?_
      refine DW.xe rfl rfl (E.idx Try.runUnderlying22 Try.sizeOf62 rfl rfl hs2 (by omega) (by omega)) (by decide) (fun p93 hp94 => ?_)
      have hp95 := At.Val_0 hp94
      refine DW.x rfl rfl (X.field Try.runUnderlying62 rfl Try.sizeOf3 rfl) (by decide) ?_
      refine DW.x rfl rfl (X.loadInt Try.isAgg3 rfl hp95) (by decide) ?_
      refine DW.tl rfl rfl rfl (T.lit1 sl28 rfl rfl rfl (by decide)) (by decide) fun b96 => ?_
      refine DW.ta rfl rfl rfl rfl (T.appendF (k := 2) (a := (gt s.Values (((gt (prL s t) n).s : Int).toNat)).Time) sl28 rfl rfl rfl rfl (by first | omega | (simp; done) | (simp; omega)) (by decide)) (by decide) (fun v97 => ?_)
      refine DW.x rfl rfl (X.assign rfl) (by decide) ?_
      refine DW.nil ?_
      refine WK.nBlock ?_
      refine WK.nThen ?_
      refine WC.region ?_
      refine WL.x (X.move rfl) (by decide) ?_
      refine WL.x (X.add rfl rfl (by omega) (by omega)) (by decide) ?_
      refine WL.x (X.assign rfl) (by decide) ?_
      refine WL.nil ?_
      refine WK.nThen ?_
      have he98 : ((brkN s t least n) ++ [(gt s.Values (((gt (prL s t) n).s : Int).toNat)).Time]) = (brkN s t least (n + 1)) := (by rw [brkN]; first | rw [if_pos ⟨by omega, by unfold brkP; omega⟩, hqs1] | rw [if_neg (fun h => by have h2 := h.2; unfold brkP at h2; omega)])
      rw [he98]
      refine WK.next ((n + 1, v97)) rfl (.cons _ (.cons _ (.cons_cons _ (.cons_cons _ (.cons_cons _ .slnil))))) (.cons rfl (.cons rfl (.cons rfl (.cons rfl (.cons rfl (.cons rfl .nil)))))) ?_ ?_
      ·omega
      ·(dsimp only; omega)
     ·refine WL.x (X.move rfl) (by decide) ?_
      refine WL.yes rfl rfl ?_
      refine WL.x (X.field Try.runUnderlying33 rfl Try.sizeOf3 rfl) (by decide) ?_
      refine WL.yes rfl rfl ?_
      refine WL.x (X.loadB (k := 1) Try.isAgg3 rfl rfl rfl) (by decide) ?_
      refine WL.yes rfl rfl ?_
      refine WL.x (X.field Try.runUnderlying33 rfl Try.sizeOf3 rfl) (by decide) ?_
      refine WL.yes rfl rfl ?_
      refine WL.x (X.loadB (k := 0) Try.isAgg3 rfl rfl rfl) (by decide) ?_
      refine WL.yes rfl rfl ?_
      refine WL.x (X.sub rfl rfl (by omega) (by omega)) (by decide) ?_
      refine WL.yes rfl rfl ?_
      refine WL.x (X.move rfl) (by decide) ?_
      refine WL.yes rfl rfl ?_
      refine WL.x (X.sub rfl rfl (by omega) (by omega)) (by decide) ?_
      refine WL.yes rfl rfl ?_
      refine WL.cond (X.leq rfl rfl) (by decide) (fun h99 => ?_) (fun h99 => ?_)
      ·refine WL.x (X.pickF rfl rfl rfl) (by decide) ?_
       refine WL.nil ?_
       refine WK.nThen ?_
       refine WC.condT rfl ?_
       refine WC.draw (π := (.cons 0 (.cons 1 (.cons 2 (.cons 3 (.cons 4 (.cons 5 (.cons 6 (.cons 7 (.cons 8 (.cons 9 (.cons 10 (.cons 11 (.cons 12 (.cons 13 .done))))))))))))))) [11, 12] [12] rfl (by kernel_rfl) ?_
       refine DW.x rfl rfl (X.move rfl) (by decide) ?_
       refine DW.x rfl rfl (X.field Try.runUnderlying25 rfl Try.sizeOf22 rfl) (by decide) ?_
       refine DW.x rfl rfl (X.loadB (k := 4) Try.isAgg22 rfl rfl rfl) (by decide) ?_
       refine DW.x rfl rfl (X.move rfl) (by decide) ?_
       refine DW.x rfl rfl (X.move rfl) (by decide) ?_
       refine DW.xe rfl rfl (E.idxN n Try.runUnderlying115 Try.sizeOf119 rfl rfl hs71 (by omega)) (by decide) (fun p100 hp101 => ?_)
       have hp102 := At.Pr_0 hp101
       refine DW.x rfl rfl (X.field Try.runUnderlying119 rfl Try.sizeOf3 rfl) (by decide) ?_
       refine DW.x rfl rfl (X.loadInt Try.isAgg3 rfl hp102) (by decide) ?_
       refine DW.xe rfl rfl (E.idx Try.runUnderlying22 Try.sizeOf62 rfl rfl hs2 (by omega) (by omega)) (by decide) (fun p103 hp104 => ?_)
       have hp105 := At.Val_0 hp104
       refine DW.x rfl rfl (X.field Try.runUnderlying62 rfl Try.sizeOf3 rfl) (by decide) ?_
       refine DW.x rfl rfl (X.loadInt Try.isAgg3 rfl hp105) (by decide) ?_
       refine DW.tl rfl rfl rfl (T.lit1 sl28 rfl rfl rfl (by decide)) (by decide) fun b106 => ?_
       refine DW.ta rfl rfl rfl rfl (T.appendF (k := 2) (a := (gt s.Values (((gt (prL s t) n).s : Int).toNat)).Time) sl28 rfl rfl rfl rfl (by first | omega | (simp; done) | (simp; omega)) (by decide)) (by decide) (fun v107 => ?_)
       refine DW.x rfl rfl (X.assign rfl) (by decide) ?_
       refine DW.nil ?_
       refine WK.nBlock ?_
       refine WK.nThen ?_
       refine WC.region ?_
       refine WL.x (X.move rfl) (by decide) ?_
       refine WL.x (X.add rfl rfl (by omega) (by omega)) (by decide) ?_
       refine WL.x (X.assign rfl) (by decide) ?_
       refine WL.nil ?_
       refine WK.nThen ?_
       have he108 : ((brkN s t least n) ++ [(gt s.Values (((gt (prL s t) n).s : Int).toNat)).Time]) = (brkN s t least (n + 1)) := (by rw [brkN]; first | rw [if_pos ⟨by omega, by unfold brkP; omega⟩, hqs1] | rw [if_neg (fun h => by have h2 := h.2; unfold brkP at h2; omega)])
       rw [he108]
       refine WK.next ((n + 1, v107)) rfl (.cons _ (.cons _ (.cons_cons _ (.cons_cons _ (.cons_cons _ .slnil))))) (.cons rfl (.cons rfl (.cons rfl (.cons rfl (.cons rfl (.cons rfl .nil)))))) ?_ ?_
       ·omega
       ·(dsimp only; omega)
      ·refine WL.x (X.pickF rfl rfl rfl) (by decide) ?_
       refine WL.nil ?_
       refine WK.nThen ?_
       refine WC.condF rfl ?_
       refine WC.skip ?_
       refine WK.nBlock ?_
       refine WK.nThen ?_
       refine WC.region ?_
       refine WL.x (X.move rfl) (by decide) ?_
       refine WL.x (X.add rfl rfl (by omega) (by omega)) (by decide) ?_
       refine WL.x (X.assign rfl) (by decide) ?_
       refine WL.nil ?_
       refine WK.nThen ?_
       have he109 : (brkN s t least n) = (brkN s t least (n + 1)) := (by rw [brkN]; first | rw [if_pos ⟨by omega, by unfold brkP; omega⟩, hqs1] | rw [if_neg (fun h => by have h2 := h.2; unfold brkP at h2; omega)])
       rw [he109]
       refine WK.next ((n + 1, vo)) rfl (.cons _ (.cons _ (.cons_cons _ (.cons_cons _ (.cons_cons _ .slnil))))) (.cons rfl (.cons rfl (.cons rfl (.cons rfl (.cons rfl (.cons rfl .nil)))))) ?_ ?_
       ·omega
       ·(dsimp only; omega)
    ·refine WL.nil ?_
     refine WK.nThen ?_
     refine WC.condF rfl ?_
     refine WC.exit ?_
     refine WK.eThen ?_
     refine WK.eThen ?_
     refine WK.eHit ?_
     refine WK.nThen ?_
     refine WC.seq ?_
     refine WC.region ?_
     refine WL.x (X.move rfl) (by decide) ?_
     refine WL.x (X.assign rfl) (by decide) ?_
     refine WL.x (X.assign rfl) (by decide) ?_
     refine WL.nil ?_
     refine WK.nThen ?_
     refine WC.ret ?_
     refine WK.freezeF 0 rfl rfl (by simp [lenB]; omega) (fun m110 hle111 hs112 => ?_)
     replace hs2 := hs2.mono hle111
     replace hs4 := hs4.mono hle111
     replace hs8 := hs8.mono hle111
     replace hs10 := hs10.mono hle111
     replace hs71 := hs71.mono hle111
     refine WK.ret2 rfl rfl rfl (fun w' hw' => Ret.mem hw' ?_)
     first | exact ⟨_, tup2 rfl (int_eq (by unfold brkR; rw [if_neg (by omega), if_neg (by omega)])), by unfold brkR; rw [if_neg (by omega), if_neg (by omega)]; exact (brk_end hn (by omega) ▸ hs112)⟩

end Go.Proofs.C8
