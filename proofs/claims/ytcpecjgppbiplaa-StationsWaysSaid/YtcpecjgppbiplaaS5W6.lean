/- Stations: walks, by program: the reference, and Keeps. -/
import Derived.Test.YtcpecjgppbiplaaS5W5
namespace Go.Proofs.S5
open Go Go.Kx

theorem asked72 (m : Mem) (cw : List Value) (w : Wind) (hw : Enc.rd m cw w) (vl : Value) (l : List Station) (hl : Sl m vl l) (week : Int) (vlist : Value) (list : List Int) (hlist : Sl m vlist list)   : Exact Try.prog 72 #[.agg cw.toArray, vl, .int .i64 (week), vlist] m (.int .i64 (levelsE w l week list)) := by
  obtain rfl := hw
  have ll := hl.le
  have llist := hlist.le
  refine Exact.start Try.func72 rfl Try.ntmps72 rfl fun wld => ?_
  refine WC.seq ?_
  refine WC.region ?_
  refine WL.tn (T.boxB rfl rfl) (by decide) fun b1 => ?_
  refine WL.x (X.assign rfl) (by decide) ?_
  refine WL.nil ?_
  refine WK.nThen ?_
  refine WC.seq ?_
  refine WC.region ?_
  refine WL.x (X.loadBA (k := 0) Try.isAgg23 Try.sizeOf23 rfl rfl rfl) (by decide) ?_
  refine WL.x (X.move rfl) (by decide) ?_
  refine WL.x (X.call Try.call63 rfl (winded63 _ _ w rfl _ _ hl )) (by decide) ?_
  refine WL.x (X.assign rfl) (by decide) ?_
  refine WL.nil ?_
  refine WK.nThen ?_
  refine WC.seq ?_
  refine WC.seq ?_
  refine WC.region ?_
  refine WL.x (X.move rfl) (by decide) ?_
  refine WL.condn (X.neq rfl rfl) (by decide) (fun h2 => ?_) (fun h2 => ?_)
  · refine WL.nil ?_
    refine WK.nThen ?_
    refine WC.condT rfl ?_
    refine WC.seq ?_
    refine WC.region ?_
    refine WL.x (X.move rfl) (by decide) ?_
    refine WL.x (X.assign rfl) (by decide) ?_
    refine WL.nil ?_
    refine WK.nThen ?_
    refine WC.ret ?_
    refine WK.rThen ?_
    refine WK.ret1 rfl rfl (fun w' hw' => Ret.exact hw' ?_)
    first | exact int_eq (levelsE_err (by assumption)).symm | exact int_eq (levelsE_arg (by omega) (by omega)).symm | exact int_eq (levelsE_bad (i := k) (by omega) (by omega) (by unfold lvOk; omega)).symm | exact int_eq (levelsE_ok (by omega) (by omega) (by omega) (fun j hj => hall j (by omega))).symm
  · refine WL.nil ?_
    refine WK.nThen ?_
    refine WC.condF rfl ?_
    refine WC.skip ?_
    refine WK.nThen ?_
    refine WC.seq ?_
    refine WC.seq ?_
    refine WC.region ?_
    refine WL.x (X.move rfl) (by decide) ?_
    refine WL.cond (X.call Try.call67 rfl (within67 _ _ _ _ )) (by decide) (fun h3 => ?_) (fun h3 => ?_)
    · refine WL.x (X.not rfl) (by decide) ?_
      refine WL.x (X.move rfl) (by decide) ?_
      refine WL.yes rfl rfl ?_
      refine WL.x (X.move rfl) (by decide) ?_
      refine WL.yes rfl rfl ?_
      refine WL.x (X.len Try.runUnderlying31 rfl hlist) (by decide) ?_
      refine WL.yes rfl rfl ?_
      refine WL.x (X.move rfl) (by decide) ?_
      refine WL.yes rfl rfl ?_
      refine WL.x (X.len Try.runUnderlying24 rfl hl) (by decide) ?_
      refine WL.yes rfl rfl ?_
      refine WL.condn (X.neq rfl rfl) (by decide) (fun h4 => ?_) (fun h4 => ?_)
      · refine WL.x (X.pickF rfl rfl rfl) (by decide) ?_
        refine WL.nil ?_
        refine WK.nThen ?_
        refine WC.condT rfl ?_
        refine WC.seq ?_
        refine WC.region ?_
        refine WL.x (X.assign rfl) (by decide) ?_
        refine WL.nil ?_
        refine WK.nThen ?_
        refine WC.ret ?_
        refine WK.rThen ?_
        refine WK.ret1 rfl rfl (fun w' hw' => Ret.exact hw' ?_)
        first | exact int_eq (levelsE_err (by assumption)).symm | exact int_eq (levelsE_arg (by omega) (by omega)).symm | exact int_eq (levelsE_bad (i := k) (by omega) (by omega) (by unfold lvOk; omega)).symm | exact int_eq (levelsE_ok (by omega) (by omega) (by omega) (fun j hj => hall j (by omega))).symm
      · refine WL.x (X.pickF rfl rfl rfl) (by decide) ?_
        refine WL.nil ?_
        refine WK.nThen ?_
        refine WC.condF rfl ?_
        refine WC.skip ?_
        refine WK.nThen ?_
        refine WC.seq ?_
        refine WC.seq ?_
        refine WC.region ?_
        refine WL.x (X.assign rfl) (by decide) ?_
        refine WL.nil ?_
        refine WK.nThen ?_
        refine WC.block ?_
        refine WC.loop (G := Nat) (fun k => list.length - k) (fun k => m) (fun k => [blk b1 23 [.int .i64 (w.Fixed), .int .i64 (w.Each)]]) (fun k => [(3, vlist), (10, .int .i64 (↑k))]) (fun k => k ≤ list.length ∧ (∀ j, j < k → lvOk list j)) 0 rfl (.refl _) (.cons rfl (.cons rfl .nil)) ?_ ?_
        · exact ⟨Nat.zero_le _, fun j hj => absurd hj (Nat.not_lt_zero _)⟩
        · rintro k hF5
          show WK _ _ m [blk b1 23 [.int .i64 (w.Fixed), .int .i64 (w.Each)]] [(3, vlist), (10, .int .i64 (↑k))] _
          replace hF5 : k ≤ list.length ∧ (∀ j, j < k → lvOk list j) := hF5
          obtain ⟨hk, hall⟩ := hF5
          refine WC.seq ?_
          refine WC.seq ?_
          refine WC.region ?_
          refine WL.x (X.move rfl) (by decide) ?_
          refine WL.x (X.move rfl) (by decide) ?_
          refine WL.x (X.len Try.runUnderlying31 rfl hlist) (by decide) ?_
          refine WL.cond (X.lss rfl rfl) (by decide) (fun h6 => ?_) (fun h6 => ?_)
          · refine WL.nil ?_
            refine WK.nThen ?_
            refine WC.condT rfl ?_
            refine WC.skip ?_
            refine WK.nThen ?_
            refine WC.seq ?_
            refine WC.block ?_
            refine WC.seq ?_
            refine WC.region ?_
            refine WL.x (X.move rfl) (by decide) ?_
            refine WL.x (X.move rfl) (by decide) ?_
            refine WL.xe (E.idxN k Try.runUnderlying31 Try.sizeOf3 rfl rfl hlist (by omega)) (by decide) (fun p7 hp8 => ?_)
            refine WL.x (X.loadInt Try.isAgg3 rfl hp8) (by decide) ?_
            refine WL.cond (X.call Try.call76 rfl (isLevel76 _ _ )) (by decide) (fun h9 => ?_) (fun h9 => ?_)
            · refine WL.x (X.not rfl) (by decide) ?_
              refine WL.nil ?_
              refine WK.nThen ?_
              refine WC.condF rfl ?_
              refine WC.skip ?_
              refine WK.nBlock ?_
              refine WK.nThen ?_
              refine WC.region ?_
              refine WL.x (X.move rfl) (by decide) ?_
              refine WL.x (X.add rfl rfl (by omega) (by omega)) (by decide) ?_
              refine WL.x (X.assign rfl) (by decide) ?_
              refine WL.nil ?_
              refine WK.nThen ?_
              refine WK.next (k + 1) rfl (.refl _) (.cons rfl (.cons rfl .nil)) ?_ ?_
              · exact ⟨by omega, fun j hj => by rcases Nat.lt_succ_iff_lt_or_eq.1 hj with h | h; exact hall j h; subst h; unfold lvOk; omega⟩
              · omega
            · refine WL.x (X.not rfl) (by decide) ?_
              refine WL.nil ?_
              refine WK.nThen ?_
              refine WC.condT rfl ?_
              refine WC.seq ?_
              refine WC.region ?_
              refine WL.x (X.assign rfl) (by decide) ?_
              refine WL.nil ?_
              refine WK.nThen ?_
              refine WC.ret ?_
              refine WK.rBlock ?_
              refine WK.rThen ?_
              refine WK.rThen ?_
              refine WK.rBlock ?_
              refine WK.rThen ?_
              refine WK.ret1 rfl rfl (fun w' hw' => Ret.exact hw' ?_)
              first | exact int_eq (levelsE_err (by assumption)).symm | exact int_eq (levelsE_arg (by omega) (by omega)).symm | exact int_eq (levelsE_bad (i := k) (by omega) (by omega) (by unfold lvOk; omega)).symm | exact int_eq (levelsE_ok (by omega) (by omega) (by omega) (fun j hj => hall j (by omega))).symm
          · refine WL.nil ?_
            refine WK.nThen ?_
            refine WC.condF rfl ?_
            refine WC.exit ?_
            refine WK.eThen ?_
            refine WK.eThen ?_
            refine WK.eHit ?_
            refine WK.nThen ?_
            refine WC.seq ?_
            refine WC.region ?_
            refine WL.x (X.assign rfl) (by decide) ?_
            refine WL.nil ?_
            refine WK.nThen ?_
            refine WC.ret ?_
            refine WK.ret1 rfl rfl (fun w' hw' => Ret.exact hw' ?_)
            first | exact int_eq (levelsE_err (by assumption)).symm | exact int_eq (levelsE_arg (by omega) (by omega)).symm | exact int_eq (levelsE_bad (i := k) (by omega) (by omega) (by unfold lvOk; omega)).symm | exact int_eq (levelsE_ok (by omega) (by omega) (by omega) (fun j hj => hall j (by omega))).symm
    · refine WL.x (X.not rfl) (by decide) ?_
      refine WL.x (X.move rfl) (by decide) ?_
      refine WL.no rfl rfl rfl (by decide) ?_
      refine WL.no rfl rfl rfl (by decide) ?_
      refine WL.no rfl rfl rfl (by decide) ?_
      refine WL.no rfl rfl rfl (by decide) ?_
      refine WL.no rfl rfl rfl (by decide) ?_
      refine WL.x (X.pickT rfl rfl rfl) (by decide) ?_
      refine WL.nil ?_
      refine WK.nThen ?_
      refine WC.condT rfl ?_
      refine WC.seq ?_
      refine WC.region ?_
      refine WL.x (X.assign rfl) (by decide) ?_
      refine WL.nil ?_
      refine WK.nThen ?_
      refine WC.ret ?_
      refine WK.rThen ?_
      refine WK.ret1 rfl rfl (fun w' hw' => Ret.exact hw' ?_)
      first | exact int_eq (levelsE_err (by assumption)).symm | exact int_eq (levelsE_arg (by omega) (by omega)).symm | exact int_eq (levelsE_bad (i := k) (by omega) (by omega) (by unfold lvOk; omega)).symm | exact int_eq (levelsE_ok (by omega) (by omega) (by omega) (fun j hj => hall j (by omega))).symm

theorem seasOf73 (m : Mem) (vl : Value) (l : List Station) (hl : Sl m vl l) (week : Int) (vlist : Value) (list : List Int) (hlist : Sl m vlist list) {w : Wind} (hlz : levelsE w l week list = 0) : Pure Try.prog 73 #[vl, .int .i64 (week), vlist] m (fun m' v => ∃ r0, v = r0 ∧ Sl m' r0 (seasL l week list)) := by
  have ll := hl.le
  have llist := hlist.le
  have hz := levelsE_zero hlz
  have hw0 := hz.1
  have hl32 := (checkS_zero (l := l) (windedE_zero hw0).1).1
  refine Pure.start Try.func73 rfl Try.ntmps73 rfl fun wld => ?_
  refine WC.seq ?_
  refine WC.region ?_
  refine WL.x (X.assign rfl) (by decide) ?_
  refine WL.nil ?_
  refine WK.nThen ?_
  refine WC.seq ?_
  refine WK.ownF Span 49 ?_
  refine WC.region ?_
  refine WL.x (X.assign rfl) (by decide) ?_
  refine WL.nil ?_
  refine WK.nThen ?_
  refine WC.seq ?_
  refine WC.seq ?_
  refine WC.region ?_
  refine WL.x (X.assign rfl) (by decide) ?_
  refine WL.nil ?_
  refine WK.nThen ?_
  refine WC.block ?_
  refine WC.loop (G := Nat × Value) (fun (i, vo) => l.length - i) (fun (i, vo) => m) (fun (i, vo) => [rowF (vo) 49 ((List.range i).map (seaAt l week list))]) (fun (i, vo) => [(0, vl), (1, .int .i64 (week)), (2, vlist), (7, vo), (8, .int .i64 (↑i))]) (fun (i, vo) => i ≤ l.length) ((0, Value.slice none 0 0)) rfl (.refl _) (.cons rfl (.cons rfl (.cons rfl (.cons rfl (.cons rfl .nil))))) ?_ ?_
  · exact Nat.zero_le _
  · rintro ⟨i, vo⟩ hF1
    show WK _ _ m [rowF (vo) 49 ((List.range i).map (seaAt l week list))] [(0, vl), (1, .int .i64 (week)), (2, vlist), (7, vo), (8, .int .i64 (↑i))] _
    replace hF1 : i ≤ l.length := hF1
    have hi := hF1
    refine WC.seq ?_
    refine WC.seq ?_
    refine WC.region ?_
    refine WL.x (X.move rfl) (by decide) ?_
    refine WL.x (X.move rfl) (by decide) ?_
    refine WL.x (X.len Try.runUnderlying24 rfl hl) (by decide) ?_
    refine WL.cond (X.lss rfl rfl) (by decide) (fun h2 => ?_) (fun h2 => ?_)
    · refine WL.nil ?_
      refine WK.nThen ?_
      refine WC.condT rfl ?_
      refine WC.skip ?_
      refine WK.nThen ?_
      refine WC.seq ?_
      refine WC.block ?_
      refine WC.seq ?_
      have hho := (checkS_placed (windedE_zero hw0).1 (k := i) (by omega)).2
      have hso := heightS_ok (week := week) hho
      have hlv := hz.2.2.2 i (by omega)
      unfold spanOk at hso
      unfold lvOk at hlv
      have hll2 := hz.2.2.1
      refine WC.region ?_
      refine WL.x (X.move rfl) (by decide) ?_
      refine WL.x (X.move rfl) (by decide) ?_
      refine WL.xe (E.idxN i Try.runUnderlying24 Try.sizeOf58 rfl rfl hl (by omega)) (by decide) (fun p3 hp4 => ?_)
      refine WL.xe (E.loadAgg Try.isAgg58 Try.sizeOf58 rfl hp4) (by decide) (fun c5 hc6 => ?_)
      obtain ⟨v7, rfl, hs8⟩ := hc6
      have hl9 := hs8.le
      refine WL.x (X.move rfl) (by decide) ?_
      refine WL.x (X.call Try.call98 rfl (height98 _ _ (gt l i) ⟨_, rfl, hs8⟩ _ (by have := hho.1; omega))) (by decide) ?_
      refine WL.tn (T.alloc Try.zeroValue49 rfl) (by decide) fun b10 => ?_
      refine WL.ts (T.storeBA (k := 0) Try.sizeOf49 rfl rfl rfl (one_cons rfl (one_cons rfl one_nil)) rfl rfl) ?_
      refine WL.nil ?_
      refine WK.nThen ?_
      refine WC.draw (π := (.cons 0 (.cons 1 (.cons 2 (.cons 3 (.cons 4 (.cons 5 (.cons 6 (.cons 7 (.cons 8 (.cons 9 (.cons 10 (.cons 11 (.cons 12 (.cons 13 (.cons 14 (.cons 15 (.cons 16 (.cons 17 (.cons 18 .done)))))))))))))))))))) [16, 17] [17] rfl (by kernel_rfl) ?_
      refine DW.x rfl rfl (X.move rfl) (by decide) ?_
      refine DW.x rfl rfl (X.move rfl) (by decide) ?_
      refine DW.x rfl rfl (X.move rfl) (by decide) ?_
      refine DW.xe rfl rfl (E.idxN i Try.runUnderlying31 Try.sizeOf3 rfl rfl hlist (by omega)) (by decide) (fun p11 hp12 => ?_)
      refine DW.x rfl rfl (X.loadInt Try.isAgg3 rfl hp12) (by decide) ?_
      refine DW.x rfl rfl (X.field Try.runUnderlying49 rfl Try.sizeOf3 rfl) (by decide) ?_
      refine DW.x rfl rfl (X.loadB (k := 0) Try.isAgg3 rfl rfl rfl) (by decide) ?_
      refine DW.x rfl rfl (X.call Try.call77 rfl (sea77 _ _ _ (by omega) (by omega))) (by decide) ?_
      refine DW.x rfl rfl (X.move rfl) (by decide) ?_
      refine DW.x rfl rfl (X.move rfl) (by decide) ?_
      refine DW.xe rfl rfl (E.idxN i Try.runUnderlying31 Try.sizeOf3 rfl rfl hlist (by omega)) (by decide) (fun p13 hp14 => ?_)
      refine DW.x rfl rfl (X.loadInt Try.isAgg3 rfl hp14) (by decide) ?_
      refine DW.x rfl rfl (X.field Try.runUnderlying49 rfl Try.sizeOf3 rfl) (by decide) ?_
      refine DW.x rfl rfl (X.loadB (k := 0) Try.isAgg3 rfl rfl rfl) (by decide) ?_
      refine DW.x rfl rfl (X.call Try.call77 rfl (sea77 _ _ _ (by omega) (by omega))) (by decide) ?_
      refine DW.x rfl rfl (V := Value.agg [.int .i64 (seaS (gt list i) ((heightS (gt l i) week).Lo)), .int .i64 (seaS (gt list i) ((heightS (gt l i) week).Hi))].toArray) (X.build Try.zeroValue49 Try.runUnderlying49 (places49 _ Try.underlying49) rfl rfl) (by decide) ?_
      refine DW.tl rfl rfl rfl (T.lit1 sl100 rfl rfl rfl (by decide)) (by decide) fun b15 => ?_
      refine DW.ta rfl rfl rfl rfl (T.appendF (k := 1) (a := (Span.mk (seaS (gt list i) ((heightS (gt l i) week).Lo)) (seaS (gt list i) ((heightS (gt l i) week).Hi)))) sl100 rfl rfl rfl rfl (by first | omega | (simp; omega)) (by decide)) (by decide) (fun v16 => ?_)
      refine DW.x rfl rfl (X.assign rfl) (by decide) ?_
      refine DW.nil ?_
      refine WK.nBlock ?_
      refine WK.nThen ?_
      refine WC.region ?_
      refine WL.x (X.move rfl) (by decide) ?_
      refine WL.x (X.add rfl rfl (by omega) (by omega)) (by decide) ?_
      refine WL.x (X.assign rfl) (by decide) ?_
      refine WL.nil ?_
      refine WK.nThen ?_
      have he17 : (((List.range i).map (seaAt l week list)) ++ [(Span.mk (seaS (gt list i) ((heightS (gt l i) week).Lo)) (seaS (gt list i) ((heightS (gt l i) week).Hi)))]) = ((List.range (i + 1)).map (seaAt l week list)) := map_succ i (seaAt l week list)
      rw [he17]
      refine WK.next ((i + 1, v16)) rfl (.cons _ (.cons_cons _ .slnil)) (.cons rfl (.cons rfl (.cons rfl (.cons rfl (.cons rfl .nil))))) ?_ ?_
      · omega
      · (dsimp only; omega)
    · refine WL.nil ?_
      refine WK.nThen ?_
      refine WC.condF rfl ?_
      refine WC.exit ?_
      refine WK.eThen ?_
      refine WK.eThen ?_
      refine WK.eHit ?_
      refine WK.nThen ?_
      refine WC.seq ?_
      refine WC.region ?_
      refine WL.x (X.move rfl) (by decide) ?_
      refine WL.x (X.assign rfl) (by decide) ?_
      refine WL.nil ?_
      refine WK.nThen ?_
      refine WC.ret ?_
      refine WK.freezeF 0 rfl rfl (by simp [lenB]; omega) (fun m18 hle19 hs20 => ?_)
      replace hl := hl.mono hle19
      replace hlist := hlist.mono hle19
      refine WK.ret1 rfl rfl (fun w' hw' => Ret.mem hw' ?_)
      exact ⟨_, rfl, (show (List.range i).map (seaAt l week list) = seasL l week list by rw [show i = l.length by omega]; rfl) ▸ hs20⟩

set_option maxHeartbeats 4000000 in
theorem seaside28 (m : Mem) (cw : List Value) (w : Wind) (hw : Enc.rd m cw w) (vl : Value) (l : List Station) (hl : Sl m vl l) (week : Int) (vlist : Value) (list : List Int) (hlist : Sl m vlist list)   : Pure Try.prog 28 #[.agg cw.toArray, vl, .int .i64 (week), vlist] m (fun m' v => ∃ r0, v = .tuple #[r0, .int .i64 ((sideR w l week list).2)] ∧ Sl m' r0 ((sideR w l week list).1)) := by
  obtain rfl := hw
  have ll := hl.le
  have llist := hlist.le
  refine Pure.start Try.func28 rfl Try.ntmps28 rfl fun wld => ?_
  refine WC.seq ?_
  refine WC.region ?_
  refine WL.tn (T.boxB rfl rfl) (by decide) fun b1 => ?_
  refine WL.x (X.assign rfl) (by decide) ?_
  refine WL.x (X.assign rfl) (by decide) ?_
  refine WL.nil ?_
  refine WK.nThen ?_
  refine WC.seq ?_
  refine WC.region ?_
  refine WL.x (X.loadBA (k := 0) Try.isAgg23 Try.sizeOf23 rfl rfl rfl) (by decide) ?_
  refine WL.x (X.move rfl) (by decide) ?_
  refine WL.x (X.move rfl) (by decide) ?_
  refine WL.x (X.move rfl) (by decide) ?_
  refine WL.x (X.call Try.call72 rfl (asked72 _ _ w rfl _ _ hl _ _ _ hlist )) (by decide) ?_
  refine WL.x (X.assign rfl) (by decide) ?_
  refine WL.nil ?_
  refine WK.nThen ?_
  refine WC.seq ?_
  refine WC.seq ?_
  refine WC.region ?_
  refine WL.x (X.move rfl) (by decide) ?_
  refine WL.condn (X.neq rfl rfl) (by decide) (fun h2 => ?_) (fun h2 => ?_)
  · refine WL.nil ?_
    refine WK.nThen ?_
    refine WC.condT rfl ?_
    refine WC.seq ?_
    refine WC.region ?_
    refine WL.x (X.move rfl) (by decide) ?_
    refine WL.x (X.assign rfl) (by decide) ?_
    refine WL.x (X.assign rfl) (by decide) ?_
    refine WL.nil ?_
    refine WK.nThen ?_
    refine WC.ret ?_
    refine WK.rThen ?_
    refine WK.ret2 rfl rfl rfl (fun w' hw' => Ret.mem hw' ?_)
    first | exact ⟨_, tup2 rfl (int_eq (by rw [sideR_err (by omega)])), by rw [sideR_err (by omega)]; exact .nil⟩ | exact ⟨_, tup2 rfl (int_eq (by rw [sideR_no hlz (hend.over (j := i) (by omega) (by omega))])), by rw [sideR_no hlz (hend.over (j := i) (by omega) (by omega))]; exact .nil⟩
  · refine WL.nil ?_
    refine WK.nThen ?_
    refine WC.condF rfl ?_
    refine WC.skip ?_
    refine WK.nThen ?_
    refine WC.seq ?_
    have hlz : levelsE w l week list = 0 := (by omega)
    have hz := levelsE_zero hlz
    have hw0 := hz.1
    have hl32 := (checkS_zero (l := l) (windedE_zero hw0).1).1
    have hsl : (seasL l week list).length = l.length := (by simp [seasL])
    have hbl := boundsL_len w l
    have htl := tightL_len w l
    refine WC.region ?_
    refine WL.x (X.loadBA (k := 0) Try.isAgg23 Try.sizeOf23 rfl rfl rfl) (by decide) ?_
    refine WL.x (X.move rfl) (by decide) ?_
    refine WL.tM (T.callO Try.call68 rfl (bounds68 _ w _ _ hl hw0)) (by decide) (fun m3 _ v4 hle6 hR7 => ?_)
    obtain ⟨vs5, hvs8, rfl⟩ := hR7
    replace hl := hl.mono hle6
    replace hlist := hlist.mono hle6
    refine WL.perm (([row (v4) 31 1 (vs5).length (vs5), blk b1 23 [.int .i64 (w.Fixed), .int .i64 (w.Each)]] ++ rowsOf 3 (vs5) (boundsL w l))) (perm_own _ _ _) ?_
    refine WL.freezeRows rfl (by rw [hvs8]; exact (sqL_mat _ _).1.symm) (by rw [hvs8]; exact (sqL_mat _ _).1.symm) (fun L hL => sqL_len (by omega) hL) (by have hq := (sqL_mat l.length (boundM w l)).1; unfold boundsL lenB; omega) (fun m9 hle10 hs11 => ?_)
    replace hl := hl.mono hle10
    replace hlist := hlist.mono hle10
    refine WL.x (X.assign rfl) (by decide) ?_
    refine WL.nil ?_
    refine WK.nThen ?_
    refine WC.seq ?_
    refine WC.region ?_
    refine WL.x (X.move rfl) (by decide) ?_
    refine WL.x (X.move rfl) (by decide) ?_
    refine WL.x (X.move rfl) (by decide) ?_
    refine WL.tm (T.call Try.call73 rfl (seasOf73 _ _ _ hl _ _ _ hlist (by assumption))) (by decide) fun m12 r13 hle14 hR15 => ?_
    obtain ⟨v16, hv_, hs17⟩ := hR15
    rw [← hv_] at hs17
    clear hv_ v16
    replace hl := hl.mono hle14
    replace hlist := hlist.mono hle14
    replace hs11 := hs11.mono hle14
    have hl18 := hs17.le
    refine WL.x (X.assign rfl) (by decide) ?_
    refine WL.nil ?_
    refine WK.nThen ?_
    refine WC.seq ?_
    refine WK.ownF Int 3 ?_
    refine WC.region ?_
    refine WL.x (X.assign rfl) (by decide) ?_
    refine WL.nil ?_
    refine WK.nThen ?_
    refine WC.seq ?_
    refine WC.seq ?_
    refine WC.region ?_
    refine WL.x (X.assign rfl) (by decide) ?_
    refine WL.nil ?_
    refine WK.nThen ?_
    refine WC.block ?_
    refine WC.loop (G := Nat × Value) (fun (i, vo) => l.length - i) (fun (i, vo) => m12) (fun (i, vo) => [rowF (vo) 3 ((List.range i).map (loS l week list)), blk b1 23 [.int .i64 (w.Fixed), .int .i64 (w.Each)]]) (fun (i, vo) => [(1, vl), (11, v4), (12, r13), (13, vo), (14, .int .i64 (↑i))]) (fun (i, vo) => i ≤ l.length) ((0, Value.slice none 0 0)) rfl (.refl _) (.cons rfl (.cons rfl (.cons rfl (.cons rfl (.cons rfl .nil))))) ?_ ?_
    · exact Nat.zero_le _
    · rintro ⟨i, vo⟩ hF19
      show WK _ _ m12 [rowF (vo) 3 ((List.range i).map (loS l week list)), blk b1 23 [.int .i64 (w.Fixed), .int .i64 (w.Each)]] [(1, vl), (11, v4), (12, r13), (13, vo), (14, .int .i64 (↑i))] _
      replace hF19 : i ≤ l.length := hF19
      have hi := hF19
      refine WC.seq ?_
      refine WC.seq ?_
      refine WC.region ?_
      refine WL.x (X.move rfl) (by decide) ?_
      refine WL.x (X.move rfl) (by decide) ?_
      refine WL.x (X.len Try.runUnderlying100 rfl hs17) (by decide) ?_
      refine WL.cond (X.lss rfl rfl) (by decide) (fun h20 => ?_) (fun h20 => ?_)
      · refine WL.nil ?_
        refine WK.nThen ?_
        refine WC.condT rfl ?_
        refine WC.skip ?_
        refine WK.nThen ?_
        refine WC.seq ?_
        refine WC.block ?_
        refine WC.region ?_
        refine WL.x (X.move rfl) (by decide) ?_
        refine WL.x (X.move rfl) (by decide) ?_
        refine WL.x (X.move rfl) (by decide) ?_
        refine WL.xe (E.idxN i Try.runUnderlying100 Try.sizeOf49 rfl rfl hs17 (by omega)) (by decide) (fun p21 hp22 => ?_)
        have hp23 := At.Span_0 hp22
        refine WL.x (X.field Try.runUnderlying49 rfl Try.sizeOf3 rfl) (by decide) ?_
        refine WL.x (X.loadInt Try.isAgg3 rfl hp23) (by decide) ?_
        refine WL.tl (T.lit1 sl31 rfl rfl rfl (by decide)) (by decide) fun b24 => ?_
        refine WL.ta (T.appendF (k := 0) (a := (gt (seasL l week list) i).Lo) sl31 rfl rfl rfl rfl (by first | omega | (simp; omega)) (by decide)) (by decide) (fun v25 => ?_)
        refine WL.x (X.assign rfl) (by decide) ?_
        refine WL.nil ?_
        refine WK.nBlock ?_
        refine WK.nThen ?_
        refine WC.region ?_
        refine WL.x (X.move rfl) (by decide) ?_
        refine WL.x (X.add rfl rfl (by omega) (by omega)) (by decide) ?_
        refine WL.x (X.assign rfl) (by decide) ?_
        refine WL.nil ?_
        refine WK.nThen ?_
        have he26 : (((List.range i).map (loS l week list)) ++ [(gt (seasL l week list) i).Lo]) = ((List.range (i + 1)).map (loS l week list)) := map_succ i (loS l week list)
        rw [he26]
        refine WK.next ((i + 1, v25)) rfl (.refl _) (.cons rfl (.cons rfl (.cons rfl (.cons rfl (.cons rfl .nil))))) ?_ ?_
        · omega
        · (dsimp only; omega)
      · refine WL.nil ?_
        refine WK.nThen ?_
        refine WC.condF rfl ?_
        refine WC.exit ?_
        refine WK.eThen ?_
        refine WK.eThen ?_
        refine WK.eHit ?_
        refine WK.nThen ?_
        refine WC.seq ?_
        refine WC.seq ?_
        refine WC.region ?_
        refine WL.x (X.assign rfl) (by decide) ?_
        refine WL.nil ?_
        refine WK.nThen ?_
        refine WC.block ?_
        refine WC.loop (G := Nat × List Int) (fun (r, L2) => l.length - r) (fun (r, L2) => m12) (fun (r, L2) => [rowF (vo) 3 (L2), blk b1 23 [.int .i64 (w.Fixed), .int .i64 (w.Each)]]) (fun (r, L2) => [(1, vl), (11, v4), (12, r13), (13, vo), (15, .int .i64 (↑r))]) (fun (r, L2) => SeaOk w l week list L2 ∧ SC w l (loS l week list) r L2 ∧ r ≤ l.length) ((0, (List.range i).map (loS l week list))) rfl (.refl _) (.cons rfl (.cons rfl (.cons rfl (.cons rfl (.cons rfl .nil))))) ?_ ?_
        · have hst : SeaOk w l week list ((List.range i).map (loS l week list)) := SeaOk.start (by simp; omega) (fun j hj => by rw [gt_map _ (by omega)]; rfl)
          exact ⟨hst, SC.start hw0 hst, Nat.zero_le _⟩
        · rintro ⟨r, L2⟩ hF27
          show WK _ _ m12 [rowF (vo) 3 (L2), blk b1 23 [.int .i64 (w.Fixed), .int .i64 (w.Each)]] [(1, vl), (11, v4), (12, r13), (13, vo), (15, .int .i64 (↑r))] _
          replace hF27 : SeaOk w l week list L2 ∧ SC w l (loS l week list) r L2 ∧ r ≤ l.length := hF27
          obtain ⟨hok2, hc2, hr⟩ := hF27
          refine WC.seq ?_
          refine WC.seq ?_
          have hL2 := hok2.len
          refine WC.region ?_
          refine WL.x (X.move rfl) (by decide) ?_
          refine WL.x (X.move rfl) (by decide) ?_
          refine WL.x (X.len Try.runUnderlying24 rfl hl) (by decide) ?_
          refine WL.cond (X.lss rfl rfl) (by decide) (fun h28 => ?_) (fun h28 => ?_)
          · refine WL.nil ?_
            refine WK.nThen ?_
            refine WC.condT rfl ?_
            refine WC.skip ?_
            refine WK.nThen ?_
            refine WC.seq ?_
            refine WC.block ?_
            refine WC.seq ?_
            refine WC.region ?_
            refine WL.x (X.assign rfl) (by decide) ?_
            refine WL.nil ?_
            refine WK.nThen ?_
            refine WC.block ?_
            refine WC.loop (G := Nat × List Int) (fun (i, L3) => l.length - i) (fun (i, L3) => m12) (fun (i, L3) => [rowF (vo) 3 (L3), blk b1 23 [.int .i64 (w.Fixed), .int .i64 (w.Each)]]) (fun (i, L3) => [(1, vl), (11, v4), (12, r13), (13, vo), (15, .int .i64 (↑r)), (16, .int .i64 (↑i))]) (fun (i, L3) => SeaOk w l week list L3 ∧ SC w l (loS l week list) r L3 ∧ SP w l (loS l week list) r i 0 L3 ∧ i ≤ l.length) ((0, L2)) rfl (.refl _) (.cons rfl (.cons rfl (.cons rfl (.cons rfl (.cons rfl (.cons rfl .nil)))))) ?_ ?_
            · exact ⟨hok2, hc2, SP.zero, Nat.zero_le _⟩
            · rintro ⟨i, L3⟩ hF29
              show WK _ _ m12 [rowF (vo) 3 (L3), blk b1 23 [.int .i64 (w.Fixed), .int .i64 (w.Each)]] [(1, vl), (11, v4), (12, r13), (13, vo), (15, .int .i64 (↑r)), (16, .int .i64 (↑i))] _
              replace hF29 : SeaOk w l week list L3 ∧ SC w l (loS l week list) r L3 ∧ SP w l (loS l week list) r i 0 L3 ∧ i ≤ l.length := hF29
              obtain ⟨hok3, hc3, hd3, hi⟩ := hF29
              refine WC.seq ?_
              refine WC.seq ?_
              have hL3 := hok3.len
              refine WC.region ?_
              refine WL.x (X.move rfl) (by decide) ?_
              refine WL.x (X.move rfl) (by decide) ?_
              refine WL.x (X.len Try.runUnderlying24 rfl hl) (by decide) ?_
              refine WL.cond (X.lss rfl rfl) (by decide) (fun h30 => ?_) (fun h30 => ?_)
              · refine WL.nil ?_
                refine WK.nThen ?_
                refine WC.condT rfl ?_
                refine WC.skip ?_
                refine WK.nThen ?_
                refine WC.seq ?_
                refine WC.block ?_
                refine WC.seq ?_
                refine WC.region ?_
                refine WL.x (X.assign rfl) (by decide) ?_
                refine WL.nil ?_
                refine WK.nThen ?_
                refine WC.block ?_
                refine WC.loop (G := Nat × List Int) (fun (k, L4) => l.length - k) (fun (k, L4) => m12) (fun (k, L4) => [rowF (vo) 3 (L4), blk b1 23 [.int .i64 (w.Fixed), .int .i64 (w.Each)]]) (fun (k, L4) => [(1, vl), (11, v4), (12, r13), (13, vo), (15, .int .i64 (↑r)), (16, .int .i64 (↑i)), (17, .int .i64 (↑k))]) (fun (k, L4) => SeaOk w l week list L4 ∧ SC w l (loS l week list) r L4 ∧ SP w l (loS l week list) r i k L4 ∧ k ≤ l.length) ((0, L3)) rfl (.refl _) (.cons rfl (.cons rfl (.cons rfl (.cons rfl (.cons rfl (.cons rfl (.cons rfl .nil))))))) ?_ ?_
                · exact ⟨hok3, hc3, hd3, Nat.zero_le _⟩
                · rintro ⟨k, L4⟩ hF31
                  show WK _ _ m12 [rowF (vo) 3 (L4), blk b1 23 [.int .i64 (w.Fixed), .int .i64 (w.Each)]] [(1, vl), (11, v4), (12, r13), (13, vo), (15, .int .i64 (↑r)), (16, .int .i64 (↑i)), (17, .int .i64 (↑k))] _
                  replace hF31 : SeaOk w l week list L4 ∧ SC w l (loS l week list) r L4 ∧ SP w l (loS l week list) r i k L4 ∧ k ≤ l.length := hF31
                  obtain ⟨hok4, hc4, hd4, hk⟩ := hF31
                  refine WC.seq ?_
                  refine WC.seq ?_
                  have hL4 := hok4.len
                  refine WC.region ?_
                  refine WL.x (X.move rfl) (by decide) ?_
                  refine WL.x (X.move rfl) (by decide) ?_
                  refine WL.x (X.len Try.runUnderlying24 rfl hl) (by decide) ?_
                  refine WL.cond (X.lss rfl rfl) (by decide) (fun h32 => ?_) (fun h32 => ?_)
                  · refine WL.nil ?_
                    refine WK.nThen ?_
                    refine WC.condT rfl ?_
                    refine WC.skip ?_
                    refine WK.nThen ?_
                    refine WC.seq ?_
                    refine WC.block ?_
                    have hL4 := hok4.len
                    have q1 := boundsL_row (w := w) (l := l) (i := i) (by omega)
                    have p1 := boundsL_at (w := w) (l := l) (i := i) (k := k) (by omega) (by omega)
                    have z1 := boundM_bd hw0 i k (by omega) (by omega)
                    have y1 := SeaOk.range hlz hok4 (j := i) (by omega)
                    have y2 := SeaOk.range hlz hok4 (j := k) (by omega)
                    refine WC.draw (π := (.cons 0 (.cons 1 (.cons 2 (.cons 3 (.cons 4 (.cons 5 (.cons 6 (.cons 7 (.cons 8 (.cons 9 (.cons 10 (.cons 11 (.cons 12 (.cons 13 (.cons 14 (.cons 15 (.cons 16 (.cons 17 (.cons 18 (.cons 19 (.cons 20 .done)))))))))))))))))))))) [20] [20] rfl (by kernel_rfl) ?_
                    refine DW.x rfl rfl (X.move rfl) (by decide) ?_
                    refine DW.x rfl rfl (X.move rfl) (by decide) ?_
                    refine DW.x rfl rfl (X.move rfl) (by decide) ?_
                    refine DW.x rfl rfl (X.move rfl) (by decide) ?_
                    refine DW.x rfl rfl (X.idxI (k := 0) Try.runUnderlying31 Try.sizeOf3 rfl rfl rfl (by first | omega | (simp; omega) | simp) (by first | omega | (simp; omega) | simp)) (by decide) ?_
                    refine DW.x rfl rfl (X.loadI (k := 0) (i := i) Try.isAgg3 rfl rfl (by first | omega | (simp; omega) | simp)) (by decide) ?_
                    refine DW.x rfl rfl (X.move rfl) (by decide) ?_
                    refine DW.x rfl rfl (X.move rfl) (by decide) ?_
                    refine DW.x rfl rfl (X.idxI (k := 0) Try.runUnderlying31 Try.sizeOf3 rfl rfl rfl (by first | omega | (simp; omega) | simp) (by first | omega | (simp; omega) | simp)) (by decide) ?_
                    refine DW.x rfl rfl (X.loadI (k := 0) (i := k) Try.isAgg3 rfl rfl (by first | omega | (simp; omega) | simp)) (by decide) ?_
                    refine DW.x rfl rfl (X.move rfl) (by decide) ?_
                    refine DW.x rfl rfl (X.move rfl) (by decide) ?_
                    refine DW.xe rfl rfl (E.idxN i Try.runUnderlying27 Try.sizeOf31 rfl rfl hs11 (by omega)) (by decide) (fun p33 hp34 => ?_)
                    refine DW.xe rfl rfl (E.loadSl Try.isAgg31 rfl hp34) (by decide) (fun v35 hs36 => ?_)
                    have hl37 := hs36.le
                    refine DW.x rfl rfl (X.move rfl) (by decide) ?_
                    refine DW.xe rfl rfl (E.idxN k Try.runUnderlying31 Try.sizeOf3 rfl rfl hs36 (by omega)) (by decide) (fun p38 hp39 => ?_)
                    refine DW.x rfl rfl (X.loadInt Try.isAgg3 rfl hp39) (by decide) ?_
                    refine DW.x rfl rfl (X.sub rfl rfl (by omega) (by omega)) (by decide) ?_
                    refine DW.x rfl rfl (X.mx rfl rfl) (by decide) ?_
                    refine DW.x rfl rfl (X.idxI (k := 0) Try.runUnderlying31 Try.sizeOf3 rfl rfl rfl (by first | omega | (simp; omega) | simp) (by first | omega | (simp; omega) | simp)) (by decide) ?_
                    refine DW.ts rfl rfl rfl rfl (T.storeI (k := 0) (i := i) Try.sizeOf3 rfl rfl rfl (by first | omega | (simp; omega) | simp)) ?_
                    refine DW.nil ?_
                    refine WK.nBlock ?_
                    refine WK.nThen ?_
                    refine WC.region ?_
                    refine WL.x (X.move rfl) (by decide) ?_
                    refine WL.x (X.add rfl rfl (by omega) (by omega)) (by decide) ?_
                    refine WL.x (X.assign rfl) (by decide) ?_
                    refine WL.nil ?_
                    refine WK.nThen ?_
                    refine WK.next ((k + 1, L4.set i (max (gt L4 i) ((gt L4 k) - (gt (gt (boundsL w l) i) k))))) rfl (.refl _) (.cons rfl (.cons rfl (.cons rfl (.cons rfl (.cons rfl (.cons rfl (.cons rfl .nil))))))) ?_ ?_
                    · have hst := sea_step hw0 hok4 hc4 hd4 (i := i) (k := k) (by omega) (by omega) (v := max (gt L4 i) (gt L4 k - gt (gt (boundsL w l) i) k)) (by rw [p1])
                      exact ⟨hst.1, hst.2.1, hst.2.2, by omega⟩
                    · (dsimp only; omega)
                  · refine WL.nil ?_
                    refine WK.nThen ?_
                    refine WC.condF rfl ?_
                    refine WC.exit ?_
                    refine WK.eThen ?_
                    refine WK.eThen ?_
                    refine WK.eHit ?_
                    refine WK.nBlock ?_
                    refine WK.nThen ?_
                    refine WC.region ?_
                    refine WL.x (X.move rfl) (by decide) ?_
                    refine WL.x (X.add rfl rfl (by omega) (by omega)) (by decide) ?_
                    refine WL.x (X.assign rfl) (by decide) ?_
                    refine WL.nil ?_
                    refine WK.nThen ?_
                    refine WK.next ((i + 1, L4)) rfl (.refl _) (.cons rfl (.cons rfl (.cons rfl (.cons rfl (.cons rfl (.cons rfl .nil)))))) ?_ ?_
                    · exact ⟨hok4, hc4, hd4.row hc4 (by omega), by omega⟩
                    · (dsimp only; omega)
              · refine WL.nil ?_
                refine WK.nThen ?_
                refine WC.condF rfl ?_
                refine WC.exit ?_
                refine WK.eThen ?_
                refine WK.eThen ?_
                refine WK.eHit ?_
                refine WK.nBlock ?_
                refine WK.nThen ?_
                refine WC.region ?_
                refine WL.x (X.move rfl) (by decide) ?_
                refine WL.x (X.add rfl rfl (by omega) (by omega)) (by decide) ?_
                refine WL.x (X.assign rfl) (by decide) ?_
                refine WL.nil ?_
                refine WK.nThen ?_
                refine WK.next ((r + 1, L3)) rfl (.refl _) (.cons rfl (.cons rfl (.cons rfl (.cons rfl (.cons rfl .nil))))) ?_ ?_
                · exact ⟨hok3, hd3.fin (by omega), by omega⟩
                · (dsimp only; omega)
          · refine WL.nil ?_
            refine WK.nThen ?_
            refine WC.condF rfl ?_
            refine WC.exit ?_
            refine WK.eThen ?_
            refine WK.eThen ?_
            refine WK.eHit ?_
            refine WK.nThen ?_
            refine WC.seq ?_
            refine WC.seq ?_
            have hend : SeaEnd w l week list L2 := ⟨hok2, .inl (fun j hj => sea_fin hw0 hok2 (show SC w l (loS l week list) l.length L2 from (show r = l.length by omega) ▸ hc2) hj)⟩
            have hL2 := hok2.len
            refine WC.region ?_
            refine WL.x (X.assign rfl) (by decide) ?_
            refine WL.nil ?_
            refine WK.nThen ?_
            refine WC.block ?_
            refine WC.loop (G := Nat) (fun i => l.length - i) (fun i => m12) (fun i => [rowF (vo) 3 (L2), blk b1 23 [.int .i64 (w.Fixed), .int .i64 (w.Each)]]) (fun i => [(1, vl), (12, r13), (13, vo), (18, .int .i64 (↑i))]) (fun i => (∀ j, j < i → gt L2 j ≤ (gt (seasL l week list) j).Hi) ∧ i ≤ l.length) 0 rfl (.refl _) (.cons rfl (.cons rfl (.cons rfl (.cons rfl .nil)))) ?_ ?_
            · exact ⟨fun j hj => absurd hj (Nat.not_lt_zero _), Nat.zero_le _⟩
            · rintro i hF40
              show WK _ _ m12 [rowF (vo) 3 (L2), blk b1 23 [.int .i64 (w.Fixed), .int .i64 (w.Each)]] [(1, vl), (12, r13), (13, vo), (18, .int .i64 (↑i))] _
              replace hF40 : (∀ j, j < i → gt L2 j ≤ (gt (seasL l week list) j).Hi) ∧ i ≤ l.length := hF40
              obtain ⟨hall, hi⟩ := hF40
              refine WC.seq ?_
              refine WC.seq ?_
              refine WC.region ?_
              refine WL.x (X.move rfl) (by decide) ?_
              refine WL.x (X.move rfl) (by decide) ?_
              refine WL.x (X.len Try.runUnderlying24 rfl hl) (by decide) ?_
              refine WL.cond (X.lss rfl rfl) (by decide) (fun h41 => ?_) (fun h41 => ?_)
              · refine WL.nil ?_
                refine WK.nThen ?_
                refine WC.condT rfl ?_
                refine WC.skip ?_
                refine WK.nThen ?_
                refine WC.seq ?_
                refine WC.block ?_
                refine WC.seq ?_
                have hL2 := hok2.len
                refine WC.draw (π := (.cons 0 (.cons 1 (.cons 2 (.cons 3 (.cons 4 (.cons 5 (.cons 6 (.cons 7 (.cons 8 (.cons 9 .done))))))))))) [] [] rfl (by kernel_rfl) ?_
                refine DW.x rfl rfl (X.move rfl) (by decide) ?_
                refine DW.x rfl rfl (X.move rfl) (by decide) ?_
                refine DW.x rfl rfl (X.idxI (k := 0) Try.runUnderlying31 Try.sizeOf3 rfl rfl rfl (by first | omega | (simp; omega) | simp) (by first | omega | (simp; omega) | simp)) (by decide) ?_
                refine DW.x rfl rfl (X.loadI (k := 0) (i := i) Try.isAgg3 rfl rfl (by first | omega | (simp; omega) | simp)) (by decide) ?_
                refine DW.x rfl rfl (X.move rfl) (by decide) ?_
                refine DW.x rfl rfl (X.move rfl) (by decide) ?_
                refine DW.xe rfl rfl (E.idxN i Try.runUnderlying100 Try.sizeOf49 rfl rfl hs17 (by omega)) (by decide) (fun p42 hp43 => ?_)
                have hp44 := At.Span_1 hp43
                refine DW.x rfl rfl (X.field Try.runUnderlying49 rfl Try.sizeOf3 rfl) (by decide) ?_
                refine DW.x rfl rfl (X.loadInt Try.isAgg3 rfl hp44) (by decide) ?_
                refine DW.cond rfl rfl (X.gtr rfl rfl) (by decide) (fun h45 => ?_) (fun h45 => ?_)
                · refine DW.nil ?_
                  refine WK.nThen ?_
                  refine WC.condT rfl ?_
                  refine WC.seq ?_
                  refine WC.region ?_
                  refine WL.x (X.assign rfl) (by decide) ?_
                  refine WL.x (X.assign rfl) (by decide) ?_
                  refine WL.nil ?_
                  refine WK.nThen ?_
                  refine WC.ret ?_
                  refine WK.rBlock ?_
                  refine WK.rThen ?_
                  refine WK.rThen ?_
                  refine WK.rBlock ?_
                  refine WK.rThen ?_
                  refine WK.ret2 rfl rfl rfl (fun w' hw' => Ret.mem hw' ?_)
                  first | exact ⟨_, tup2 rfl (int_eq (by rw [sideR_err (by omega)])), by rw [sideR_err (by omega)]; exact .nil⟩ | exact ⟨_, tup2 rfl (int_eq (by rw [sideR_no hlz (hend.over (j := i) (by omega) (by omega))])), by rw [sideR_no hlz (hend.over (j := i) (by omega) (by omega))]; exact .nil⟩
                · refine DW.nil ?_
                  refine WK.nThen ?_
                  refine WC.condF rfl ?_
                  refine WC.skip ?_
                  refine WK.nBlock ?_
                  refine WK.nThen ?_
                  refine WC.region ?_
                  refine WL.x (X.move rfl) (by decide) ?_
                  refine WL.x (X.add rfl rfl (by omega) (by omega)) (by decide) ?_
                  refine WL.x (X.assign rfl) (by decide) ?_
                  refine WL.nil ?_
                  refine WK.nThen ?_
                  refine WK.next (i + 1) rfl (.refl _) (.cons rfl (.cons rfl (.cons rfl (.cons rfl .nil)))) ?_ ?_
                  · exact ⟨fun j hj => by rcases Nat.lt_succ_iff_lt_or_eq.1 hj with h | h; exact hall j h; subst h; omega, by omega⟩
                  · omega
              · refine WL.nil ?_
                refine WK.nThen ?_
                refine WC.condF rfl ?_
                refine WC.exit ?_
                refine WK.eThen ?_
                refine WK.eThen ?_
                refine WK.eHit ?_
                refine WK.nThen ?_
                refine WC.seq ?_
                refine WC.region ?_
                refine WL.x (X.move rfl) (by decide) ?_
                refine WL.x (X.assign rfl) (by decide) ?_
                refine WL.x (X.assign rfl) (by decide) ?_
                refine WL.nil ?_
                refine WK.nThen ?_
                refine WC.ret ?_
                refine WK.freezeF 0 rfl rfl (by unfold lenB; omega) (fun m46 hle47 hs48 => ?_)
                replace hl := hl.mono hle47
                replace hlist := hlist.mono hle47
                replace hs11 := hs11.mono hle47
                replace hs17 := hs17.mono hle47
                refine WK.ret2 rfl rfl rfl (fun w' hw' => Ret.mem hw' ?_)
                have hfin := hend.all (fun j hj => hall j (by omega))
                exact ⟨_, tup2 rfl (int_eq (by rw [sideR_yes hlz hfin.1])), by rw [sideR_yes hlz hfin.1, ← hfin.2]; exact hs48⟩

set_option maxHeartbeats 2000000 in
theorem apart30 (m : Mem) (cw : List Value) (w : Wind) (hw : Enc.rd m cw w) (vl : Value) (l : List Station) (hl : Sl m vl l) (week : Int) (vlist : Value) (list : List Int) (hlist : Sl m vlist list)   : Pure Try.prog 30 #[.agg cw.toArray, vl, .int .i64 (week), vlist] m (fun m' v => ∃ r0, v = .tuple #[r0, .int .i64 ((apartR w l week list).2)] ∧ Sl m' r0 ((apartR w l week list).1)) := by
  obtain rfl := hw
  have ll := hl.le
  have llist := hlist.le
  refine Pure.start Try.func30 rfl Try.ntmps30 rfl fun wld => ?_
  refine WC.seq ?_
  refine WC.region ?_
  refine WL.tn (T.boxB rfl rfl) (by decide) fun b1 => ?_
  refine WL.x (X.assign rfl) (by decide) ?_
  refine WL.x (X.assign rfl) (by decide) ?_
  refine WL.nil ?_
  refine WK.nThen ?_
  refine WC.seq ?_
  refine WC.region ?_
  refine WL.x (X.loadBA (k := 0) Try.isAgg23 Try.sizeOf23 rfl rfl rfl) (by decide) ?_
  refine WL.x (X.move rfl) (by decide) ?_
  refine WL.x (X.move rfl) (by decide) ?_
  refine WL.x (X.move rfl) (by decide) ?_
  refine WL.x (X.call Try.call72 rfl (asked72 _ _ w rfl _ _ hl _ _ _ hlist )) (by decide) ?_
  refine WL.x (X.assign rfl) (by decide) ?_
  refine WL.nil ?_
  refine WK.nThen ?_
  refine WC.seq ?_
  refine WC.seq ?_
  refine WC.region ?_
  refine WL.x (X.move rfl) (by decide) ?_
  refine WL.condn (X.neq rfl rfl) (by decide) (fun h2 => ?_) (fun h2 => ?_)
  · refine WL.nil ?_
    refine WK.nThen ?_
    refine WC.condT rfl ?_
    refine WC.seq ?_
    refine WC.region ?_
    refine WL.x (X.move rfl) (by decide) ?_
    refine WL.x (X.assign rfl) (by decide) ?_
    refine WL.x (X.assign rfl) (by decide) ?_
    refine WL.nil ?_
    refine WK.nThen ?_
    refine WC.ret ?_
    refine WK.rThen ?_
    refine WK.ret2 rfl rfl rfl (fun w' hw' => Ret.mem hw' ?_)
    first | exact ⟨_, tup2 rfl (int_eq (by rw [apartR_err (by omega)])), by rw [apartR_err (by omega)]; exact .nil⟩ | exact ⟨_, tup2 rfl (int_eq (by rw [apartR_yes hlz (by omega) (by omega) hall hin (by unfold apartP; omega)])), by rw [apartR_yes hlz (by omega) (by omega) hall hin (by unfold apartP; omega)]; exact .nil⟩ | exact ⟨_, tup2 rfl (int_eq (by rw [apartR_no hlz (fun j x h1 => hall j x (by omega))])), by rw [apartR_no hlz (fun j x h1 => hall j x (by omega))]; exact .nil⟩
  · refine WL.nil ?_
    refine WK.nThen ?_
    refine WC.condF rfl ?_
    refine WC.skip ?_
    refine WK.nThen ?_
    refine WC.seq ?_
    have hlz : levelsE w l week list = 0 := (by omega)
    have hz := levelsE_zero hlz
    have hw0 := hz.1
    have hl32 := (checkS_zero (l := l) (windedE_zero hw0).1).1
    have hsl : (seasL l week list).length = l.length := (by simp [seasL])
    have hbl := boundsL_len w l
    have htl := tightL_len w l
    refine WC.region ?_
    refine WL.x (X.loadBA (k := 0) Try.isAgg23 Try.sizeOf23 rfl rfl rfl) (by decide) ?_
    refine WL.x (X.move rfl) (by decide) ?_
    refine WL.tm (T.call Try.call64 rfl (tight64 _ _ w rfl _ _ hl (by assumption))) (by decide) fun m3 r4 hle5 hR6 => ?_
    obtain ⟨v7, hv_, hs8⟩ := hR6
    rw [← hv_] at hs8
    clear hv_ v7
    replace hl := hl.mono hle5
    replace hlist := hlist.mono hle5
    have hl9 := hs8.le
    refine WL.x (X.assign rfl) (by decide) ?_
    refine WL.nil ?_
    refine WK.nThen ?_
    refine WC.seq ?_
    refine WC.region ?_
    refine WL.x (X.move rfl) (by decide) ?_
    refine WL.x (X.move rfl) (by decide) ?_
    refine WL.x (X.move rfl) (by decide) ?_
    refine WL.tm (T.call Try.call73 rfl (seasOf73 _ _ _ hl _ _ _ hlist (by assumption))) (by decide) fun m10 r11 hle12 hR13 => ?_
    obtain ⟨v14, hv_, hs15⟩ := hR13
    rw [← hv_] at hs15
    clear hv_ v14
    replace hl := hl.mono hle12
    replace hlist := hlist.mono hle12
    replace hs8 := hs8.mono hle12
    have hl16 := hs15.le
    refine WL.x (X.assign rfl) (by decide) ?_
    refine WL.nil ?_
    refine WK.nThen ?_
    refine WC.seq ?_
    refine WC.seq ?_
    refine WC.region ?_
    refine WL.x (X.assign rfl) (by decide) ?_
    refine WL.nil ?_
    refine WK.nThen ?_
    refine WC.block ?_
    refine WC.loop (G := Nat) (fun i => l.length - i) (fun i => m10) (fun i => [blk b1 23 [.int .i64 (w.Fixed), .int .i64 (w.Each)]]) (fun i => [(1, vl), (11, r4), (12, r11), (13, .int .i64 (↑i))]) (fun i => (∀ j x, j < i → j < x → x < l.length → ¬ apartP w l (seasL l week list) j x) ∧ i ≤ l.length) 0 rfl (.refl _) (.cons rfl (.cons rfl (.cons rfl (.cons rfl .nil)))) ?_ ?_
    · exact ⟨fun j x hj => absurd hj (Nat.not_lt_zero _), Nat.zero_le _⟩
    · rintro i hF17
      show WK _ _ m10 [blk b1 23 [.int .i64 (w.Fixed), .int .i64 (w.Each)]] [(1, vl), (11, r4), (12, r11), (13, .int .i64 (↑i))] _
      replace hF17 : (∀ j x, j < i → j < x → x < l.length → ¬ apartP w l (seasL l week list) j x) ∧ i ≤ l.length := hF17
      obtain ⟨hall, hi⟩ := hF17
      refine WC.seq ?_
      refine WC.seq ?_
      refine WC.region ?_
      refine WL.x (X.move rfl) (by decide) ?_
      refine WL.x (X.move rfl) (by decide) ?_
      refine WL.x (X.len Try.runUnderlying24 rfl hl) (by decide) ?_
      refine WL.cond (X.lss rfl rfl) (by decide) (fun h18 => ?_) (fun h18 => ?_)
      · refine WL.nil ?_
        refine WK.nThen ?_
        refine WC.condT rfl ?_
        refine WC.skip ?_
        refine WK.nThen ?_
        refine WC.seq ?_
        refine WC.block ?_
        refine WC.seq ?_
        refine WC.region ?_
        refine WL.x (X.move rfl) (by decide) ?_
        refine WL.x (X.add rfl rfl (by omega) (by omega)) (by decide) ?_
        refine WL.x (X.assign rfl) (by decide) ?_
        refine WL.nil ?_
        refine WK.nThen ?_
        refine WC.block ?_
        refine WC.loop (G := Nat) (fun k => l.length - k) (fun k => m10) (fun k => [blk b1 23 [.int .i64 (w.Fixed), .int .i64 (w.Each)]]) (fun k => [(1, vl), (11, r4), (12, r11), (13, .int .i64 (↑i)), (14, .int .i64 (↑k))]) (fun k => (∀ x, i < x → x < k → ¬ apartP w l (seasL l week list) i x) ∧ (i < k ∧ k ≤ l.length)) (i + 1) rfl (.refl _) (.cons rfl (.cons rfl (.cons rfl (.cons rfl (.cons rfl .nil))))) ?_ ?_
        · exact ⟨fun x h1 h2 => by omega, by omega⟩
        · rintro k hF19
          show WK _ _ m10 [blk b1 23 [.int .i64 (w.Fixed), .int .i64 (w.Each)]] [(1, vl), (11, r4), (12, r11), (13, .int .i64 (↑i)), (14, .int .i64 (↑k))] _
          replace hF19 : (∀ x, i < x → x < k → ¬ apartP w l (seasL l week list) i x) ∧ (i < k ∧ k ≤ l.length) := hF19
          obtain ⟨hin, hk⟩ := hF19
          refine WC.seq ?_
          refine WC.seq ?_
          refine WC.region ?_
          refine WL.x (X.move rfl) (by decide) ?_
          refine WL.x (X.move rfl) (by decide) ?_
          refine WL.x (X.len Try.runUnderlying24 rfl hl) (by decide) ?_
          refine WL.cond (X.lss rfl rfl) (by decide) (fun h20 => ?_) (fun h20 => ?_)
          · refine WL.nil ?_
            refine WK.nThen ?_
            refine WC.condT rfl ?_
            refine WC.skip ?_
            refine WK.nThen ?_
            refine WC.seq ?_
            refine WC.block ?_
            refine WC.seq ?_
            have hb1 := seasL_bd hlz (i := i) (by omega)
            have hb2 := seasL_bd hlz (i := k) (by omega)
            have q1 := tightL_row (w := w) (l := l) (i := i) (by omega)
            have p1 := tightL_at (w := w) (l := l) (i := i) (k := k) (by omega) (by omega)
            refine WC.draw (π := (.cons 0 (.cons 1 (.cons 2 (.cons 3 (.cons 4 (.cons 5 (.cons 6 (.cons 7 (.cons 8 (.cons 9 (.cons 10 (.cons 11 (.cons 12 (.cons 13 (.cons 14 (.cons 15 (.cons 16 (.cons 17 (.cons 18 (.cons 19 (.cons 20 (.cons 21 (.cons 22 (.cons 23 (.cons 24 (.cons 25 (.cons 26 (.cons 27 (.cons 28 (.cons 29 (.cons 30 (.cons 31 (.cons 32 (.cons 33 (.cons 34 (.cons 35 (.cons 36 (.cons 37 (.cons 38 (.cons 39 .done))))))))))))))))))))))))))))))))))))))))) [] [] rfl (by kernel_rfl) ?_
            refine DW.x rfl rfl (X.move rfl) (by decide) ?_
            refine DW.x rfl rfl (X.move rfl) (by decide) ?_
            refine DW.xe rfl rfl (E.idxN i Try.runUnderlying100 Try.sizeOf49 rfl rfl hs15 (by omega)) (by decide) (fun p21 hp22 => ?_)
            have hp23 := At.Span_0 hp22
            refine DW.x rfl rfl (X.field Try.runUnderlying49 rfl Try.sizeOf3 rfl) (by decide) ?_
            refine DW.x rfl rfl (X.loadInt Try.isAgg3 rfl hp23) (by decide) ?_
            refine DW.x rfl rfl (X.move rfl) (by decide) ?_
            refine DW.x rfl rfl (X.move rfl) (by decide) ?_
            refine DW.xe rfl rfl (E.idxN k Try.runUnderlying100 Try.sizeOf49 rfl rfl hs15 (by omega)) (by decide) (fun p24 hp25 => ?_)
            have hp26 := At.Span_1 hp25
            refine DW.x rfl rfl (X.field Try.runUnderlying49 rfl Try.sizeOf3 rfl) (by decide) ?_
            refine DW.x rfl rfl (X.loadInt Try.isAgg3 rfl hp26) (by decide) ?_
            refine DW.x rfl rfl (X.sub rfl rfl (by omega) (by omega)) (by decide) ?_
            refine DW.x rfl rfl (X.move rfl) (by decide) ?_
            refine DW.x rfl rfl (X.move rfl) (by decide) ?_
            refine DW.xe rfl rfl (E.idxN i Try.runUnderlying27 Try.sizeOf31 rfl rfl hs8 (by omega)) (by decide) (fun p27 hp28 => ?_)
            refine DW.xe rfl rfl (E.loadSl Try.isAgg31 rfl hp28) (by decide) (fun v29 hs30 => ?_)
            have hl31 := hs30.le
            refine DW.x rfl rfl (X.move rfl) (by decide) ?_
            refine DW.xe rfl rfl (E.idxN k Try.runUnderlying31 Try.sizeOf3 rfl rfl hs30 (by omega)) (by decide) (fun p32 hp33 => ?_)
            refine DW.x rfl rfl (X.loadInt Try.isAgg3 rfl hp33) (by decide) ?_
            refine DW.cond rfl rfl (X.gtr rfl rfl) (by decide) (fun h34 => ?_) (fun h34 => ?_)
            · refine DW.x rfl rfl (X.move rfl) (by decide) ?_
              refine DW.no rfl rfl (by decide) ?_
              refine DW.no rfl rfl (by decide) ?_
              refine DW.no rfl rfl (by decide) ?_
              refine DW.no rfl rfl (by decide) ?_
              refine DW.no rfl rfl (by decide) ?_
              refine DW.no rfl rfl (by decide) ?_
              refine DW.no rfl rfl (by decide) ?_
              refine DW.no rfl rfl (by decide) ?_
              refine DW.no rfl rfl (by decide) ?_
              refine DW.no rfl rfl (by decide) ?_
              refine DW.no rfl rfl (by decide) ?_
              refine DW.no rfl rfl (by decide) ?_
              refine DW.no rfl rfl (by decide) ?_
              refine DW.no rfl rfl (by decide) ?_
              refine DW.no rfl rfl (by decide) ?_
              refine DW.no rfl rfl (by decide) ?_
              refine DW.no rfl rfl (by decide) ?_
              refine DW.no rfl rfl (by decide) ?_
              refine DW.no rfl rfl (by decide) ?_
              refine DW.x rfl rfl (X.pickT rfl rfl rfl) (by decide) ?_
              refine DW.nil ?_
              refine WK.nThen ?_
              refine WC.condT rfl ?_
              refine WC.seq ?_
              refine WC.region ?_
              refine WL.x (X.move rfl) (by decide) ?_
              refine WL.x (X.move rfl) (by decide) ?_
              refine WL.tm (T.litM (α := Int) (vals := [.int .i64 (↑i), .int .i64 (↑k)]) (L := [↑i, ↑k]) sl31 rfl (.cons rfl rfl (.cons rfl rfl .nil)) rfl rfl) (by decide) (fun m35 v36 hle37 hs38 => ?_)
              replace hl := hl.mono hle37
              replace hlist := hlist.mono hle37
              replace hs8 := hs8.mono hle37
              replace hs15 := hs15.mono hle37
              replace hp22 := hp22.mono hle37
              replace hp23 := hp23.mono hle37
              replace hp25 := hp25.mono hle37
              replace hp26 := hp26.mono hle37
              replace hp28 := hp28.mono hle37
              replace hs30 := hs30.mono hle37
              replace hp33 := hp33.mono hle37
              refine WL.x (X.assign rfl) (by decide) ?_
              refine WL.x (X.assign rfl) (by decide) ?_
              refine WL.nil ?_
              refine WK.nThen ?_
              refine WC.ret ?_
              refine WK.rBlock ?_
              refine WK.rThen ?_
              refine WK.rThen ?_
              refine WK.rBlock ?_
              refine WK.rBlock ?_
              refine WK.rThen ?_
              refine WK.rThen ?_
              refine WK.rBlock ?_
              refine WK.rThen ?_
              refine WK.ret2 rfl rfl rfl (fun w' hw' => Ret.mem hw' ?_)
              first | exact ⟨_, tup2 rfl (int_eq (by rw [apartR_err (by omega)])), by rw [apartR_err (by omega)]; exact hs38⟩ | exact ⟨_, tup2 rfl (int_eq (by rw [apartR_yes hlz (by omega) (by omega) hall hin (by unfold apartP; omega)])), by rw [apartR_yes hlz (by omega) (by omega) hall hin (by unfold apartP; omega)]; exact hs38⟩ | exact ⟨_, tup2 rfl (int_eq (by rw [apartR_no hlz (fun j x h1 => hall j x (by omega))])), by rw [apartR_no hlz (fun j x h1 => hall j x (by omega))]; exact hs38⟩
            · refine DW.x rfl rfl (X.move rfl) (by decide) ?_
              refine DW.x rfl rfl (X.move rfl) (by decide) ?_
              refine DW.x rfl rfl (X.move rfl) (by decide) ?_
              refine DW.xe rfl rfl (E.idxN k Try.runUnderlying100 Try.sizeOf49 rfl rfl hs15 (by omega)) (by decide) (fun p39 hp40 => ?_)
              have hp41 := At.Span_0 hp40
              refine DW.x rfl rfl (X.field Try.runUnderlying49 rfl Try.sizeOf3 rfl) (by decide) ?_
              refine DW.x rfl rfl (X.loadInt Try.isAgg3 rfl hp41) (by decide) ?_
              refine DW.x rfl rfl (X.move rfl) (by decide) ?_
              refine DW.x rfl rfl (X.move rfl) (by decide) ?_
              refine DW.xe rfl rfl (E.idxN i Try.runUnderlying100 Try.sizeOf49 rfl rfl hs15 (by omega)) (by decide) (fun p42 hp43 => ?_)
              have hp44 := At.Span_1 hp43
              refine DW.x rfl rfl (X.field Try.runUnderlying49 rfl Try.sizeOf3 rfl) (by decide) ?_
              refine DW.x rfl rfl (X.loadInt Try.isAgg3 rfl hp44) (by decide) ?_
              refine DW.x rfl rfl (X.sub rfl rfl (by omega) (by omega)) (by decide) ?_
              refine DW.x rfl rfl (X.move rfl) (by decide) ?_
              refine DW.x rfl rfl (X.move rfl) (by decide) ?_
              refine DW.xe rfl rfl (E.idxN i Try.runUnderlying27 Try.sizeOf31 rfl rfl hs8 (by omega)) (by decide) (fun p45 hp46 => ?_)
              refine DW.xe rfl rfl (E.loadSl Try.isAgg31 rfl hp46) (by decide) (fun v47 hs48 => ?_)
              have hl49 := hs48.le
              refine DW.x rfl rfl (X.move rfl) (by decide) ?_
              refine DW.xe rfl rfl (E.idxN k Try.runUnderlying31 Try.sizeOf3 rfl rfl hs48 (by omega)) (by decide) (fun p50 hp51 => ?_)
              refine DW.x rfl rfl (X.loadInt Try.isAgg3 rfl hp51) (by decide) ?_
              refine DW.cond rfl rfl (X.gtr rfl rfl) (by decide) (fun h52 => ?_) (fun h52 => ?_)
              · refine DW.x rfl rfl (X.pickF rfl rfl rfl) (by decide) ?_
                refine DW.nil ?_
                refine WK.nThen ?_
                refine WC.condT rfl ?_
                refine WC.seq ?_
                refine WC.region ?_
                refine WL.x (X.move rfl) (by decide) ?_
                refine WL.x (X.move rfl) (by decide) ?_
                refine WL.tm (T.litM (α := Int) (vals := [.int .i64 (↑i), .int .i64 (↑k)]) (L := [↑i, ↑k]) sl31 rfl (.cons rfl rfl (.cons rfl rfl .nil)) rfl rfl) (by decide) (fun m53 v54 hle55 hs56 => ?_)
                replace hl := hl.mono hle55
                replace hlist := hlist.mono hle55
                replace hs8 := hs8.mono hle55
                replace hs15 := hs15.mono hle55
                replace hp22 := hp22.mono hle55
                replace hp23 := hp23.mono hle55
                replace hp25 := hp25.mono hle55
                replace hp26 := hp26.mono hle55
                replace hp28 := hp28.mono hle55
                replace hs30 := hs30.mono hle55
                replace hp33 := hp33.mono hle55
                replace hp40 := hp40.mono hle55
                replace hp41 := hp41.mono hle55
                replace hp43 := hp43.mono hle55
                replace hp44 := hp44.mono hle55
                replace hp46 := hp46.mono hle55
                replace hs48 := hs48.mono hle55
                replace hp51 := hp51.mono hle55
                refine WL.x (X.assign rfl) (by decide) ?_
                refine WL.x (X.assign rfl) (by decide) ?_
                refine WL.nil ?_
                refine WK.nThen ?_
                refine WC.ret ?_
                refine WK.rBlock ?_
                refine WK.rThen ?_
                refine WK.rThen ?_
                refine WK.rBlock ?_
                refine WK.rBlock ?_
                refine WK.rThen ?_
                refine WK.rThen ?_
                refine WK.rBlock ?_
                refine WK.rThen ?_
                refine WK.ret2 rfl rfl rfl (fun w' hw' => Ret.mem hw' ?_)
                first | exact ⟨_, tup2 rfl (int_eq (by rw [apartR_err (by omega)])), by rw [apartR_err (by omega)]; exact hs56⟩ | exact ⟨_, tup2 rfl (int_eq (by rw [apartR_yes hlz (by omega) (by omega) hall hin (by unfold apartP; omega)])), by rw [apartR_yes hlz (by omega) (by omega) hall hin (by unfold apartP; omega)]; exact hs56⟩ | exact ⟨_, tup2 rfl (int_eq (by rw [apartR_no hlz (fun j x h1 => hall j x (by omega))])), by rw [apartR_no hlz (fun j x h1 => hall j x (by omega))]; exact hs56⟩
              · refine DW.x rfl rfl (X.pickF rfl rfl rfl) (by decide) ?_
                refine DW.nil ?_
                refine WK.nThen ?_
                refine WC.condF rfl ?_
                refine WC.skip ?_
                refine WK.nBlock ?_
                refine WK.nThen ?_
                refine WC.region ?_
                refine WL.x (X.move rfl) (by decide) ?_
                refine WL.x (X.add rfl rfl (by omega) (by omega)) (by decide) ?_
                refine WL.x (X.assign rfl) (by decide) ?_
                refine WL.nil ?_
                refine WK.nThen ?_
                refine WK.next (k + 1) rfl (.refl _) (.cons rfl (.cons rfl (.cons rfl (.cons rfl (.cons rfl .nil))))) ?_ ?_
                · exact ⟨fun x h1 h2 => by rcases Nat.lt_succ_iff_lt_or_eq.1 h2 with h | h; exact hin x h1 h; subst h; unfold apartP; omega, by omega⟩
                · omega
          · refine WL.nil ?_
            refine WK.nThen ?_
            refine WC.condF rfl ?_
            refine WC.exit ?_
            refine WK.eThen ?_
            refine WK.eThen ?_
            refine WK.eHit ?_
            refine WK.nBlock ?_
            refine WK.nThen ?_
            refine WC.region ?_
            refine WL.x (X.move rfl) (by decide) ?_
            refine WL.x (X.add rfl rfl (by omega) (by omega)) (by decide) ?_
            refine WL.x (X.assign rfl) (by decide) ?_
            refine WL.nil ?_
            refine WK.nThen ?_
            refine WK.next (i + 1) rfl (.refl _) (.cons rfl (.cons rfl (.cons rfl (.cons rfl .nil)))) ?_ ?_
            · exact ⟨fun j x hj h1 h2 => by rcases Nat.lt_succ_iff_lt_or_eq.1 hj with h | h; exact hall j x h h1 h2; subst h; exact hin x (by omega) (by omega), by omega⟩
            · omega
      · refine WL.nil ?_
        refine WK.nThen ?_
        refine WC.condF rfl ?_
        refine WC.exit ?_
        refine WK.eThen ?_
        refine WK.eThen ?_
        refine WK.eHit ?_
        refine WK.nThen ?_
        refine WC.seq ?_
        refine WC.region ?_
        refine WL.x (X.assign rfl) (by decide) ?_
        refine WL.x (X.assign rfl) (by decide) ?_
        refine WL.nil ?_
        refine WK.nThen ?_
        refine WC.ret ?_
        refine WK.ret2 rfl rfl rfl (fun w' hw' => Ret.mem hw' ?_)
        first | exact ⟨_, tup2 rfl (int_eq (by rw [apartR_err (by omega)])), by rw [apartR_err (by omega)]; exact .nil⟩ | exact ⟨_, tup2 rfl (int_eq (by rw [apartR_yes hlz (by omega) (by omega) hall hin (by unfold apartP; omega)])), by rw [apartR_yes hlz (by omega) (by omega) hall hin (by unfold apartP; omega)]; exact .nil⟩ | exact ⟨_, tup2 rfl (int_eq (by rw [apartR_no hlz (fun j x h1 => hall j x (by omega))])), by rw [apartR_no hlz (fun j x h1 => hall j x (by omega))]; exact .nil⟩

theorem keeps25 (m : Mem) (cw : List Value) (w : Wind) (hw : Enc.rd m cw w) (vl : Value) (l : List Station) (hl : Sl m vl l) (week : Int) (vlist : Value) (list : List Int) (hlist : Sl m vlist list)   : Exact Try.prog 25 #[.agg cw.toArray, vl, .int .i64 (week), vlist] m (.tuple #[.bool ((keepsR w l week list).1), .int .i64 ((keepsR w l week list).2)]) := by
  obtain rfl := hw
  have ll := hl.le
  have llist := hlist.le
  refine Exact.start Try.func25 rfl Try.ntmps25 rfl fun wld => ?_
  refine WC.seq ?_
  refine WC.region ?_
  refine WL.tn (T.boxB rfl rfl) (by decide) fun b1 => ?_
  refine WL.x (X.assign rfl) (by decide) ?_
  refine WL.x (X.assign rfl) (by decide) ?_
  refine WL.nil ?_
  refine WK.nThen ?_
  refine WC.seq ?_
  refine WC.region ?_
  refine WL.x (X.loadBA (k := 0) Try.isAgg23 Try.sizeOf23 rfl rfl rfl) (by decide) ?_
  refine WL.x (X.move rfl) (by decide) ?_
  refine WL.x (X.move rfl) (by decide) ?_
  refine WL.x (X.move rfl) (by decide) ?_
  refine WL.tm (T.call Try.call27 rfl (seaside27 _ _ w rfl _ _ hl _ _ _ hlist )) (by decide) fun m2 r3 hle4 hR5 => ?_
  obtain ⟨v6, rfl, hs7⟩ := hR5
  replace hl := hl.mono hle4
  replace hlist := hlist.mono hle4
  have hl8 := hs7.le
  refine WL.x (X.move rfl) (by decide) ?_
  refine WL.x (X.extract rfl rfl) (by decide) ?_
  refine WL.x (X.extract rfl rfl) (by decide) ?_
  refine WL.x (X.assign rfl) (by decide) ?_
  refine WL.x (X.assign rfl) (by decide) ?_
  refine WL.nil ?_
  refine WK.nThen ?_
  refine WC.seq ?_
  refine WC.seq ?_
  refine WC.region ?_
  refine WL.x (X.move rfl) (by decide) ?_
  refine WL.cond (X.eql rfl rfl) (by decide) (fun h9 => ?_) (fun h9 => ?_)
  · refine WL.nil ?_
    refine WK.nThen ?_
    refine WC.condT rfl ?_
    refine WC.seq ?_
    refine WC.region ?_
    refine WL.x (X.assign rfl) (by decide) ?_
    refine WL.x (X.assign rfl) (by decide) ?_
    refine WL.nil ?_
    refine WK.nThen ?_
    refine WC.ret ?_
    refine WK.rThen ?_
    refine WK.ret2 rfl rfl rfl (fun w' hw' => Ret.exact hw' ?_)
    first | exact tup2 (bool_eq (by rw [keeps_no (by assumption)])) (int_eq (by rw [keeps_no (by assumption)]))
  · refine WL.nil ?_
    refine WK.nThen ?_
    refine WC.condF rfl ?_
    refine WC.skip ?_
    refine WK.nThen ?_
    refine WC.seq ?_
    refine WC.region ?_
    refine WL.x (X.move rfl) (by decide) ?_
    refine WL.x (X.eql rfl rfl) (by decide) ?_
    refine WL.x (X.move rfl) (by decide) ?_
    refine WL.x (X.assign rfl) (by decide) ?_
    refine WL.x (X.assign rfl) (by decide) ?_
    refine WL.nil ?_
    refine WK.nThen ?_
    refine WC.ret ?_
    refine WK.ret2 rfl rfl rfl (fun w' hw' => Ret.exact hw' ?_)
    first | exact tup2 (bool_eq (by rw [keeps_eq (by assumption)])) (int_eq (by rw [keeps_eq (by assumption)]))

theorem keeps26 (m : Mem) (cw : List Value) (w : Wind) (hw : Enc.rd m cw w) (vl : Value) (l : List Station) (hl : Sl m vl l) (week : Int) (vlist : Value) (list : List Int) (hlist : Sl m vlist list)   : Exact Try.prog 26 #[.agg cw.toArray, vl, .int .i64 (week), vlist] m (.tuple #[.bool ((keepsR w l week list).1), .int .i64 ((keepsR w l week list).2)]) := by
  obtain rfl := hw
  have ll := hl.le
  have llist := hlist.le
  refine Exact.start Try.func26 rfl Try.ntmps26 rfl fun wld => ?_
  refine WC.seq ?_
  refine WC.region ?_
  refine WL.tn (T.boxB rfl rfl) (by decide) fun b1 => ?_
  refine WL.x (X.assign rfl) (by decide) ?_
  refine WL.x (X.assign rfl) (by decide) ?_
  refine WL.nil ?_
  refine WK.nThen ?_
  refine WC.seq ?_
  refine WC.region ?_
  refine WL.x (X.loadBA (k := 0) Try.isAgg23 Try.sizeOf23 rfl rfl rfl) (by decide) ?_
  refine WL.x (X.move rfl) (by decide) ?_
  refine WL.x (X.move rfl) (by decide) ?_
  refine WL.x (X.move rfl) (by decide) ?_
  refine WL.tm (T.call Try.call28 rfl (seaside28 _ _ w rfl _ _ hl _ _ _ hlist )) (by decide) fun m2 r3 hle4 hR5 => ?_
  obtain ⟨v6, rfl, hs7⟩ := hR5
  replace hl := hl.mono hle4
  replace hlist := hlist.mono hle4
  have hl8 := hs7.le
  refine WL.x (X.move rfl) (by decide) ?_
  refine WL.x (X.extract rfl rfl) (by decide) ?_
  refine WL.x (X.extract rfl rfl) (by decide) ?_
  refine WL.x (X.assign rfl) (by decide) ?_
  refine WL.x (X.assign rfl) (by decide) ?_
  refine WL.nil ?_
  refine WK.nThen ?_
  refine WC.seq ?_
  refine WC.seq ?_
  refine WC.region ?_
  refine WL.x (X.move rfl) (by decide) ?_
  refine WL.condn (X.neq rfl rfl) (by decide) (fun h9 => ?_) (fun h9 => ?_)
  · refine WL.x (X.move rfl) (by decide) ?_
    refine WL.yes rfl rfl ?_
    refine WL.x (X.move rfl) (by decide) ?_
    refine WL.yes rfl rfl ?_
    refine WL.condn (X.neq rfl rfl) (by decide) (fun h10 => ?_) (fun h10 => ?_)
    · refine WL.x (X.pickT rfl rfl rfl) (by decide) ?_
      refine WL.nil ?_
      refine WK.nThen ?_
      refine WC.condT rfl ?_
      refine WC.seq ?_
      refine WC.region ?_
      refine WL.x (X.move rfl) (by decide) ?_
      refine WL.x (X.assign rfl) (by decide) ?_
      refine WL.x (X.assign rfl) (by decide) ?_
      refine WL.nil ?_
      refine WK.nThen ?_
      refine WC.ret ?_
      refine WK.rThen ?_
      refine WK.ret2 rfl rfl rfl (fun w' hw' => Ret.exact hw' ?_)
      first | exact tup2 (bool_eq (by rw [keeps_err (by assumption) (by assumption)])) (int_eq (by rw [keeps_err (by assumption) (by assumption)]))
    · refine WL.x (X.pickT rfl rfl rfl) (by decide) ?_
      refine WL.nil ?_
      refine WK.nThen ?_
      refine WC.condF rfl ?_
      refine WC.skip ?_
      refine WK.nThen ?_
      refine WC.seq ?_
      refine WC.region ?_
      refine WL.x (X.move rfl) (by decide) ?_
      refine WL.x (X.eql rfl rfl) (by decide) ?_
      refine WL.x (X.assign rfl) (by decide) ?_
      refine WL.x (X.assign rfl) (by decide) ?_
      refine WL.nil ?_
      refine WK.nThen ?_
      refine WC.ret ?_
      refine WK.ret2 rfl rfl rfl (fun w' hw' => Ret.exact hw' ?_)
      first | exact tup2 (bool_eq (by rw [keeps_eq0 (.inr (by assumption))])) (int_eq (by rw [keeps_eq0 (.inr (by assumption))]))
  · refine WL.x (X.move rfl) (by decide) ?_
    refine WL.no rfl rfl rfl (by decide) ?_
    refine WL.no rfl rfl rfl (by decide) ?_
    refine WL.x (X.pickF rfl rfl rfl) (by decide) ?_
    refine WL.nil ?_
    refine WK.nThen ?_
    refine WC.condF rfl ?_
    refine WC.skip ?_
    refine WK.nThen ?_
    refine WC.seq ?_
    refine WC.region ?_
    refine WL.x (X.move rfl) (by decide) ?_
    refine WL.x (X.eql rfl rfl) (by decide) ?_
    refine WL.x (X.assign rfl) (by decide) ?_
    refine WL.x (X.assign rfl) (by decide) ?_
    refine WL.nil ?_
    refine WK.nThen ?_
    refine WC.ret ?_
    refine WK.ret2 rfl rfl rfl (fun w' hw' => Ret.exact hw' ?_)
    first | exact tup2 (bool_eq (by rw [keeps_eq0 (.inl (by assumption))])) (int_eq (by rw [keeps_eq0 (.inl (by assumption))]))

end Go.Proofs.S5
