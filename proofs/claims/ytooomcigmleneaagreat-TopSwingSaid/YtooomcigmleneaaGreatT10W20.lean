import Derived.Test.YtooomcigmleneaaGreatKxW
import Derived.Test.YtooomcigmleneaaGreatT10Forg
import Derived.Test.YtooomcigmleneaaGreatT10W19
/- Top: walks, twentieth part, by program. -/
namespace Go.Proofs.T10
open Go Go.Kx
set_option linter.unusedSimpArgs false
set_option linter.unusedVariables false

theorem isset124 (m : Mem) (vl : Value) (l : List Span) (hl : Sl m vl l)   : Exact Tryz.prog 124 #[vl] m (.bool (decide (setP l))) := by
 have ll := hl.le
 refine Exact.start Tryz.func124 rfl Tryz.ntmps124 rfl fun wld => ?_
 refine WC.r ?_
 refine WL.ag rfl ?_
 refine WL.z ?_
 refine WC.r ?_
 refine WL.ag rfl ?_
 refine WL.z ?_
 refine WC.seq ?_
 refine WC.r ?_
 refine WL.mv rfl ?_
 refine WL.y (X.len Tryz.runUnderlying28 rfl hl) ?_
 refine WL.mv rfl ?_
 refine WL.z ?_
 refine WC.block ?_
 refine WC.loop (G := Nat × Int) (fun (k, la) => l.length - k) (fun (k, la) => m) (fun (k, la) => []) (fun (k, la) => [(3, .int .i64 (la)), (6, vl), (7, .int .i64 (↑l.length)), (8, .int .i64 (↑k))]) (fun (k, la) => k ≤ l.length ∧ la = lastN l k ∧ ∀ j, j < k → lastN l j + 2 ≤ (gt l j).Lo ∧ (gt l j).Lo ≤ (gt l j).Hi ∧ (gt l j).Hi ≤ 100000) ((0, -100002)) rfl (.refl _) (.cons rfl (.cons rfl (.cons rfl (.cons rfl .nil)))) ?_ ?_
 ·exact ⟨Nat.zero_le _, rfl, fun j hj => absurd hj (Nat.not_lt_zero _)⟩
 ·rintro ⟨k, la⟩ hF1
  show WK _ _ m [] [(3, .int .i64 (la)), (6, vl), (7, .int .i64 (↑l.length)), (8, .int .i64 (↑k))] _
  replace hF1 : k ≤ l.length ∧ la = lastN l k ∧ ∀ j, j < k → lastN l j + 2 ≤ (gt l j).Lo ∧ (gt l j).Lo ≤ (gt l j).Hi ∧ (gt l j).Hi ≤ 100000 := hF1
  obtain ⟨hk, hla, hall⟩ := hF1
  have hlb_ := lastN_bd hall k (Nat.le_refl _)
  refine WC.r ?_
  refine WL.cond (X.lss rfl rfl) (by decide) (fun h2 => ?_) (fun h2 => ?_)
  ·refine WL.z ?_
   refine WC.seq ?_
   refine WC.condT rfl ?_
   refine WC.skip ?_
   refine WK.nThen ?_
   refine WC.seq ?_
   refine WC.block ?_
   refine WC.r ?_
   refine WL.xe (E.idxN k Tryz.runUnderlying28 Tryz.sizeOf23 rfl rfl hl (by omega)) (by decide) (fun p3 hp4 => ?_)
   refine WL.xe (E.loadAgg Tryz.isAgg23 Tryz.sizeOf23 rfl hp4) (by decide) (fun c5 hc6 => ?_)
   obtain rfl := hc6
   refine WL.tn (T.alloc Tryz.zeroValue23 rfl) (by decide) fun b7 => ?_
   refine WL.ts (T.storeBA (k := 0) Tryz.sizeOf23 rfl rfl rfl (one_cons rfl (one_cons rfl one_nil)) rfl rfl) ?_
   refine WL.z ?_
   refine WC.seq ?_
   refine WC.r ?_
   refine WL.y (X.field Tryz.runUnderlying23 rfl Tryz.sizeOf3 rfl) ?_
   refine WL.y (X.loadB (k := 0) Tryz.isAgg3 rfl rfl rfl) ?_
   refine WL.mv rfl ?_
   refine WL.y (X.add rfl rfl (by omega) (by omega)) ?_
   refine WL.cond (X.lss rfl rfl) (by decide) (fun h8 => ?_) (fun h8 => ?_)
   ·refine WL.mv rfl ?_
    refine WL.no rfl rfl rfl (by decide) ?_
    refine WL.no rfl rfl rfl (by decide) ?_
    refine WL.no rfl rfl rfl (by decide) ?_
    refine WL.no rfl rfl rfl (by decide) ?_
    refine WL.no rfl rfl rfl (by decide) ?_
    refine WL.y (X.pickT rfl rfl rfl) ?_
    refine WL.mv rfl ?_
    refine WL.no rfl rfl rfl (by decide) ?_
    refine WL.no rfl rfl rfl (by decide) ?_
    refine WL.no rfl rfl rfl (by decide) ?_
    refine WL.y (X.pickT rfl rfl rfl) ?_
    refine WL.z ?_
    refine WC.condT rfl ?_
    refine WC.r ?_
    refine WL.ag rfl ?_
    refine WL.z ?_
    refine WC.ret ?_
    refine WK.rThen ?_
    refine WK.rBlock ?_
    refine WK.rThen ?_
    refine WK.rThen ?_
    refine WK.rBlock ?_
    refine WK.rThen ?_
    refine WK.ret1 rfl rfl (fun w' hw' => Ret.exact hw' ?_)
    first | exact bool_true (fun i hi => hall i (by omega)) | exact bool_false (fun h_ => by have h1_ := h_ k (by omega); omega)
   ·refine WL.mv rfl ?_
    refine WL.yes rfl rfl ?_
    refine WL.y (X.field Tryz.runUnderlying23 rfl Tryz.sizeOf3 rfl) ?_
    refine WL.yes rfl rfl ?_
    refine WL.y (X.loadB (k := 0) Tryz.isAgg3 rfl rfl rfl) ?_
    refine WL.yes rfl rfl ?_
    refine WL.y (X.field Tryz.runUnderlying23 rfl Tryz.sizeOf3 rfl) ?_
    refine WL.yes rfl rfl ?_
    refine WL.y (X.loadB (k := 0) Tryz.isAgg3 rfl rfl rfl) ?_
    refine WL.yes rfl rfl ?_
    refine WL.cond (X.gtr rfl rfl) (by decide) (fun h9 => ?_) (fun h9 => ?_)
    ·refine WL.y (X.pickF rfl rfl rfl) ?_
     refine WL.mv rfl ?_
     refine WL.no rfl rfl rfl (by decide) ?_
     refine WL.no rfl rfl rfl (by decide) ?_
     refine WL.no rfl rfl rfl (by decide) ?_
     refine WL.y (X.pickT rfl rfl rfl) ?_
     refine WL.z ?_
     refine WC.condT rfl ?_
     refine WC.r ?_
     refine WL.ag rfl ?_
     refine WL.z ?_
     refine WC.ret ?_
     refine WK.rThen ?_
     refine WK.rBlock ?_
     refine WK.rThen ?_
     refine WK.rThen ?_
     refine WK.rBlock ?_
     refine WK.rThen ?_
     refine WK.ret1 rfl rfl (fun w' hw' => Ret.exact hw' ?_)
     first | exact bool_true (fun i hi => hall i (by omega)) | exact bool_false (fun h_ => by have h1_ := h_ k (by omega); omega)
    ·refine WL.y (X.pickF rfl rfl rfl) ?_
     refine WL.mv rfl ?_
     refine WL.yes rfl rfl ?_
     refine WL.y (X.field Tryz.runUnderlying23 rfl Tryz.sizeOf3 rfl) ?_
     refine WL.yes rfl rfl ?_
     refine WL.y (X.loadB (k := 0) Tryz.isAgg3 rfl rfl rfl) ?_
     refine WL.yes rfl rfl ?_
     refine WL.cond (X.gtr rfl rfl) (by decide) (fun h10 => ?_) (fun h10 => ?_)
     ·refine WL.y (X.pickF rfl rfl rfl) ?_
      refine WL.z ?_
      refine WC.condT rfl ?_
      refine WC.r ?_
      refine WL.ag rfl ?_
      refine WL.z ?_
      refine WC.ret ?_
      refine WK.rThen ?_
      refine WK.rBlock ?_
      refine WK.rThen ?_
      refine WK.rThen ?_
      refine WK.rBlock ?_
      refine WK.rThen ?_
      refine WK.ret1 rfl rfl (fun w' hw' => Ret.exact hw' ?_)
      first | exact bool_true (fun i hi => hall i (by omega)) | exact bool_false (fun h_ => by have h1_ := h_ k (by omega); omega)
     ·refine WL.y (X.pickF rfl rfl rfl) ?_
      refine WL.z ?_
      refine WC.condF rfl ?_
      refine WC.skip ?_
      refine WK.nThen ?_
      refine WC.region ?_
      refine WL.y (X.field Tryz.runUnderlying23 rfl Tryz.sizeOf3 rfl) ?_
      refine WL.y (X.loadB (k := 0) Tryz.isAgg3 rfl rfl rfl) ?_
      refine WL.ag rfl ?_
      refine WL.nil ?_
      refine WK.nBlock ?_
      refine WK.nThen ?_
      refine WC.region ?_
      refine WL.y (X.add rfl rfl (by omega) (by omega)) ?_
      refine WL.mv rfl ?_
      refine WL.z ?_
      refine WK.next ((k + 1, (gt l k).Hi)) rfl (.cons _ .slnil) (.cons rfl (.cons rfl (.cons rfl (.cons rfl .nil)))) ?_ ?_
      ·exact ⟨by omega, rfl, fun j hj => by rcases Nat.lt_succ_iff_lt_or_eq.1 hj with h | h; exact hall j h; subst h; omega⟩
      ·(dsimp only; omega)
  ·refine WL.z ?_
   refine WC.seq ?_
   refine WC.condF rfl ?_
   refine WC.exit ?_
   refine WK.eThen ?_
   refine WK.eThen ?_
   refine WK.eHit ?_
   refine WK.nThen ?_
   refine WC.r ?_
   refine WL.ag rfl ?_
   refine WL.z ?_
   refine WC.ret ?_
   refine WK.ret1 rfl rfl (fun w' hw' => Ret.exact hw' ?_)
   first | exact bool_true (fun i hi => hall i (by omega)) | exact bool_false (fun h_ => by have h1_ := h_ k (by omega); omega)

theorem small65 (m : Mem) (vl : Value) (l : List Span) (hl : Sl m vl l)   : Exact Tryz.prog 65 #[vl] m (.bool (decide (smallP l))) := by
 have ll := hl.le
 refine Exact.start Tryz.func65 rfl Tryz.ntmps65 rfl fun wld => ?_
 refine WC.r ?_
 refine WL.ag rfl ?_
 refine WL.z ?_
 refine WC.r ?_
 refine WL.mv rfl ?_
 refine WL.y (X.len Tryz.runUnderlying28 rfl hl) ?_
 refine WL.cond (X.leq rfl rfl) (by decide) (fun h1 => ?_) (fun h1 => ?_)
 ·refine WL.mv rfl ?_
  refine WL.yes rfl rfl ?_
  refine WL.mv rfl ?_
  refine WL.yes rfl rfl ?_
  refine WL.y (X.call Tryz.call124 rfl (isset124 _ _ _ hl )) ?_
  refine WL.y (X.pickT rfl rfl rfl) ?_
  refine WL.ag rfl ?_
  refine WL.z ?_
  refine WC.ret ?_
  refine WK.ret1 rfl rfl (fun w' hw' => Ret.exact hw' ?_)
  first | exact bool_true ⟨by omega, by assumption⟩ | exact bool_false (fun h_ => by have h1_ := h_.1; omega) | exact bool_false (fun h_ => absurd h_.2 (by assumption)) | exact dec_eq ⟨fun h_ => ⟨by omega, h_⟩, fun h_ => h_.2⟩
 ·refine WL.mv rfl ?_
  refine WL.no rfl rfl rfl (by decide) ?_
  refine WL.no rfl rfl rfl (by decide) ?_
  refine WL.y (X.pickF rfl rfl rfl) ?_
  refine WL.ag rfl ?_
  refine WL.z ?_
  refine WC.ret ?_
  refine WK.ret1 rfl rfl (fun w' hw' => Ret.exact hw' ?_)
  first | exact bool_true ⟨by omega, by assumption⟩ | exact bool_false (fun h_ => by have h1_ := h_.1; omega) | exact bool_false (fun h_ => absurd h_.2 (by assumption)) | exact dec_eq ⟨fun h_ => ⟨by omega, h_⟩, fun h_ => h_.2⟩

theorem vals213 (m : Mem) {L : List Span} {pl : Addr} (hpl : At m pl L) : Iter Tryz.prog 213 [.pointer (some pl)] m false L.length (spA L) := by
 intro lo S HS I Ix s0 hone hmono hy h0
 refine Mut.start Tryz.func213 rfl Tryz.ntmps213 rfl fun wld => ?_
 refine WC.r ?_
 refine WL.xe (E.loadSl Tryz.isAgg28 rfl hpl) (by decide) (fun v1 hs2 => ?_)
 have hl3 := hs2.le
 refine WL.y (X.len Tryz.runUnderlying28 rfl hs2) ?_
 refine WL.mv rfl ?_
 refine WL.z ?_
 refine WC.block ?_
 have hm0_ : m.le m := Mem.le_refl _
 refine WC.loop (G := Nat × Mem × S) (fun (k, mm, ss) => L.length - k) (fun (k, mm, ss) => mm) (fun (k, mm, ss) => ([] ++ HS ss)) (fun (k, mm, ss) => [(0, .func (.yield lo) #[] #[]), (5, v1), (6, .int .i64 (↑L.length)), (7, .int .i64 (↑k))]) (fun (k, mm, ss) => m.le mm ∧ I k mm ss ∧ k ≤ L.length) ((0, m, s0)) rfl (.refl _) (.cons rfl (.cons rfl (.cons rfl (.cons rfl .nil)))) ?_ ?_
 ·exact ⟨Mem.le_refl _, h0, Nat.zero_le _⟩
 ·rintro ⟨k, mm, ss⟩ hF4
  show WK _ _ mm ([] ++ HS ss) [(0, .func (.yield lo) #[] #[]), (5, v1), (6, .int .i64 (↑L.length)), (7, .int .i64 (↑k))] _
  replace hF4 : m.le mm ∧ I k mm ss ∧ k ≤ L.length := hF4
  obtain ⟨hmm, hI, hk⟩ := hF4
  replace hpl := hpl.mono hmm
  replace hs2 := hs2.mono hmm
  refine WC.r ?_
  refine WL.cond (X.lss rfl rfl) (by decide) (fun h5 => ?_) (fun h5 => ?_)
  ·refine WL.z ?_
   refine WC.seq ?_
   refine WC.condT rfl ?_
   refine WC.skip ?_
   refine WK.nThen ?_
   refine WC.seq ?_
   refine WC.block ?_
   refine WC.r ?_
   refine WL.xe (E.idxN k Tryz.runUnderlying28 Tryz.sizeOf23 rfl rfl hs2 (by omega)) (by decide) (fun p6 hp7 => ?_)
   refine WL.xe (E.loadAgg Tryz.isAgg23 Tryz.sizeOf23 rfl hp7) (by decide) (fun c8 hc9 => ?_)
   obtain rfl := hc9
   refine WL.tn (T.alloc Tryz.zeroValue23 rfl) (by decide) fun b10 => ?_
   refine WL.ts (T.storeBA (k := 0) Tryz.sizeOf23 rfl rfl rfl (one_cons rfl (one_cons rfl one_nil)) rfl rfl) ?_
   refine WL.z ?_
   refine WC.r ?_
   refine WL.mv rfl ?_
   refine WL.y (X.loadBA (k := 0) Tryz.isAgg23 Tryz.sizeOf23 rfl rfl rfl) ?_
   refine WL.tY (T.yield (A := [blk b10 23 [.int .i64 ((gt L k).Lo), .int .i64 ((gt L k).Hi)]]) rfl rfl rfl (hy k _ _ _ (by omega) hmm rfl hI)) (by decide) (fun m2_ H2_ hT_ => ?_) (fun m2_ H2_ hT_ => ?_)
   ·obtain ⟨hle2_, s2_, rfl, hI2_⟩ := hT_
    replace hpl := hpl.mono hle2_
    replace hs2 := hs2.mono hle2_
    replace hp7 := hp7.mono hle2_
    refine WL.y (X.not rfl) ?_
    refine WL.z ?_
    refine WC.condF rfl ?_
    refine WC.skip ?_
    refine WK.nBlock ?_
    refine WK.nThen ?_
    refine WC.region ?_
    refine WL.y (X.add rfl rfl (by omega) (by omega)) ?_
    refine WL.mv rfl ?_
    refine WL.z ?_
    refine WK.next ((k + 1, m2_, s2_)) rfl (.cons _ (.refl _)) (.cons rfl (.cons rfl (.cons rfl (.cons rfl .nil)))) ?_ ?_
    ·exact ⟨Mem.le_trans hmm hle2_, hI2_, by omega⟩
    ·(dsimp only; omega)
   ·obtain ⟨hle2_, s2_, rfl, hI2_⟩ := hT_
    replace hpl := hpl.mono hle2_
    replace hs2 := hs2.mono hle2_
    replace hp7 := hp7.mono hle2_
    refine WL.y (X.not rfl) ?_
    refine WL.z ?_
    refine WC.condT rfl ?_
    refine WC.ret ?_
    refine WK.rBlock ?_
    refine WK.rThen ?_
    refine WK.rThen ?_
    refine WK.rBlock ?_
    refine WK.ret0 rfl (fun w' hw' => Ret.mut (hw'.weaken (.cons _ (.refl _))) ?_)
    exact ⟨s2_, rfl, .inr ⟨k + 1, by omega, hI2_⟩⟩
  ·refine WL.z ?_
   refine WC.seq ?_
   refine WC.condF rfl ?_
   refine WC.exit ?_
   refine WK.eThen ?_
   refine WK.eThen ?_
   refine WK.eHit ?_
   refine WK.end0 rfl (fun w' hw' => Ret.mut (hw'.weaken (.refl _)) ?_)
   obtain rfl : k = L.length := (by omega)
   exact ⟨ss, rfl, .inl hI⟩

theorem values127 (m : Mem) {v : Value} {L : List Span} (hL : Sl m v L) : Pure Tryz.prog 127 #[v] m (fun m' v => ∃ lb, v = .func (.func 213) #[] lb.toArray ∧ Iter Tryz.prog 213 lb m' false L.length (spA L)) := by
 refine Pure.start Tryz.func127 rfl Tryz.ntmps127 rfl fun wld => ?_
 refine WC.r ?_
 refine WL.tn (T.boxB (cs := [v]) rfl (one_cells hL.one)) (by decide) fun b1 => ?_
 refine WL.ag rfl ?_
 refine WL.z ?_
 refine WC.seq ?_
 refine WK.freezeS (α := (List Span)) (x := L) 0 rfl rfl (show Enc.rd (α := (List Span)) m [v] L from ⟨_, rfl, hL⟩) (fun m2 hle3 hp4 => ?_)
 replace hL := hL.mono hle3
 refine WC.region ?_
 refine WL.y (X.makeFunc (by intro x hx; simp at hx; subst hx; all_goals exact ⟨_, rfl⟩) rfl) ?_
 refine WL.ag rfl ?_
 refine WL.z ?_
 refine WC.ret ?_
 refine WK.ret1 rfl rfl (fun w' hw' => Ret.mem hw' ?_)
 exact ⟨_, rfl, vals213 _ hp4⟩

theorem appseq259 (m : Mem) {gf : Nat} {lb : List Value} {L : List Span} (hE : Enters Tryz.prog gf) (hit : Iter Tryz.prog gf lb m false L.length (spA L)) (hn : L.length ≤ 1000000) : Mut Tryz.prog 259 #[.slice none 0 0, .func (.func gf) #[] lb.toArray] m [] (fun _ Es u => Es = [rowF u 23 L] ∧ u.oneCell' = true) := by
 refine Mut.start Tryz.func259 rfl Tryz.ntmps259 rfl fun wld => ?_
 refine WC.r ?_
 refine WL.tn (T.boxB rfl rfl) (by decide) fun b1 => ?_
 refine WL.ag rfl ?_
 refine WL.z ?_
 refine WC.seq ?_
 refine WC.seq ?_
 refine WK.ownF Span 23 ?_
 refine WC.region ?_
 refine WL.mv rfl ?_
 refine WL.z ?_
 refine WC.block ?_
 refine WK.perm [blk b1 28 [.slice none 0 0], rowF (.slice none 0 0) 23 (([] : List Span))] ((List.Perm.cons _ (.refl _)).trans (List.perm_middle (l₁ := [rowF (.slice none 0 0) 23 (([] : List Span))]) (l₂ := []) (a := blk b1 28 [.slice none 0 0])).symm) ?_
 refine WC.rangeFuncA (S := Value × List Span) (G := Nat) (ps := [7]) (n := L.length) (A := spA L) rfl hE hit (fun x_ : Value × List Span => [blk b1 28 [x_.1], rowF (x_.1) 23 (x_.2)]) (fun i _ x_ => x_.2 = ovr i (gt L)) (fun _ _ _ _ => False) (Value.slice none 0 0, ([] : List Span)) rfl rfl (fun h => by cases h) (fun _ _ _ _ _ h => h) (by simp) (fun i m1 args h => by rw [show args = _ from h]; rfl) (fun b_ args gh => blk b_ 23 ((args.getD 0 undef).cells.toList) :: (fun x_ : Value × List Span => [blk b1 28 [x_.1], rowF (x_.1) 23 (x_.2)]) gh) (fun b_ args => (5, .pointer (some ⟨b_, 0, none⟩)) :: [(0, .slice none 0 0), (1, .func (.func gf) #[] lb.toArray), (2, .pointer (some ⟨b1, 0, none⟩)), (4, .slice none 0 0), (6, .func (.func gf) #[] lb.toArray)]) ?_ ?_ ?_ ?_ ?_
 ·intro lo B1 i m1_0 gh args KK hlen hA1 hm1_0 hKK
  have hA2 : args = [.agg [.int .i64 ((gt L i).Lo), .int .i64 ((gt L i).Hi)].toArray] := (by have := congrArg Array.toList (show args.toArray = #[.agg [.int .i64 ((gt L i).Lo), .int .i64 ((gt L i).Hi)].toArray] from hA1); simpa using this)
  subst hA2
  refine WC.region ?_
  refine WL.tn (T.alloc Tryz.zeroValue23 rfl) (by decide) fun b2 => ?_
  refine WL.ts (T.storeBA (k := 0) Tryz.sizeOf23 rfl rfl rfl (one_cons rfl (one_cons rfl one_nil)) rfl rfl) ?_
  refine WL.nil ?_
  exact WK.keep (.cons rfl (.cons rfl (.cons rfl (.cons rfl (.cons rfl (.cons rfl .nil)))))) (hKK b2)
 ·intro lo B1 i m1_0 gh args b_ hlen hi hm1_0 hA1 hI1
  have hA2 : args = [.agg [.int .i64 ((gt L i).Lo), .int .i64 ((gt L i).Hi)].toArray] := (by have := congrArg Array.toList (show args.toArray = #[.agg [.int .i64 ((gt L i).Lo), .int .i64 ((gt L i).Hi)].toArray] from hA1); simpa using this)
  subst hA2
  obtain ⟨vo, M_⟩ := gh
  replace hI1 : M_ = ovr i (gt L) := hI1
  subst hI1
  have hol_ : (ovr i (gt L)).length = i := ovr_len _ _
  show WK _ _ m1_0 [blk b_ 23 [.int .i64 ((gt L i).Lo), .int .i64 ((gt L i).Hi)], blk b1 28 [vo], rowF (vo) 23 (ovr i (gt L))] [(5, .pointer (some ⟨b_, 0, none⟩)), (0, .slice none 0 0), (1, .func (.func gf) #[] lb.toArray), (2, .pointer (some ⟨b1, 0, none⟩)), (4, .slice none 0 0), (6, .func (.func gf) #[] lb.toArray)] _
  refine WC.block ?_
  refine WC.region ?_
  refine WL.y (X.loadB (k := 1) Tryz.isAgg28 rfl rfl rfl) ?_
  refine WL.y (X.loadBA (k := 0) Tryz.isAgg23 Tryz.sizeOf23 rfl rfl rfl) ?_
  refine WL.tl (T.lit1 sl28 rfl rfl rfl (by decide)) (by decide) fun b3 => ?_
  refine WL.ta (T.appendF (k := 2) (a := gt L i) sl28 rfl rfl rfl rfl (by first | omega | (simp; done) | (simp; omega)) (by decide)) (by decide) (fun v4 => ?_)
  refine WL.own1 (k := 2) rfl (fun ho5 => ?_)
  refine WL.ts (T.storeB (k := 1) Tryz.sizeOf28 rfl rfl rfl ho5 (Nat.le_of_ble_eq_true rfl)) ?_
  refine WL.nil ?_
  refine WK.nBlock ?_
  have he6 : ((ovr i (gt L)) ++ [gt L i]) = (ovr (i + 1) (gt L)) := (ovr_snoc _ _).symm
  rw [he6]
  exact WK.goOn (v4, ovr (i + 1) (gt L)) (Mem.le_refl _) (.cons _ (.refl _)) rfl
 ·intro m1_0 gh hm1_0 hI1
  obtain ⟨vo, M_⟩ := gh
  replace hI1 : M_ = ovr L.length (gt L) := hI1
  subst hI1
  have hol_ : (ovr L.length (gt L)).length = L.length := ovr_len _ _
  refine WK.keep (σ' := [(0, .slice none 0 0), (1, .func (.func gf) #[] lb.toArray), (2, .pointer (some ⟨b1, 0, none⟩)), (4, .slice none 0 0), (6, .func (.func gf) #[] lb.toArray)]) (.cons rfl (.cons rfl (.cons rfl (.cons rfl (.cons rfl .nil))))) ?_
  show WK _ _ m1_0 [blk b1 28 [vo], rowF (vo) 23 (ovr L.length (gt L))] [(0, .slice none 0 0), (1, .func (.func gf) #[] lb.toArray), (2, .pointer (some ⟨b1, 0, none⟩)), (4, .slice none 0 0), (6, .func (.func gf) #[] lb.toArray)] _
  refine WK.nBlock ?_
  refine WK.nThen ?_
  refine WC.seq ?_
  have he7 : (ovr L.length (gt L)) = L := ovr_gts L
  rw [he7]
  refine WC.region ?_
  refine WL.y (X.loadB (k := 0) Tryz.isAgg28 rfl rfl rfl) ?_
  refine WL.own1 (k := 1) rfl (fun ho_ => ?_)
  refine WL.ag rfl ?_
  refine WL.z ?_
  refine WC.ret ?_
  refine WK.ret1 rfl rfl (fun w' hw' => Ret.mut (hw'.weaken (.cons _ (.cons_cons _ .slnil))) ?_)
  exact ⟨rfl, ho_⟩
 ·intro i m1 gh hm1 hi hI1
  exact hI1.elim
 ·intro id i m1 gh hm1 hi hI1
  exact hI1.elim

theorem collect212 (m : Mem) {gf : Nat} {lb : List Value} {L : List Span} (hE : Enters Tryz.prog gf) (hit : Iter Tryz.prog gf lb m false L.length (spA L)) (hn : L.length ≤ 1000000) : Mut Tryz.prog 212 #[.func (.func gf) #[] lb.toArray] m [] (fun _ Es u => Es = [rowF u 23 L] ∧ u.oneCell' = true) := by
 refine Mut.start Tryz.func212 rfl Tryz.ntmps212 rfl fun wld => ?_
 refine WC.r ?_
 refine WL.ag rfl ?_
 refine WL.z ?_
 refine WC.r ?_
 refine WL.mv rfl ?_
 refine WL.tM (T.callO Tryz.call259 rfl (appseq259 _ (L := L) hE hit (by omega))) (by decide) (fun m1 Es2 v3 hle4 hR_ => ?_)
 obtain ⟨rfl, ho5⟩ := hR_
 refine WL.own1 (k := 0) rfl (fun ho_ => ?_)
 refine WL.ag rfl ?_
 refine WL.z ?_
 refine WC.ret ?_
 refine WK.ret1 rfl rfl (fun w' hw' => Ret.mut hw' ?_)
 exact ⟨rfl, ho_⟩

theorem sorted125 (m : Mem) {gf : Nat} {lb : List Value} {L : List Span} (hE : Enters Tryz.prog gf) (hit : Iter Tryz.prog gf lb m false L.length (spA L)) (hn : L.length ≤ 1000000) (hB : bdS L) {fc : Nat} {cf : Span → Span → Int} (hC : CmpOk fc cf) : Mut Tryz.prog 125 #[.func (.func gf) #[] lb.toArray, .func (.func fc) #[] #[]] m [] (fun _ Es u => ∃ R : List Span, Es = [rowF u 23 R] ∧ u.oneCell' = true ∧ R.Perm L ∧ Srt Span.Lo R 0 R.length) := by
 refine Mut.start Tryz.func125 rfl Tryz.ntmps125 rfl fun wld => ?_
 refine WC.r ?_
 refine WL.ag rfl ?_
 refine WL.z ?_
 refine WC.r ?_
 refine WL.mv rfl ?_
 refine WL.tM (T.callO Tryz.call212 rfl (collect212 _ (L := L) hE hit (by omega))) (by decide) (fun m1 Es2 v3 hle4 hR_ => ?_)
 obtain ⟨rfl, ho5⟩ := hR_
 refine WL.ag rfl ?_
 refine WL.z ?_
 refine WC.r ?_
 refine WL.mv rfl ?_
 refine WL.mv rfl ?_
 refine WL.tM (T.callP (A := []) Tryz.call148 rfl (.refl _) (sort148 _ (L := L) (by omega) hB hC)) (by decide) (fun m6 Es_ u_ hle7 hR_ => ?_)
 obtain ⟨rfl, R8, rfl, hR9⟩ := hR_
 refine WL.z ?_
 refine WC.r ?_
 refine WL.mv rfl ?_
 refine WL.own1 (k := 0) rfl (fun ho_ => ?_)
 refine WL.ag rfl ?_
 refine WL.z ?_
 refine WC.ret ?_
 refine WK.ret1 rfl rfl (fun w' hw' => Ret.mut hw' ?_)
 exact ⟨_, rfl, ho_, hR9⟩

theorem compare88 (m : Mem) (x : Int) (y : Int)   : Exact Tryz.prog 88 #[.int .i64 (x), .int .i64 (y)] m (.int .i64 (cmpI x y)) := by
 refine Exact.start Tryz.func88 rfl Tryz.ntmps88 rfl fun wld => ?_
 refine WC.r ?_
 refine WL.ag rfl ?_
 refine WL.z ?_
 refine WC.r ?_
 refine WL.mv rfl ?_
 refine WL.y (X.call Tryz.call169 rfl (nan169 _ _ )) ?_
 refine WL.ag rfl ?_
 refine WL.z ?_
 refine WC.r ?_
 refine WL.mv rfl ?_
 refine WL.y (X.call Tryz.call169 rfl (nan169 _ _ )) ?_
 refine WL.ag rfl ?_
 refine WL.z ?_
 refine WC.seq ?_
 refine WC.r ?_
 refine WL.mv rfl ?_
 refine WL.z ?_
 refine WC.condF rfl ?_
 refine WC.skip ?_
 refine WK.nThen ?_
 refine WC.seq ?_
 refine WC.r ?_
 refine WL.mv rfl ?_
 refine WL.z ?_
 refine WC.condF rfl ?_
 refine WC.skip ?_
 refine WK.nThen ?_
 refine WC.seq ?_
 refine WC.r ?_
 refine WL.mv rfl ?_
 refine WL.mv rfl ?_
 refine WL.cond (X.lss rfl rfl) (by decide) (fun h1 => ?_) (fun h1 => ?_)
 ·refine WL.z ?_
  refine WC.condT rfl ?_
  refine WC.r ?_
  refine WL.ag rfl ?_
  refine WL.z ?_
  refine WC.ret ?_
  refine WK.rThen ?_
  refine WK.ret1 rfl rfl (fun w' hw' => Ret.exact hw' ?_)
  first | exact int_eq (cmpI_lt (by omega)).symm | exact int_eq (cmpI_gt (by omega) (by omega)).symm | exact int_eq (cmpI_eq (by omega) (by omega)).symm
 ·refine WL.z ?_
  refine WC.condF rfl ?_
  refine WC.skip ?_
  refine WK.nThen ?_
  refine WC.seq ?_
  refine WC.r ?_
  refine WL.mv rfl ?_
  refine WL.mv rfl ?_
  refine WL.cond (X.gtr rfl rfl) (by decide) (fun h2 => ?_) (fun h2 => ?_)
  ·refine WL.z ?_
   refine WC.condT rfl ?_
   refine WC.r ?_
   refine WL.ag rfl ?_
   refine WL.z ?_
   refine WC.ret ?_
   refine WK.rThen ?_
   refine WK.ret1 rfl rfl (fun w' hw' => Ret.exact hw' ?_)
   first | exact int_eq (cmpI_lt (by omega)).symm | exact int_eq (cmpI_gt (by omega) (by omega)).symm | exact int_eq (cmpI_eq (by omega) (by omega)).symm
  ·refine WL.z ?_
   refine WC.condF rfl ?_
   refine WC.skip ?_
   refine WK.nThen ?_
   refine WC.r ?_
   refine WL.ag rfl ?_
   refine WL.z ?_
   refine WC.ret ?_
   refine WK.ret1 rfl rfl (fun w' hw' => Ret.exact hw' ?_)
   first | exact int_eq (cmpI_lt (by omega)).symm | exact int_eq (cmpI_gt (by omega) (by omega)).symm | exact int_eq (cmpI_eq (by omega) (by omega)).symm

theorem cmp126 (m : Mem) (ca : List Value) (a : Span) (ha : Enc.rd m ca a) (cb : List Value) (b : Span) (hb : Enc.rd m cb b)   : Exact Tryz.prog 126 #[.agg ca.toArray, .agg cb.toArray] m (.int .i64 (cmpI a.Lo b.Lo)) := by
 obtain rfl := ha
 obtain rfl := hb
 refine Exact.start Tryz.func126 rfl Tryz.ntmps126 rfl fun wld => ?_
 refine WC.r ?_
 refine WL.tn (T.boxB rfl rfl) (by decide) fun b1 => ?_
 refine WL.tn (T.boxB rfl rfl) (by decide) fun b2 => ?_
 refine WL.ag rfl ?_
 refine WL.z ?_
 refine WC.r ?_
 refine WL.y (X.field Tryz.runUnderlying23 rfl Tryz.sizeOf3 rfl) ?_
 refine WL.y (X.loadB (k := 1) Tryz.isAgg3 rfl rfl rfl) ?_
 refine WL.y (X.field Tryz.runUnderlying23 rfl Tryz.sizeOf3 rfl) ?_
 refine WL.y (X.loadB (k := 0) Tryz.isAgg3 rfl rfl rfl) ?_
 refine WL.y (X.call Tryz.call88 rfl (compare88 _ _ _ )) ?_
 refine WL.ag rfl ?_
 refine WL.z ?_
 refine WC.ret ?_
 refine WK.ret1 rfl rfl (fun w' hw' => Ret.exact hw' ?_)
 first | rfl | (simp [*]; done)

theorem cmpOk126 : CmpOk 126 (fun a b => cmpI a.Lo b.Lo) := ⟨Tryz.call126, fun m a b => cmp126 m _ a rfl _ b rfl, fun _ _ _ _ => cmpI_neg⟩

set_option maxHeartbeats 1000000 in
theorem gather66 (m : Mem) {gf : Nat} {lb : List Value} {L : List Span} (hE : Enters Tryz.prog gf) (hit : Iter Tryz.prog gf lb m false L.length (spA L)) (hn : L.length ≤ 1000000) (hv : spV L) : Mut Tryz.prog 66 #[.func (.func gf) #[] lb.toArray] m [] (fun _ Es u => Es = [rowF u 23 (unionC L)] ∧ u.oneCell' = true) := by
 refine Mut.start Tryz.func66 rfl Tryz.ntmps66 rfl fun wld => ?_
 refine WC.r ?_
 refine WL.ag rfl ?_
 refine WL.z ?_
 refine WC.r ?_
 refine WL.mv rfl ?_
 refine WL.tM (T.callO Tryz.call125 rfl (sorted125 _ (L := L) hE hit (by omega) (spV_bdS hv) cmpOk126)) (by decide) (fun m1 Es2 v3 hle4 hR_ => ?_)
 obtain ⟨R5, rfl, ho6, hR7⟩ := hR_
 refine WL.ag rfl ?_
 refine WL.z ?_
 refine WC.seq ?_
 refine WK.ownF Span 23 ?_
 refine WC.region ?_
 refine WL.ag rfl ?_
 refine WL.z ?_
 refine WC.seq ?_
 refine WC.seq ?_
 have he8 : (([] : List Span)) = (mrgL (R5.take 0)) := rfl
 rw [he8]
 have hRl_ : R5.length = L.length := hR7.1.length_eq
 have hRv_ : spV R5 := spV_perm hv hR7.1
 refine WC.region ?_
 refine WL.mv rfl ?_
 refine WL.y (X.lenF (k := 1) Tryz.runUnderlying28 rfl rfl) ?_
 refine WL.mv rfl ?_
 refine WL.z ?_
 refine WC.block ?_
 refine WC.loop (G := Nat × Value) (fun (k, vq) => R5.length - k) (fun (k, vq) => m1) (fun (k, vq) => [rowF (vq) 23 (mrgL (R5.take k)), rowF (v3) 23 (R5)]) (fun (k, vq) => [(4, vq), (10, v3), (11, .int .i64 (↑R5.length)), (12, .int .i64 (↑k))]) (fun (k, vq) => k ≤ R5.length) ((0, Value.slice none 0 0)) rfl (.refl _) (.cons rfl (.cons rfl (.cons rfl (.cons rfl .nil)))) ?_ ?_
 ·exact Nat.zero_le _
 ·rintro ⟨k, vq⟩ hF9
  show WK _ _ m1 [rowF (vq) 23 (mrgL (R5.take k)), rowF (v3) 23 (R5)] [(4, vq), (10, v3), (11, .int .i64 (↑R5.length)), (12, .int .i64 (↑k))] _
  replace hF9 : k ≤ R5.length := hF9
  have hk := hF9
  have hmb_ := spV_mrgL (l := R5.take k) (fun s hs => hRv_ s (List.mem_of_mem_take hs))
  have hml2_ := hmb_.2
  rw [List.length_take] at hml2_
  have hml3_ : (mrgL (R5.take k)).length ≤ k := (by omega)
  have hlast_ : 0 < (mrgL (R5.take k)).length → -1000000000 ≤ (gt (mrgL (R5.take k)) ((mrgL (R5.take k)).length - 1)).Hi ∧ (gt (mrgL (R5.take k)) ((mrgL (R5.take k)).length - 1)).Hi ≤ 1000000000 := fun h_ => (by have h1_ := spV_at hmb_.1 (i := (mrgL (R5.take k)).length - 1) (by omega); omega)
  refine WC.r ?_
  refine WL.cond (X.lss rfl rfl) (by decide) (fun h10 => ?_) (fun h10 => ?_)
  ·refine WL.z ?_
   refine WC.seq ?_
   refine WC.condT rfl ?_
   refine WC.skip ?_
   refine WK.nThen ?_
   refine WC.seq ?_
   refine WC.block ?_
   refine WC.r ?_
   refine WL.y (X.idxRowE (k := 1) k Tryz.runUnderlying28 Tryz.sizeOf23 rfl rfl rfl (by omega) (by first | omega | (simp; omega) | simp)) ?_
   refine WL.y (X.loadFs (k := 1) (i := k) (off := 0) (us := [.int .i64 (((gt R5 k)).Lo), .int .i64 (((gt R5 k)).Hi)]) Tryz.isAgg23 Tryz.sizeOf23 rfl rfl (by first | omega | (simp; omega) | simp) rfl rfl) ?_
   refine WL.tn (T.alloc Tryz.zeroValue23 rfl) (by decide) fun b11 => ?_
   refine WL.ts (T.storeBA (k := 0) Tryz.sizeOf23 rfl rfl rfl (one_cons rfl (one_cons rfl one_nil)) rfl rfl) ?_
   refine WL.z ?_
   refine WC.r ?_
   refine WL.mv rfl ?_
   refine WL.y (X.lenF (k := 1) Tryz.runUnderlying28 rfl rfl) ?_
   refine WL.ag rfl ?_
   refine WL.z ?_
   refine WC.seq ?_
   refine WC.draw (π := (.cons 0 (.cons 1 (.cons 2 (.cons 3 (.cons 4 (.cons 5 (.cons 6 (.cons 7 (.cons 8 (.cons 9 (.cons 10 (.cons 11 (.cons 12 (.cons 13 .done))))))))))))))) [] [] rfl (by kernel_rfl) ?_
   refine DW.y rfl rfl (X.move rfl) ?_
   refine DW.cond rfl rfl (X.gtr rfl rfl) (by decide) (fun h12 => ?_) (fun h12 => ?_)
   ·refine DW.y rfl rfl (X.move rfl) ?_
    refine DW.y rfl rfl (X.field Tryz.runUnderlying23 rfl Tryz.sizeOf3 rfl) ?_
    refine DW.y rfl rfl (X.loadB (k := 0) Tryz.isAgg3 rfl rfl rfl) ?_
    refine DW.y rfl rfl (X.move rfl) ?_
    refine DW.y rfl rfl (X.move rfl) ?_
    refine DW.y rfl rfl (X.sub rfl rfl (by omega) (by omega)) ?_
    refine DW.y rfl rfl (X.idxRowE (k := 1) ((mrgL (R5.take k)).length - 1) Tryz.runUnderlying28 Tryz.sizeOf23 rfl rfl rfl (by omega) (by first | omega | (simp; omega) | simp)) ?_
    refine DW.y rfl rfl (X.field Tryz.runUnderlying23 rfl Tryz.sizeOf3 rfl) ?_
    refine DW.y rfl rfl (X.loadFp (k := 1) (i := (mrgL (R5.take k)).length - 1) (off := 1) (u := .int .i64 (((gt (mrgL (R5.take k)) ((mrgL (R5.take k)).length - 1))).Hi)) Tryz.isAgg3 rfl rfl (by first | omega | (simp; omega) | simp) rfl) ?_
    refine DW.y rfl rfl (X.add rfl rfl (by omega) (by omega)) ?_
    refine DW.cond rfl rfl (X.leq rfl rfl) (by decide) (fun h13 => ?_) (fun h13 => ?_)
    ·refine DW.y rfl rfl (X.pickT rfl rfl rfl) ?_
     refine DW.nil ?_
     refine WK.nThen ?_
     refine WC.condT rfl ?_
     refine WC.draw (π := (.cons 0 (.cons 1 (.cons 2 (.cons 3 (.cons 4 (.cons 5 (.cons 6 (.cons 7 (.cons 8 (.cons 9 (.cons 10 (.cons 11 (.cons 12 (.cons 13 (.cons 14 .done)))))))))))))))) [14] [14] rfl (by kernel_rfl) ?_
     refine DW.y rfl rfl (X.move rfl) ?_
     refine DW.y rfl rfl (X.move rfl) ?_
     refine DW.y rfl rfl (X.sub rfl rfl (by omega) (by omega)) ?_
     refine DW.y rfl rfl (X.move rfl) ?_
     refine DW.y rfl rfl (X.move rfl) ?_
     refine DW.y rfl rfl (X.sub rfl rfl (by omega) (by omega)) ?_
     refine DW.y rfl rfl (X.idxRowE (k := 1) ((mrgL (R5.take k)).length - 1) Tryz.runUnderlying28 Tryz.sizeOf23 rfl rfl rfl (by omega) (by first | omega | (simp; omega) | simp)) ?_
     refine DW.y rfl rfl (X.field Tryz.runUnderlying23 rfl Tryz.sizeOf3 rfl) ?_
     refine DW.y rfl rfl (X.loadFp (k := 1) (i := (mrgL (R5.take k)).length - 1) (off := 1) (u := .int .i64 (((gt (mrgL (R5.take k)) ((mrgL (R5.take k)).length - 1))).Hi)) Tryz.isAgg3 rfl rfl (by first | omega | (simp; omega) | simp) rfl) ?_
     refine DW.y rfl rfl (X.field Tryz.runUnderlying23 rfl Tryz.sizeOf3 rfl) ?_
     refine DW.y rfl rfl (X.loadB (k := 0) Tryz.isAgg3 rfl rfl rfl) ?_
     refine DW.y rfl rfl (X.mx rfl rfl) ?_
     refine DW.y rfl rfl (X.idxRowE (k := 1) ((mrgL (R5.take k)).length - 1) Tryz.runUnderlying28 Tryz.sizeOf23 rfl rfl rfl (by omega) (by first | omega | (simp; omega) | simp)) ?_
     refine DW.y rfl rfl (X.field Tryz.runUnderlying23 rfl Tryz.sizeOf3 rfl) ?_
     refine DW.ts rfl rfl rfl rfl (T.storeFp (k := 1) (i := (mrgL (R5.take k)).length - 1) (off := 1) (us := [.int .i64 (max (((gt (mrgL (R5.take k)) ((mrgL (R5.take k)).length - 1))).Hi) (((gt R5 k)).Hi))]) ((Span.mk (((gt (mrgL (R5.take k)) ((mrgL (R5.take k)).length - 1))).Lo) (max (((gt (mrgL (R5.take k)) ((mrgL (R5.take k)).length - 1))).Hi) (((gt R5 k)).Hi)))) Tryz.sizeOf3 rfl rfl rfl rfl (Nat.zero_lt_succ _) rfl (by first | omega | (simp; omega) | simp) rfl rfl (one_cons rfl one_nil)) ?_
     refine DW.nil ?_
     refine WK.nBlock ?_
     refine WK.nThen ?_
     refine WC.region ?_
     refine WL.y (X.add rfl rfl (by omega) (by omega)) ?_
     refine WL.mv rfl ?_
     refine WL.z ?_
     have he14 : ((mrgL (R5.take k)).set ((mrgL (R5.take k)).length - 1) ((Span.mk (((gt (mrgL (R5.take k)) ((mrgL (R5.take k)).length - 1))).Lo) (max (((gt (mrgL (R5.take k)) ((mrgL (R5.take k)).length - 1))).Hi) (((gt R5 k)).Hi))))) = (mrgL (R5.take (k + 1))) := ((mrgL_take (by omega)).trans (mrg1_yes ⟨by omega, by omega⟩)).symm
     rw [he14]
     refine WK.next ((k + 1, vq)) rfl (.cons _ (.cons_cons _ (.cons_cons _ .slnil))) (.cons rfl (.cons rfl (.cons rfl (.cons rfl .nil)))) ?_ ?_
     ·omega
     ·(dsimp only; omega)
    ·refine DW.y rfl rfl (X.pickT rfl rfl rfl) ?_
     refine DW.nil ?_
     refine WK.nThen ?_
     refine WC.condF rfl ?_
     refine WC.region ?_
     refine WL.mv rfl ?_
     refine WL.y (X.loadBA (k := 0) Tryz.isAgg23 Tryz.sizeOf23 rfl rfl rfl) ?_
     refine WL.tl (T.lit1 sl28 rfl rfl rfl (by decide)) (by decide) fun b15 => ?_
     refine WL.ta (T.appendF (k := 1) (a := gt R5 k) sl28 rfl rfl rfl rfl (by first | omega | (simp; done) | (simp; omega)) (by decide)) (by decide) (fun v16 => ?_)
     refine WL.ag rfl ?_
     refine WL.nil ?_
     refine WK.nBlock ?_
     refine WK.nThen ?_
     refine WC.region ?_
     refine WL.y (X.add rfl rfl (by omega) (by omega)) ?_
     refine WL.mv rfl ?_
     refine WL.z ?_
     have he17 : ((mrgL (R5.take k)) ++ [gt R5 k]) = (mrgL (R5.take (k + 1))) := ((mrgL_take (by omega)).trans (mrg1_no (fun h_ => by have h1_ := h_.1; have h2_ := h_.2; omega))).symm
     rw [he17]
     refine WK.next ((k + 1, v16)) rfl (.cons _ (.cons_cons _ (.cons_cons _ .slnil))) (.cons rfl (.cons rfl (.cons rfl (.cons rfl .nil)))) ?_ ?_
     ·omega
     ·(dsimp only; omega)
   ·refine DW.y rfl rfl (X.move rfl) ?_
    refine DW.no rfl rfl (by decide) ?_
    refine DW.no rfl rfl (by decide) ?_
    refine DW.no rfl rfl (by decide) ?_
    refine DW.no rfl rfl (by decide) ?_
    refine DW.no rfl rfl (by decide) ?_
    refine DW.no rfl rfl (by decide) ?_
    refine DW.no rfl rfl (by decide) ?_
    refine DW.no rfl rfl (by decide) ?_
    refine DW.no rfl rfl (by decide) ?_
    refine DW.no rfl rfl (by decide) ?_
    refine DW.y rfl rfl (X.pickF rfl rfl rfl) ?_
    refine DW.nil ?_
    refine WK.nThen ?_
    refine WC.condF rfl ?_
    refine WC.region ?_
    refine WL.mv rfl ?_
    refine WL.y (X.loadBA (k := 0) Tryz.isAgg23 Tryz.sizeOf23 rfl rfl rfl) ?_
    refine WL.tl (T.lit1 sl28 rfl rfl rfl (by decide)) (by decide) fun b18 => ?_
    refine WL.ta (T.appendF (k := 1) (a := gt R5 k) sl28 rfl rfl rfl rfl (by first | omega | (simp; done) | (simp; omega)) (by decide)) (by decide) (fun v19 => ?_)
    refine WL.ag rfl ?_
    refine WL.nil ?_
    refine WK.nBlock ?_
    refine WK.nThen ?_
    refine WC.region ?_
    refine WL.y (X.add rfl rfl (by omega) (by omega)) ?_
    refine WL.mv rfl ?_
    refine WL.z ?_
    have he20 : ((mrgL (R5.take k)) ++ [gt R5 k]) = (mrgL (R5.take (k + 1))) := ((mrgL_take (by omega)).trans (mrg1_no (fun h_ => by have h1_ := h_.1; have h2_ := h_.2; omega))).symm
    rw [he20]
    refine WK.next ((k + 1, v19)) rfl (.cons _ (.cons_cons _ (.cons_cons _ .slnil))) (.cons rfl (.cons rfl (.cons rfl (.cons rfl .nil)))) ?_ ?_
    ·omega
    ·(dsimp only; omega)
  ·refine WL.z ?_
   refine WC.seq ?_
   refine WC.condF rfl ?_
   refine WC.exit ?_
   refine WK.eThen ?_
   refine WK.eThen ?_
   refine WK.eHit ?_
   refine WK.nThen ?_
   refine WC.seq ?_
   have hkR_ : k = R5.length := (by omega)
   have he21 : (mrgL (R5.take k)) = (unionC L) := (by rw [hkR_, List.take_length]; exact mrgL_union hR7.1 hR7.2 (spV_valid hv))
   rw [he21]
   refine WC.region ?_
   refine WL.mv rfl ?_
   refine WL.own1 (k := 0) rfl (fun ho_ => ?_)
   refine WL.ag rfl ?_
   refine WL.z ?_
   refine WC.ret ?_
   refine WK.ret1 rfl rfl (fun w' hw' => Ret.mut (hw'.weaken (.cons_cons _ (.cons _ .slnil))) ?_)
   exact ⟨rfl, ho_⟩

theorem both67 (m : Mem) {va vb : Value} {A B : List Span} (hA : Sl m va A) (hB : Sl m vb B) (ha : A.length ≤ 50000) (hb : B.length ≤ 50000) : Pure Tryz.prog 67 #[va, vb] m (fun m' v => ∃ lb, v = .func (.func 213) #[] lb.toArray ∧ Iter Tryz.prog 213 lb m' false (A ++ B).length (spA (A ++ B))) := by
 refine Pure.start Tryz.func67 rfl Tryz.ntmps67 rfl fun wld => ?_
 refine WC.r ?_
 refine WL.ag rfl ?_
 refine WL.z ?_
 refine WC.r ?_
 refine WL.mv rfl ?_
 refine WL.mv rfl ?_
 refine WL.tm (T.litM (α := List Span) (vals := [va, vb]) (L := [A, B]) sl67 rfl (.cons (one_cells hA.one) ⟨_, rfl, hA⟩ (.cons (one_cells hB.one) ⟨_, rfl, hB⟩ .nil)) rfl rfl) (by decide) (fun m1 v2 hle3 hs4 => ?_)
 replace hA := hA.mono hle3
 replace hB := hB.mono hle3
 refine WL.tM (T.callO Tryz.call128 rfl (concat128 _ hs4 (by simp) (two_len (by omega) (by omega)))) (by decide) (fun m5 Es6 v7 hle8 hR_ => ?_)
 obtain ⟨rfl, ho9⟩ := hR_
 replace hA := hA.mono hle8
 replace hB := hB.mono hle8
 replace hs4 := hs4.mono hle8
 have he10 : (catN ([A, B]) [A, B].length) = (A ++ B) := catN_two A B
 rw [he10]
 refine WL.freezeF 0 rfl rfl (by rw [List.length_append]; unfold lenB; omega) (fun m11 hle12 hs13 => ?_)
 replace hA := hA.mono hle12
 replace hB := hB.mono hle12
 replace hs4 := hs4.mono hle12
 refine WL.tm (T.call Tryz.call127 rfl (values127 _ hs13)) (by decide) (fun m14 _ hle15 hR_ => ?_)
 obtain ⟨lb16, rfl, hit17⟩ := hR_
 replace hA := hA.mono hle15
 replace hB := hB.mono hle15
 replace hs4 := hs4.mono hle15
 replace hs13 := hs13.mono hle15
 refine WL.ag rfl ?_
 refine WL.z ?_
 refine WC.ret ?_
 refine WK.ret1 rfl rfl (fun w' hw' => Ret.mem hw' ?_)
 exact ⟨_, rfl, hit17⟩

theorem union22 (m : Mem) (va : Value) (a : List Span) (ha : Sl m va a) (vb : Value) (b : List Span) (hb : Sl m vb b)   : Pure Tryz.prog 22 #[va, vb] m (fun m' v => ∃ r0, v = .tuple #[r0, .int .i64 (uniE a b)] ∧ Sl m' r0 (uniR a b)) := by
 have la := ha.le
 have lb := hb.le
 refine Pure.start Tryz.func22 rfl Tryz.ntmps22 rfl fun wld => ?_
 refine WC.r ?_
 refine WL.ag rfl ?_
 refine WL.ag rfl ?_
 refine WL.z ?_
 refine WC.seq ?_
 refine WC.r ?_
 refine WL.mv rfl ?_
 refine WL.cond (X.call Tryz.call65 rfl (small65 _ _ _ ha )) (by decide) (fun h1 => ?_) (fun h1 => ?_)
 ·refine WL.y (X.not rfl) ?_
  refine WL.mv rfl ?_
  refine WL.yes rfl rfl ?_
  refine WL.mv rfl ?_
  refine WL.yes rfl rfl ?_
  refine WL.cond (X.call Tryz.call65 rfl (small65 _ _ _ hb )) (by decide) (fun h2 => ?_) (fun h2 => ?_)
  ·refine WL.yes rfl rfl ?_
   refine WL.y (X.not rfl) ?_
   refine WL.y (X.pickF rfl rfl rfl) ?_
   refine WL.z ?_
   refine WC.condF rfl ?_
   refine WC.skip ?_
   refine WK.nThen ?_
   refine WC.seq ?_
   have hsm_ : smallP a ∧ smallP b := ⟨by first | assumption | (apply Classical.byContradiction; assumption), by first | assumption | (apply Classical.byContradiction; assumption)⟩
   have hs1_ := hsm_.1.1
   have hs2_ := hsm_.2.1
   have hvv_ := spV_app (setP_spV hsm_.1.2) (setP_spV hsm_.2.2)
   refine WC.region ?_
   refine WL.mv rfl ?_
   refine WL.mv rfl ?_
   refine WL.tm (T.call Tryz.call67 rfl (both67 _ ha hb (by omega) (by omega))) (by decide) (fun m3 _ hle4 hR_ => ?_)
   obtain ⟨lb5, rfl, hit6⟩ := hR_
   replace ha := ha.mono hle4
   replace hb := hb.mono hle4
   refine WL.tM (T.callO Tryz.call66 rfl (gather66 _ (L := (a ++ b)) Tryz.call213 hit6 (by rw [List.length_append]; omega) hvv_)) (by decide) (fun m7 Es8 v9 hle10 hR_ => ?_)
   obtain ⟨rfl, ho11⟩ := hR_
   replace ha := ha.mono hle10
   replace hb := hb.mono hle10
   refine WL.ag rfl ?_
   refine WL.ag rfl ?_
   refine WL.z ?_
   refine WC.ret ?_
   refine WK.freezeF 0 rfl rfl (by have h_ := unionC_len hvv_; rw [List.length_append] at h_; unfold lenB; omega) (fun m12 hle13 hs14 => ?_)
   replace ha := ha.mono hle13
   replace hb := hb.mono hle13
   refine WK.ret2 rfl rfl rfl (fun w' hw' => Ret.mem hw' ?_)
   exact ⟨_, tup2 rfl (int_eq (uniE_yes hsm_).symm), by rw [uniR_yes hsm_]; exact hs14⟩
  ·refine WL.yes rfl rfl ?_
   refine WL.y (X.not rfl) ?_
   refine WL.y (X.pickF rfl rfl rfl) ?_
   refine WL.z ?_
   refine WC.condT rfl ?_
   refine WC.r ?_
   refine WL.ag rfl ?_
   refine WL.ag rfl ?_
   refine WL.z ?_
   refine WC.ret ?_
   refine WK.rThen ?_
   refine WK.ret2 rfl rfl rfl (fun w' hw' => Ret.mem hw' ?_)
   (have hn_ : ¬ (smallP a ∧ smallP b) := (fun h_ => by have h1_ := h_.1; have h2_ := h_.2; contradiction)); exact ⟨_, tup2 rfl (int_eq (uniE_no hn_).symm), by rw [uniR_no hn_]; exact .nil⟩
 ·refine WL.y (X.not rfl) ?_
  refine WL.mv rfl ?_
  refine WL.no rfl rfl rfl (by decide) ?_
  refine WL.no rfl rfl rfl (by decide) ?_
  refine WL.no rfl rfl rfl (by decide) ?_
  refine WL.y (X.pickT rfl rfl rfl) ?_
  refine WL.z ?_
  refine WC.condT rfl ?_
  refine WC.r ?_
  refine WL.ag rfl ?_
  refine WL.ag rfl ?_
  refine WL.z ?_
  refine WC.ret ?_
  refine WK.rThen ?_
  refine WK.ret2 rfl rfl rfl (fun w' hw' => Ret.mem hw' ?_)
  (have hn_ : ¬ (smallP a ∧ smallP b) := (fun h_ => by have h1_ := h_.1; have h2_ := h_.2; contradiction)); exact ⟨_, tup2 rfl (int_eq (uniE_no hn_).symm), by rw [uniR_no hn_]; exact .nil⟩

end Go.Proofs.T10
