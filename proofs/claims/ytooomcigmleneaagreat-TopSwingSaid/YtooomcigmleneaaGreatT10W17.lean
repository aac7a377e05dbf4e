import Derived.Test.YtooomcigmleneaaGreatKxW
import Derived.Test.YtooomcigmleneaaGreatT10Forg
import Derived.Test.YtooomcigmleneaaGreatT10W14
/- Top: walks, seventeenth part, by program. -/
namespace Go.Proofs.T10
open Go Go.Kx
set_option linter.unusedSimpArgs false
set_option linter.unusedVariables false

set_option maxRecDepth 20000 in
set_option maxHeartbeats 8000000 in
theorem ink28 (m : Mem) (cp : List Value) (p : Paper) (hp : Enc.rd m cp p) (vl : Value) (l : List Point) (hl : Sl m vl l) (vblots : Value) (blots : List Int) (hblots : Sl m vblots blots)   : Pure Tryz.prog 28 #[.agg cp.toArray, vl, vblots] m (fun m' v => ∃ r0, v = .tuple #[.agg r0.toArray, .int .i64 (inkE p l blots)] ∧ Enc.rd m' r0 ((Inked.mk (inkC p l blots)))) := by
 obtain rfl := hp
 have ll := hl.le
 have lblots := hblots.le
 refine Pure.start Tryz.func28 rfl Tryz.ntmps28 rfl fun wld => ?_
 refine WC.r ?_
 refine WL.tn (T.boxB rfl rfl) (by decide) fun b1 => ?_
 refine WL.tn (T.alloc Tryz.zeroValue104 rfl) (by decide) fun b2 => ?_
 refine WL.ag rfl ?_
 refine WL.z ?_
 refine WC.seq ?_
 refine WK.freezeS (α := Paper) (x := p) 1 rfl rfl (show Enc.rd (α := Paper) m [.int .i64 (p.Pitch), .int .i64 (p.Height), .int .i64 (p.Radius), .int .i64 (p.Low), .int .i64 (p.High), .int .i64 (p.Columns), .int .i64 (p.Along.Lo), .int .i64 (p.Along.Hi), .int .i64 (p.Across.Lo), .int .i64 (p.Across.Hi)] p from rfl) (fun m3 hle4 hp5 => ?_)
 replace hl := hl.mono hle4
 replace hblots := hblots.mono hle4
 refine WC.region ?_
 refine WL.xe (E.loadAgg Tryz.isAgg25 Tryz.sizeOf25 rfl hp5) (by decide) (fun c6 hc7 => ?_)
 obtain rfl := hc7
 refine WL.mv rfl ?_
 refine WL.tm (T.call Tryz.call73 rfl (read73 _ (p := p) hl)) (by decide) (fun m8 _ hle9 hR_ => ?_)
 obtain ⟨x10, rfl, hr11⟩ := hR_
 replace hl := hl.mono hle9
 replace hblots := hblots.mono hle9
 replace hp5 := hp5.mono hle9
 refine WL.mv rfl ?_
 refine WL.y (X.extract rfl rfl) ?_
 refine WL.y (X.extract rfl rfl) ?_
 refine WL.tn (T.alloc Tryz.zeroValue179 rfl) (by decide) fun b12 => ?_
 refine WL.ts (T.storeBA (k := 0) Tryz.sizeOf179 rfl rfl rfl (one_cons rfl (one_cons rfl (one_cons rfl (one_cons rfl (one_cons rfl (one_cons rfl (one_cons rfl (one_cons rfl (one_cons rfl (one_cons rfl one_nil)))))))))) rfl rfl) ?_
 refine WL.ag rfl ?_
 refine WL.z ?_
 refine WC.seq ?_
 refine WC.r ?_
 refine WL.mv rfl ?_
 refine WL.condn (X.neq rfl rfl) (by decide) (fun h13 => ?_) (fun h13 => ?_)
 ·refine WL.z ?_
  refine WC.condT rfl ?_
  refine WC.r ?_
  refine WL.y (V := Value.agg [.slice none 0 0].toArray) (X.build Tryz.zeroValue104 Tryz.runUnderlying104 (places104 _ Tryz.underlying104) rfl rfl) ?_
  refine WL.mv rfl ?_
  refine WL.ts (T.storeBA (k := 1) Tryz.sizeOf104 rfl rfl rfl (one_cons rfl one_nil) rfl rfl) ?_
  refine WL.ag rfl ?_
  refine WL.z ?_
  refine WC.ret ?_
  refine WK.rThen ?_
  refine WK.retC2 1 rfl rfl rfl rfl Tryz.isAgg104 Tryz.sizeOf104 (fun w' hw' => Ret.mem hw' ?_)
  first | exact ⟨_, tup2 rfl (int_eq (by rw [inkE_err (by omega)])), by rw [inkC_bad (by rw [inkE_err (by omega)]; omega)]; exact ⟨_, rfl, .nil⟩⟩ | exact ⟨_, tup2 rfl (int_eq (by rw [inkE_blot (by omega) (fun h_ => by have h1_ := h_ k (by omega); omega)])), by rw [inkC_bad (by rw [inkE_blot (by omega) (fun h_ => by have h1_ := h_ k (by omega); omega)]; omega)]; exact ⟨_, rfl, .nil⟩⟩ | exact ⟨_, tup2 rfl (int_eq (by rw [inkE_big (by omega) hbp_ (fun h_ => by have h1_ := h_ q (by omega); rw [col_ink hnb_] at h1_; omega)])), by rw [inkC_bad (by rw [inkE_big (by omega) hbp_ (fun h_ => by have h1_ := h_ q (by omega); rw [col_ink hnb_] at h1_; omega)]; omega)]; exact ⟨_, rfl, .nil⟩⟩
 ·refine WL.z ?_
  refine WC.condF rfl ?_
  refine WC.skip ?_
  refine WK.nThen ?_
  refine WC.seq ?_
  have hre_ : readE p l = 0 := (by omega)
  obtain rfl := (hr11 hre_).symm
  obtain ⟨hf_, hln_, htr_⟩ := readE_of hre_
  have hfc_ := hf_.2.2.1
  have hfh_ := hf_.1.2.1
  refine WK.freezeS (α := Paper) (x := p) 0 rfl rfl (show Enc.rd (α := Paper) m8 [.int .i64 (p.Pitch), .int .i64 (p.Height), .int .i64 (p.Radius), .int .i64 (p.Low), .int .i64 (p.High), .int .i64 (p.Columns), .int .i64 (p.Along.Lo), .int .i64 (p.Along.Hi), .int .i64 (p.Across.Lo), .int .i64 (p.Across.Hi)] p from rfl) (fun m14 hle15 hp16 => ?_)
  replace hl := hl.mono hle15
  replace hblots := hblots.mono hle15
  replace hp5 := hp5.mono hle15
  refine WC.region ?_
  have hp17 := At.Paper_5 hp5
  refine WL.y (X.field Tryz.runUnderlying25 rfl Tryz.sizeOf3 rfl) ?_
  refine WL.y (X.loadInt Tryz.isAgg3 rfl hp17) ?_
  obtain ⟨n_, hn_⟩ : ∃ qq__ : Nat, (p.Columns : Int) = (qq__ : Int) := ⟨(p.Columns : Int).toNat, (by omega)⟩
  rw [hn_]
  have hn_ := hn_
  refine WL.ta (T.makeN n_ (a := (⟨()⟩ : ColV)) sl182 rfl rfl rfl (by omega) (by decide)) (by decide) (fun v18 => ?_)
  rw [colX_zero]
  refine WL.ag rfl ?_
  refine WL.z ?_
  refine WC.seq ?_
  refine WC.seq ?_
  refine WK.nilG Span 23 n_ ?_
  have hbz_ := blN_zero blots n_
  rw [hbz_]
  refine WC.region ?_
  refine WL.mv rfl ?_
  refine WL.y (X.len Tryz.runUnderlying27 rfl hblots) ?_
  refine WL.mv rfl ?_
  refine WL.z ?_
  refine WC.block ?_
  refine WC.loop (G := Nat) (fun k => blots.length - k) (fun k => m14) (fun k => [many (rowsG 23 ((List.replicate n_ (Value.slice none 0 0))) ((List.replicate n_ ([] : List Span)))), row (v18) 186 2 (n_) (colX (List.replicate n_ (Value.slice none 0 0)) (blN blots n_ k)), blk b2 104 [.slice none 0 0]]) (fun k => [(1, vl), (2, vblots), (3, .pointer (some ((⟨b1, 0, none⟩ : Addr)))), (6, .pointer (some ⟨b2, 0, none⟩)), (8, .pointer (some ((⟨b12, 0, none⟩ : Addr)))), (10, v18), (36, vblots), (37, .int .i64 (↑blots.length)), (38, .int .i64 (↑k))]) (fun k => k ≤ blots.length ∧ (∀ i, i < k → (0 ≤ gt blots i ∧ gt blots i ≤ p.Columns - 1) ∧ (0 < i → gt blots (i - 1) < gt blots i))) 0 rfl (.refl _) (.cons rfl (.cons rfl (.cons rfl (.cons rfl (.cons rfl (.cons rfl (.cons rfl (.cons rfl (.cons rfl .nil))))))))) ?_ ?_
  ·exact ⟨Nat.zero_le _, fun j hj => absurd hj (Nat.not_lt_zero _)⟩
  ·rintro k hF19
   show WK _ _ m14 [many (rowsG 23 ((List.replicate n_ (Value.slice none 0 0))) ((List.replicate n_ ([] : List Span)))), row (v18) 186 2 (n_) (colX (List.replicate n_ (Value.slice none 0 0)) (blN blots n_ k)), blk b2 104 [.slice none 0 0]] [(1, vl), (2, vblots), (3, .pointer (some ((⟨b1, 0, none⟩ : Addr)))), (6, .pointer (some ⟨b2, 0, none⟩)), (8, .pointer (some ((⟨b12, 0, none⟩ : Addr)))), (10, v18), (36, vblots), (37, .int .i64 (↑blots.length)), (38, .int .i64 (↑k))] _
   replace hF19 : k ≤ blots.length ∧ (∀ i, i < k → (0 ≤ gt blots i ∧ gt blots i ≤ p.Columns - 1) ∧ (0 < i → gt blots (i - 1) < gt blots i)) := hF19
   obtain ⟨hk, hall⟩ := hF19
   have hcl_ : (List.replicate n_ (Value.slice none 0 0)).length = (blN blots n_ k).length := (by rw [blN_len]; simp)
   refine WC.r ?_
   refine WL.cond (X.lss rfl rfl) (by decide) (fun h20 => ?_) (fun h20 => ?_)
   ·refine WL.z ?_
    refine WC.seq ?_
    refine WC.condT rfl ?_
    refine WC.skip ?_
    refine WK.nThen ?_
    refine WC.seq ?_
    refine WC.block ?_
    refine WC.r ?_
    refine WL.mv rfl ?_
    refine WL.xe (E.idxN k Tryz.runUnderlying27 Tryz.sizeOf3 rfl rfl hblots (by omega)) (by decide) (fun p21 hp22 => ?_)
    refine WL.y (X.loadInt Tryz.isAgg3 rfl hp22) ?_
    refine WL.ag rfl ?_
    refine WL.ag rfl ?_
    refine WL.z ?_
    refine WC.seq ?_
    refine WC.r ?_
    refine WL.mv rfl ?_
    have hp23 := At.Paper_5 hp5
    refine WL.y (X.field Tryz.runUnderlying25 rfl Tryz.sizeOf3 rfl) ?_
    refine WL.y (X.loadInt Tryz.isAgg3 rfl hp23) ?_
    refine WL.y (X.sub rfl rfl (by omega) (by omega)) ?_
    refine WL.cond (X.call Tryz.call74 rfl (within74 _ _ _ _ )) (by decide) (fun h24 => ?_) (fun h24 => ?_)
    ·refine WL.y (X.not rfl) ?_
     refine WL.mv rfl ?_
     refine WL.yes rfl rfl ?_
     refine WL.mv rfl ?_
     refine WL.yes rfl rfl ?_
     refine WL.cond (X.gtr rfl rfl) (by decide) (fun h25 => ?_) (fun h25 => ?_)
     ·refine WL.yes rfl rfl ?_
      refine WL.mv rfl ?_
      refine WL.yes rfl rfl ?_
      refine WL.mv rfl ?_
      refine WL.yes rfl rfl ?_
      refine WL.mv rfl ?_
      refine WL.yes rfl rfl ?_
      refine WL.mv rfl ?_
      refine WL.yes rfl rfl ?_
      refine WL.y (X.sub rfl rfl (by omega) (by omega)) ?_
      refine WL.yes rfl rfl ?_
      refine WL.xe (E.idxE (k - 1) Tryz.runUnderlying27 Tryz.sizeOf3 rfl rfl hblots (by omega) (by omega)) (by decide) (fun p26 hp27 => ?_)
      refine WL.yes rfl rfl ?_
      refine WL.y (X.loadInt Tryz.isAgg3 rfl hp27) ?_
      refine WL.yes rfl rfl ?_
      refine WL.cond (X.leq rfl rfl) (by decide) (fun h28 => ?_) (fun h28 => ?_)
      ·refine WL.yes rfl rfl ?_
       refine WL.y (X.pickT rfl rfl rfl) ?_
       refine WL.y (X.pickF rfl rfl rfl) ?_
       refine WL.z ?_
       refine WC.condT rfl ?_
       refine WC.r ?_
       refine WL.y (V := Value.agg [.slice none 0 0].toArray) (X.build Tryz.zeroValue104 Tryz.runUnderlying104 (places104 _ Tryz.underlying104) rfl rfl) ?_
       refine WL.ts (T.storeBA (k := 2) Tryz.sizeOf104 rfl rfl rfl (one_cons rfl one_nil) rfl rfl) ?_
       refine WL.ag rfl ?_
       refine WL.z ?_
       refine WC.ret ?_
       refine WK.rThen ?_
       refine WK.rBlock ?_
       refine WK.rThen ?_
       refine WK.rThen ?_
       refine WK.rBlock ?_
       refine WK.rThen ?_
       refine WK.retC2 2 rfl rfl rfl rfl Tryz.isAgg104 Tryz.sizeOf104 (fun w' hw' => Ret.mem hw' ?_)
       first | exact ⟨_, tup2 rfl (int_eq (by rw [inkE_err (by omega)])), by rw [inkC_bad (by rw [inkE_err (by omega)]; omega)]; exact ⟨_, rfl, .nil⟩⟩ | exact ⟨_, tup2 rfl (int_eq (by rw [inkE_blot (by omega) (fun h_ => by have h1_ := h_ k (by omega); omega)])), by rw [inkC_bad (by rw [inkE_blot (by omega) (fun h_ => by have h1_ := h_ k (by omega); omega)]; omega)]; exact ⟨_, rfl, .nil⟩⟩ | exact ⟨_, tup2 rfl (int_eq (by rw [inkE_big (by omega) hbp_ (fun h_ => by have h1_ := h_ q (by omega); rw [col_ink hnb_] at h1_; omega)])), by rw [inkC_bad (by rw [inkE_big (by omega) hbp_ (fun h_ => by have h1_ := h_ q (by omega); rw [col_ink hnb_] at h1_; omega)]; omega)]; exact ⟨_, rfl, .nil⟩⟩
      ·refine WL.yes rfl rfl ?_
       refine WL.y (X.pickT rfl rfl rfl) ?_
       refine WL.y (X.pickF rfl rfl rfl) ?_
       refine WL.z ?_
       refine WC.condF rfl ?_
       refine WC.skip ?_
       refine WK.nThen ?_
       obtain ⟨c_, hc_⟩ : ∃ qq__ : Nat, (gt blots k : Int) = (qq__ : Int) := ⟨(gt blots k : Int).toNat, (by omega)⟩
       rw [hc_]
       refine WC.region ?_
       refine WL.mv rfl ?_
       refine WL.mv rfl ?_
       refine WL.y (X.idxRowE (k := 1) c_ Tryz.runUnderlying182 Tryz.sizeOf186 rfl rfl rfl (by omega) (by first | omega | (simp; omega) | simp)) ?_
       refine WL.y (X.field Tryz.runUnderlying186 rfl Tryz.sizeOf4 rfl) ?_
       refine WL.ts (T.storeC (off := c_ * 2 + 1) (k := 1) Tryz.sizeOf4 rfl rfl rfl rfl (by rw [colX_len hcl_]; simp; omega)) ?_
       refine WL.nil ?_
       refine WK.nBlock ?_
       refine WK.nThen ?_
       refine WC.region ?_
       refine WL.y (X.add rfl rfl (by omega) (by omega)) ?_
       refine WL.mv rfl ?_
       refine WL.z ?_
       have he29 : ((colX (List.replicate n_ (Value.slice none 0 0)) (blN blots n_ k)).set (c_ * 2 + 1) (.bool true)) = (colX (List.replicate n_ (Value.slice none 0 0)) (blN blots n_ (k + 1))) := (by rw [colX_setb _ hcl_, blN_step (by omega)])
       rw [he29]
       refine WK.next (k + 1) rfl (.refl _) (.cons rfl (.cons rfl (.cons rfl (.cons rfl (.cons rfl (.cons rfl (.cons rfl (.cons rfl (.cons rfl .nil))))))))) ?_ ?_
       ·exact ⟨by omega, fun j hj => by rcases Nat.lt_succ_iff_lt_or_eq.1 hj with h | h; exact hall j h; subst h; exact ⟨by omega, fun _ => by omega⟩⟩
       ·omega
     ·refine WL.yes rfl rfl ?_
      refine WL.mv rfl ?_
      refine WL.no rfl rfl rfl (by decide) ?_
      refine WL.no rfl rfl rfl (by decide) ?_
      refine WL.no rfl rfl rfl (by decide) ?_
      refine WL.no rfl rfl rfl (by decide) ?_
      refine WL.no rfl rfl rfl (by decide) ?_
      refine WL.no rfl rfl rfl (by decide) ?_
      refine WL.no rfl rfl rfl (by decide) ?_
      refine WL.yes rfl rfl ?_
      refine WL.y (X.pickF rfl rfl rfl) ?_
      refine WL.y (X.pickF rfl rfl rfl) ?_
      refine WL.z ?_
      refine WC.condF rfl ?_
      refine WC.skip ?_
      refine WK.nThen ?_
      obtain ⟨c_, hc_⟩ : ∃ qq__ : Nat, (gt blots k : Int) = (qq__ : Int) := ⟨(gt blots k : Int).toNat, (by omega)⟩
      rw [hc_]
      refine WC.region ?_
      refine WL.mv rfl ?_
      refine WL.mv rfl ?_
      refine WL.y (X.idxRowE (k := 1) c_ Tryz.runUnderlying182 Tryz.sizeOf186 rfl rfl rfl (by omega) (by first | omega | (simp; omega) | simp)) ?_
      refine WL.y (X.field Tryz.runUnderlying186 rfl Tryz.sizeOf4 rfl) ?_
      refine WL.ts (T.storeC (off := c_ * 2 + 1) (k := 1) Tryz.sizeOf4 rfl rfl rfl rfl (by rw [colX_len hcl_]; simp; omega)) ?_
      refine WL.nil ?_
      refine WK.nBlock ?_
      refine WK.nThen ?_
      refine WC.region ?_
      refine WL.y (X.add rfl rfl (by omega) (by omega)) ?_
      refine WL.mv rfl ?_
      refine WL.z ?_
      have he30 : ((colX (List.replicate n_ (Value.slice none 0 0)) (blN blots n_ k)).set (c_ * 2 + 1) (.bool true)) = (colX (List.replicate n_ (Value.slice none 0 0)) (blN blots n_ (k + 1))) := (by rw [colX_setb _ hcl_, blN_step (by omega)])
      rw [he30]
      refine WK.next (k + 1) rfl (.refl _) (.cons rfl (.cons rfl (.cons rfl (.cons rfl (.cons rfl (.cons rfl (.cons rfl (.cons rfl (.cons rfl .nil))))))))) ?_ ?_
      ·exact ⟨by omega, fun j hj => by rcases Nat.lt_succ_iff_lt_or_eq.1 hj with h | h; exact hall j h; subst h; exact ⟨by omega, fun _ => by omega⟩⟩
      ·omega
    ·refine WL.y (X.not rfl) ?_
     refine WL.mv rfl ?_
     refine WL.no rfl rfl rfl (by decide) ?_
     refine WL.no rfl rfl rfl (by decide) ?_
     refine WL.no rfl rfl rfl (by decide) ?_
     refine WL.noU rfl rfl (by decide) ?_
     refine WL.noU rfl rfl (by decide) ?_
     refine WL.noU rfl rfl (by decide) ?_
     refine WL.noU rfl rfl (by decide) ?_
     refine WL.noU rfl rfl (by decide) ?_
     refine WL.noU rfl rfl (by decide) ?_
     refine WL.noU rfl rfl (by decide) ?_
     refine WL.no rfl rfl rfl (by decide) ?_
     refine WL.y (X.pickT rfl rfl rfl) ?_
     refine WL.z ?_
     refine WC.condT rfl ?_
     refine WC.r ?_
     refine WL.y (V := Value.agg [.slice none 0 0].toArray) (X.build Tryz.zeroValue104 Tryz.runUnderlying104 (places104 _ Tryz.underlying104) rfl rfl) ?_
     refine WL.ts (T.storeBA (k := 2) Tryz.sizeOf104 rfl rfl rfl (one_cons rfl one_nil) rfl rfl) ?_
     refine WL.ag rfl ?_
     refine WL.z ?_
     refine WC.ret ?_
     refine WK.rThen ?_
     refine WK.rBlock ?_
     refine WK.rThen ?_
     refine WK.rThen ?_
     refine WK.rBlock ?_
     refine WK.rThen ?_
     refine WK.retC2 2 rfl rfl rfl rfl Tryz.isAgg104 Tryz.sizeOf104 (fun w' hw' => Ret.mem hw' ?_)
     first | exact ⟨_, tup2 rfl (int_eq (by rw [inkE_err (by omega)])), by rw [inkC_bad (by rw [inkE_err (by omega)]; omega)]; exact ⟨_, rfl, .nil⟩⟩ | exact ⟨_, tup2 rfl (int_eq (by rw [inkE_blot (by omega) (fun h_ => by have h1_ := h_ k (by omega); omega)])), by rw [inkC_bad (by rw [inkE_blot (by omega) (fun h_ => by have h1_ := h_ k (by omega); omega)]; omega)]; exact ⟨_, rfl, .nil⟩⟩ | exact ⟨_, tup2 rfl (int_eq (by rw [inkE_big (by omega) hbp_ (fun h_ => by have h1_ := h_ q (by omega); rw [col_ink hnb_] at h1_; omega)])), by rw [inkC_bad (by rw [inkE_big (by omega) hbp_ (fun h_ => by have h1_ := h_ q (by omega); rw [col_ink hnb_] at h1_; omega)]; omega)]; exact ⟨_, rfl, .nil⟩⟩
   ·refine WL.z ?_
    refine WC.seq ?_
    refine WC.condF rfl ?_
    refine WC.exit ?_
    refine WK.eThen ?_
    refine WK.eThen ?_
    refine WK.eHit ?_
    refine WK.nThen ?_
    refine WC.seq ?_
    refine WC.r ?_
    refine WL.mv rfl ?_
    refine WL.y (X.len Tryz.runUnderlying26 rfl hl) ?_
    refine WL.mv rfl ?_
    refine WL.z ?_
    refine WC.block ?_
    have hkb_ : k = blots.length := (by omega)
    rw [hkb_]
    have hbp_ : blotP p blots := (fun i hi => hall i (by omega))
    obtain ⟨bs, hbs_⟩ : ∃ q_ : List Bool, q_ = blN blots n_ blots.length := ⟨_, rfl⟩
    rw [← hbs_]
    have hbl_ : bs.length = n_ := (by rw [hbs_]; exact blN_len _ _ _)
    have he31 : ((List.replicate n_ ([] : List Span))) = (ovr n_ (fun j => allN p l j 0)) := ovr_nil n_
    rw [he31]
    refine WC.loop (G := Nat × List Value) (fun (k, vs) => l.length - k) (fun (k, vs) => m14) (fun (k, vs) => [many (rowsG 23 vs (ovr n_ (fun j => allN p l j k))), row (v18) 186 2 (n_) (colX vs bs), blk b2 104 [.slice none 0 0]]) (fun (k, vs) => [(3, .pointer (some ((⟨b1, 0, none⟩ : Addr)))), (6, .pointer (some ⟨b2, 0, none⟩)), (8, .pointer (some ((⟨b12, 0, none⟩ : Addr)))), (10, v18), (68, vl), (69, .int .i64 (↑l.length)), (70, .int .i64 (↑k))]) (fun (k, vs) => k ≤ l.length ∧ vs.length = n_) ((0, (List.replicate n_ (Value.slice none 0 0)))) rfl (.refl _) (.cons rfl (.cons rfl (.cons rfl (.cons rfl (.cons rfl (.cons rfl (.cons rfl .nil))))))) ?_ ?_
    ·exact ⟨Nat.zero_le _, by simp⟩
    ·rintro ⟨k, vs⟩ hF32
     show WK _ _ m14 [many (rowsG 23 vs (ovr n_ (fun j => allN p l j k))), row (v18) 186 2 (n_) (colX vs bs), blk b2 104 [.slice none 0 0]] [(3, .pointer (some ((⟨b1, 0, none⟩ : Addr)))), (6, .pointer (some ⟨b2, 0, none⟩)), (8, .pointer (some ((⟨b12, 0, none⟩ : Addr)))), (10, v18), (68, vl), (69, .int .i64 (↑l.length)), (70, .int .i64 (↑k))] _
     replace hF32 : k ≤ l.length ∧ vs.length = n_ := hF32
     obtain ⟨hk, hvl_⟩ := hF32
     refine WK.good (fun hgood1 => ?_)
     have hcl_ : vs.length = bs.length := (by omega)
     refine WC.r ?_
     refine WL.cond (X.lss rfl rfl) (by decide) (fun h33 => ?_) (fun h33 => ?_)
     ·refine WL.z ?_
      refine WC.seq ?_
      refine WC.condT rfl ?_
      refine WC.skip ?_
      refine WK.nThen ?_
      refine WC.seq ?_
      refine WC.block ?_
      refine WC.r ?_
      refine WL.xe (E.idxN k Tryz.runUnderlying26 Tryz.sizeOf102 rfl rfl hl (by omega)) (by decide) (fun p34 hp35 => ?_)
      refine WL.xe (E.loadAgg Tryz.isAgg102 Tryz.sizeOf102 rfl hp35) (by decide) (fun c36 hc37 => ?_)
      obtain rfl := hc37
      refine WL.tn (T.alloc Tryz.zeroValue102 rfl) (by decide) fun b38 => ?_
      refine WL.ts (T.storeBA (k := 0) Tryz.sizeOf102 rfl rfl rfl (one_cons rfl (one_cons rfl (one_cons rfl one_nil))) rfl rfl) ?_
      refine WL.z ?_
      refine WC.seq ?_
      have htk_ := htr_ k (by omega)
      refine WC.region ?_
      have hp39 := At.Paper_5 hp5
      refine WL.y (X.field Tryz.runUnderlying25 rfl Tryz.sizeOf3 rfl) ?_
      refine WL.y (X.loadInt Tryz.isAgg3 rfl hp39) ?_
      rw [hn_]
      refine WL.ta (T.makeN n_ (a := (⟨Value.slice none 0 0, rfl⟩ : RawV)) sl187 rfl rfl rfl (by omega) (by decide)) (by decide) (fun v40 => ?_)
      rw [raw_zero]
      refine WL.tn (T.alloc Tryz.zeroValue187 rfl) (by decide) fun b41 => ?_
      refine WL.own1 (k := 1) rfl (fun ho42 => ?_)
      refine WL.ts (T.storeB (k := 0) Tryz.sizeOf187 rfl rfl rfl ho42 (Nat.le_of_ble_eq_true rfl)) ?_
      refine WL.z ?_
      refine WC.seq ?_
      refine WC.seq ?_
      refine WK.nilG Span 23 n_ ?_
      have he43 : ((List.replicate n_ ([] : List Span))) = (ovr n_ (fun j => risN p (gt l k) j 0)) := ovr_nil n_
      rw [he43]
      refine WC.region ?_
      refine WL.xe (E.loadAgg Tryz.isAgg179 Tryz.sizeOf179 rfl hp16) (by decide) (fun c44 hc45 => ?_)
      obtain rfl := hc45
      refine WL.y (X.loadBA (k := 3) Tryz.isAgg102 Tryz.sizeOf102 rfl rfl rfl) ?_
      refine WL.tm (T.call Tryz.call75 rfl (line75 _ (f := p) (t := gt l k) hf_ htk_)) (by decide) (fun m46 _ hle47 hR_ => ?_)
      obtain ⟨lb48, rfl, hit49⟩ := hR_
      replace hl := hl.mono hle47
      replace hblots := hblots.mono hle47
      replace hp5 := hp5.mono hle47
      replace hp16 := hp16.mono hle47
      replace hp17 := hp17.mono hle47
      replace hp35 := hp35.mono hle47
      replace hp39 := hp39.mono hle47
      refine WL.z ?_
      refine WC.block ?_
      refine WK.perm [row (v40) 184 1 (n_) ((List.replicate n_ (Value.slice none 0 0))), many (rowsG 23 ((List.replicate n_ (Value.slice none 0 0))) (ovr n_ (fun j => risN p (gt l k) j 0))), blk b41 187 [v40], blk b38 102 [.int .i64 ((gt l k).X), .int .i64 ((gt l k).Y), .int .i64 ((gt l k).Half)], many (rowsG 23 vs (ovr n_ (fun j => allN p l j k))), row (v18) 186 2 (n_) (colX vs bs), blk b2 104 [.slice none 0 0]] ((List.Perm.cons _ (.refl _)).trans (List.perm_middle (l₁ := [many (rowsG 23 ((List.replicate n_ (Value.slice none 0 0))) (ovr n_ (fun j => risN p (gt l k) j 0))), blk b41 187 [v40]]) (l₂ := [blk b38 102 [.int .i64 ((gt l k).X), .int .i64 ((gt l k).Y), .int .i64 ((gt l k).Half)], many (rowsG 23 vs (ovr n_ (fun j => allN p l j k))), row (v18) 186 2 (n_) (colX vs bs), blk b2 104 [.slice none 0 0]]) (a := row (v40) 184 1 (n_) ((List.replicate n_ (Value.slice none 0 0))))).symm) ?_
      refine WC.rangeFuncA (S := List Value × List (List Span)) (G := Nat) (ps := [80, 81]) (n := lineNo p (gt l k)) (A := lineA p (gt l k)) rfl Tryz.call143 hit49 (fun x_ : List Value × List (List Span) => [row (v40) 184 1 (n_) (x_.1), many (rowsG 23 x_.1 x_.2), blk b41 187 [v40], blk b38 102 [.int .i64 ((gt l k).X), .int .i64 ((gt l k).Y), .int .i64 ((gt l k).Half)], many (rowsG 23 vs (ovr n_ (fun j => allN p l j k))), row (v18) 186 2 (n_) (colX vs bs), blk b2 104 [.slice none 0 0]]) (fun i _ x_ => x_.1.length = n_ ∧ x_.2 = ovr n_ (fun j => risN p (gt l k) j i)) (fun _ _ _ _ => False) ((List.replicate n_ (Value.slice none 0 0)), ovr n_ (fun j => risN p (gt l k) j 0)) rfl ⟨by simp, rfl⟩ (fun h => by cases h) (fun _ _ _ _ _ h => h) (by simp) (fun i m1 args h => by rw [show args = _ from h]; rfl) (fun b_ args gh => blk b_ 23 ((args.getD 1 undef).cells.toList) :: (fun x_ : List Value × List (List Span) => [row (v40) 184 1 (n_) (x_.1), many (rowsG 23 x_.1 x_.2), blk b41 187 [v40], blk b38 102 [.int .i64 ((gt l k).X), .int .i64 ((gt l k).Y), .int .i64 ((gt l k).Half)], many (rowsG 23 vs (ovr n_ (fun j => allN p l j k))), row (v18) 186 2 (n_) (colX vs bs), blk b2 104 [.slice none 0 0]]) gh) (fun b_ args => (16, args.headD undef) :: (17, .pointer (some ⟨b_, 0, none⟩)) :: [(3, .pointer (some ((⟨b1, 0, none⟩ : Addr)))), (6, .pointer (some ⟨b2, 0, none⟩)), (8, .pointer (some ((⟨b12, 0, none⟩ : Addr)))), (10, v18), (68, vl), (69, .int .i64 (↑l.length)), (70, .int .i64 (↑k)), (71, .bool true), (72, .pointer (some (p34))), (73, .agg [.int .i64 ((gt l k).X), .int .i64 ((gt l k).Y), .int .i64 ((gt l k).Half)].toArray), (14, .pointer (some ⟨b38, 0, none⟩)), (74, .pointer (some (((⟨b1, 0, none⟩ : Addr)).add 5))), (75, .int .i64 (↑n_)), (76, v40), (15, .pointer (some ⟨b41, 0, none⟩)), (77, .agg [.int .i64 (p.Pitch), .int .i64 (p.Height), .int .i64 (p.Radius), .int .i64 (p.Low), .int .i64 (p.High), .int .i64 (p.Columns), .int .i64 (p.Along.Lo), .int .i64 (p.Along.Hi), .int .i64 (p.Across.Lo), .int .i64 (p.Across.Hi)].toArray), (78, .agg [.int .i64 ((gt l k).X), .int .i64 ((gt l k).Y), .int .i64 ((gt l k).Half)].toArray), (79, .func (.func 143) #[] lb48.toArray)]) ?_ ?_ ?_ ?_ ?_
      ·intro lo B1 i m1_3 gh args KK hlen hA1 hm1_3 hKK
       have hA2 : args = [.int .i64 (yK p (gt l k) i), .agg [.int .i64 (lnC p (gt l k) i).Lo, .int .i64 (lnC p (gt l k) i).Hi].toArray] := (by have := congrArg Array.toList (show args.toArray = #[.int .i64 (yK p (gt l k) i), .agg [.int .i64 (lnC p (gt l k) i).Lo, .int .i64 (lnC p (gt l k) i).Hi].toArray] from hA1); simpa using this)
       subst hA2
       refine WC.r ?_
       refine WL.ag rfl ?_
       refine WL.z ?_
       refine WC.region ?_
       refine WL.tn (T.alloc Tryz.zeroValue23 rfl) (by decide) fun b50 => ?_
       refine WL.ts (T.storeBA (k := 0) Tryz.sizeOf23 rfl rfl rfl (one_cons rfl (one_cons rfl one_nil)) rfl rfl) ?_
       refine WL.z ?_
       exact WK.keep (.cons rfl (.cons rfl (.cons rfl (.cons rfl (.cons rfl (.cons rfl (.cons rfl (.cons rfl (.cons rfl (.cons rfl (.cons rfl (.cons rfl (.cons rfl (.cons rfl (.cons rfl (.cons rfl (.cons rfl (.cons rfl (.cons rfl (.cons rfl .nil)))))))))))))))))))) (hKK b50)
      ·intro lo B1 i m1_3 gh args b_ hlen hi hm1_3 hA1 hI1
       have hA2 : args = [.int .i64 (yK p (gt l k) i), .agg [.int .i64 (lnC p (gt l k) i).Lo, .int .i64 (lnC p (gt l k) i).Hi].toArray] := (by have := congrArg Array.toList (show args.toArray = #[.int .i64 (yK p (gt l k) i), .agg [.int .i64 (lnC p (gt l k) i).Lo, .int .i64 (lnC p (gt l k) i).Hi].toArray] from hA1); simpa using this)
       subst hA2
       obtain ⟨us, M_⟩ := gh
       obtain ⟨hul_, hM_⟩ := hI1
       dsimp only at hul_ hM_
       subst hM_
       have hly_ : 0 ≤ yK p (gt l k) i ∧ yK p (gt l k) i ≤ p.Height := line_y hf_ htk_ hi
       have hlb_ : (-1000000000000 ≤ (lnC p (gt l k) i).Lo ∧ (lnC p (gt l k) i).Lo ≤ 1000000000000) ∧ (-1000000000000 ≤ (lnC p (gt l k) i).Hi ∧ (lnC p (gt l k) i).Hi ≤ 1000000000000) := line_bd hf_ htk_ hly_
       replace hl := hl.mono hm1_3
       replace hblots := hblots.mono hm1_3
       replace hp5 := hp5.mono hm1_3
       replace hp16 := hp16.mono hm1_3
       replace hp17 := hp17.mono hm1_3
       replace hp35 := hp35.mono hm1_3
       replace hp39 := hp39.mono hm1_3
       show WK _ _ m1_3 [blk b_ 23 [.int .i64 ((lnC p (gt l k) i).Lo), .int .i64 ((lnC p (gt l k) i).Hi)], row (v40) 184 1 (n_) (us), many (rowsG 23 us (ovr n_ (fun j => risN p (gt l k) j i))), blk b41 187 [v40], blk b38 102 [.int .i64 ((gt l k).X), .int .i64 ((gt l k).Y), .int .i64 ((gt l k).Half)], many (rowsG 23 vs (ovr n_ (fun j => allN p l j k))), row (v18) 186 2 (n_) (colX vs bs), blk b2 104 [.slice none 0 0]] [(16, .int .i64 (yK p (gt l k) i)), (17, .pointer (some ⟨b_, 0, none⟩)), (3, .pointer (some ((⟨b1, 0, none⟩ : Addr)))), (6, .pointer (some ⟨b2, 0, none⟩)), (8, .pointer (some ((⟨b12, 0, none⟩ : Addr)))), (10, v18), (68, vl), (69, .int .i64 (↑l.length)), (70, .int .i64 (↑k)), (71, .bool true), (72, .pointer (some (p34))), (73, .agg [.int .i64 ((gt l k).X), .int .i64 ((gt l k).Y), .int .i64 ((gt l k).Half)].toArray), (14, .pointer (some ⟨b38, 0, none⟩)), (74, .pointer (some (((⟨b1, 0, none⟩ : Addr)).add 5))), (75, .int .i64 (↑n_)), (76, v40), (15, .pointer (some ⟨b41, 0, none⟩)), (77, .agg [.int .i64 (p.Pitch), .int .i64 (p.Height), .int .i64 (p.Radius), .int .i64 (p.Low), .int .i64 (p.High), .int .i64 (p.Columns), .int .i64 (p.Along.Lo), .int .i64 (p.Along.Hi), .int .i64 (p.Across.Lo), .int .i64 (p.Across.Hi)].toArray), (78, .agg [.int .i64 ((gt l k).X), .int .i64 ((gt l k).Y), .int .i64 ((gt l k).Half)].toArray), (79, .func (.func 143) #[] lb48.toArray)] _
       refine WC.block ?_
       refine WC.r ?_
       refine WL.y (X.field Tryz.runUnderlying23 rfl Tryz.sizeOf3 rfl) ?_
       refine WL.y (X.loadB (k := 0) Tryz.isAgg3 rfl rfl rfl) ?_
       refine WL.y (X.mx rfl rfl) ?_
       refine WL.ag rfl ?_
       refine WL.z ?_
       refine WC.block ?_
       obtain ⟨c0_, hc0_⟩ : ∃ qq__ : Nat, (max ((lnC p (gt l k) i).Lo) 0 : Int) = (qq__ : Int) := ⟨(max ((lnC p (gt l k) i).Lo) 0 : Int).toNat, (by omega)⟩
       rw [hc0_]
       have he51 : (ovr n_ (fun j => risN p (gt l k) j i)) = (risL p (gt l k) n_ i c0_) := risL_start (by omega)
       rw [he51]
       refine WC.loop (G := Nat × List Value) (fun (c, us) => n_ - c) (fun (c, us) => m1_3) (fun (c, us) => [blk b_ 23 [.int .i64 ((lnC p (gt l k) i).Lo), .int .i64 ((lnC p (gt l k) i).Hi)], row (v40) 184 1 (n_) (us), many (rowsG 23 us (risL p (gt l k) n_ i c)), blk b41 187 [v40], blk b38 102 [.int .i64 ((gt l k).X), .int .i64 ((gt l k).Y), .int .i64 ((gt l k).Half)], many (rowsG 23 vs (ovr n_ (fun j => allN p l j k))), row (v18) 186 2 (n_) (colX vs bs), blk b2 104 [.slice none 0 0]]) (fun (c, us) => [(3, .pointer (some ((⟨b1, 0, none⟩ : Addr)))), (6, .pointer (some ⟨b2, 0, none⟩)), (8, .pointer (some ((⟨b12, 0, none⟩ : Addr)))), (10, v18), (15, .pointer (some ⟨b41, 0, none⟩)), (16, .int .i64 (yK p (gt l k) i)), (17, .pointer (some ⟨b_, 0, none⟩)), (18, .int .i64 (↑c)), (68, vl), (69, .int .i64 (↑l.length)), (70, .int .i64 (↑k))]) (fun (c, us) => c0_ ≤ c ∧ us.length = n_) ((c0_, us)) rfl (.refl _) (.cons rfl (.cons rfl (.cons rfl (.cons rfl (.cons rfl (.cons rfl (.cons rfl (.cons rfl (.cons rfl (.cons rfl (.cons rfl .nil))))))))))) ?_ ?_
       ·exact ⟨Nat.le_refl _, hul_⟩
       ·rintro ⟨c, us⟩ hF52
        show WK _ _ m1_3 [blk b_ 23 [.int .i64 ((lnC p (gt l k) i).Lo), .int .i64 ((lnC p (gt l k) i).Hi)], row (v40) 184 1 (n_) (us), many (rowsG 23 us (risL p (gt l k) n_ i c)), blk b41 187 [v40], blk b38 102 [.int .i64 ((gt l k).X), .int .i64 ((gt l k).Y), .int .i64 ((gt l k).Half)], many (rowsG 23 vs (ovr n_ (fun j => allN p l j k))), row (v18) 186 2 (n_) (colX vs bs), blk b2 104 [.slice none 0 0]] [(3, .pointer (some ((⟨b1, 0, none⟩ : Addr)))), (6, .pointer (some ⟨b2, 0, none⟩)), (8, .pointer (some ((⟨b12, 0, none⟩ : Addr)))), (10, v18), (15, .pointer (some ⟨b41, 0, none⟩)), (16, .int .i64 (yK p (gt l k) i)), (17, .pointer (some ⟨b_, 0, none⟩)), (18, .int .i64 (↑c)), (68, vl), (69, .int .i64 (↑l.length)), (70, .int .i64 (↑k))] _
        replace hF52 : c0_ ≤ c ∧ us.length = n_ := hF52
        obtain ⟨hc0_, hul2_⟩ := hF52
        refine WK.good (fun hgood2 => ?_)
        refine WC.seq ?_
        refine WC.r ?_
        refine WL.mv rfl ?_
        refine WL.y (X.field Tryz.runUnderlying23 rfl Tryz.sizeOf3 rfl) ?_
        refine WL.y (X.loadB (k := 0) Tryz.isAgg3 rfl rfl rfl) ?_
        have hp53 := At.Paper_5 hp5
        refine WL.y (X.field Tryz.runUnderlying25 rfl Tryz.sizeOf3 rfl) ?_
        refine WL.y (X.loadInt Tryz.isAgg3 rfl hp53) ?_
        refine WL.y (X.sub rfl rfl (by omega) (by omega)) ?_
        refine WL.y (X.mn rfl rfl) ?_
        refine WL.cond (X.leq rfl rfl) (by decide) (fun h54 => ?_) (fun h54 => ?_)
        ·refine WL.z ?_
         refine WC.condT rfl ?_
         refine WC.skip ?_
         refine WK.nThen ?_
         refine WC.seq ?_
         refine WC.block ?_
         have hcn_ : c < n_ := (by omega)
         have hrp_ := ris_P hf_ htk_ (c : Int) (k := i) (by omega)
         refine WK.takeG (k := 2) (i := c) rfl (by rw [risL_len]; omega) (by rw [risL_len]; omega) ?_
         refine WC.draw (π := (.cons 0 (.cons 1 (.cons 2 (.cons 3 (.cons 4 (.cons 5 (.cons 6 .done)))))))) [6] [6] rfl (by kernel_rfl) ?_
         refine DW.y rfl rfl (X.loadB (k := 4) Tryz.isAgg187 rfl rfl rfl) ?_
         refine DW.y rfl rfl (X.move rfl) ?_
         refine DW.y rfl rfl (X.idxRowE (k := 2) c Tryz.runUnderlying187 Tryz.sizeOf184 rfl rfl rfl (by omega) (by first | omega | (simp; omega) | simp)) ?_
         refine DW.xe rfl rfl (E.loadAgg Tryz.isAgg179 Tryz.sizeOf179 rfl hp16) (by decide) (fun c55 hc56 => ?_)
         obtain rfl := hc56
         refine DW.y rfl rfl (X.move rfl) ?_
         refine DW.y rfl rfl (X.call Tryz.call77 rfl (level77 _ _ p rfl _ hf_ hly_)) ?_
         refine DW.tM rfl rfl rfl rfl (T.callP (A := [blk b_ 23 [.int .i64 ((lnC p (gt l k) i).Lo), .int .i64 ((lnC p (gt l k) i).Hi)], many (rowsG 23 (us.eraseIdx c) ((risL p (gt l k) n_ i c).eraseIdx c)), blk b41 187 [v40], blk b38 102 [.int .i64 ((gt l k).X), .int .i64 ((gt l k).Y), .int .i64 ((gt l k).Half)], many (rowsG 23 vs (ovr n_ (fun j => allN p l j k))), row (v18) 186 2 (n_) (colX vs bs), blk b2 104 [.slice none 0 0]]) Tryz.call76 rfl ((List.Perm.cons _ (.refl _)).trans (List.perm_middle (l₁ := [rowF (gt us c) 23 (gt (risL p (gt l k) n_ i c) c), blk b_ 23 [.int .i64 ((lnC p (gt l k) i).Lo), .int .i64 ((lnC p (gt l k) i).Hi)]]) (l₂ := [many (rowsG 23 (us.eraseIdx c) ((risL p (gt l k) n_ i c).eraseIdx c)), blk b41 187 [v40], blk b38 102 [.int .i64 ((gt l k).X), .int .i64 ((gt l k).Y), .int .i64 ((gt l k).Half)], many (rowsG 23 vs (ovr n_ (fun j => allN p l j k))), row (v18) 186 2 (n_) (colX vs bs), blk b2 104 [.slice none 0 0]]) (a := row (v40) 184 1 (n_) (us))).symm) (rise76 _ (xs := us) (off := c * 1) (L := gt (risL p (gt l k) n_ i c) c) (by rw [Nat.mul_one]; exact gt_eq (by omega)) (by rw [risL_gt hcn_]; exact hrp_.bd) (by rw [risL_gt hcn_]; have := hrp_.len; omega) (level_bd hf_ hly_))) (by decide) (fun m57 Es_ u_ hle58 hR_ => ?_)
         obtain ⟨rfl, v59, he60, ho61⟩ := hR_
         rw [Nat.mul_one] at he60
         subst he60
         replace hl := hl.mono hle58
         replace hblots := hblots.mono hle58
         replace hp5 := hp5.mono hle58
         replace hp16 := hp16.mono hle58
         replace hp17 := hp17.mono hle58
         replace hp35 := hp35.mono hle58
         replace hp39 := hp39.mono hle58
         replace hp53 := hp53.mono hle58
         refine DW.nil ?_
         refine WK.nBlock ?_
         refine WK.nThen ?_
         refine WK.perm [rowF (v59) 23 (mrg1 (gt (risL p (gt l k) n_ i c) c) ⟨levelI p ((yK p (gt l k) i)), levelI p ((yK p (gt l k) i))⟩), row (v40) 184 1 (n_) (us.set c v59), blk b_ 23 [.int .i64 ((lnC p (gt l k) i).Lo), .int .i64 ((lnC p (gt l k) i).Hi)], many (rowsG 23 (us.eraseIdx c) ((risL p (gt l k) n_ i c).eraseIdx c)), blk b41 187 [v40], blk b38 102 [.int .i64 ((gt l k).X), .int .i64 ((gt l k).Y), .int .i64 ((gt l k).Half)], many (rowsG 23 vs (ovr n_ (fun j => allN p l j k))), row (v18) 186 2 (n_) (colX vs bs), blk b2 104 [.slice none 0 0]] ((List.Perm.cons _ (.refl _)).trans (List.perm_middle (l₁ := [row (v40) 184 1 (n_) (us.set c v59)]) (l₂ := [blk b_ 23 [.int .i64 ((lnC p (gt l k) i).Lo), .int .i64 ((lnC p (gt l k) i).Hi)], many (rowsG 23 (us.eraseIdx c) ((risL p (gt l k) n_ i c).eraseIdx c)), blk b41 187 [v40], blk b38 102 [.int .i64 ((gt l k).X), .int .i64 ((gt l k).Y), .int .i64 ((gt l k).Half)], many (rowsG 23 vs (ovr n_ (fun j => allN p l j k))), row (v18) 186 2 (n_) (colX vs bs), blk b2 104 [.slice none 0 0]]) (a := rowF (v59) 23 (mrg1 (gt (risL p (gt l k) n_ i c) c) ⟨levelI p ((yK p (gt l k) i)), levelI p ((yK p (gt l k) i))⟩))).symm) ?_
         refine WK.putG (k := 2) (i := c) (vs := us) (M := risL p (gt l k) n_ i c) rfl (by rw [risL_len]; omega) (by rw [risL_len]; omega) ?_
         have he62 : ((risL p (gt l k) n_ i c).set c (mrg1 (gt (risL p (gt l k) n_ i c) c) ⟨levelI p ((yK p (gt l k) i)), levelI p ((yK p (gt l k) i))⟩)) = (risL p (gt l k) n_ i (c + 1)) := risL_step (by omega) (by omega) hcn_
         rw [he62]
         refine WC.region ?_
         refine WL.mv rfl ?_
         refine WL.y (X.add rfl rfl (by omega) (by omega)) ?_
         refine WL.ag rfl ?_
         refine WL.z ?_
         refine WK.back hgood2 hle58 ?_
         refine WK.perm [blk b_ 23 [.int .i64 ((lnC p (gt l k) i).Lo), .int .i64 ((lnC p (gt l k) i).Hi)], row (v40) 184 1 (n_) (us.set c v59), many (rowsG 23 (us.set c v59) (risL p (gt l k) n_ i (c + 1))), blk b41 187 [v40], blk b38 102 [.int .i64 ((gt l k).X), .int .i64 ((gt l k).Y), .int .i64 ((gt l k).Half)], many (rowsG 23 vs (ovr n_ (fun j => allN p l j k))), row (v18) 186 2 (n_) (colX vs bs), blk b2 104 [.slice none 0 0]] ((List.Perm.cons _ (.refl _)).trans (List.perm_middle (l₁ := [row (v40) 184 1 (n_) (us.set c v59)]) (l₂ := [many (rowsG 23 (us.set c v59) (risL p (gt l k) n_ i (c + 1))), blk b41 187 [v40], blk b38 102 [.int .i64 ((gt l k).X), .int .i64 ((gt l k).Y), .int .i64 ((gt l k).Half)], many (rowsG 23 vs (ovr n_ (fun j => allN p l j k))), row (v18) 186 2 (n_) (colX vs bs), blk b2 104 [.slice none 0 0]]) (a := blk b_ 23 [.int .i64 ((lnC p (gt l k) i).Lo), .int .i64 ((lnC p (gt l k) i).Hi)])).symm) ?_
         refine WK.next ((c + 1, us.set c v59)) rfl (.refl _) (.cons rfl (.cons rfl (.cons rfl (.cons rfl (.cons rfl (.cons rfl (.cons rfl (.cons rfl (.cons rfl (.cons rfl (.cons rfl .nil))))))))))) ?_ ?_
         ·exact ⟨by omega, by rw [List.length_set]; exact hul2_⟩
         ·(dsimp only; omega)
        ·refine WL.z ?_
         refine WC.condF rfl ?_
         refine WC.exit ?_
         refine WK.eThen ?_
         refine WK.eThen ?_
         refine WK.eHit ?_
         refine WK.nBlock ?_
         have he63 : (risL p (gt l k) n_ i c) = (ovr n_ (fun j => risN p (gt l k) j (i + 1))) := risL_end (fun j hj hc => by omega)
         rw [he63]
         exact WK.goOn (us, ovr n_ (fun j => risN p (gt l k) j (i + 1))) (Mem.le_refl _) (.cons _ (.refl _)) ⟨by simpa using hul2_, rfl⟩
      ·intro m1_3 gh hm1_3 hI1
       obtain ⟨us, M_⟩ := gh
       obtain ⟨hul_, hM_⟩ := hI1
       dsimp only at hul_ hM_
       subst hM_
       replace hl := hl.mono hm1_3
       replace hblots := hblots.mono hm1_3
       replace hp5 := hp5.mono hm1_3
       replace hp16 := hp16.mono hm1_3
       replace hp17 := hp17.mono hm1_3
       replace hp35 := hp35.mono hm1_3
       replace hp39 := hp39.mono hm1_3
       refine WK.keep (σ' := [(3, .pointer (some ((⟨b1, 0, none⟩ : Addr)))), (6, .pointer (some ⟨b2, 0, none⟩)), (8, .pointer (some ((⟨b12, 0, none⟩ : Addr)))), (10, v18), (68, vl), (69, .int .i64 (↑l.length)), (70, .int .i64 (↑k)), (71, .bool true), (72, .pointer (some (p34))), (73, .agg [.int .i64 ((gt l k).X), .int .i64 ((gt l k).Y), .int .i64 ((gt l k).Half)].toArray), (14, .pointer (some ⟨b38, 0, none⟩)), (74, .pointer (some (((⟨b1, 0, none⟩ : Addr)).add 5))), (75, .int .i64 (↑n_)), (76, v40), (15, .pointer (some ⟨b41, 0, none⟩)), (77, .agg [.int .i64 (p.Pitch), .int .i64 (p.Height), .int .i64 (p.Radius), .int .i64 (p.Low), .int .i64 (p.High), .int .i64 (p.Columns), .int .i64 (p.Along.Lo), .int .i64 (p.Along.Hi), .int .i64 (p.Across.Lo), .int .i64 (p.Across.Hi)].toArray), (78, .agg [.int .i64 ((gt l k).X), .int .i64 ((gt l k).Y), .int .i64 ((gt l k).Half)].toArray), (79, .func (.func 143) #[] lb48.toArray)]) (.cons rfl (.cons rfl (.cons rfl (.cons rfl (.cons rfl (.cons rfl (.cons rfl (.cons rfl (.cons rfl (.cons rfl (.cons rfl (.cons rfl (.cons rfl (.cons rfl (.cons rfl (.cons rfl (.cons rfl (.cons rfl .nil)))))))))))))))))) ?_
       show WK _ _ m1_3 [row (v40) 184 1 (n_) (us), many (rowsG 23 us (ovr n_ (fun j => risN p (gt l k) j (lineNo p (gt l k))))), blk b41 187 [v40], blk b38 102 [.int .i64 ((gt l k).X), .int .i64 ((gt l k).Y), .int .i64 ((gt l k).Half)], many (rowsG 23 vs (ovr n_ (fun j => allN p l j k))), row (v18) 186 2 (n_) (colX vs bs), blk b2 104 [.slice none 0 0]] [(3, .pointer (some ((⟨b1, 0, none⟩ : Addr)))), (6, .pointer (some ⟨b2, 0, none⟩)), (8, .pointer (some ((⟨b12, 0, none⟩ : Addr)))), (10, v18), (68, vl), (69, .int .i64 (↑l.length)), (70, .int .i64 (↑k)), (71, .bool true), (72, .pointer (some (p34))), (73, .agg [.int .i64 ((gt l k).X), .int .i64 ((gt l k).Y), .int .i64 ((gt l k).Half)].toArray), (14, .pointer (some ⟨b38, 0, none⟩)), (74, .pointer (some (((⟨b1, 0, none⟩ : Addr)).add 5))), (75, .int .i64 (↑n_)), (76, v40), (15, .pointer (some ⟨b41, 0, none⟩)), (77, .agg [.int .i64 (p.Pitch), .int .i64 (p.Height), .int .i64 (p.Radius), .int .i64 (p.Low), .int .i64 (p.High), .int .i64 (p.Columns), .int .i64 (p.Along.Lo), .int .i64 (p.Along.Hi), .int .i64 (p.Across.Lo), .int .i64 (p.Across.Hi)].toArray), (78, .agg [.int .i64 ((gt l k).X), .int .i64 ((gt l k).Y), .int .i64 ((gt l k).Half)].toArray), (79, .func (.func 143) #[] lb48.toArray)] _
       refine WK.nBlock ?_
       refine WK.nThen ?_
       refine WC.seq ?_
       refine WK.freezeG (α := Span) (k := 0) (M := ovr n_ (fun j => risN p (gt l k) j (lineNo p (gt l k)))) rfl rfl (ovr_len _ _).symm (by rw [ovr_len]; exact hul_) (ris_short hf_ htk_) (by rw [ovr_len]; unfold lenB; omega) (fun m64 hle65 hs66 => ?_)
       replace hl := hl.mono hle65
       replace hblots := hblots.mono hle65
       replace hp5 := hp5.mono hle65
       replace hp16 := hp16.mono hle65
       replace hp17 := hp17.mono hle65
       replace hp35 := hp35.mono hle65
       replace hp39 := hp39.mono hle65
       have hol_ : (ovr n_ (fun j => risN p (gt l k) j (lineNo p (gt l k)))).length = n_ := ovr_len _ _
       refine WC.region ?_
       refine WL.mv rfl ?_
       refine WL.y (X.lenRow (k := 3) Tryz.runUnderlying182 rfl rfl) ?_
       refine WL.mv rfl ?_
       refine WL.z ?_
       refine WC.block ?_
       have he67 : (ovr n_ (fun j => allN p l j k)) = (allL p l n_ k 0) := allL_zero p l n_ k
       rw [he67]
       refine WC.loop (G := Nat × List Value) (fun (q, vs) => n_ - q) (fun (q, vs) => m64) (fun (q, vs) => [blk b41 187 [v40], blk b38 102 [.int .i64 ((gt l k).X), .int .i64 ((gt l k).Y), .int .i64 ((gt l k).Half)], many (rowsG 23 vs (allL p l n_ k q)), row (v18) 186 2 (n_) (colX vs bs), blk b2 104 [.slice none 0 0]]) (fun (q, vs) => [(3, .pointer (some ((⟨b1, 0, none⟩ : Addr)))), (6, .pointer (some ⟨b2, 0, none⟩)), (8, .pointer (some ((⟨b12, 0, none⟩ : Addr)))), (10, v18), (15, .pointer (some ⟨b41, 0, none⟩)), (68, vl), (69, .int .i64 (↑l.length)), (70, .int .i64 (↑k)), (103, .int .i64 (↑n_)), (104, .int .i64 (↑q))]) (fun (q, vs) => q ≤ n_ ∧ vs.length = n_) ((0, vs)) rfl (.refl _) (.cons rfl (.cons rfl (.cons rfl (.cons rfl (.cons rfl (.cons rfl (.cons rfl (.cons rfl (.cons rfl (.cons rfl .nil)))))))))) ?_ ?_
       ·exact ⟨Nat.zero_le _, hvl_⟩
       ·rintro ⟨q, vs⟩ hF68
        show WK _ _ m64 [blk b41 187 [v40], blk b38 102 [.int .i64 ((gt l k).X), .int .i64 ((gt l k).Y), .int .i64 ((gt l k).Half)], many (rowsG 23 vs (allL p l n_ k q)), row (v18) 186 2 (n_) (colX vs bs), blk b2 104 [.slice none 0 0]] [(3, .pointer (some ((⟨b1, 0, none⟩ : Addr)))), (6, .pointer (some ⟨b2, 0, none⟩)), (8, .pointer (some ((⟨b12, 0, none⟩ : Addr)))), (10, v18), (15, .pointer (some ⟨b41, 0, none⟩)), (68, vl), (69, .int .i64 (↑l.length)), (70, .int .i64 (↑k)), (103, .int .i64 (↑n_)), (104, .int .i64 (↑q))] _
        replace hF68 : q ≤ n_ ∧ vs.length = n_ := hF68
        obtain ⟨hq, hvl_⟩ := hF68
        refine WK.good (fun hgood3 => ?_)
        have hcl_ : vs.length = bs.length := (by omega)
        refine WC.r ?_
        refine WL.cond (X.lss rfl rfl) (by decide) (fun h69 => ?_) (fun h69 => ?_)
        ·refine WL.z ?_
         refine WC.seq ?_
         refine WC.condT rfl ?_
         refine WC.skip ?_
         refine WK.nThen ?_
         refine WC.seq ?_
         refine WC.block ?_
         refine WC.r ?_
         refine WL.mv rfl ?_
         refine WL.ag rfl ?_
         refine WL.z ?_
         have hqn_ : q < n_ := (by omega)
         have hap_ := all_P hf_ htr_ (q : Int) k (by omega)
         have hrp_ := ris_P hf_ htk_ (q : Int) (Nat.le_refl _)
         refine WK.takeG (k := 2) (i := q) rfl (by rw [allL_len]; omega) (by rw [allL_len]; omega) ?_
         refine WC.draw (π := (.cons 0 (.cons 1 (.cons 2 (.cons 3 (.cons 4 (.cons 5 (.cons 6 (.cons 7 (.cons 8 (.cons 9 .done))))))))))) [9] [9] rfl (by kernel_rfl) ?_
         refine DW.y rfl rfl (X.move rfl) ?_
         refine DW.y rfl rfl (X.move rfl) ?_
         refine DW.y rfl rfl (X.idxRowE (k := 4) q Tryz.runUnderlying182 Tryz.sizeOf186 rfl rfl rfl (by omega) (by first | omega | (simp; omega) | simp)) ?_
         refine DW.y rfl rfl (X.field Tryz.runUnderlying186 rfl Tryz.sizeOf184 rfl) ?_
         refine DW.y rfl rfl (X.loadB (k := 1) Tryz.isAgg187 rfl rfl rfl) ?_
         refine DW.y rfl rfl (X.move rfl) ?_
         refine DW.xe rfl rfl (E.idxN q Tryz.runUnderlying187 Tryz.sizeOf184 rfl rfl hs66 (by omega)) (by decide) (fun p70 hp71 => ?_)
         have hp72 := At.zero hp71
         refine DW.y rfl rfl (X.field Tryz.runUnderlying184 rfl Tryz.sizeOf28 rfl) ?_
         refine DW.xe rfl rfl (E.loadSl Tryz.isAgg28 rfl hp72) (by decide) (fun v73 hs74 => ?_)
         have hl75 := hs74.le
         refine DW.tM rfl rfl rfl rfl (T.callP (A := [blk b41 187 [v40], blk b38 102 [.int .i64 ((gt l k).X), .int .i64 ((gt l k).Y), .int .i64 ((gt l k).Half)], many (rowsG 23 (vs.eraseIdx q) ((allL p l n_ k q).eraseIdx q)), blk b2 104 [.slice none 0 0]]) Tryz.call78 rfl ((List.Perm.cons _ (.refl _)).trans (List.perm_middle (l₁ := [rowF (gt vs q) 23 (gt (allL p l n_ k q) q), blk b41 187 [v40], blk b38 102 [.int .i64 ((gt l k).X), .int .i64 ((gt l k).Y), .int .i64 ((gt l k).Half)], many (rowsG 23 (vs.eraseIdx q) ((allL p l n_ k q).eraseIdx q))]) (l₂ := [blk b2 104 [.slice none 0 0]]) (a := row (v18) 186 2 (n_) (colX vs bs))).symm) (add78 _ (xs := colX vs bs) (off := q * 2) (L := gt (allL p l n_ k q) q) (colX_s hcl_ (by omega)) (by rw [allL_gt hqn_]; exact hap_) hs74 (by rw [ovr_gt _ hqn_]; exact hrp_))) (by decide) (fun m76 Es_ u_ hle77 hR_ => ?_)
         obtain ⟨rfl, v78, he79, ho80⟩ := hR_
         rw [colX_set _ hcl_] at he79
         subst he79
         replace hl := hl.mono hle77
         replace hblots := hblots.mono hle77
         replace hp5 := hp5.mono hle77
         replace hp16 := hp16.mono hle77
         replace hp17 := hp17.mono hle77
         replace hp35 := hp35.mono hle77
         replace hp39 := hp39.mono hle77
         replace hs66 := hs66.mono hle77
         replace hp71 := hp71.mono hle77
         replace hp72 := hp72.mono hle77
         replace hs74 := hs74.mono hle77
         refine DW.nil ?_
         refine WK.nBlock ?_
         refine WK.nThen ?_
         refine WK.perm [rowF (v78) 23 (unionC ((gt (allL p l n_ k q) q) ++ (gt (ovr n_ (fun j => risN p (gt l k) j (lineNo p (gt l k)))) q))), row (v18) 186 2 (n_) (colX (vs.set q v78) bs), blk b41 187 [v40], blk b38 102 [.int .i64 ((gt l k).X), .int .i64 ((gt l k).Y), .int .i64 ((gt l k).Half)], many (rowsG 23 (vs.eraseIdx q) ((allL p l n_ k q).eraseIdx q)), blk b2 104 [.slice none 0 0]] ((List.Perm.cons _ (.refl _)).trans (List.perm_middle (l₁ := [row (v18) 186 2 (n_) (colX (vs.set q v78) bs)]) (l₂ := [blk b41 187 [v40], blk b38 102 [.int .i64 ((gt l k).X), .int .i64 ((gt l k).Y), .int .i64 ((gt l k).Half)], many (rowsG 23 (vs.eraseIdx q) ((allL p l n_ k q).eraseIdx q)), blk b2 104 [.slice none 0 0]]) (a := rowF (v78) 23 (unionC ((gt (allL p l n_ k q) q) ++ (gt (ovr n_ (fun j => risN p (gt l k) j (lineNo p (gt l k)))) q))))).symm) ?_
         refine WK.putG (k := 3) (i := q) (vs := vs) (M := allL p l n_ k q) rfl (by rw [allL_len]; omega) (by rw [allL_len]; omega) ?_
         have he81 : ((allL p l n_ k q).set q (unionC ((gt (allL p l n_ k q) q) ++ (gt (ovr n_ (fun j => risN p (gt l k) j (lineNo p (gt l k)))) q)))) = (allL p l n_ k (q + 1)) := allL_step hqn_ (ovr_gt _ hqn_)
         rw [he81]
         refine WC.region ?_
         refine WL.y (X.add rfl rfl (by omega) (by omega)) ?_
         refine WL.mv rfl ?_
         refine WL.z ?_
         refine WK.back hgood3 hle77 ?_
         refine WK.perm [blk b41 187 [v40], blk b38 102 [.int .i64 ((gt l k).X), .int .i64 ((gt l k).Y), .int .i64 ((gt l k).Half)], many (rowsG 23 (vs.set q v78) (allL p l n_ k (q + 1))), row (v18) 186 2 (n_) (colX (vs.set q v78) bs), blk b2 104 [.slice none 0 0]] ((List.Perm.cons _ ((List.Perm.cons _ ((List.Perm.cons _ (.refl _)).trans (List.perm_middle (l₁ := [row (v18) 186 2 (n_) (colX (vs.set q v78) bs)]) (l₂ := [blk b2 104 [.slice none 0 0]]) (a := many (rowsG 23 (vs.set q v78) (allL p l n_ k (q + 1))))).symm)).trans (List.perm_middle (l₁ := [row (v18) 186 2 (n_) (colX (vs.set q v78) bs)]) (l₂ := [many (rowsG 23 (vs.set q v78) (allL p l n_ k (q + 1))), blk b2 104 [.slice none 0 0]]) (a := blk b38 102 [.int .i64 ((gt l k).X), .int .i64 ((gt l k).Y), .int .i64 ((gt l k).Half)])).symm)).trans (List.perm_middle (l₁ := [row (v18) 186 2 (n_) (colX (vs.set q v78) bs)]) (l₂ := [blk b38 102 [.int .i64 ((gt l k).X), .int .i64 ((gt l k).Y), .int .i64 ((gt l k).Half)], many (rowsG 23 (vs.set q v78) (allL p l n_ k (q + 1))), blk b2 104 [.slice none 0 0]]) (a := blk b41 187 [v40])).symm) ?_
         refine WK.next ((q + 1, vs.set q v78)) rfl (.refl _) (.cons rfl (.cons rfl (.cons rfl (.cons rfl (.cons rfl (.cons rfl (.cons rfl (.cons rfl (.cons rfl (.cons rfl .nil)))))))))) ?_ ?_
         ·exact ⟨by omega, by rw [List.length_set]; exact hvl_⟩
         ·(dsimp only; omega)
        ·refine WL.z ?_
         refine WC.seq ?_
         refine WC.condF rfl ?_
         refine WC.exit ?_
         refine WK.eThen ?_
         refine WK.eThen ?_
         refine WK.eHit ?_
         refine WK.nBlock ?_
         refine WK.nThen ?_
         refine WC.region ?_
         refine WL.y (X.add rfl rfl (by omega) (by omega)) ?_
         refine WL.mv rfl ?_
         refine WL.z ?_
         have hqn2_ : q = n_ := (by omega)
         have he82 : (allL p l n_ k q) = (ovr n_ (fun j => allN p l j (k + 1))) := (by rw [hqn2_]; exact allL_end p l n_ k)
         rw [he82]
         refine WK.back hgood1 (Mem.le_trans hle47 (Mem.le_trans hm1_3 hle65)) ?_
         refine WK.next ((k + 1, vs)) rfl (.cons _ (.cons _ (.cons_cons _ (.cons_cons _ (.cons_cons _ .slnil))))) (.cons rfl (.cons rfl (.cons rfl (.cons rfl (.cons rfl (.cons rfl (.cons rfl .nil))))))) ?_ ?_
         ·exact ⟨by omega, by assumption⟩
         ·(dsimp only; omega)
      ·intro i m1 gh hm1 hi hI1
       exact hI1.elim
      ·intro id i m1 gh hm1 hi hI1
       exact hI1.elim
     ·refine WL.z ?_
      refine WC.seq ?_
      refine WC.condF rfl ?_
      refine WC.exit ?_
      refine WK.eThen ?_
      refine WK.eThen ?_
      refine WK.eHit ?_
      refine WK.nThen ?_
      refine WC.r ?_
      have hp83 := At.Paper_5 hp5
      refine WL.y (X.field Tryz.runUnderlying25 rfl Tryz.sizeOf3 rfl) ?_
      refine WL.y (X.loadInt Tryz.isAgg3 rfl hp83) ?_
      rw [hn_]
      refine WL.ta (T.makeN n_ (a := (⟨Value.slice none 0 0, rfl⟩ : RawV)) sl67 rfl rfl rfl (by omega) (by decide)) (by decide) (fun v84 => ?_)
      rw [raw_zero]
      refine WL.own1 (k := 0) rfl (fun ho85 => ?_)
      refine WL.y (V := Value.agg [v84].toArray) (X.build Tryz.zeroValue104 Tryz.runUnderlying104 (places104 _ Tryz.underlying104) rfl (by simp only [Instr.fill, one_cells ho85]; rfl)) ?_
      refine WL.tn (T.alloc Tryz.zeroValue104 rfl) (by decide) fun b86 => ?_
      refine WL.ts (T.storeBA (k := 0) Tryz.sizeOf104 rfl rfl rfl (one_cons ho85 one_nil) rfl rfl) ?_
      refine WL.z ?_
      refine WC.seq ?_
      refine WC.seq ?_
      have hkl_ : k = l.length := (by omega)
      have he87 : (ovr n_ (fun j => allN p l j k)) = (ovr n_ (fun j => allN p l j l.length)) := (by rw [hkl_])
      rw [he87]
      refine WK.freezeFam (k := 2) rfl rfl (by rw [ovr_len]; exact hvl_) (all_short hf_ htr_) (fun m88 hle89 hfam_ => ?_)
      replace hl := hl.mono hle89
      replace hblots := hblots.mono hle89
      replace hp5 := hp5.mono hle89
      replace hp16 := hp16.mono hle89
      replace hp17 := hp17.mono hle89
      replace hp83 := hp83.mono hle89
      have hws0_ : RdL m88 (List.replicate n_ (Value.slice none 0 0)) (outL p l blots n_ 0) := (by rw [← outL_zero]; exact rdl_nils _ _)
      refine WC.region ?_
      refine WL.mv rfl ?_
      refine WL.y (X.lenRow (k := 2) Tryz.runUnderlying182 rfl rfl) ?_
      refine WL.mv rfl ?_
      refine WL.z ?_
      refine WC.block ?_
      refine WC.loop (G := Nat × List Value) (fun (q, ws) => n_ - q) (fun (q, ws) => m88) (fun (q, ws) => [blk b86 104 [v84], row (v84) 28 1 (n_) (ws), row (v18) 186 2 (n_) (colX vs bs), blk b2 104 [.slice none 0 0]]) (fun (q, ws) => [(6, .pointer (some ⟨b2, 0, none⟩)), (20, .pointer (some ⟨b86, 0, none⟩)), (123, v18), (124, .int .i64 (↑n_)), (125, .int .i64 (↑q))]) (fun (q, ws) => q ≤ n_ ∧ RdL m88 ws (outL p l blots n_ q) ∧ ∀ j : Nat, j < q → (colS p l blots j).length ≤ 8) ((0, (List.replicate n_ (Value.slice none 0 0)))) rfl (.refl _) (.cons rfl (.cons rfl (.cons rfl (.cons rfl (.cons rfl .nil))))) ?_ ?_
      ·exact ⟨Nat.zero_le _, hws0_, fun j hj => absurd hj (Nat.not_lt_zero _)⟩
      ·rintro ⟨q, ws⟩ hF90
       show WK _ _ m88 [blk b86 104 [v84], row (v84) 28 1 (n_) (ws), row (v18) 186 2 (n_) (colX vs bs), blk b2 104 [.slice none 0 0]] [(6, .pointer (some ⟨b2, 0, none⟩)), (20, .pointer (some ⟨b86, 0, none⟩)), (123, v18), (124, .int .i64 (↑n_)), (125, .int .i64 (↑q))] _
       replace hF90 : q ≤ n_ ∧ RdL m88 ws (outL p l blots n_ q) ∧ ∀ j : Nat, j < q → (colS p l blots j).length ≤ 8 := hF90
       obtain ⟨hq, hws_, hin_⟩ := hF90
       have hwl_ : ws.length = n_ := (by have h_ := hws_.1; rw [outL_len] at h_; exact h_.trans (Nat.mul_one _))
       refine WC.r ?_
       refine WL.cond (X.lss rfl rfl) (by decide) (fun h91 => ?_) (fun h91 => ?_)
       ·refine WL.z ?_
        refine WC.seq ?_
        refine WC.condT rfl ?_
        refine WC.skip ?_
        refine WK.nThen ?_
        refine WC.seq ?_
        refine WC.block ?_
        refine WC.r ?_
        refine WL.mv rfl ?_
        refine WL.y (X.idxRowE (k := 2) q Tryz.runUnderlying182 Tryz.sizeOf186 rfl rfl rfl (by omega) (by first | omega | (simp; omega) | simp)) ?_
        have hs92 : Sl m88 (gt vs q) (allN p l q l.length) := (by have h_ := hfam_ q (by rw [ovr_len]; omega); rwa [ovr_gt _ (by omega)] at h_)
        refine WL.y (V := .agg [gt vs q, .bool (gt bs q)].toArray) (X.loadRowP (k := 2) (us := [gt vs q, .bool (gt bs q)]) Tryz.isAgg186 Tryz.sizeOf186 rfl rfl rfl (two_at (colX_s (by omega) (by omega)) (colX_b (by omega) (by omega)))) ?_
        refine WL.tn (T.alloc Tryz.zeroValue186 rfl) (by decide) fun b93 => ?_
        refine WL.ag rfl ?_
        refine WL.ts (T.storeBA (k := 0) Tryz.sizeOf186 rfl rfl rfl (one_cons hs92.one (one_cons rfl one_nil)) rfl rfl) ?_
        refine WL.z ?_
        refine WC.seq ?_
        refine WC.block ?_
        refine WC.r ?_
        refine WL.y (X.field Tryz.runUnderlying186 rfl Tryz.sizeOf4 rfl) ?_
        refine WL.condb (X.loadB (k := 0) Tryz.isAgg4 rfl rfl rfl) (by decide) (fun h94 => ?_) (fun h94 => ?_)
        ·have hyb_ : (q : Int) ∈ blots := (by have h_ := h94; rw [hbs_, blN_gt (by omega)] at h_; exact of_decide_eq_true h_)
         refine WL.ag rfl ?_
         refine WL.z ?_
         refine WC.condT rfl ?_
         refine WC.exit ?_
         refine WK.eMiss rfl ?_
         refine WK.eThen ?_
         refine WK.eHit ?_
         refine WK.nThen ?_
         refine WC.region ?_
         refine WL.y (X.add rfl rfl (by omega) (by omega)) ?_
         refine WL.mv rfl ?_
         refine WL.z ?_
         have hstep_ : RdL m88 ws (outL p l blots n_ (q + 1)) := (by rw [← outL_skip (col_blot hyb_)]; exact hws_)
         refine WK.next ((q + 1, ws)) rfl (.cons _ (.cons_cons _ (.cons_cons _ (.cons_cons _ (.cons_cons _ .slnil))))) (.cons rfl (.cons rfl (.cons rfl (.cons rfl (.cons rfl .nil))))) ?_ ?_
         ·exact ⟨by omega, hstep_, fun j hj => by rcases Nat.lt_succ_iff_lt_or_eq.1 hj with h | h; exact hin_ j h; subst h; first | (rw [col_blot hyb_]; exact Nat.zero_le _) | (rw [col_ink hnb_]; omega)⟩
         ·(dsimp only; omega)
        ·have hnb_ : ¬ (q : Int) ∈ blots := (by have h_ := h94; rw [hbs_, blN_gt (by omega)] at h_; exact of_decide_eq_false h_)
         refine WL.ag rfl ?_
         refine WL.z ?_
         refine WC.condF rfl ?_
         refine WC.r ?_
         refine WL.y (X.field Tryz.runUnderlying186 rfl Tryz.sizeOf184 rfl) ?_
         refine WL.y (X.field Tryz.runUnderlying184 rfl Tryz.sizeOf28 rfl) ?_
         refine WL.y (X.loadB (k := 0) Tryz.isAgg28 rfl rfl rfl) ?_
         refine WL.y (X.len Tryz.runUnderlying28 rfl hs92) ?_
         refine WL.cond (X.gtr rfl rfl) (by decide) (fun h95 => ?_) (fun h95 => ?_)
         ·refine WL.ag rfl ?_
          refine WL.z ?_
          refine WC.condT rfl ?_
          refine WC.r ?_
          refine WL.y (V := Value.agg [.slice none 0 0].toArray) (X.build Tryz.zeroValue104 Tryz.runUnderlying104 (places104 _ Tryz.underlying104) rfl rfl) ?_
          refine WL.ts (T.storeBA (k := 4) Tryz.sizeOf104 rfl rfl rfl (one_cons rfl one_nil) rfl rfl) ?_
          refine WL.ag rfl ?_
          refine WL.z ?_
          refine WC.ret ?_
          refine WK.rBlock ?_
          refine WK.rThen ?_
          refine WK.rBlock ?_
          refine WK.rThen ?_
          refine WK.rThen ?_
          refine WK.rBlock ?_
          refine WK.rThen ?_
          refine WK.retC2 4 rfl rfl rfl rfl Tryz.isAgg104 Tryz.sizeOf104 (fun w' hw' => Ret.mem hw' ?_)
          first | exact ⟨_, tup2 rfl (int_eq (by rw [inkE_err (by omega)])), by rw [inkC_bad (by rw [inkE_err (by omega)]; omega)]; exact ⟨_, rfl, .nil⟩⟩ | exact ⟨_, tup2 rfl (int_eq (by rw [inkE_blot (by omega) (fun h_ => by have h1_ := h_ k (by omega); omega)])), by rw [inkC_bad (by rw [inkE_blot (by omega) (fun h_ => by have h1_ := h_ k (by omega); omega)]; omega)]; exact ⟨_, rfl, .nil⟩⟩ | exact ⟨_, tup2 rfl (int_eq (by rw [inkE_big (by omega) hbp_ (fun h_ => by have h1_ := h_ q (by omega); rw [col_ink hnb_] at h1_; omega)])), by rw [inkC_bad (by rw [inkE_big (by omega) hbp_ (fun h_ => by have h1_ := h_ q (by omega); rw [col_ink hnb_] at h1_; omega)]; omega)]; exact ⟨_, rfl, .nil⟩⟩
         ·refine WL.ag rfl ?_
          refine WL.z ?_
          refine WC.condF rfl ?_
          refine WC.skip ?_
          refine WK.nBlock ?_
          refine WK.nThen ?_
          refine WC.region ?_
          refine WL.y (X.field Tryz.runUnderlying104 rfl Tryz.sizeOf67 rfl) ?_
          refine WL.y (X.loadB (k := 1) Tryz.isAgg67 rfl rfl rfl) ?_
          refine WL.mv rfl ?_
          refine WL.y (X.field Tryz.runUnderlying186 rfl Tryz.sizeOf184 rfl) ?_
          refine WL.y (X.field Tryz.runUnderlying184 rfl Tryz.sizeOf28 rfl) ?_
          refine WL.y (X.loadB (k := 0) Tryz.isAgg28 rfl rfl rfl) ?_
          refine WL.y (X.idxRowE (k := 2) q Tryz.runUnderlying67 Tryz.sizeOf28 rfl rfl rfl (by omega) (by first | omega | (simp; omega) | simp)) ?_
          refine WL.ts (T.storeC (off := q * 1) (k := 2) Tryz.sizeOf28 rfl rfl rfl hs92.one (by omega)) ?_
          refine WL.nil ?_
          refine WK.nBlock ?_
          refine WK.nThen ?_
          refine WC.region ?_
          refine WL.y (X.add rfl rfl (by omega) (by omega)) ?_
          refine WL.mv rfl ?_
          refine WL.z ?_
          have he96 : (ws.set (q * 1) (gt vs q)) = (ws.set q (gt vs q)) := (by rw [Nat.mul_one])
          rw [he96]
          have hstep_ : RdL m88 (ws.set q (gt vs q)) (outL p l blots n_ (q + 1)) := (by have h_ := rdl_set1 hws_ hs92 (i := q) (by rw [outL_len]; omega); rwa [outL_step (col_ink hnb_).symm] at h_)
          refine WK.next ((q + 1, ws.set q (gt vs q))) rfl (.cons _ (.refl _)) (.cons rfl (.cons rfl (.cons rfl (.cons rfl (.cons rfl .nil))))) ?_ ?_
          ·exact ⟨by omega, hstep_, fun j hj => by rcases Nat.lt_succ_iff_lt_or_eq.1 hj with h | h; exact hin_ j h; subst h; first | (rw [col_blot hyb_]; exact Nat.zero_le _) | (rw [col_ink hnb_]; omega)⟩
          ·(dsimp only; omega)
       ·refine WL.z ?_
        refine WC.seq ?_
        refine WC.condF rfl ?_
        refine WC.exit ?_
        refine WK.eThen ?_
        refine WK.eThen ?_
        refine WK.eHit ?_
        refine WK.nThen ?_
        refine WC.seq ?_
        have hqn_ : q = n_ := (by omega)
        rw [hqn_] at hws_ hin_
        have hrow_ : row v84 28 1 n_ ws = row v84 28 1 (outL p l blots n_ n_).length ws := (by rw [outL_len])
        rw [hrow_]
        have hib_ : inkB p l blots := (fun c hc => hin_ c (by omega))
        refine WC.region ?_
        refine WL.y (X.loadBA (k := 0) Tryz.isAgg104 Tryz.sizeOf104 rfl rfl rfl) ?_
        refine WL.ts (T.storeBA (k := 3) Tryz.sizeOf104 rfl rfl rfl (one_cons ho85 one_nil) rfl rfl) ?_
        refine WL.ag rfl ?_
        refine WL.z ?_
        refine WC.ret ?_
        refine WK.freezeL 1 rfl rfl hws_ (by rw [outL_len]; unfold lenB; omega) (fun m97 hle98 hs99 => ?_)
        replace hl := hl.mono hle98
        replace hblots := hblots.mono hle98
        replace hp5 := hp5.mono hle98
        replace hp16 := hp16.mono hle98
        replace hp17 := hp17.mono hle98
        replace hp83 := hp83.mono hle98
        replace hws_ := hws_.mono hle98
        refine WK.retC2 2 rfl rfl rfl rfl Tryz.isAgg104 Tryz.sizeOf104 (fun w' hw' => Ret.mem hw' ?_)
        have hie_ := inkE_ok (show ¬ readE p l ≠ 0 by omega) hbp_ hib_
        have hon_ := outL_end p l blots n_
        have hcn_ : p.Columns.toNat = n_ := (by omega)
        exact ⟨_, tup2 rfl (int_eq hie_.symm), by rw [inkC_ok hie_, hcn_, ← hon_]; exact ⟨_, rfl, hs99⟩⟩

end Go.Proofs.T10
