import Derived.Test.YtmnipmbgdbdjeaaC2W12
import Derived.Test.YtmnipmbgdbdjeaaC2Nxt
import Derived.Test.YtmnipmbgdbdjeaaKxR
/- Clocks: walks of the reference, by program. -/
namespace Go.Proofs.C2
open Go Go.Kx
set_option linter.unusedVariables false

theorem some142 (m : Mem) (vm_ : Value) (m_ : List Mark) (hm_ : Sl m vm_ m_) (vl : Value) (l : List Int) (hl : Sl m vl l)  (hp1 : l.length ≤ 1000) (hp2 : rngP m_.length l) : Pure Try.prog 142 #[vm_, vl] m (fun m' v => ∃ r0, v = r0 ∧ Sl m' r0 (selL m_ l)) := by
  have lm_ := hm_.le
  have ll := hl.le
  refine Pure.start Try.func142 rfl Try.ntmps142 rfl fun wld => ?_
  refine WC.seq ?_
  refine WC.region ?_
  refine WL.x (X.assign rfl) (by decide) ?_
  refine WL.nil ?_
  refine WK.nThen ?_
  refine WC.seq ?_
  refine WK.ownF Mark 33 ?_
  refine WC.region ?_
  refine WL.x (X.assign rfl) (by decide) ?_
  refine WL.nil ?_
  refine WK.nThen ?_
  refine WC.seq ?_
  refine WC.seq ?_
  refine WC.region ?_
  refine WL.x (X.assign rfl) (by decide) ?_
  refine WL.nil ?_
  refine WK.nThen ?_
  refine WC.block ?_
  refine WC.loop (G := Nat × Value) (fun (k, vo) => l.length - k) (fun (k, vo) => m) (fun (k, vo) => [rowF (vo) 33 ((List.range k).map (fun j => gt m_ (gt l j).toNat))]) (fun (k, vo) => [(0, vm_), (1, vl), (5, vo), (6, .int .i64 (↑k))]) (fun (k, vo) => k ≤ l.length) ((0, Value.slice none 0 0)) rfl (.refl _) (.cons rfl (.cons rfl (.cons rfl (.cons rfl .nil)))) ?_ ?_
  · exact Nat.zero_le _
  · rintro ⟨k, vo⟩ hF1
    show WK _ _ m [rowF (vo) 33 ((List.range k).map (fun j => gt m_ (gt l j).toNat))] [(0, vm_), (1, vl), (5, vo), (6, .int .i64 (↑k))] _
    replace hF1 : k ≤ l.length := hF1
    have hk := hF1
    refine WC.seq ?_
    refine WC.seq ?_
    refine WC.region ?_
    refine WL.x (X.move rfl) (by decide) ?_
    refine WL.x (X.move rfl) (by decide) ?_
    refine WL.x (X.len Try.runUnderlying29 rfl hl) (by decide) ?_
    refine WL.cond (X.lss rfl rfl) (by decide) (fun h2 => ?_) (fun h2 => ?_)
    · refine WL.nil ?_
      refine WK.nThen ?_
      refine WC.condT rfl ?_
      refine WC.skip ?_
      refine WK.nThen ?_
      refine WC.seq ?_
      refine WC.block ?_
      have hrg := hp2 k (by omega)
      refine WC.region ?_
      refine WL.x (X.move rfl) (by decide) ?_
      refine WL.x (X.move rfl) (by decide) ?_
      refine WL.x (X.move rfl) (by decide) ?_
      refine WL.x (X.move rfl) (by decide) ?_
      refine WL.xe (E.idxN k Try.runUnderlying29 Try.sizeOf3 rfl rfl hl (by omega)) (by decide) (fun p3 hp4 => ?_)
      refine WL.x (X.loadInt Try.isAgg3 rfl hp4) (by decide) ?_
      refine WL.xe (E.idx Try.runUnderlying26 Try.sizeOf33 rfl rfl hm_ (by omega) (by omega)) (by decide) (fun p5 hp6 => ?_)
      refine WL.xe (E.loadAgg Try.isAgg33 Try.sizeOf33 rfl hp6) (by decide) (fun c7 hc8 => ?_)
      obtain rfl := hc8
      refine WL.tl (T.lit1 sl26 rfl rfl rfl (by decide)) (by decide) fun b9 => ?_
      refine WL.ta (T.appendF (k := 0) (a := gt m_ ((gt l k : Int).toNat)) sl26 rfl rfl rfl rfl (by first | omega | (simp; done) | (simp; omega)) (by decide)) (by decide) (fun v10 => ?_)
      refine WL.x (X.assign rfl) (by decide) ?_
      refine WL.nil ?_
      refine WK.nBlock ?_
      refine WK.nThen ?_
      refine WC.region ?_
      refine WL.x (X.move rfl) (by decide) ?_
      refine WL.x (X.add rfl rfl (by omega) (by omega)) (by decide) ?_
      refine WL.x (X.assign rfl) (by decide) ?_
      refine WL.nil ?_
      refine WK.nThen ?_
      have he11 : (((List.range k).map (fun j => gt m_ (gt l j).toNat)) ++ [gt m_ ((gt l k : Int).toNat)]) = ((List.range (k + 1)).map (fun j => gt m_ (gt l j).toNat)) := (map_succ2 _ _)
      rw [he11]
      refine WK.next ((k + 1, v10)) rfl (.refl _) (.cons rfl (.cons rfl (.cons rfl (.cons rfl .nil)))) ?_ ?_
      · omega
      · (dsimp only; omega)
    · refine WL.nil ?_
      refine WK.nThen ?_
      refine WC.condF rfl ?_
      refine WC.exit ?_
      refine WK.eThen ?_
      refine WK.eThen ?_
      refine WK.eHit ?_
      refine WK.nThen ?_
      refine WC.seq ?_
      obtain rfl : k = l.length := (by omega)
      refine WC.region ?_
      refine WL.x (X.move rfl) (by decide) ?_
      refine WL.x (X.assign rfl) (by decide) ?_
      refine WL.nil ?_
      refine WK.nThen ?_
      refine WC.ret ?_
      refine WK.freezeF 0 rfl rfl (by simp [lenB]; omega) (fun m12 hle13 hs14 => ?_)
      replace hm_ := hm_.mono hle13
      replace hl := hl.mono hle13
      refine WK.ret1 rfl rfl (fun w' hw' => Ret.mem hw' ?_)
      exact ⟨_, rfl, hs14⟩

theorem together121 (m : Mem) (cd : List Value) (d : Drum) (hd : Enc.rd m cd d) (vm_ : Value) (m_ : List Mark) (hm_ : Sl m vm_ m_) (vl : Value) (l : List Int) (hl : Sl m vl l)  (hok : Ok d m_) (hpr : rngP m_.length l) (hpl : l.length ≤ 64) : Exact Try.prog 121 #[.agg cd.toArray, vm_, vl] m (.bool (decide (okD d (selL m_ l)))) := by
  obtain ⟨v1, v3, rfl, hs2, hs4⟩ := hd
  have hl5 := hs2.le
  have hl6 := hs4.le
  have lm_ := hm_.le
  have ll := hl.le
  refine Exact.start Try.func121 rfl Try.ntmps121 rfl fun wld => ?_
  refine WC.seq ?_
  refine WC.region ?_
  refine WL.tn (T.boxB rfl rfl) (by decide) fun b7 => ?_
  refine WL.x (X.assign rfl) (by decide) ?_
  refine WL.nil ?_
  refine WK.nThen ?_
  refine WC.seq ?_
  refine WC.draw (π := (.cons 0 (.cons 1 (.cons 2 (.cons 3 (.cons 4 (.cons 5 (.cons 6 (.cons 7 (.cons 8 (.cons 9 .done))))))))))) [3, 4] [] rfl (by kernel_rfl) ?_
  refine DW.x rfl rfl (X.loadBA (k := 0) Try.isAgg25 Try.sizeOf25 rfl rfl rfl) (by decide) ?_
  refine DW.x rfl rfl (X.move rfl) (by decide) ?_
  refine DW.x rfl rfl (X.move rfl) (by decide) ?_
  refine DW.tm rfl rfl rfl (T.call Try.call142 rfl (some142 _ _ _ hm_ _ _ hl (by first | assumption | omega) (by first | assumption | omega))) (by decide) fun m8 r9 hle10 hR11 => ?_
  obtain ⟨v12, hv_, hs13⟩ := hR11
  rw [← hv_] at hs13
  clear hv_ v12
  replace hs2 := hs2.mono hle10
  replace hs4 := hs4.mono hle10
  replace hm_ := hm_.mono hle10
  replace hl := hl.mono hle10
  have hl14 := hs13.le
  refine DW.tm rfl rfl rfl (T.call Try.call89 rfl (spans89 _ _ d ⟨_, _, rfl, hs2, hs4⟩ _ _ hs13 (by first | exact (sel_Ok hok hpl hpr).val | (rw [selL_len]; omega)) (by first | exact (sel_Ok hok hpl hpr).val | (rw [selL_len]; omega)))) (by decide) fun m15 r16 hle17 hR18 => ?_
  obtain ⟨v19, rfl, hs20⟩ := hR18
  replace hs2 := hs2.mono hle17
  replace hs4 := hs4.mono hle17
  replace hm_ := hm_.mono hle17
  replace hl := hl.mono hle17
  replace hs13 := hs13.mono hle17
  have hl21 := hs20.le
  refine DW.x rfl rfl (X.move rfl) (by decide) ?_
  refine DW.x rfl rfl (X.extract rfl rfl) (by decide) ?_
  refine DW.x rfl rfl (X.extract rfl rfl) (by decide) ?_
  refine DW.x rfl rfl (X.assign rfl) (by decide) ?_
  refine DW.x rfl rfl (X.assign rfl) (by decide) ?_
  refine DW.nil ?_
  refine WK.nThen ?_
  refine WC.seq ?_
  refine WC.region ?_
  refine WL.x (X.move rfl) (by decide) ?_
  refine WL.x (X.assign rfl) (by decide) ?_
  refine WL.nil ?_
  refine WK.nThen ?_
  refine WC.ret ?_
  refine WK.ret1 rfl rfl (fun w' hw' => Ret.exact hw' ?_)
  exact congrArg Value.bool (sp_ok _ _)

theorem rest122 (m : Mem) (vl : Value) (l : List Int) (hl : Sl m vl l) (n : Int)  (hpn : 0 ≤ n ∧ n ≤ 1000) : Pure Try.prog 122 #[vl, .int .i64 (n)] m (fun m' v => ∃ r0, v = r0 ∧ Sl m' r0 (rstN l (n : Int).toNat)) := by
  have ll := hl.le
  refine Pure.start Try.func122 rfl Try.ntmps122 rfl fun wld => ?_
  refine WC.seq ?_
  refine WC.region ?_
  refine WL.x (X.assign rfl) (by decide) ?_
  refine WL.nil ?_
  refine WK.nThen ?_
  refine WC.seq ?_
  refine WK.ownF Int 3 ?_
  refine WC.region ?_
  refine WL.x (X.assign rfl) (by decide) ?_
  refine WL.nil ?_
  refine WK.nThen ?_
  refine WC.seq ?_
  refine WC.seq ?_
  refine WC.region ?_
  refine WL.x (X.assign rfl) (by decide) ?_
  refine WL.nil ?_
  refine WK.nThen ?_
  refine WC.block ?_
  refine WC.loop (G := Nat × Value) (fun (i, vo) => n.toNat - i) (fun (i, vo) => m) (fun (i, vo) => [rowF (vo) 3 (rstN l i)]) (fun (i, vo) => [(0, vl), (1, .int .i64 (n)), (5, vo), (6, .int .i64 (↑i))]) (fun (i, vo) => i ≤ n.toNat) ((0, Value.slice none 0 0)) rfl (.refl _) (.cons rfl (.cons rfl (.cons rfl (.cons rfl .nil)))) ?_ ?_
  · exact Nat.zero_le _
  · rintro ⟨i, vo⟩ hF1
    show WK _ _ m [rowF (vo) 3 (rstN l i)] [(0, vl), (1, .int .i64 (n)), (5, vo), (6, .int .i64 (↑i))] _
    replace hF1 : i ≤ n.toNat := hF1
    have hi := hF1
    refine WC.seq ?_
    refine WC.seq ?_
    refine WC.region ?_
    refine WL.x (X.move rfl) (by decide) ?_
    refine WL.x (X.move rfl) (by decide) ?_
    refine WL.cond (X.lss rfl rfl) (by decide) (fun h2 => ?_) (fun h2 => ?_)
    · refine WL.nil ?_
      refine WK.nThen ?_
      refine WC.condT rfl ?_
      refine WC.skip ?_
      refine WK.nThen ?_
      refine WC.seq ?_
      refine WC.block ?_
      refine WC.seq ?_
      have hrl := rst_len l i
      refine WC.region ?_
      refine WL.x (X.assign rfl) (by decide) ?_
      refine WL.nil ?_
      refine WK.nThen ?_
      refine WC.seq ?_
      refine WC.seq ?_
      refine WC.region ?_
      refine WL.x (X.assign rfl) (by decide) ?_
      refine WL.nil ?_
      refine WK.nThen ?_
      refine WC.block ?_
      refine WC.loop (G := Nat × Bool) (fun (k, hb) => l.length - k) (fun (k, hb) => m) (fun (k, hb) => [rowF (vo) 3 (rstN l i)]) (fun (k, hb) => [(0, vl), (1, .int .i64 (n)), (5, vo), (6, .int .i64 (↑i)), (7, .bool (hb)), (8, .int .i64 (↑k))]) (fun (k, hb) => k ≤ l.length ∧ (hb = true ↔ ∃ j, j < k ∧ gt l j = ↑i)) ((0, false)) rfl (.refl _) (.cons rfl (.cons rfl (.cons rfl (.cons rfl (.cons rfl (.cons rfl .nil)))))) ?_ ?_
      · exact ⟨Nat.zero_le _, ⟨fun h_ => Bool.noConfusion h_, fun ⟨j, hj, _⟩ => absurd hj (Nat.not_lt_zero _)⟩⟩
      · rintro ⟨k, hb⟩ hF3
        show WK _ _ m [rowF (vo) 3 (rstN l i)] [(0, vl), (1, .int .i64 (n)), (5, vo), (6, .int .i64 (↑i)), (7, .bool (hb)), (8, .int .i64 (↑k))] _
        replace hF3 : k ≤ l.length ∧ (hb = true ↔ ∃ j, j < k ∧ gt l j = ↑i) := hF3
        obtain ⟨hk, hhb⟩ := hF3
        refine WC.seq ?_
        refine WC.seq ?_
        refine WC.region ?_
        refine WL.x (X.move rfl) (by decide) ?_
        refine WL.x (X.move rfl) (by decide) ?_
        refine WL.x (X.len Try.runUnderlying29 rfl hl) (by decide) ?_
        refine WL.cond (X.lss rfl rfl) (by decide) (fun h4 => ?_) (fun h4 => ?_)
        · refine WL.nil ?_
          refine WK.nThen ?_
          refine WC.condT rfl ?_
          refine WC.skip ?_
          refine WK.nThen ?_
          refine WC.seq ?_
          refine WC.block ?_
          refine WC.region ?_
          refine WL.x (X.move rfl) (by decide) ?_
          refine WL.condb (X.move rfl) (by decide) (fun h5 => ?_) (fun h5 => ?_)
          · refine WL.no rfl rfl rfl (by decide) ?_
            refine WL.no rfl rfl rfl (by decide) ?_
            refine WL.no rfl rfl rfl (by decide) ?_
            refine WL.no rfl rfl rfl (by decide) ?_
            refine WL.no rfl rfl rfl (by decide) ?_
            refine WL.no rfl rfl rfl (by decide) ?_
            refine WL.x (X.pickT rfl rfl rfl) (by decide) ?_
            refine WL.x (X.assign rfl) (by decide) ?_
            refine WL.nil ?_
            refine WK.nBlock ?_
            refine WK.nThen ?_
            refine WC.region ?_
            refine WL.x (X.move rfl) (by decide) ?_
            refine WL.x (X.add rfl rfl (by omega) (by omega)) (by decide) ?_
            refine WL.x (X.assign rfl) (by decide) ?_
            refine WL.nil ?_
            refine WK.nThen ?_
            refine WK.next ((k + 1, true)) rfl (.refl _) (.cons rfl (.cons rfl (.cons rfl (.cons rfl (.cons rfl (.cons rfl .nil)))))) ?_ ?_
            · exact ⟨by omega, by first | exact has_a (by assumption) hhb | exact has_b (by assumption) (by assumption) hhb | exact has_c (by assumption) hhb | exact has_d (by assumption) hhb⟩
            · (dsimp only; omega)
          · refine WL.yes rfl rfl ?_
            refine WL.x (X.move rfl) (by decide) ?_
            refine WL.yes rfl rfl ?_
            refine WL.x (X.move rfl) (by decide) ?_
            refine WL.yes rfl rfl ?_
            refine WL.xe (E.idxN k Try.runUnderlying29 Try.sizeOf3 rfl rfl hl (by omega)) (by decide) (fun p6 hp7 => ?_)
            refine WL.yes rfl rfl ?_
            refine WL.x (X.loadInt Try.isAgg3 rfl hp7) (by decide) ?_
            refine WL.yes rfl rfl ?_
            refine WL.x (X.move rfl) (by decide) ?_
            refine WL.yes rfl rfl ?_
            refine WL.cond (X.eql rfl rfl) (by decide) (fun h8 => ?_) (fun h8 => ?_)
            · refine WL.x (X.pickF rfl rfl rfl) (by decide) ?_
              refine WL.x (X.assign rfl) (by decide) ?_
              refine WL.nil ?_
              refine WK.nBlock ?_
              refine WK.nThen ?_
              refine WC.region ?_
              refine WL.x (X.move rfl) (by decide) ?_
              refine WL.x (X.add rfl rfl (by omega) (by omega)) (by decide) ?_
              refine WL.x (X.assign rfl) (by decide) ?_
              refine WL.nil ?_
              refine WK.nThen ?_
              refine WK.next ((k + 1, true)) rfl (.refl _) (.cons rfl (.cons rfl (.cons rfl (.cons rfl (.cons rfl (.cons rfl .nil)))))) ?_ ?_
              · exact ⟨by omega, by first | exact has_a (by assumption) hhb | exact has_b (by assumption) (by assumption) hhb | exact has_c (by assumption) hhb | exact has_d (by assumption) hhb⟩
              · (dsimp only; omega)
            · refine WL.x (X.pickF rfl rfl rfl) (by decide) ?_
              refine WL.x (X.assign rfl) (by decide) ?_
              refine WL.nil ?_
              refine WK.nBlock ?_
              refine WK.nThen ?_
              refine WC.region ?_
              refine WL.x (X.move rfl) (by decide) ?_
              refine WL.x (X.add rfl rfl (by omega) (by omega)) (by decide) ?_
              refine WL.x (X.assign rfl) (by decide) ?_
              refine WL.nil ?_
              refine WK.nThen ?_
              refine WK.next ((k + 1, false)) rfl (.refl _) (.cons rfl (.cons rfl (.cons rfl (.cons rfl (.cons rfl (.cons rfl .nil)))))) ?_ ?_
              · exact ⟨by omega, by first | exact has_a (by assumption) hhb | exact has_b (by assumption) (by assumption) hhb | exact has_c (by assumption) hhb | exact has_d (by assumption) hhb⟩
              · (dsimp only; omega)
        · refine WL.nil ?_
          refine WK.nThen ?_
          refine WC.condF rfl ?_
          refine WC.exit ?_
          refine WK.eThen ?_
          refine WK.eThen ?_
          refine WK.eHit ?_
          refine WK.nThen ?_
          refine WC.seq ?_
          obtain rfl : k = l.length := (by omega)
          have hin := has_in hhb
          refine WC.region ?_
          refine WL.x (X.move rfl) (by decide) ?_
          refine WL.condb (X.not rfl) (by decide) (fun h9 => ?_) (fun h9 => ?_)
          · refine WL.nil ?_
            refine WK.nThen ?_
            refine WC.condT rfl ?_
            refine WC.region ?_
            refine WL.x (X.move rfl) (by decide) ?_
            refine WL.x (X.move rfl) (by decide) ?_
            refine WL.tl (T.lit1 sl29 rfl rfl rfl (by decide)) (by decide) fun b10 => ?_
            refine WL.ta (T.appendF (k := 0) (a := (↑i : Int)) sl29 rfl rfl rfl rfl (by first | omega | (simp; done) | (simp; omega)) (by decide)) (by decide) (fun v11 => ?_)
            refine WL.x (X.assign rfl) (by decide) ?_
            refine WL.nil ?_
            refine WK.nBlock ?_
            refine WK.nThen ?_
            refine WC.region ?_
            refine WL.x (X.move rfl) (by decide) ?_
            refine WL.x (X.add rfl rfl (by omega) (by omega)) (by decide) ?_
            refine WL.x (X.assign rfl) (by decide) ?_
            refine WL.nil ?_
            refine WK.nThen ?_
            have he12 : ((rstN l i) ++ [(↑i : Int)]) = (rstN l ((i + 1))) := (by first | exact rst_yes (fun h_ => by rw [hin.2 h_] at *; simp at *) | exact rst_no (hin.1 (by simp_all)))
            rw [he12]
            refine WK.next ((i + 1, v11)) rfl (.refl _) (.cons rfl (.cons rfl (.cons rfl (.cons rfl .nil)))) ?_ ?_
            · omega
            · (dsimp only; omega)
          · refine WL.nil ?_
            refine WK.nThen ?_
            refine WC.condF rfl ?_
            refine WC.skip ?_
            refine WK.nBlock ?_
            refine WK.nThen ?_
            refine WC.region ?_
            refine WL.x (X.move rfl) (by decide) ?_
            refine WL.x (X.add rfl rfl (by omega) (by omega)) (by decide) ?_
            refine WL.x (X.assign rfl) (by decide) ?_
            refine WL.nil ?_
            refine WK.nThen ?_
            have he13 : (rstN l i) = (rstN l ((i + 1))) := (by first | exact rst_yes (fun h_ => by rw [hin.2 h_] at *; simp at *) | exact rst_no (hin.1 (by simp_all)))
            rw [he13]
            refine WK.next ((i + 1, vo)) rfl (.refl _) (.cons rfl (.cons rfl (.cons rfl (.cons rfl .nil)))) ?_ ?_
            · omega
            · (dsimp only; omega)
    · refine WL.nil ?_
      refine WK.nThen ?_
      refine WC.condF rfl ?_
      refine WC.exit ?_
      refine WK.eThen ?_
      refine WK.eThen ?_
      refine WK.eHit ?_
      refine WK.nThen ?_
      refine WC.seq ?_
      have hin_ : n.toNat = i := (by omega)
      refine WC.region ?_
      refine WL.x (X.move rfl) (by decide) ?_
      refine WL.x (X.assign rfl) (by decide) ?_
      refine WL.nil ?_
      refine WK.nThen ?_
      refine WC.ret ?_
      refine WK.freezeF 0 rfl rfl (by have := rst_len l i; unfold lenB; omega) (fun m14 hle15 hs16 => ?_)
      replace hl := hl.mono hle15
      refine WK.ret1 rfl rfl (fun w' hw' => Ret.mem hw' ?_)
      exact ⟨_, rfl, by rw [hin_]; exact hs16⟩

theorem next123 (m : Mem) {vl : Value} {l : List Int} (hl : Sl m vl l) (n : Int) (hpn : 0 ≤ n ∧ n ≤ 1000) (hpl : l.length ≤ 1000) (hpr : rngP n.toNat l) : Pure Try.prog 123 #[vl, .int .i64 n] m (fun m' v => Sl m' v (nextL n.toNat l) ∧ nilSl v = decide (nextL n.toNat l = [])) := by
  refine Pure.start Try.func123 rfl Try.ntmps123 rfl fun wld => ?_
  refine WC.seq ?_
  refine WC.region ?_
  refine WL.x (X.assign rfl) (by decide) ?_
  refine WL.nil ?_
  refine WK.nThen ?_
  refine WC.seq ?_
  refine WC.region ?_
  refine WL.ta (T.lit0 (α := Int) sl29 rfl) (by decide) (fun v1 => ?_)
  refine WL.x (X.move rfl) (by decide) ?_
  refine WL.ta (T.appendI (k := 0) sl29 rfl rfl hl rfl (by first | omega | (simp; omega)) (by first | omega | (simp; omega))) (by decide) (fun v2 => ?_)
  refine WL.x (X.assign rfl) (by decide) ?_
  refine WL.nil ?_
  refine WK.nThen ?_
  refine WC.seq ?_
  refine WC.seq ?_
  have he3 : ([] ++ l) = l := (List.nil_append _)
  rw [he3]
  refine WC.region ?_
  refine WL.x (X.move rfl) (by decide) ?_
  refine WL.x (X.lenF (k := 0) Try.runUnderlying29 rfl rfl) (by decide) ?_
  refine WL.x (X.sub rfl rfl (by omega) (by omega)) (by decide) ?_
  refine WL.x (X.assign rfl) (by decide) ?_
  refine WL.nil ?_
  refine WK.nThen ?_
  refine WC.block ?_
  refine WC.loop (G := Int) (fun i => (i + 1).toNat) (fun i => m) (fun i => [rowF (v2) 3 (l)]) (fun i => [(1, .int .i64 (n)), (5, v2), (6, .int .i64 (i))]) (fun i => (-1 ≤ i ∧ i < l.length) ∧ ∀ j : Nat, i < j → j < l.length → ¬ gt l j < n - l.length + j) (↑l.length - 1) rfl (.refl _) (.cons rfl (.cons rfl (.cons rfl .nil))) ?_ ?_
  · exact ⟨by omega, fun j h1_ h2_ => absurd h2_ (by omega)⟩
  · rintro i hF4
    show WK _ _ m [rowF (v2) 3 (l)] [(1, .int .i64 (n)), (5, v2), (6, .int .i64 (i))] _
    replace hF4 : (-1 ≤ i ∧ i < l.length) ∧ ∀ j : Nat, i < j → j < l.length → ¬ gt l j < n - l.length + j := hF4
    obtain ⟨hi, hall⟩ := hF4
    refine WC.seq ?_
    refine WC.seq ?_
    refine WC.region ?_
    refine WL.x (X.move rfl) (by decide) ?_
    refine WL.cond (X.geq rfl rfl) (by decide) (fun h5 => ?_) (fun h5 => ?_)
    · refine WL.nil ?_
      refine WK.nThen ?_
      refine WC.condT rfl ?_
      refine WC.skip ?_
      refine WK.nThen ?_
      refine WC.seq ?_
      refine WC.block ?_
      refine WC.seq ?_
      have hrg := hpr i.toNat (by omega)
      have hit : ((i.toNat : Nat) : Int) = i := (by omega)
      refine WC.region ?_
      refine WL.x (X.move rfl) (by decide) ?_
      refine WL.x (X.move rfl) (by decide) ?_
      refine WL.x (X.idxI (k := 0) Try.runUnderlying29 Try.sizeOf3 rfl rfl rfl (by first | omega | (simp; omega) | simp) (by first | omega | (simp; omega) | simp)) (by decide) ?_
      refine WL.x (X.loadI (k := 0) (i := (i : Int).toNat) Try.isAgg3 rfl rfl (by first | omega | (simp; omega) | simp)) (by decide) ?_
      refine WL.x (X.move rfl) (by decide) ?_
      refine WL.x (X.move rfl) (by decide) ?_
      refine WL.x (X.lenF (k := 0) Try.runUnderlying29 rfl rfl) (by decide) ?_
      refine WL.x (X.sub rfl rfl (by omega) (by omega)) (by decide) ?_
      refine WL.x (X.move rfl) (by decide) ?_
      refine WL.x (X.add rfl rfl (by omega) (by omega)) (by decide) ?_
      refine WL.cond (X.lss rfl rfl) (by decide) (fun h6 => ?_) (fun h6 => ?_)
      · refine WL.nil ?_
        refine WK.nThen ?_
        refine WC.condT rfl ?_
        refine WC.seq ?_
        refine WC.region ?_
        refine WL.x (X.move rfl) (by decide) ?_
        refine WL.x (X.move rfl) (by decide) ?_
        refine WL.x (X.idxI (k := 0) Try.runUnderlying29 Try.sizeOf3 rfl rfl rfl (by first | omega | (simp; omega) | simp) (by first | omega | (simp; omega) | simp)) (by decide) ?_
        refine WL.x (X.loadI (k := 0) (i := (i : Int).toNat) Try.isAgg3 rfl rfl (by first | omega | (simp; omega) | simp)) (by decide) ?_
        refine WL.x (X.add rfl rfl (by omega) (by omega)) (by decide) ?_
        refine WL.x (X.idxI (k := 0) Try.runUnderlying29 Try.sizeOf3 rfl rfl rfl (by first | omega | (simp; omega) | simp) (by first | omega | (simp; omega) | simp)) (by decide) ?_
        refine WL.ts (T.storeI (k := 0) (i := (i : Int).toNat) Try.sizeOf3 rfl rfl rfl (by first | omega | (simp; omega) | simp)) ?_
        refine WL.nil ?_
        refine WK.nThen ?_
        refine WC.seq ?_
        refine WC.seq ?_
        have he7 : (l.set ((i : Int).toNat) ((gt l ((i : Int).toNat)) + 1)) = (bmpK l i.toNat ((i + 1).toNat)) := (by rw [show (i + 1).toNat = i.toNat + 1 by omega]; exact bmpK_start)
        rw [he7]
        have hne : nextL n.toNat l = bump l i.toNat := (nxF_yes (by omega) (by omega) (fun j h1_ h2_ => by have := hall j (by omega) h2_; omega))
        refine WC.region ?_
        refine WL.x (X.move rfl) (by decide) ?_
        refine WL.x (X.add rfl rfl (by omega) (by omega)) (by decide) ?_
        refine WL.x (X.assign rfl) (by decide) ?_
        refine WL.nil ?_
        refine WK.nThen ?_
        refine WC.block ?_
        refine WC.loop (G := Int) (fun c => (l.length - c).toNat) (fun c => m) (fun c => [rowF (v2) 3 (bmpK l i.toNat c.toNat)]) (fun c => [(5, v2), (7, .int .i64 (c))]) (fun c => i < c ∧ c ≤ l.length) (i + 1) rfl (.refl _) (.cons rfl (.cons rfl .nil)) ?_ ?_
        · exact ⟨by omega, by omega⟩
        · rintro c hF8
          show WK _ _ m [rowF (v2) 3 (bmpK l i.toNat c.toNat)] [(5, v2), (7, .int .i64 (c))] _
          replace hF8 : i < c ∧ c ≤ l.length := hF8
          have hk := hF8
          have hbl0 := bmpK_len l i.toNat c.toNat
          refine WC.seq ?_
          refine WC.seq ?_
          refine WC.region ?_
          refine WL.x (X.move rfl) (by decide) ?_
          refine WL.x (X.move rfl) (by decide) ?_
          refine WL.x (X.lenF (k := 0) Try.runUnderlying29 rfl rfl) (by decide) ?_
          refine WL.cond (X.lss rfl rfl) (by decide) (fun h9 => ?_) (fun h9 => ?_)
          · refine WL.nil ?_
            refine WK.nThen ?_
            refine WC.condT rfl ?_
            refine WC.skip ?_
            refine WK.nThen ?_
            refine WC.seq ?_
            refine WC.block ?_
            have hbl := bmpK_len l i.toNat c.toNat
            have hbg : gt (bmpK l i.toNat c.toNat) (c.toNat - 1) = gt l i.toNat + 1 + (((c.toNat - 1 : Nat) : Int) - i.toNat) := (by rw [bmpK_at (by omega), if_neg (by omega), if_pos (by omega)])
            have hkx : (c - 1).toNat = c.toNat - 1 := (by omega)
            have hbg2 : gt (bmpK l i.toNat c.toNat) (c - 1).toNat = gt (bmpK l i.toNat c.toNat) (c.toNat - 1) := (by rw [hkx])
            refine WC.region ?_
            refine WL.x (X.move rfl) (by decide) ?_
            refine WL.x (X.move rfl) (by decide) ?_
            refine WL.x (X.move rfl) (by decide) ?_
            refine WL.x (X.move rfl) (by decide) ?_
            refine WL.x (X.sub rfl rfl (by omega) (by omega)) (by decide) ?_
            refine WL.x (X.idxI (k := 0) Try.runUnderlying29 Try.sizeOf3 rfl rfl rfl (by first | omega | (simp; omega) | simp) (by first | omega | (simp; omega) | simp)) (by decide) ?_
            refine WL.x (X.loadI (k := 0) (i := (c - 1 : Int).toNat) Try.isAgg3 rfl rfl (by first | omega | (simp; omega) | simp)) (by decide) ?_
            refine WL.x (X.add rfl rfl (by omega) (by omega)) (by decide) ?_
            refine WL.x (X.idxI (k := 0) Try.runUnderlying29 Try.sizeOf3 rfl rfl rfl (by first | omega | (simp; omega) | simp) (by first | omega | (simp; omega) | simp)) (by decide) ?_
            refine WL.ts (T.storeI (k := 0) (i := (c : Int).toNat) Try.sizeOf3 rfl rfl rfl (by first | omega | (simp; omega) | simp)) ?_
            refine WL.nil ?_
            refine WK.nBlock ?_
            refine WK.nThen ?_
            refine WC.region ?_
            refine WL.x (X.move rfl) (by decide) ?_
            refine WL.x (X.add rfl rfl (by omega) (by omega)) (by decide) ?_
            refine WL.x (X.assign rfl) (by decide) ?_
            refine WL.nil ?_
            refine WK.nThen ?_
            have he10 : ((bmpK l i.toNat c.toNat).set ((c : Int).toNat) ((gt (bmpK l i.toNat c.toNat) ((c - 1 : Int).toNat)) + 1)) = (bmpK l i.toNat ((c + 1).toNat)) := (by rw [show (c + 1).toNat = c.toNat + 1 by omega]; first | exact bmpK_step (by omega) (by omega) | (rw [hkx]; exact bmpK_step (by omega) (by omega)))
            rw [he10]
            refine WK.next (c + 1) rfl (.refl _) (.cons rfl (.cons rfl .nil)) ?_ ?_
            · exact ⟨by omega, by omega⟩
            · omega
          · refine WL.nil ?_
            refine WK.nThen ?_
            refine WC.condF rfl ?_
            refine WC.exit ?_
            refine WK.eThen ?_
            refine WK.eThen ?_
            refine WK.eHit ?_
            refine WK.nThen ?_
            refine WC.seq ?_
            have he11 : (bmpK l i.toNat c.toNat) = (bump l i.toNat) := (by rw [show c.toNat = l.length by omega]; exact bmpK_last _ _)
            rw [he11]
            refine WC.region ?_
            refine WL.x (X.move rfl) (by decide) ?_
            refine WL.x (X.assign rfl) (by decide) ?_
            refine WL.nil ?_
            refine WK.nThen ?_
            refine WC.ret ?_
            refine WK.rBlock ?_
            refine WK.rThen ?_
            refine WK.rThen ?_
            refine WK.rBlock ?_
            refine WK.rThen ?_
            refine WK.freezeF 0 rfl rfl (by first | (rw [bump_len]; unfold lenB; omega) | (simp [lenB]; omega)) (fun m12 hle13 hs14 => ?_)
            replace hl := hl.mono hle13
            refine WK.ret1 rfl rfl (fun w' hw' => Ret.mem hw' ?_)
            exact ⟨by rw [hne]; exact hs14, by rw [hne]; exact nil_dec hs14 (fun h_ => by have := bump_len l i.toNat; rw [h_] at this; simp at this; omega) (fun h_ => by have := bump_len l i.toNat; rw [h_] at this; simp at this; omega)⟩
      · refine WL.nil ?_
        refine WK.nThen ?_
        refine WC.condF rfl ?_
        refine WC.skip ?_
        refine WK.nBlock ?_
        refine WK.nThen ?_
        refine WC.region ?_
        refine WL.x (X.move rfl) (by decide) ?_
        refine WL.x (X.sub rfl rfl (by omega) (by omega)) (by decide) ?_
        refine WL.x (X.assign rfl) (by decide) ?_
        refine WL.nil ?_
        refine WK.nThen ?_
        refine WK.next (i - 1) rfl (.refl _) (.cons rfl (.cons rfl (.cons rfl .nil))) ?_ ?_
        · exact ⟨by omega, fun j h1_ h2_ => by rcases (show i < (j : Int) ∨ j = i.toNat by omega) with h_ | h_; exact hall j h_ h2_; subst h_; omega⟩
        · omega
    · refine WL.nil ?_
      refine WK.nThen ?_
      refine WC.condF rfl ?_
      refine WC.exit ?_
      refine WK.eThen ?_
      refine WK.eThen ?_
      refine WK.eHit ?_
      refine WK.nThen ?_
      refine WC.seq ?_
      have hno : nextL n.toNat l = [] := (nxF_no (fun j h1_ => by have := hall j (by omega) h1_; omega))
      refine WC.region ?_
      refine WL.x (X.assign rfl) (by decide) ?_
      refine WL.nil ?_
      refine WK.nThen ?_
      refine WC.ret ?_
      refine WK.ret1 rfl rfl (fun w' hw' => Ret.mem hw' ?_)
      exact ⟨by rw [hno]; exact .nil, by rw [hno]; rfl⟩

set_option maxHeartbeats 1000000 in
theorem median61 (m : Mem) (cd : List Value) (d : Drum) (hd : Enc.rd m cd d) (vm_ : Value) (m_ : List Mark) (hm_ : Sl m vm_ m_) (va : Value) (a : List Int) (ha : Sl m va a) (vb : Value) (b : List Int) (hb : Sl m vb b) (vc : Value) (c : List Int) (hc : Sl m vc c)   : Pure Try.prog 61 #[.agg cd.toArray, vm_, va, vb, vc] m (fun m' v => ∃ r0, v = .tuple #[r0, .int .i64 ((medR d m_ a b c).2)] ∧ Sl m' r0 ((medR d m_ a b c).1)) := by
  obtain ⟨v1, v3, rfl, hs2, hs4⟩ := hd
  have hl5 := hs2.le
  have hl6 := hs4.le
  have lm_ := hm_.le
  have la := ha.le
  have lb := hb.le
  have lc := hc.le
  refine Pure.start Try.func61 rfl Try.ntmps61 rfl fun wld => ?_
  refine WC.seq ?_
  refine WC.region ?_
  refine WL.tn (T.boxB rfl rfl) (by decide) fun b7 => ?_
  refine WL.x (X.assign rfl) (by decide) ?_
  refine WL.x (X.assign rfl) (by decide) ?_
  refine WL.nil ?_
  refine WK.nThen ?_
  refine WC.seq ?_
  refine WC.region ?_
  refine WL.x (X.loadBA (k := 0) Try.isAgg25 Try.sizeOf25 rfl rfl rfl) (by decide) ?_
  refine WL.x (X.move rfl) (by decide) ?_
  refine WL.x (X.call Try.call83 rfl (asked83 _ _ d ⟨_, _, rfl, hs2, hs4⟩ _ _ hm_ )) (by decide) ?_
  refine WL.x (X.assign rfl) (by decide) ?_
  refine WL.nil ?_
  refine WK.nThen ?_
  refine WC.seq ?_
  refine WC.seq ?_
  refine WC.region ?_
  refine WL.x (X.move rfl) (by decide) ?_
  refine WL.cond (X.eql rfl rfl) (by decide) (fun h8 => ?_) (fun h8 => ?_)
  · refine WL.x (X.move rfl) (by decide) ?_
    refine WL.yes rfl rfl ?_
    refine WL.x (X.loadBA (k := 0) Try.isAgg25 Try.sizeOf25 rfl rfl rfl) (by decide) ?_
    refine WL.yes rfl rfl ?_
    refine WL.x (X.move rfl) (by decide) ?_
    refine WL.yes rfl rfl ?_
    refine WL.x (X.move rfl) (by decide) ?_
    refine WL.yes rfl rfl ?_
    refine WL.cond (X.call Try.call120 rfl (is120 _ _ d ⟨_, _, rfl, hs2, hs4⟩ _ _ hm_ _ _ ha (Ok.of (by omega)))) (by decide) (fun h9 => ?_) (fun h9 => ?_)
    · refine WL.yes rfl rfl ?_
      refine WL.x (X.not rfl) (by decide) ?_
      refine WL.yes rfl rfl ?_
      refine WL.x (X.move rfl) (by decide) ?_
      refine WL.yes rfl rfl ?_
      refine WL.x (X.loadBA (k := 0) Try.isAgg25 Try.sizeOf25 rfl rfl rfl) (by decide) ?_
      refine WL.yes rfl rfl ?_
      refine WL.x (X.move rfl) (by decide) ?_
      refine WL.yes rfl rfl ?_
      refine WL.x (X.move rfl) (by decide) ?_
      refine WL.yes rfl rfl ?_
      refine WL.cond (X.call Try.call120 rfl (is120 _ _ d ⟨_, _, rfl, hs2, hs4⟩ _ _ hm_ _ _ hb (Ok.of (by omega)))) (by decide) (fun h10 => ?_) (fun h10 => ?_)
      · refine WL.yes rfl rfl ?_
        refine WL.x (X.not rfl) (by decide) ?_
        refine WL.yes rfl rfl ?_
        refine WL.x (X.pickF rfl rfl rfl) (by decide) ?_
        refine WL.yes rfl rfl ?_
        refine WL.x (X.move rfl) (by decide) ?_
        refine WL.yes rfl rfl ?_
        refine WL.x (X.loadBA (k := 0) Try.isAgg25 Try.sizeOf25 rfl rfl rfl) (by decide) ?_
        refine WL.yes rfl rfl ?_
        refine WL.x (X.move rfl) (by decide) ?_
        refine WL.yes rfl rfl ?_
        refine WL.x (X.move rfl) (by decide) ?_
        refine WL.yes rfl rfl ?_
        refine WL.cond (X.call Try.call120 rfl (is120 _ _ d ⟨_, _, rfl, hs2, hs4⟩ _ _ hm_ _ _ hc (Ok.of (by omega)))) (by decide) (fun h11 => ?_) (fun h11 => ?_)
        · refine WL.yes rfl rfl ?_
          refine WL.x (X.not rfl) (by decide) ?_
          refine WL.yes rfl rfl ?_
          refine WL.x (X.pickF rfl rfl rfl) (by decide) ?_
          refine WL.x (X.pickT rfl rfl rfl) (by decide) ?_
          refine WL.nil ?_
          refine WK.nThen ?_
          refine WC.condF rfl ?_
          refine WC.skip ?_
          refine WK.nThen ?_
          refine WC.seq ?_
          refine WC.seq ?_
          refine WC.region ?_
          refine WL.x (X.move rfl) (by decide) ?_
          refine WL.x (OpX.f (X.neq rfl rfl) (fun hn_ => hn_ h8)) (by decide) ?_
          refine WL.nil ?_
          refine WK.nThen ?_
          refine WC.condF rfl ?_
          refine WC.skip ?_
          refine WK.nThen ?_
          refine WC.seq ?_
          have hka := (‹keepP d m_ a› : keepP d m_ a)
          have hkb := (‹keepP d m_ b› : keepP d m_ b)
          have hkc := (‹keepP d m_ c› : keepP d m_ c)
          have hla := hka.1
          have hlb := hkb.1
          have hlc := hkc.1
          have hd1 := (Ok.of (d := d) (m := m_) (by omega)).dr.1
          refine WK.ownF Int 3 ?_
          refine WC.region ?_
          refine WL.x (X.assign rfl) (by decide) ?_
          refine WL.nil ?_
          refine WK.nThen ?_
          refine WC.seq ?_
          refine WC.seq ?_
          refine WC.region ?_
          refine WL.x (X.assign rfl) (by decide) ?_
          refine WL.nil ?_
          refine WK.nThen ?_
          refine WC.block ?_
          refine WC.loop (G := Nat × Value) (fun (k, vo) => a.length - k) (fun (k, vo) => m) (fun (k, vo) => [rowF (vo) 3 ((List.range k).map (fun i => med (gt a i) (gt b i) (gt c i))), blk b7 25 [v1, v3]]) (fun (k, vo) => [(2, va), (3, vb), (4, vc), (13, vo), (14, .int .i64 (↑k))]) (fun (k, vo) => k ≤ a.length) ((0, Value.slice none 0 0)) rfl (.refl _) (.cons rfl (.cons rfl (.cons rfl (.cons rfl (.cons rfl .nil))))) ?_ ?_
          · exact Nat.zero_le _
          · rintro ⟨k, vo⟩ hF12
            show WK _ _ m [rowF (vo) 3 ((List.range k).map (fun i => med (gt a i) (gt b i) (gt c i))), blk b7 25 [v1, v3]] [(2, va), (3, vb), (4, vc), (13, vo), (14, .int .i64 (↑k))] _
            replace hF12 : k ≤ a.length := hF12
            have hk := hF12
            refine WC.seq ?_
            refine WC.seq ?_
            refine WC.region ?_
            refine WL.x (X.move rfl) (by decide) ?_
            refine WL.x (X.move rfl) (by decide) ?_
            refine WL.x (X.len Try.runUnderlying29 rfl ha) (by decide) ?_
            refine WL.cond (X.lss rfl rfl) (by decide) (fun h13 => ?_) (fun h13 => ?_)
            · refine WL.nil ?_
              refine WK.nThen ?_
              refine WC.condT rfl ?_
              refine WC.skip ?_
              refine WK.nThen ?_
              refine WC.seq ?_
              refine WC.block ?_
              refine WC.draw (π := (.cons 0 (.cons 1 (.cons 2 (.cons 3 (.cons 4 (.cons 5 (.cons 6 (.cons 7 (.cons 8 (.cons 9 (.cons 10 (.cons 11 (.cons 12 (.cons 13 (.cons 14 (.cons 15 (.cons 16 (.cons 17 (.cons 18 (.cons 19 (.cons 20 (.cons 21 (.cons 22 (.cons 23 (.cons 24 (.cons 25 (.cons 26 (.cons 27 (.cons 28 (.cons 29 (.cons 30 (.cons 31 .done))))))))))))))))))))))))))))))))) [29, 30] [30] rfl (by kernel_rfl) ?_
              refine DW.x rfl rfl (X.move rfl) (by decide) ?_
              refine DW.x rfl rfl (X.move rfl) (by decide) ?_
              refine DW.x rfl rfl (X.move rfl) (by decide) ?_
              refine DW.xe rfl rfl (E.idxN k Try.runUnderlying29 Try.sizeOf3 rfl rfl ha (by omega)) (by decide) (fun p14 hp15 => ?_)
              refine DW.x rfl rfl (X.loadInt Try.isAgg3 rfl hp15) (by decide) ?_
              refine DW.x rfl rfl (X.move rfl) (by decide) ?_
              refine DW.x rfl rfl (X.move rfl) (by decide) ?_
              refine DW.xe rfl rfl (E.idxN k Try.runUnderlying29 Try.sizeOf3 rfl rfl hb (by omega)) (by decide) (fun p16 hp17 => ?_)
              refine DW.x rfl rfl (X.loadInt Try.isAgg3 rfl hp17) (by decide) ?_
              refine DW.x rfl rfl (X.mn rfl rfl) (by decide) ?_
              refine DW.x rfl rfl (X.move rfl) (by decide) ?_
              refine DW.x rfl rfl (X.move rfl) (by decide) ?_
              refine DW.xe rfl rfl (E.idxN k Try.runUnderlying29 Try.sizeOf3 rfl rfl hb (by omega)) (by decide) (fun p18 hp19 => ?_)
              refine DW.x rfl rfl (X.loadInt Try.isAgg3 rfl hp19) (by decide) ?_
              refine DW.x rfl rfl (X.move rfl) (by decide) ?_
              refine DW.x rfl rfl (X.move rfl) (by decide) ?_
              refine DW.xe rfl rfl (E.idxN k Try.runUnderlying29 Try.sizeOf3 rfl rfl hc (by omega)) (by decide) (fun p20 hp21 => ?_)
              refine DW.x rfl rfl (X.loadInt Try.isAgg3 rfl hp21) (by decide) ?_
              refine DW.x rfl rfl (X.mn rfl rfl) (by decide) ?_
              refine DW.x rfl rfl (X.move rfl) (by decide) ?_
              refine DW.x rfl rfl (X.move rfl) (by decide) ?_
              refine DW.xe rfl rfl (E.idxN k Try.runUnderlying29 Try.sizeOf3 rfl rfl ha (by omega)) (by decide) (fun p22 hp23 => ?_)
              refine DW.x rfl rfl (X.loadInt Try.isAgg3 rfl hp23) (by decide) ?_
              refine DW.x rfl rfl (X.move rfl) (by decide) ?_
              refine DW.x rfl rfl (X.move rfl) (by decide) ?_
              refine DW.xe rfl rfl (E.idxN k Try.runUnderlying29 Try.sizeOf3 rfl rfl hc (by omega)) (by decide) (fun p24 hp25 => ?_)
              refine DW.x rfl rfl (X.loadInt Try.isAgg3 rfl hp25) (by decide) ?_
              refine DW.x rfl rfl (X.mn rfl rfl) (by decide) ?_
              refine DW.x rfl rfl (X.mx3 rfl rfl rfl) (by decide) ?_
              refine DW.tl rfl rfl rfl (T.lit1 sl29 rfl rfl rfl (by decide)) (by decide) fun b26 => ?_
              refine DW.ta rfl rfl rfl rfl (T.appendF (k := 0) (a := max (max (min (gt a k) (gt b k)) (min (gt b k) (gt c k))) (min (gt a k) (gt c k))) sl29 rfl rfl rfl rfl (by first | omega | (simp; done) | (simp; omega)) (by decide)) (by decide) (fun v27 => ?_)
              refine DW.x rfl rfl (X.assign rfl) (by decide) ?_
              refine DW.nil ?_
              refine WK.nBlock ?_
              refine WK.nThen ?_
              refine WC.region ?_
              refine WL.x (X.move rfl) (by decide) ?_
              refine WL.x (X.add rfl rfl (by omega) (by omega)) (by decide) ?_
              refine WL.x (X.assign rfl) (by decide) ?_
              refine WL.nil ?_
              refine WK.nThen ?_
              have he28 : (((List.range k).map (fun i => med (gt a i) (gt b i) (gt c i))) ++ [max (max (min (gt a k) (gt b k)) (min (gt b k) (gt c k))) (min (gt a k) (gt c k))]) = ((List.range (k + 1)).map (fun i => med (gt a i) (gt b i) (gt c i))) := (by rw [med3]; exact map_succ2 (fun i => med (gt a i) (gt b i) (gt c i)) _)
              rw [he28]
              refine WK.next ((k + 1, v27)) rfl (.refl _) (.cons rfl (.cons rfl (.cons rfl (.cons rfl (.cons rfl .nil))))) ?_ ?_
              · omega
              · (dsimp only; omega)
            · refine WL.nil ?_
              refine WK.nThen ?_
              refine WC.condF rfl ?_
              refine WC.exit ?_
              refine WK.eThen ?_
              refine WK.eThen ?_
              refine WK.eHit ?_
              refine WK.nThen ?_
              refine WC.seq ?_
              obtain rfl : k = a.length := (by omega)
              refine WC.region ?_
              refine WL.x (X.move rfl) (by decide) ?_
              refine WL.x (X.assign rfl) (by decide) ?_
              refine WL.x (X.assign rfl) (by decide) ?_
              refine WL.nil ?_
              refine WK.nThen ?_
              refine WC.ret ?_
              refine WK.freezeF 0 rfl rfl (by first | (simp [lenB]; omega) | (unfold lenB; omega)) (fun m29 hle30 hs31 => ?_)
              replace hs2 := hs2.mono hle30
              replace hs4 := hs4.mono hle30
              replace hm_ := hm_.mono hle30
              replace ha := ha.mono hle30
              replace hb := hb.mono hle30
              replace hc := hc.mono hle30
              refine WK.ret2 rfl rfl rfl (fun w' hw' => Ret.mem hw' ?_)
              first | (exfalso; omega) | exact ⟨_, tup2 rfl (int_eq (by rw [medR_bad (by omega)])), by rw [medR_bad (by omega)]; exact hs31⟩ | exact ⟨_, tup2 rfl (int_eq (by rw [medR_no (by omega) (.inl (by assumption))])), by rw [medR_no (by omega) (.inl (by assumption))]; exact hs31⟩ | exact ⟨_, tup2 rfl (int_eq (by rw [medR_no (by omega) (.inr (.inl (by assumption)))])), by rw [medR_no (by omega) (.inr (.inl (by assumption)))]; exact hs31⟩ | exact ⟨_, tup2 rfl (int_eq (by rw [medR_no (by omega) (.inr (.inr (by assumption)))])), by rw [medR_no (by omega) (.inr (.inr (by assumption)))]; exact hs31⟩ | exact ⟨_, tup2 rfl (int_eq (by rw [medR_ok (by omega) hka hkb hkc])), by rw [medR_ok (by omega) hka hkb hkc]; exact hs31⟩
        · refine WL.yes rfl rfl ?_
          refine WL.x (X.not rfl) (by decide) ?_
          refine WL.yes rfl rfl ?_
          refine WL.x (X.pickF rfl rfl rfl) (by decide) ?_
          refine WL.x (X.pickT rfl rfl rfl) (by decide) ?_
          refine WL.nil ?_
          refine WK.nThen ?_
          refine WC.condT rfl ?_
          refine WC.seq ?_
          refine WC.region ?_
          refine WL.x (X.assign rfl) (by decide) ?_
          refine WL.x (X.assign rfl) (by decide) ?_
          refine WL.nil ?_
          refine WK.nThen ?_
          refine WC.ret ?_
          refine WK.rThen ?_
          refine WK.ret2 rfl rfl rfl (fun w' hw' => Ret.mem hw' ?_)
          first | (exfalso; omega) | exact ⟨_, tup2 rfl (int_eq (by rw [medR_bad (by omega)])), by rw [medR_bad (by omega)]; exact .nil⟩ | exact ⟨_, tup2 rfl (int_eq (by rw [medR_no (by omega) (.inl (by assumption))])), by rw [medR_no (by omega) (.inl (by assumption))]; exact .nil⟩ | exact ⟨_, tup2 rfl (int_eq (by rw [medR_no (by omega) (.inr (.inl (by assumption)))])), by rw [medR_no (by omega) (.inr (.inl (by assumption)))]; exact .nil⟩ | exact ⟨_, tup2 rfl (int_eq (by rw [medR_no (by omega) (.inr (.inr (by assumption)))])), by rw [medR_no (by omega) (.inr (.inr (by assumption)))]; exact .nil⟩ | exact ⟨_, tup2 rfl (int_eq (by rw [medR_ok (by omega) hka hkb hkc])), by rw [medR_ok (by omega) hka hkb hkc]; exact .nil⟩
      · refine WL.yes rfl rfl ?_
        refine WL.x (X.not rfl) (by decide) ?_
        refine WL.yes rfl rfl ?_
        refine WL.x (X.pickF rfl rfl rfl) (by decide) ?_
        refine WL.yes rfl rfl ?_
        refine WL.x (X.move rfl) (by decide) ?_
        refine WL.no rfl rfl rfl (by decide) ?_
        refine WL.no rfl rfl rfl (by decide) ?_
        refine WL.no rfl rfl rfl (by decide) ?_
        refine WL.no rfl rfl rfl (by decide) ?_
        refine WL.no rfl rfl rfl (by decide) ?_
        refine WL.yes rfl rfl ?_
        refine WL.x (X.pickT rfl rfl rfl) (by decide) ?_
        refine WL.x (X.pickT rfl rfl rfl) (by decide) ?_
        refine WL.nil ?_
        refine WK.nThen ?_
        refine WC.condT rfl ?_
        refine WC.seq ?_
        refine WC.region ?_
        refine WL.x (X.assign rfl) (by decide) ?_
        refine WL.x (X.assign rfl) (by decide) ?_
        refine WL.nil ?_
        refine WK.nThen ?_
        refine WC.ret ?_
        refine WK.rThen ?_
        refine WK.ret2 rfl rfl rfl (fun w' hw' => Ret.mem hw' ?_)
        first | (exfalso; omega) | exact ⟨_, tup2 rfl (int_eq (by rw [medR_bad (by omega)])), by rw [medR_bad (by omega)]; exact .nil⟩ | exact ⟨_, tup2 rfl (int_eq (by rw [medR_no (by omega) (.inl (by assumption))])), by rw [medR_no (by omega) (.inl (by assumption))]; exact .nil⟩ | exact ⟨_, tup2 rfl (int_eq (by rw [medR_no (by omega) (.inr (.inl (by assumption)))])), by rw [medR_no (by omega) (.inr (.inl (by assumption)))]; exact .nil⟩ | exact ⟨_, tup2 rfl (int_eq (by rw [medR_no (by omega) (.inr (.inr (by assumption)))])), by rw [medR_no (by omega) (.inr (.inr (by assumption)))]; exact .nil⟩ | exact ⟨_, tup2 rfl (int_eq (by rw [medR_ok (by omega) hka hkb hkc])), by rw [medR_ok (by omega) hka hkb hkc]; exact .nil⟩
    · refine WL.yes rfl rfl ?_
      refine WL.x (X.not rfl) (by decide) ?_
      refine WL.yes rfl rfl ?_
      refine WL.x (X.move rfl) (by decide) ?_
      refine WL.no rfl rfl rfl (by decide) ?_
      refine WL.no rfl rfl rfl (by decide) ?_
      refine WL.no rfl rfl rfl (by decide) ?_
      refine WL.no rfl rfl rfl (by decide) ?_
      refine WL.no rfl rfl rfl (by decide) ?_
      refine WL.yes rfl rfl ?_
      refine WL.x (X.pickT rfl rfl rfl) (by decide) ?_
      refine WL.yes rfl rfl ?_
      refine WL.x (X.move rfl) (by decide) ?_
      refine WL.no rfl rfl rfl (by decide) ?_
      refine WL.no rfl rfl rfl (by decide) ?_
      refine WL.no rfl rfl rfl (by decide) ?_
      refine WL.no rfl rfl rfl (by decide) ?_
      refine WL.no rfl rfl rfl (by decide) ?_
      refine WL.yes rfl rfl ?_
      refine WL.x (X.pickT rfl rfl rfl) (by decide) ?_
      refine WL.x (X.pickT rfl rfl rfl) (by decide) ?_
      refine WL.nil ?_
      refine WK.nThen ?_
      refine WC.condT rfl ?_
      refine WC.seq ?_
      refine WC.region ?_
      refine WL.x (X.assign rfl) (by decide) ?_
      refine WL.x (X.assign rfl) (by decide) ?_
      refine WL.nil ?_
      refine WK.nThen ?_
      refine WC.ret ?_
      refine WK.rThen ?_
      refine WK.ret2 rfl rfl rfl (fun w' hw' => Ret.mem hw' ?_)
      first | (exfalso; omega) | exact ⟨_, tup2 rfl (int_eq (by rw [medR_bad (by omega)])), by rw [medR_bad (by omega)]; exact .nil⟩ | exact ⟨_, tup2 rfl (int_eq (by rw [medR_no (by omega) (.inl (by assumption))])), by rw [medR_no (by omega) (.inl (by assumption))]; exact .nil⟩ | exact ⟨_, tup2 rfl (int_eq (by rw [medR_no (by omega) (.inr (.inl (by assumption)))])), by rw [medR_no (by omega) (.inr (.inl (by assumption)))]; exact .nil⟩ | exact ⟨_, tup2 rfl (int_eq (by rw [medR_no (by omega) (.inr (.inr (by assumption)))])), by rw [medR_no (by omega) (.inr (.inr (by assumption)))]; exact .nil⟩ | exact ⟨_, tup2 rfl (int_eq (by rw [medR_ok (by omega) hka hkb hkc])), by rw [medR_ok (by omega) hka hkb hkc]; exact .nil⟩
  · refine WL.x (X.move rfl) (by decide) ?_
    refine WL.no rfl rfl rfl (by decide) ?_
    refine WL.no rfl rfl rfl (by decide) ?_
    refine WL.no rfl rfl rfl (by decide) ?_
    refine WL.no rfl rfl rfl (by decide) ?_
    refine WL.no rfl rfl rfl (by decide) ?_
    refine WL.no rfl rfl rfl (by decide) ?_
    refine WL.noU rfl rfl (by decide) ?_
    refine WL.noU rfl rfl (by decide) ?_
    refine WL.noU rfl rfl (by decide) ?_
    refine WL.noU rfl rfl (by decide) ?_
    refine WL.noU rfl rfl (by decide) ?_
    refine WL.no rfl rfl rfl (by decide) ?_
    refine WL.no rfl rfl rfl (by decide) ?_
    refine WL.noU rfl rfl (by decide) ?_
    refine WL.noU rfl rfl (by decide) ?_
    refine WL.noU rfl rfl (by decide) ?_
    refine WL.noU rfl rfl (by decide) ?_
    refine WL.noU rfl rfl (by decide) ?_
    refine WL.no rfl rfl rfl (by decide) ?_
    refine WL.x (X.pickF rfl rfl rfl) (by decide) ?_
    refine WL.nil ?_
    refine WK.nThen ?_
    refine WC.condF rfl ?_
    refine WC.skip ?_
    refine WK.nThen ?_
    refine WC.seq ?_
    refine WC.seq ?_
    refine WC.region ?_
    refine WL.x (X.move rfl) (by decide) ?_
    refine WL.x (OpX.t (X.neq rfl rfl) h8) (by decide) ?_
    refine WL.nil ?_
    refine WK.nThen ?_
    refine WC.condT rfl ?_
    refine WC.seq ?_
    refine WC.region ?_
    refine WL.x (X.move rfl) (by decide) ?_
    refine WL.x (X.assign rfl) (by decide) ?_
    refine WL.x (X.assign rfl) (by decide) ?_
    refine WL.nil ?_
    refine WK.nThen ?_
    refine WC.ret ?_
    refine WK.rThen ?_
    refine WK.ret2 rfl rfl rfl (fun w' hw' => Ret.mem hw' ?_)
    first | (exfalso; omega) | exact ⟨_, tup2 rfl (int_eq (by rw [medR_bad (by omega)])), by rw [medR_bad (by omega)]; exact .nil⟩ | exact ⟨_, tup2 rfl (int_eq (by rw [medR_no (by omega) (.inl (by assumption))])), by rw [medR_no (by omega) (.inl (by assumption))]; exact .nil⟩ | exact ⟨_, tup2 rfl (int_eq (by rw [medR_no (by omega) (.inr (.inl (by assumption)))])), by rw [medR_no (by omega) (.inr (.inl (by assumption)))]; exact .nil⟩ | exact ⟨_, tup2 rfl (int_eq (by rw [medR_no (by omega) (.inr (.inr (by assumption)))])), by rw [medR_no (by omega) (.inr (.inr (by assumption)))]; exact .nil⟩ | exact ⟨_, tup2 rfl (int_eq (by rw [medR_ok (by omega) hka hkb hkc])), by rw [medR_ok (by omega) hka hkb hkc]; exact .nil⟩

set_option maxHeartbeats 2000000 in
theorem pairs63 (m : Mem) (cd : List Value) (d : Drum) (hd : Enc.rd m cd d) (vm_ : Value) (m_ : List Mark) (hm_ : Sl m vm_ m_)   : Pure Try.prog 63 #[.agg cd.toArray, vm_] m (fun m' v => ∃ r0, v = .tuple #[r0, .int .i64 ((prsR d m_).2)] ∧ Sl m' r0 ((prsR d m_).1)) := by
  obtain ⟨v1, v3, rfl, hs2, hs4⟩ := hd
  have hl5 := hs2.le
  have hl6 := hs4.le
  have lm_ := hm_.le
  refine Pure.start Try.func63 rfl Try.ntmps63 rfl fun wld => ?_
  refine WC.seq ?_
  refine WC.region ?_
  refine WL.tn (T.boxB rfl rfl) (by decide) fun b7 => ?_
  refine WL.x (X.assign rfl) (by decide) ?_
  refine WL.x (X.assign rfl) (by decide) ?_
  refine WL.nil ?_
  refine WK.nThen ?_
  refine WC.seq ?_
  refine WC.region ?_
  refine WL.x (X.loadBA (k := 0) Try.isAgg25 Try.sizeOf25 rfl rfl rfl) (by decide) ?_
  refine WL.x (X.move rfl) (by decide) ?_
  refine WL.x (X.call Try.call66 rfl (feasible66 _ _ d ⟨_, _, rfl, hs2, hs4⟩ _ _ hm_ )) (by decide) ?_
  refine WL.x (X.move rfl) (by decide) ?_
  refine WL.x (X.extract rfl rfl) (by decide) ?_
  refine WL.x (X.extract rfl rfl) (by decide) ?_
  refine WL.x (X.assign rfl) (by decide) ?_
  refine WL.x (X.assign rfl) (by decide) ?_
  refine WL.nil ?_
  refine WK.nThen ?_
  refine WC.seq ?_
  refine WC.seq ?_
  refine WC.region ?_
  refine WL.x (X.move rfl) (by decide) ?_
  refine WL.condn (X.neq rfl rfl) (by decide) (fun h8 => ?_) (fun h8 => ?_)
  · refine WL.nil ?_
    refine WK.nThen ?_
    refine WC.condT rfl ?_
    refine WC.seq ?_
    refine WC.region ?_
    refine WL.x (X.move rfl) (by decide) ?_
    refine WL.x (X.assign rfl) (by decide) ?_
    refine WL.x (X.assign rfl) (by decide) ?_
    refine WL.nil ?_
    refine WK.nThen ?_
    refine WC.ret ?_
    refine WK.rThen ?_
    refine WK.ret2 rfl rfl rfl (fun w' hw' => Ret.mem hw' ?_)
    first | (exfalso; omega) | exact ⟨_, tup2 rfl (int_eq (by rw [prs_b1 (by omega)])), by rw [prs_b1 (by omega)]; exact .nil⟩ | exact ⟨_, tup2 rfl (int_eq (by rw [prs_b2 (by omega) (by simp_all)])), by rw [prs_b2 (by omega) (by simp_all)]; exact .nil⟩ | exact ⟨_, tup2 rfl (int_eq (by rw [prs_b3 (by omega) hnf (by assumption)])), by rw [prs_b3 (by omega) hnf (by assumption)]; exact .nil⟩ | exact ⟨_, tup2 rfl (int_eq (by rw [prs_b4 (by omega) hnf hod0])), by rw [prs_b4 (by omega) hnf hod0]; exact .nil⟩
  · refine WL.nil ?_
    refine WK.nThen ?_
    refine WC.condF rfl ?_
    refine WC.skip ?_
    refine WK.nThen ?_
    refine WC.seq ?_
    refine WC.seq ?_
    refine WC.region ?_
    refine WL.x (X.move rfl) (by decide) ?_
    refine WL.nil ?_
    refine WK.nThen ?_
    refine WC.condb rfl (fun h9 => ?_) (fun h9 => ?_)
    · refine WC.seq ?_
      refine WC.region ?_
      refine WL.x (X.assign rfl) (by decide) ?_
      refine WL.x (X.assign rfl) (by decide) ?_
      refine WL.nil ?_
      refine WK.nThen ?_
      refine WC.ret ?_
      refine WK.rThen ?_
      refine WK.ret2 rfl rfl rfl (fun w' hw' => Ret.mem hw' ?_)
      first | (exfalso; omega) | exact ⟨_, tup2 rfl (int_eq (by rw [prs_b1 (by omega)])), by rw [prs_b1 (by omega)]; exact .nil⟩ | exact ⟨_, tup2 rfl (int_eq (by rw [prs_b2 (by omega) (by simp_all)])), by rw [prs_b2 (by omega) (by simp_all)]; exact .nil⟩ | exact ⟨_, tup2 rfl (int_eq (by rw [prs_b3 (by omega) hnf (by assumption)])), by rw [prs_b3 (by omega) hnf (by assumption)]; exact .nil⟩ | exact ⟨_, tup2 rfl (int_eq (by rw [prs_b4 (by omega) hnf hod0])), by rw [prs_b4 (by omega) hnf hod0]; exact .nil⟩
    · refine WC.skip ?_
      refine WK.nThen ?_
      refine WC.seq ?_
      refine WC.seq ?_
      have hpf := prs_f (d := d) (m := m_) (by omega)
      have hok := Ok.of hpf.1
      have hn_ := hok.n
      have hsgl := fun n => sngl_len d m_ n
      have hnf : (feasR d m_).1 = false := (by simp_all)
      refine WC.region ?_
      refine WL.x (X.loadBA (k := 0) Try.isAgg25 Try.sizeOf25 rfl rfl rfl) (by decide) ?_
      refine WL.cond (X.call Try.call121 rfl (together121 _ _ d ⟨_, _, rfl, hs2, hs4⟩ _ _ .nil _ _ .nil (by first | assumption | omega | exact okm0 hok | exact rng0 _ | exact rng1 (by omega) | exact rng2 (by omega) (by omega) | simp) (by first | assumption | omega | exact okm0 hok | exact rng0 _ | exact rng1 (by omega) | exact rng2 (by omega) (by omega) | simp) (by first | assumption | omega | exact okm0 hok | exact rng0 _ | exact rng1 (by omega) | exact rng2 (by omega) (by omega) | simp))) (by decide) (fun h10 => ?_) (fun h10 => ?_)
      · refine WL.x (X.not rfl) (by decide) ?_
        refine WL.nil ?_
        refine WK.nThen ?_
        refine WC.condF rfl ?_
        refine WC.skip ?_
        refine WK.nThen ?_
        refine WC.seq ?_
        have hod0 : okD d [] := (by assumption)
        refine WK.own0 29 1 ?_
        refine WC.region ?_
        refine WL.x (X.assign rfl) (by decide) ?_
        refine WL.nil ?_
        refine WK.nThen ?_
        refine WC.seq ?_
        refine WC.seq ?_
        refine WC.region ?_
        refine WL.x (X.assign rfl) (by decide) ?_
        refine WL.nil ?_
        refine WK.nThen ?_
        refine WC.block ?_
        refine WC.loop (G := Nat × Mem × Value × List Value) (fun (i, mm, vo, xs) => m_.length - i) (fun (i, mm, vo, xs) => mm) (fun (i, mm, vo, xs) => [row (vo) 29 1 (snglN d m_ i).length (xs), blk b7 25 [v1, v3]]) (fun (i, mm, vo, xs) => [(1, vm_), (2, .pointer (some ⟨b7, 0, none⟩)), (8, vo), (9, .int .i64 (↑i))]) (fun (i, mm, vo, xs) => m.le mm ∧ RdL mm xs (snglN d m_ i) ∧ i ≤ m_.length) ((0, m, Value.slice none 0 0, [])) rfl (.refl _) (.cons rfl (.cons rfl (.cons rfl (.cons rfl .nil)))) ?_ ?_
        · exact ⟨Mem.le_refl _, RdL.nil, by omega⟩
        · rintro ⟨i, mm, vo, xs⟩ hF11
          show WK _ _ mm [row (vo) 29 1 (snglN d m_ i).length (xs), blk b7 25 [v1, v3]] [(1, vm_), (2, .pointer (some ⟨b7, 0, none⟩)), (8, vo), (9, .int .i64 (↑i))] _
          replace hF11 : m.le mm ∧ RdL mm xs (snglN d m_ i) ∧ i ≤ m_.length := hF11
          obtain ⟨hmm, hx, hi⟩ := hF11
          replace hs2 := hs2.mono hmm
          replace hs4 := hs4.mono hmm
          replace hm_ := hm_.mono hmm
          have hsg1 := hsgl i
          refine WC.seq ?_
          refine WC.seq ?_
          refine WC.region ?_
          refine WL.x (X.move rfl) (by decide) ?_
          refine WL.x (X.move rfl) (by decide) ?_
          refine WL.x (X.len Try.runUnderlying26 rfl hm_) (by decide) ?_
          refine WL.cond (X.lss rfl rfl) (by decide) (fun h12 => ?_) (fun h12 => ?_)
          · refine WL.nil ?_
            refine WK.nThen ?_
            refine WC.condT rfl ?_
            refine WC.skip ?_
            refine WK.nThen ?_
            refine WC.seq ?_
            refine WC.block ?_
            refine WC.seq ?_
            refine WC.region ?_
            refine WL.x (X.loadBA (k := 1) Try.isAgg25 Try.sizeOf25 rfl rfl rfl) (by decide) ?_
            refine WL.x (X.move rfl) (by decide) ?_
            refine WL.x (X.move rfl) (by decide) ?_
            refine WL.tm (T.litM (α := Int) (vals := [.int .i64 (↑i)]) (L := [(↑i : Int)]) sl29 rfl (.cons rfl rfl .nil) rfl rfl) (by decide) (fun m13 v14 hle15 hs16 => ?_)
            replace hs2 := hs2.mono hle15
            replace hs4 := hs4.mono hle15
            replace hm_ := hm_.mono hle15
            replace hx := hx.mono hle15
            refine WL.cond (X.call Try.call121 rfl (together121 _ _ d ⟨_, _, rfl, hs2, hs4⟩ _ _ hm_ _ _ hs16 (by first | assumption | omega | exact okm0 hok | exact rng0 _ | exact rng1 (by omega) | exact rng2 (by omega) (by omega) | simp) (by first | assumption | omega | exact okm0 hok | exact rng0 _ | exact rng1 (by omega) | exact rng2 (by omega) (by omega) | simp) (by first | assumption | omega | exact okm0 hok | exact rng0 _ | exact rng1 (by omega) | exact rng2 (by omega) (by omega) | simp))) (by decide) (fun h17 => ?_) (fun h17 => ?_)
            · refine WL.x (X.not rfl) (by decide) ?_
              refine WL.nil ?_
              refine WK.nThen ?_
              refine WC.condF rfl ?_
              refine WC.skip ?_
              refine WK.nBlock ?_
              refine WK.nThen ?_
              refine WC.region ?_
              refine WL.x (X.move rfl) (by decide) ?_
              refine WL.x (X.add rfl rfl (by omega) (by omega)) (by decide) ?_
              refine WL.x (X.assign rfl) (by decide) ?_
              refine WL.nil ?_
              refine WK.nThen ?_
              have he18 : (snglN d m_ i) = (snglN d m_ (i + 1)) := (sn_no (by assumption))
              rw [he18]
              rw [he18] at hx
              refine WK.next ((i + 1, m13, vo, xs)) rfl (.refl _) (.cons rfl (.cons rfl (.cons rfl (.cons rfl .nil)))) ?_ ?_
              · exact ⟨Mem.le_trans hmm hle15, hx, by omega⟩
              · (dsimp only; omega)
            · refine WL.x (X.not rfl) (by decide) ?_
              refine WL.nil ?_
              refine WK.nThen ?_
              refine WC.condT rfl ?_
              refine WC.region ?_
              refine WL.x (X.move rfl) (by decide) ?_
              refine WL.x (X.move rfl) (by decide) ?_
              refine WL.tm (T.litM (α := Int) (vals := [.int .i64 (↑i)]) (L := [(↑i : Int)]) sl29 rfl (.cons rfl rfl .nil) rfl rfl) (by decide) (fun m19 v20 hle21 hs22 => ?_)
              replace hs2 := hs2.mono hle21
              replace hs4 := hs4.mono hle21
              replace hm_ := hm_.mono hle21
              replace hx := hx.mono hle21
              replace hs16 := hs16.mono hle21
              refine WL.tl (T.lit1 sl52 rfl (one_cells hs22.one) rfl (by decide)) (by decide) fun b23 => ?_
              refine WL.ta (T.appendN (k := 0) (n' := ((snglN d m_ i) ++ [[(↑i : Int)]]).length) sl52 rfl rfl rfl rfl rfl (one_cons hs22.one one_nil) (by simp) (by first | omega | (simp; omega)) (by first | omega | (simp; omega))) (by decide) (fun v24 => ?_)
              have hx25 := RdL.snoc (a := [(↑i : Int)]) hx ⟨_, rfl, hs22⟩
              refine WL.x (X.assign rfl) (by decide) ?_
              refine WL.nil ?_
              refine WK.nBlock ?_
              refine WK.nThen ?_
              refine WC.region ?_
              refine WL.x (X.move rfl) (by decide) ?_
              refine WL.x (X.add rfl rfl (by omega) (by omega)) (by decide) ?_
              refine WL.x (X.assign rfl) (by decide) ?_
              refine WL.nil ?_
              refine WK.nThen ?_
              have he26 : ((snglN d m_ i) ++ [[(↑i : Int)]]) = (snglN d m_ (i + 1)) := (sn_yes (by assumption))
              rw [he26]
              rw [he26] at hx25
              refine WK.next ((i + 1, m19, v24, xs ++ [v20])) rfl (.refl _) (.cons rfl (.cons rfl (.cons rfl (.cons rfl .nil)))) ?_ ?_
              · exact ⟨Mem.le_trans hmm (Mem.le_trans hle15 hle21), hx25, by omega⟩
              · (dsimp only; omega)
          · refine WL.nil ?_
            refine WK.nThen ?_
            refine WC.condF rfl ?_
            refine WC.exit ?_
            refine WK.eThen ?_
            refine WK.eThen ?_
            refine WK.eHit ?_
            refine WK.nThen ?_
            refine WC.seq ?_
            refine WC.seq ?_
            refine WC.region ?_
            refine WL.x (X.assign rfl) (by decide) ?_
            refine WL.nil ?_
            refine WK.nThen ?_
            refine WC.block ?_
            have he27 : (snglN d m_ i) = (snglN d m_ m_.length ++ dblN d m_ 0) := (by rw [show i = m_.length by omega]; simp [dblN])
            rw [he27]
            rw [he27] at hx
            refine WC.loop (G := Nat × Mem × Value × List Value) (fun (a, mn, vq, zs) => m_.length - a) (fun (a, mn, vq, zs) => mn) (fun (a, mn, vq, zs) => [row (vq) 29 1 (snglN d m_ m_.length ++ dblN d m_ a).length (zs), blk b7 25 [v1, v3]]) (fun (a, mn, vq, zs) => [(1, vm_), (2, .pointer (some ⟨b7, 0, none⟩)), (8, vq), (10, .int .i64 (↑a))]) (fun (a, mn, vq, zs) => mm.le mn ∧ RdL mn zs (snglN d m_ m_.length ++ dblN d m_ a) ∧ a ≤ m_.length) ((0, mm, vo, xs)) rfl (.refl _) (.cons rfl (.cons rfl (.cons rfl (.cons rfl .nil)))) ?_ ?_
            · exact ⟨Mem.le_refl _, hx, by omega⟩
            · rintro ⟨a, mn, vq, zs⟩ hF28
              show WK _ _ mn [row (vq) 29 1 (snglN d m_ m_.length ++ dblN d m_ a).length (zs), blk b7 25 [v1, v3]] [(1, vm_), (2, .pointer (some ⟨b7, 0, none⟩)), (8, vq), (10, .int .i64 (↑a))] _
              replace hF28 : mm.le mn ∧ RdL mn zs (snglN d m_ m_.length ++ dblN d m_ a) ∧ a ≤ m_.length := hF28
              obtain ⟨hmn, hz, ha⟩ := hF28
              replace hs2 := hs2.mono hmn
              replace hs4 := hs4.mono hmn
              replace hm_ := hm_.mono hmn
              replace hx := hx.mono hmn
              refine WC.seq ?_
              refine WC.seq ?_
              refine WC.region ?_
              refine WL.x (X.move rfl) (by decide) ?_
              refine WL.x (X.move rfl) (by decide) ?_
              refine WL.x (X.len Try.runUnderlying26 rfl hm_) (by decide) ?_
              refine WL.cond (X.lss rfl rfl) (by decide) (fun h29 => ?_) (fun h29 => ?_)
              · refine WL.nil ?_
                refine WK.nThen ?_
                refine WC.condT rfl ?_
                refine WC.skip ?_
                refine WK.nThen ?_
                refine WC.seq ?_
                refine WC.block ?_
                refine WC.seq ?_
                refine WC.region ?_
                refine WL.x (X.move rfl) (by decide) ?_
                refine WL.x (X.add rfl rfl (by omega) (by omega)) (by decide) ?_
                refine WL.x (X.assign rfl) (by decide) ?_
                refine WL.nil ?_
                refine WK.nThen ?_
                refine WC.block ?_
                have he30 : (snglN d m_ m_.length ++ dblN d m_ a) = (prsL d m_ a (a + 1)) := (prs_enter d m_ a)
                rw [he30]
                rw [he30] at hz
                refine WC.loop (G := Nat × Mem × Value × List Value) (fun (k, nn, vp, ys) => m_.length - k) (fun (k, nn, vp, ys) => nn) (fun (k, nn, vp, ys) => [row (vp) 29 1 (prsL d m_ a k).length (ys), blk b7 25 [v1, v3]]) (fun (k, nn, vp, ys) => [(1, vm_), (2, .pointer (some ⟨b7, 0, none⟩)), (8, vp), (10, .int .i64 (↑a)), (11, .int .i64 (↑k))]) (fun (k, nn, vp, ys) => mn.le nn ∧ RdL nn ys (prsL d m_ a k) ∧ k ≤ m_.length ∧ a < k) (((a + 1), mn, vq, zs)) rfl (.refl _) (.cons rfl (.cons rfl (.cons rfl (.cons rfl (.cons rfl .nil))))) ?_ ?_
                · exact ⟨Mem.le_refl _, hz, by omega, by omega⟩
                · rintro ⟨k, nn, vp, ys⟩ hF31
                  show WK _ _ nn [row (vp) 29 1 (prsL d m_ a k).length (ys), blk b7 25 [v1, v3]] [(1, vm_), (2, .pointer (some ⟨b7, 0, none⟩)), (8, vp), (10, .int .i64 (↑a)), (11, .int .i64 (↑k))] _
                  replace hF31 : mn.le nn ∧ RdL nn ys (prsL d m_ a k) ∧ k ≤ m_.length ∧ a < k := hF31
                  obtain ⟨hnn, hy, hk, hak⟩ := hF31
                  replace hs2 := hs2.mono hnn
                  replace hs4 := hs4.mono hnn
                  replace hm_ := hm_.mono hnn
                  replace hx := hx.mono hnn
                  replace hz := hz.mono hnn
                  have hpr1 := prs_len (d := d) hn_ (i := a) (k := k) (by omega) (by omega)
                  refine WC.seq ?_
                  refine WC.seq ?_
                  refine WC.region ?_
                  refine WL.x (X.move rfl) (by decide) ?_
                  refine WL.x (X.move rfl) (by decide) ?_
                  refine WL.x (X.len Try.runUnderlying26 rfl hm_) (by decide) ?_
                  refine WL.cond (X.lss rfl rfl) (by decide) (fun h32 => ?_) (fun h32 => ?_)
                  · refine WL.nil ?_
                    refine WK.nThen ?_
                    refine WC.condT rfl ?_
                    refine WC.skip ?_
                    refine WK.nThen ?_
                    refine WC.seq ?_
                    refine WC.block ?_
                    refine WC.seq ?_
                    refine WC.region ?_
                    refine WL.x (X.loadBA (k := 1) Try.isAgg25 Try.sizeOf25 rfl rfl rfl) (by decide) ?_
                    refine WL.x (X.move rfl) (by decide) ?_
                    refine WL.x (X.move rfl) (by decide) ?_
                    refine WL.tm (T.litM (α := Int) (vals := [.int .i64 (↑a)]) (L := [(↑a : Int)]) sl29 rfl (.cons rfl rfl .nil) rfl rfl) (by decide) (fun m33 v34 hle35 hs36 => ?_)
                    replace hs2 := hs2.mono hle35
                    replace hs4 := hs4.mono hle35
                    replace hm_ := hm_.mono hle35
                    replace hx := hx.mono hle35
                    replace hz := hz.mono hle35
                    replace hy := hy.mono hle35
                    refine WL.cond (X.call Try.call121 rfl (together121 _ _ d ⟨_, _, rfl, hs2, hs4⟩ _ _ hm_ _ _ hs36 (by first | assumption | omega | exact okm0 hok | exact rng0 _ | exact rng1 (by omega) | exact rng2 (by omega) (by omega) | simp) (by first | assumption | omega | exact okm0 hok | exact rng0 _ | exact rng1 (by omega) | exact rng2 (by omega) (by omega) | simp) (by first | assumption | omega | exact okm0 hok | exact rng0 _ | exact rng1 (by omega) | exact rng2 (by omega) (by omega) | simp))) (by decide) (fun h37 => ?_) (fun h37 => ?_)
                    · refine WL.x (X.move rfl) (by decide) ?_
                      refine WL.yes rfl rfl ?_
                      refine WL.x (X.loadBA (k := 1) Try.isAgg25 Try.sizeOf25 rfl rfl rfl) (by decide) ?_
                      refine WL.yes rfl rfl ?_
                      refine WL.x (X.move rfl) (by decide) ?_
                      refine WL.yes rfl rfl ?_
                      refine WL.x (X.move rfl) (by decide) ?_
                      refine WL.yes rfl rfl ?_
                      refine WL.tm (T.litM (α := Int) (vals := [.int .i64 (↑k)]) (L := [(↑k : Int)]) sl29 rfl (.cons rfl rfl .nil) rfl rfl) (by decide) (fun m38 v39 hle40 hs41 => ?_)
                      replace hs2 := hs2.mono hle40
                      replace hs4 := hs4.mono hle40
                      replace hm_ := hm_.mono hle40
                      replace hx := hx.mono hle40
                      replace hz := hz.mono hle40
                      replace hy := hy.mono hle40
                      replace hs36 := hs36.mono hle40
                      refine WL.yes rfl rfl ?_
                      refine WL.cond (X.call Try.call121 rfl (together121 _ _ d ⟨_, _, rfl, hs2, hs4⟩ _ _ hm_ _ _ hs41 (by first | assumption | omega | exact okm0 hok | exact rng0 _ | exact rng1 (by omega) | exact rng2 (by omega) (by omega) | simp) (by first | assumption | omega | exact okm0 hok | exact rng0 _ | exact rng1 (by omega) | exact rng2 (by omega) (by omega) | simp) (by first | assumption | omega | exact okm0 hok | exact rng0 _ | exact rng1 (by omega) | exact rng2 (by omega) (by omega) | simp))) (by decide) (fun h42 => ?_) (fun h42 => ?_)
                      · refine WL.x (X.pickT rfl rfl rfl) (by decide) ?_
                        refine WL.x (X.move rfl) (by decide) ?_
                        refine WL.yes rfl rfl ?_
                        refine WL.x (X.loadBA (k := 1) Try.isAgg25 Try.sizeOf25 rfl rfl rfl) (by decide) ?_
                        refine WL.yes rfl rfl ?_
                        refine WL.x (X.move rfl) (by decide) ?_
                        refine WL.yes rfl rfl ?_
                        refine WL.x (X.move rfl) (by decide) ?_
                        refine WL.yes rfl rfl ?_
                        refine WL.x (X.move rfl) (by decide) ?_
                        refine WL.yes rfl rfl ?_
                        refine WL.tm (T.litM (α := Int) (vals := [.int .i64 (↑a), .int .i64 (↑k)]) (L := [(↑a : Int), (↑k : Int)]) sl29 rfl (.cons rfl rfl (.cons rfl rfl .nil)) rfl rfl) (by decide) (fun m43 v44 hle45 hs46 => ?_)
                        replace hs2 := hs2.mono hle45
                        replace hs4 := hs4.mono hle45
                        replace hm_ := hm_.mono hle45
                        replace hx := hx.mono hle45
                        replace hz := hz.mono hle45
                        replace hy := hy.mono hle45
                        replace hs36 := hs36.mono hle45
                        replace hs41 := hs41.mono hle45
                        refine WL.yes rfl rfl ?_
                        refine WL.cond (X.call Try.call121 rfl (together121 _ _ d ⟨_, _, rfl, hs2, hs4⟩ _ _ hm_ _ _ hs46 (by first | assumption | omega | exact okm0 hok | exact rng0 _ | exact rng1 (by omega) | exact rng2 (by omega) (by omega) | simp) (by first | assumption | omega | exact okm0 hok | exact rng0 _ | exact rng1 (by omega) | exact rng2 (by omega) (by omega) | simp) (by first | assumption | omega | exact okm0 hok | exact rng0 _ | exact rng1 (by omega) | exact rng2 (by omega) (by omega) | simp))) (by decide) (fun h47 => ?_) (fun h47 => ?_)
                        · refine WL.yes rfl rfl ?_
                          refine WL.x (X.not rfl) (by decide) ?_
                          refine WL.x (X.pickT rfl rfl rfl) (by decide) ?_
                          refine WL.nil ?_
                          refine WK.nThen ?_
                          refine WC.condF rfl ?_
                          refine WC.skip ?_
                          refine WK.nBlock ?_
                          refine WK.nThen ?_
                          refine WC.region ?_
                          refine WL.x (X.move rfl) (by decide) ?_
                          refine WL.x (X.add rfl rfl (by omega) (by omega)) (by decide) ?_
                          refine WL.x (X.assign rfl) (by decide) ?_
                          refine WL.nil ?_
                          refine WK.nThen ?_
                          have he48 : (prsL d m_ a k) = (prsL d m_ a (k + 1)) := (by first | exact pr_no1 (by assumption) | exact pr_no2 (by assumption) | exact pr_no3 (by assumption))
                          rw [he48]
                          rw [he48] at hy
                          refine WK.next ((k + 1, m43, vp, ys)) rfl (.refl _) (.cons rfl (.cons rfl (.cons rfl (.cons rfl (.cons rfl .nil))))) ?_ ?_
                          · exact ⟨Mem.le_trans hnn (Mem.le_trans hle35 (Mem.le_trans hle40 hle45)), hy, by omega, by omega⟩
                          · (dsimp only; omega)
                        · refine WL.yes rfl rfl ?_
                          refine WL.x (X.not rfl) (by decide) ?_
                          refine WL.x (X.pickT rfl rfl rfl) (by decide) ?_
                          refine WL.nil ?_
                          refine WK.nThen ?_
                          refine WC.condT rfl ?_
                          refine WC.region ?_
                          refine WL.x (X.move rfl) (by decide) ?_
                          refine WL.x (X.move rfl) (by decide) ?_
                          refine WL.x (X.move rfl) (by decide) ?_
                          refine WL.tm (T.litM (α := Int) (vals := [.int .i64 (↑a), .int .i64 (↑k)]) (L := [(↑a : Int), (↑k : Int)]) sl29 rfl (.cons rfl rfl (.cons rfl rfl .nil)) rfl rfl) (by decide) (fun m49 v50 hle51 hs52 => ?_)
                          replace hs2 := hs2.mono hle51
                          replace hs4 := hs4.mono hle51
                          replace hm_ := hm_.mono hle51
                          replace hx := hx.mono hle51
                          replace hz := hz.mono hle51
                          replace hy := hy.mono hle51
                          replace hs36 := hs36.mono hle51
                          replace hs41 := hs41.mono hle51
                          replace hs46 := hs46.mono hle51
                          refine WL.tl (T.lit1 sl52 rfl (one_cells hs52.one) rfl (by decide)) (by decide) fun b53 => ?_
                          refine WL.ta (T.appendN (k := 0) (n' := ((prsL d m_ a k) ++ [[(↑a : Int), (↑k : Int)]]).length) sl52 rfl rfl rfl rfl rfl (one_cons hs52.one one_nil) (by simp) (by first | omega | (simp; omega)) (by first | omega | (simp; omega))) (by decide) (fun v54 => ?_)
                          have hx55 := RdL.snoc (a := [(↑a : Int), (↑k : Int)]) hy ⟨_, rfl, hs52⟩
                          refine WL.x (X.assign rfl) (by decide) ?_
                          refine WL.nil ?_
                          refine WK.nBlock ?_
                          refine WK.nThen ?_
                          refine WC.region ?_
                          refine WL.x (X.move rfl) (by decide) ?_
                          refine WL.x (X.add rfl rfl (by omega) (by omega)) (by decide) ?_
                          refine WL.x (X.assign rfl) (by decide) ?_
                          refine WL.nil ?_
                          refine WK.nThen ?_
                          have he56 : ((prsL d m_ a k) ++ [[(↑a : Int), (↑k : Int)]]) = (prsL d m_ a (k + 1)) := (pr_yes (by omega) (by assumption) (by assumption) (by assumption))
                          rw [he56]
                          rw [he56] at hx55
                          refine WK.next ((k + 1, m49, v54, ys ++ [v50])) rfl (.refl _) (.cons rfl (.cons rfl (.cons rfl (.cons rfl (.cons rfl .nil))))) ?_ ?_
                          · exact ⟨Mem.le_trans hnn (Mem.le_trans hle35 (Mem.le_trans hle40 (Mem.le_trans hle45 hle51))), hx55, by omega, by omega⟩
                          · (dsimp only; omega)
                      · refine WL.x (X.pickT rfl rfl rfl) (by decide) ?_
                        refine WL.x (X.move rfl) (by decide) ?_
                        refine WL.no rfl rfl rfl (by decide) ?_
                        refine WL.no rfl rfl rfl (by decide) ?_
                        refine WL.no rfl rfl rfl (by decide) ?_
                        refine WL.no rfl rfl rfl (by decide) ?_
                        refine WL.no rfl rfl rfl (by decide) ?_
                        refine WL.no rfl rfl rfl (by decide) ?_
                        refine WL.no rfl rfl rfl (by decide) ?_
                        refine WL.x (X.pickF rfl rfl rfl) (by decide) ?_
                        refine WL.nil ?_
                        refine WK.nThen ?_
                        refine WC.condF rfl ?_
                        refine WC.skip ?_
                        refine WK.nBlock ?_
                        refine WK.nThen ?_
                        refine WC.region ?_
                        refine WL.x (X.move rfl) (by decide) ?_
                        refine WL.x (X.add rfl rfl (by omega) (by omega)) (by decide) ?_
                        refine WL.x (X.assign rfl) (by decide) ?_
                        refine WL.nil ?_
                        refine WK.nThen ?_
                        have he57 : (prsL d m_ a k) = (prsL d m_ a (k + 1)) := (by first | exact pr_no1 (by assumption) | exact pr_no2 (by assumption) | exact pr_no3 (by assumption))
                        rw [he57]
                        rw [he57] at hy
                        refine WK.next ((k + 1, m38, vp, ys)) rfl (.refl _) (.cons rfl (.cons rfl (.cons rfl (.cons rfl (.cons rfl .nil))))) ?_ ?_
                        · exact ⟨Mem.le_trans hnn (Mem.le_trans hle35 hle40), hy, by omega, by omega⟩
                        · (dsimp only; omega)
                    · refine WL.x (X.move rfl) (by decide) ?_
                      refine WL.no rfl rfl rfl (by decide) ?_
                      refine WL.no rfl rfl rfl (by decide) ?_
                      refine WL.no rfl rfl rfl (by decide) ?_
                      refine WL.no rfl rfl rfl (by decide) ?_
                      refine WL.no rfl rfl rfl (by decide) ?_
                      refine WL.x (X.pickF rfl rfl rfl) (by decide) ?_
                      refine WL.x (X.move rfl) (by decide) ?_
                      refine WL.no rfl rfl rfl (by decide) ?_
                      refine WL.no rfl rfl rfl (by decide) ?_
                      refine WL.no rfl rfl rfl (by decide) ?_
                      refine WL.no rfl rfl rfl (by decide) ?_
                      refine WL.no rfl rfl rfl (by decide) ?_
                      refine WL.no rfl rfl rfl (by decide) ?_
                      refine WL.no rfl rfl rfl (by decide) ?_
                      refine WL.x (X.pickF rfl rfl rfl) (by decide) ?_
                      refine WL.nil ?_
                      refine WK.nThen ?_
                      refine WC.condF rfl ?_
                      refine WC.skip ?_
                      refine WK.nBlock ?_
                      refine WK.nThen ?_
                      refine WC.region ?_
                      refine WL.x (X.move rfl) (by decide) ?_
                      refine WL.x (X.add rfl rfl (by omega) (by omega)) (by decide) ?_
                      refine WL.x (X.assign rfl) (by decide) ?_
                      refine WL.nil ?_
                      refine WK.nThen ?_
                      have he58 : (prsL d m_ a k) = (prsL d m_ a (k + 1)) := (by first | exact pr_no1 (by assumption) | exact pr_no2 (by assumption) | exact pr_no3 (by assumption))
                      rw [he58]
                      rw [he58] at hy
                      refine WK.next ((k + 1, m33, vp, ys)) rfl (.refl _) (.cons rfl (.cons rfl (.cons rfl (.cons rfl (.cons rfl .nil))))) ?_ ?_
                      · exact ⟨Mem.le_trans hnn hle35, hy, by omega, by omega⟩
                      · (dsimp only; omega)
                  · refine WL.nil ?_
                    refine WK.nThen ?_
                    refine WC.condF rfl ?_
                    refine WC.exit ?_
                    refine WK.eThen ?_
                    refine WK.eThen ?_
                    refine WK.eHit ?_
                    refine WK.nBlock ?_
                    refine WK.nThen ?_
                    refine WC.region ?_
                    refine WL.x (X.move rfl) (by decide) ?_
                    refine WL.x (X.add rfl rfl (by omega) (by omega)) (by decide) ?_
                    refine WL.x (X.assign rfl) (by decide) ?_
                    refine WL.nil ?_
                    refine WK.nThen ?_
                    have he59 : (prsL d m_ a k) = (snglN d m_ m_.length ++ dblN d m_ (a + 1)) := (prs_end (.inl (by omega)))
                    rw [he59]
                    rw [he59] at hy
                    refine WK.next ((a + 1, nn, vp, ys)) rfl (.refl _) (.cons rfl (.cons rfl (.cons rfl (.cons rfl .nil)))) ?_ ?_
                    · exact ⟨Mem.le_trans hmn hnn, hy, by omega⟩
                    · (dsimp only; omega)
              · refine WL.nil ?_
                refine WK.nThen ?_
                refine WC.condF rfl ?_
                refine WC.exit ?_
                refine WK.eThen ?_
                refine WK.eThen ?_
                refine WK.eHit ?_
                refine WK.nThen ?_
                refine WC.seq ?_
                have he60 : (snglN d m_ m_.length ++ dblN d m_ a) = (snglN d m_ m_.length ++ dblN d m_ m_.length) := (by rw [show a = m_.length by omega])
                rw [he60]
                rw [he60] at hz
                have hfz : (snglN d m_ m_.length ++ dblN d m_ m_.length).length ≤ 5000 := (by rw [← pair_some hod0]; exact pair_len hn_)
                refine WC.region ?_
                refine WL.x (X.move rfl) (by decide) ?_
                refine WL.x (X.assign rfl) (by decide) ?_
                refine WL.x (X.assign rfl) (by decide) ?_
                refine WL.nil ?_
                refine WK.nThen ?_
                refine WC.ret ?_
                refine WK.freezeL 0 rfl rfl hz (by first | (simp [lenB]; done) | (have := hfz; unfold lenB; omega)) (fun m61 hle62 hs63 => ?_)
                replace hs2 := hs2.mono hle62
                replace hs4 := hs4.mono hle62
                replace hm_ := hm_.mono hle62
                replace hx := hx.mono hle62
                replace hz := hz.mono hle62
                refine WK.ret2 rfl rfl rfl (fun w' hw' => Ret.mem hw' ?_)
                first | (exfalso; omega) | exact ⟨_, tup2 rfl (int_eq (by rw [prs_b1 (by omega)])), by rw [prs_b1 (by omega)]; exact hs63⟩ | exact ⟨_, tup2 rfl (int_eq (by rw [prs_b2 (by omega) (by simp_all)])), by rw [prs_b2 (by omega) (by simp_all)]; exact hs63⟩ | exact ⟨_, tup2 rfl (int_eq (by rw [prs_b3 (by omega) hnf (by assumption)])), by rw [prs_b3 (by omega) hnf (by assumption)]; exact hs63⟩ | exact ⟨_, tup2 rfl (int_eq (by rw [prs_b4 (by omega) hnf hod0])), by rw [prs_b4 (by omega) hnf hod0]; exact hs63⟩
      · refine WL.x (X.not rfl) (by decide) ?_
        refine WL.nil ?_
        refine WK.nThen ?_
        refine WC.condT rfl ?_
        refine WC.seq ?_
        refine WC.region ?_
        refine WL.ta (T.lit0 (α := Int) sl29 rfl) (by decide) (fun v64 => ?_)
        refine WL.freezeF 0 rfl rfl (by first | (simp [lenB]; done) | (have := hfz; unfold lenB; omega)) (fun m65 hle66 hs67 => ?_)
        replace hs2 := hs2.mono hle66
        replace hs4 := hs4.mono hle66
        replace hm_ := hm_.mono hle66
        refine WL.tm (T.litM (α := List Int) (vals := [v64]) (L := [([] : List Int)]) sl52 rfl (.cons (one_cells hs67.one) ⟨_, rfl, hs67⟩ .nil) rfl rfl) (by decide) (fun m68 v69 hle70 hs71 => ?_)
        replace hs2 := hs2.mono hle70
        replace hs4 := hs4.mono hle70
        replace hm_ := hm_.mono hle70
        replace hs67 := hs67.mono hle70
        refine WL.x (X.assign rfl) (by decide) ?_
        refine WL.x (X.assign rfl) (by decide) ?_
        refine WL.nil ?_
        refine WK.nThen ?_
        refine WC.ret ?_
        refine WK.rThen ?_
        refine WK.ret2 rfl rfl rfl (fun w' hw' => Ret.mem hw' ?_)
        first | (exfalso; omega) | exact ⟨_, tup2 rfl (int_eq (by rw [prs_b1 (by omega)])), by rw [prs_b1 (by omega)]; exact hs71⟩ | exact ⟨_, tup2 rfl (int_eq (by rw [prs_b2 (by omega) (by simp_all)])), by rw [prs_b2 (by omega) (by simp_all)]; exact hs71⟩ | exact ⟨_, tup2 rfl (int_eq (by rw [prs_b3 (by omega) hnf (by assumption)])), by rw [prs_b3 (by omega) hnf (by assumption)]; exact hs71⟩ | exact ⟨_, tup2 rfl (int_eq (by rw [prs_b4 (by omega) hnf hod0])), by rw [prs_b4 (by omega) hnf hod0]; exact hs71⟩

theorem contradiction62 (m : Mem) (cd : List Value) (d : Drum) (hd : Enc.rd m cd d) (vm_ : Value) (m_ : List Mark) (hm_ : Sl m vm_ m_)   : Pure Try.prog 62 #[.agg cd.toArray, vm_] m (fun m' v => ∃ r0, v = .tuple #[r0, .int .i64 ((conR d m_).2)] ∧ Sl m' r0 ((conR d m_).1)) := by
  obtain ⟨v1, v3, rfl, hs2, hs4⟩ := hd
  have hl5 := hs2.le
  have hl6 := hs4.le
  have lm_ := hm_.le
  refine Pure.start Try.func62 rfl Try.ntmps62 rfl fun wld => ?_
  refine WC.seq ?_
  refine WC.region ?_
  refine WL.tn (T.boxB rfl rfl) (by decide) fun b7 => ?_
  refine WL.x (X.assign rfl) (by decide) ?_
  refine WL.x (X.assign rfl) (by decide) ?_
  refine WL.nil ?_
  refine WK.nThen ?_
  refine WC.seq ?_
  refine WC.region ?_
  refine WL.x (X.loadBA (k := 0) Try.isAgg25 Try.sizeOf25 rfl rfl rfl) (by decide) ?_
  refine WL.x (X.move rfl) (by decide) ?_
  refine WL.tm (T.call Try.call63 rfl (pairs63 _ _ d ⟨_, _, rfl, hs2, hs4⟩ _ _ hm_ )) (by decide) fun m8 r9 hle10 hR11 => ?_
  obtain ⟨v12, rfl, hs13⟩ := hR11
  replace hs2 := hs2.mono hle10
  replace hs4 := hs4.mono hle10
  replace hm_ := hm_.mono hle10
  have hl14 := hs13.le
  refine WL.x (X.move rfl) (by decide) ?_
  refine WL.x (X.extract rfl rfl) (by decide) ?_
  refine WL.x (X.extract rfl rfl) (by decide) ?_
  refine WL.x (X.assign rfl) (by decide) ?_
  refine WL.x (X.assign rfl) (by decide) ?_
  refine WL.nil ?_
  refine WK.nThen ?_
  refine WC.seq ?_
  refine WC.seq ?_
  refine WC.region ?_
  refine WL.x (X.move rfl) (by decide) ?_
  refine WL.condn (X.neq rfl rfl) (by decide) (fun h15 => ?_) (fun h15 => ?_)
  · refine WL.nil ?_
    refine WK.nThen ?_
    refine WC.condT rfl ?_
    refine WC.seq ?_
    refine WC.region ?_
    refine WL.x (X.move rfl) (by decide) ?_
    refine WL.x (X.assign rfl) (by decide) ?_
    refine WL.x (X.assign rfl) (by decide) ?_
    refine WL.nil ?_
    refine WK.nThen ?_
    refine WC.ret ?_
    refine WK.rThen ?_
    refine WK.ret2 rfl rfl rfl (fun w' hw' => Ret.mem hw' ?_)
    first | exact ⟨_, tup2 rfl (int_eq (by rw [conR_bad (by omega)])), by rw [conR_bad (by omega)]; exact .nil⟩ | exact ⟨_, tup2 rfl (int_eq (by rw [conR_ok (by omega)])), by rw [conR_ok (by omega)]; exact .nil⟩
  · refine WL.nil ?_
    refine WK.nThen ?_
    refine WC.condF rfl ?_
    refine WC.skip ?_
    refine WK.nThen ?_
    refine WC.seq ?_
    have hpp := prsR_pos (d := d) (m := m_) (by omega)
    refine WC.region ?_
    refine WL.x (X.move rfl) (by decide) ?_
    refine WL.xe (E.idxN 0 Try.runUnderlying52 Try.sizeOf29 rfl rfl hs13 (by omega)) (by decide) (fun p16 hp17 => ?_)
    refine WL.xe (E.loadSl Try.isAgg29 rfl hp17) (by decide) (fun v18 hs19 => ?_)
    have hl20 := hs19.le
    refine WL.x (X.assign rfl) (by decide) ?_
    refine WL.x (X.assign rfl) (by decide) ?_
    refine WL.nil ?_
    refine WK.nThen ?_
    refine WC.ret ?_
    refine WK.ret2 rfl rfl rfl (fun w' hw' => Ret.mem hw' ?_)
    first | exact ⟨_, tup2 rfl (int_eq (by rw [conR_bad (by omega)])), by rw [conR_bad (by omega)]; exact hs19⟩ | exact ⟨_, tup2 rfl (int_eq (by rw [conR_ok (by omega)])), by rw [conR_ok (by omega)]; exact hs19⟩

set_option maxHeartbeats 4000000 in
theorem drops64 (m : Mem) (cd : List Value) (d : Drum) (hd : Enc.rd m cd d) (vm_ : Value) (m_ : List Mark) (hm_ : Sl m vm_ m_)   : Pure Try.prog 64 #[.agg cd.toArray, vm_] m (fun m' v => ∃ r0, v = .tuple #[r0, .int .i64 ((drpR d m_).2)] ∧ Sl m' r0 ((drpR d m_).1)) := by
  obtain ⟨v1, v3, rfl, hs2, hs4⟩ := hd
  have hl5 := hs2.le
  have hl6 := hs4.le
  have lm_ := hm_.le
  refine Pure.start Try.func64 rfl Try.ntmps64 rfl fun wld => ?_
  refine WC.seq ?_
  refine WC.region ?_
  refine WL.tn (T.boxB rfl rfl) (by decide) fun b7 => ?_
  refine WL.x (X.assign rfl) (by decide) ?_
  refine WL.x (X.assign rfl) (by decide) ?_
  refine WL.nil ?_
  refine WK.nThen ?_
  refine WC.seq ?_
  refine WC.region ?_
  refine WL.x (X.loadBA (k := 0) Try.isAgg25 Try.sizeOf25 rfl rfl rfl) (by decide) ?_
  refine WL.x (X.move rfl) (by decide) ?_
  refine WL.x (X.call Try.call83 rfl (asked83 _ _ d ⟨_, _, rfl, hs2, hs4⟩ _ _ hm_ )) (by decide) ?_
  refine WL.x (X.assign rfl) (by decide) ?_
  refine WL.nil ?_
  refine WK.nThen ?_
  refine WC.seq ?_
  refine WC.seq ?_
  refine WC.region ?_
  refine WL.x (X.move rfl) (by decide) ?_
  refine WL.condn (X.neq rfl rfl) (by decide) (fun h8 => ?_) (fun h8 => ?_)
  · refine WL.nil ?_
    refine WK.nThen ?_
    refine WC.condT rfl ?_
    refine WC.seq ?_
    refine WC.region ?_
    refine WL.x (X.move rfl) (by decide) ?_
    refine WL.x (X.assign rfl) (by decide) ?_
    refine WL.x (X.assign rfl) (by decide) ?_
    refine WL.nil ?_
    refine WK.nThen ?_
    refine WC.ret ?_
    refine WK.rThen ?_
    refine WK.ret2 rfl rfl rfl (fun w' hw' => Ret.mem hw' ?_)
    first | (exfalso; omega) | exact ⟨_, tup2 rfl (int_eq (by rw [drpR_bad (by omega)])), by rw [drpR_bad (by omega)]; exact .nil⟩ | exact ⟨_, tup2 rfl (int_eq (by rw [drpR_big (by omega) (by omega)])), by rw [drpR_big (by omega) (by omega)]; exact .nil⟩ | exact ⟨_, tup2 rfl (int_eq (by rw [drpR_time (by omega) (by omega) (by assumption)])), by rw [drpR_time (by omega) (by omega) (by assumption)]; exact .nil⟩ | exact ⟨_, tup2 rfl (int_eq (by rw [drpR_ok (by omega) (by omega) hod, ← hde])), by rw [drpR_ok (by omega) (by omega) hod, ← hde]; exact .nil⟩
  · refine WL.nil ?_
    refine WK.nThen ?_
    refine WC.condF rfl ?_
    refine WC.skip ?_
    refine WK.nThen ?_
    refine WC.seq ?_
    refine WC.seq ?_
    refine WC.region ?_
    refine WL.x (X.move rfl) (by decide) ?_
    refine WL.x (X.len Try.runUnderlying26 rfl hm_) (by decide) ?_
    refine WL.cond (X.gtr rfl rfl) (by decide) (fun h9 => ?_) (fun h9 => ?_)
    · refine WL.nil ?_
      refine WK.nThen ?_
      refine WC.condT rfl ?_
      refine WC.seq ?_
      refine WC.region ?_
      refine WL.x (X.assign rfl) (by decide) ?_
      refine WL.x (X.assign rfl) (by decide) ?_
      refine WL.nil ?_
      refine WK.nThen ?_
      refine WC.ret ?_
      refine WK.rThen ?_
      refine WK.ret2 rfl rfl rfl (fun w' hw' => Ret.mem hw' ?_)
      first | (exfalso; omega) | exact ⟨_, tup2 rfl (int_eq (by rw [drpR_bad (by omega)])), by rw [drpR_bad (by omega)]; exact .nil⟩ | exact ⟨_, tup2 rfl (int_eq (by rw [drpR_big (by omega) (by omega)])), by rw [drpR_big (by omega) (by omega)]; exact .nil⟩ | exact ⟨_, tup2 rfl (int_eq (by rw [drpR_time (by omega) (by omega) (by assumption)])), by rw [drpR_time (by omega) (by omega) (by assumption)]; exact .nil⟩ | exact ⟨_, tup2 rfl (int_eq (by rw [drpR_ok (by omega) (by omega) hod, ← hde])), by rw [drpR_ok (by omega) (by omega) hod, ← hde]; exact .nil⟩
    · refine WL.nil ?_
      refine WK.nThen ?_
      refine WC.condF rfl ?_
      refine WC.skip ?_
      refine WK.nThen ?_
      refine WC.seq ?_
      refine WC.seq ?_
      have hok := Ok.of (d := d) (m := m_) (by omega)
      refine WC.region ?_
      refine WL.x (X.loadBA (k := 0) Try.isAgg25 Try.sizeOf25 rfl rfl rfl) (by decide) ?_
      refine WL.cond (X.call Try.call121 rfl (together121 _ _ d ⟨_, _, rfl, hs2, hs4⟩ _ _ .nil _ _ .nil (by first | assumption | omega | exact okm0 hok | exact rng0 _ | simp) (by first | assumption | omega | exact okm0 hok | exact rng0 _ | simp) (by first | assumption | omega | exact okm0 hok | exact rng0 _ | simp))) (by decide) (fun h10 => ?_) (fun h10 => ?_)
      · refine WL.x (X.not rfl) (by decide) ?_
        refine WL.nil ?_
        refine WK.nThen ?_
        refine WC.condF rfl ?_
        refine WC.skip ?_
        refine WK.nThen ?_
        refine WC.seq ?_
        have hod : okD d [] := (by assumption)
        have hfull := drp_fullD (d := d) (m := m_) hod
        refine WK.own0 29 1 ?_
        refine WC.region ?_
        refine WL.x (X.assign rfl) (by decide) ?_
        refine WL.nil ?_
        refine WK.nThen ?_
        refine WC.seq ?_
        refine WC.seq ?_
        refine WC.region ?_
        refine WL.x (X.assign rfl) (by decide) ?_
        refine WL.nil ?_
        refine WK.nThen ?_
        refine WC.block ?_
        have hx11 : RdL m [] (drpS (pairL d m_) m_.length 0) := RdL.nil
        refine WC.loop (G := Nat × Mem × Value × List Value) (fun (k, mm, vo, xs) => m_.length + 1 - k) (fun (k, mm, vo, xs) => mm) (fun (k, mm, vo, xs) => [row (vo) 29 1 (drpS (pairL d m_) m_.length k).length (xs), blk b7 25 [v1, v3]]) (fun (k, mm, vo, xs) => [(1, vm_), (2, .pointer (some ⟨b7, 0, none⟩)), (7, vo), (8, .int .i64 (↑k))]) (fun (k, mm, vo, xs) => m.le mm ∧ RdL mm xs (drpS (pairL d m_) m_.length k) ∧ k ≤ m_.length + 1 ∧ ∀ j, j + 1 < k → drpN (pairL d m_) m_.length j = []) ((0, m, Value.slice none 0 0, [])) rfl (.refl _) (.cons rfl (.cons rfl (.cons rfl (.cons rfl .nil)))) ?_ ?_
        · exact ⟨Mem.le_refl _, hx11, by omega, fun j hj => absurd hj (Nat.not_lt_zero _)⟩
        · rintro ⟨k, mm, vo, xs⟩ hF12
          show WK _ _ mm [row (vo) 29 1 (drpS (pairL d m_) m_.length k).length (xs), blk b7 25 [v1, v3]] [(1, vm_), (2, .pointer (some ⟨b7, 0, none⟩)), (7, vo), (8, .int .i64 (↑k))] _
          replace hF12 : m.le mm ∧ RdL mm xs (drpS (pairL d m_) m_.length k) ∧ k ≤ m_.length + 1 ∧ ∀ j, j + 1 < k → drpN (pairL d m_) m_.length j = [] := hF12
          obtain ⟨hmm, hx, hk, hk2⟩ := hF12
          replace hs2 := hs2.mono hmm
          replace hs4 := hs4.mono hmm
          replace hm_ := hm_.mono hmm
          replace hx11 := hx11.mono hmm
          refine WC.seq ?_
          refine WC.seq ?_
          refine WC.region ?_
          refine WL.x (X.move rfl) (by decide) ?_
          refine WL.x (X.lenRow (k := 0) Try.runUnderlying52 rfl rfl) (by decide) ?_
          refine WL.cond (X.eql rfl rfl) (by decide) (fun h13 => ?_) (fun h13 => ?_)
          · refine WL.nil ?_
            refine WK.nThen ?_
            refine WC.condT rfl ?_
            refine WC.skip ?_
            refine WK.nThen ?_
            refine WC.seq ?_
            refine WC.block ?_
            refine WC.seq ?_
            have hne := drp_next hfull hk hk2 (by omega)
            have hne1 := hne.1
            refine WK.ownF Int 3 ?_
            refine WC.region ?_
            refine WL.x (X.assign rfl) (by decide) ?_
            refine WL.nil ?_
            refine WK.nThen ?_
            refine WC.seq ?_
            refine WC.seq ?_
            refine WC.region ?_
            refine WL.x (X.assign rfl) (by decide) ?_
            refine WL.nil ?_
            refine WK.nThen ?_
            refine WC.block ?_
            refine WC.loop (G := Nat × Value) (fun (i, vo2) => k - i) (fun (i, vo2) => mm) (fun (i, vo2) => [rowF (vo2) 3 ((List.range i).map (fun j => (0 : Int) + ↑j)), row (vo) 29 1 (drpS (pairL d m_) m_.length k).length (xs), blk b7 25 [v1, v3]]) (fun (i, vo2) => [(1, vm_), (2, .pointer (some ⟨b7, 0, none⟩)), (7, vo), (8, .int .i64 (↑k)), (9, vo2), (10, .int .i64 (↑i))]) (fun (i, vo2) => i ≤ k) ((0, Value.slice none 0 0)) rfl (.refl _) (.cons rfl (.cons rfl (.cons rfl (.cons rfl (.cons rfl (.cons rfl .nil)))))) ?_ ?_
            · exact Nat.zero_le _
            · rintro ⟨i, vo2⟩ hF14
              show WK _ _ mm [rowF (vo2) 3 ((List.range i).map (fun j => (0 : Int) + ↑j)), row (vo) 29 1 (drpS (pairL d m_) m_.length k).length (xs), blk b7 25 [v1, v3]] [(1, vm_), (2, .pointer (some ⟨b7, 0, none⟩)), (7, vo), (8, .int .i64 (↑k)), (9, vo2), (10, .int .i64 (↑i))] _
              replace hF14 : i ≤ k := hF14
              have hi := hF14
              refine WC.seq ?_
              refine WC.seq ?_
              refine WC.region ?_
              refine WL.x (X.move rfl) (by decide) ?_
              refine WL.x (X.move rfl) (by decide) ?_
              refine WL.cond (X.lss rfl rfl) (by decide) (fun h15 => ?_) (fun h15 => ?_)
              · refine WL.nil ?_
                refine WK.nThen ?_
                refine WC.condT rfl ?_
                refine WC.skip ?_
                refine WK.nThen ?_
                refine WC.seq ?_
                refine WC.block ?_
                refine WC.region ?_
                refine WL.x (X.move rfl) (by decide) ?_
                refine WL.x (X.move rfl) (by decide) ?_
                refine WL.tl (T.lit1 sl29 rfl rfl rfl (by decide)) (by decide) fun b16 => ?_
                refine WL.ta (T.appendF (k := 0) (a := (↑i : Int)) sl29 rfl rfl rfl rfl (by first | omega | (simp; done) | (simp; omega)) (by decide)) (by decide) (fun v17 => ?_)
                refine WL.x (X.assign rfl) (by decide) ?_
                refine WL.nil ?_
                refine WK.nBlock ?_
                refine WK.nThen ?_
                refine WC.region ?_
                refine WL.x (X.move rfl) (by decide) ?_
                refine WL.x (X.add rfl rfl (by omega) (by omega)) (by decide) ?_
                refine WL.x (X.assign rfl) (by decide) ?_
                refine WL.nil ?_
                refine WK.nThen ?_
                have he18 : (((List.range i).map (fun j => (0 : Int) + ↑j)) ++ [(↑i : Int)]) = ((List.range (i + 1)).map (fun j => (0 : Int) + ↑j)) := (by first | exact map_succ2 (fun (j : Nat) => (0 : Int) + ↑j) _ | (rw [← map_succ2, Int.zero_add]))
                rw [he18]
                refine WK.next ((i + 1, v17)) rfl (.refl _) (.cons rfl (.cons rfl (.cons rfl (.cons rfl (.cons rfl (.cons rfl .nil)))))) ?_ ?_
                · omega
                · (dsimp only; omega)
              · refine WL.nil ?_
                refine WK.nThen ?_
                refine WC.condF rfl ?_
                refine WC.exit ?_
                refine WK.eThen ?_
                refine WK.eThen ?_
                refine WK.eHit ?_
                refine WK.nThen ?_
                refine WC.seq ?_
                refine WC.region ?_
                refine WL.x (X.assign rfl) (by decide) ?_
                refine WL.nil ?_
                refine WK.nThen ?_
                refine WC.block ?_
                have he19 : (drpS (pairL d m_) m_.length k) = (fltL (pairL d m_) m_.length k 0) := (by rw [hne.2.2]; rfl)
                rw [he19]
                rw [he19] at hx
                have he20 : ((List.range i).map (fun j => (0 : Int) + ↑j)) = (runI 0 k) := (by rw [show i = k by omega]; rfl)
                rw [he20]
                have hrl0 := runI_len 0 k
                have hst0 := nx_start hne1
                refine WK.freezeF 0 rfl rfl (by first | (unfold lenB; omega) | (simp [lenB]; omega)) (fun m21 hle22 hs23 => ?_)
                replace hs2 := hs2.mono hle22
                replace hs4 := hs4.mono hle22
                replace hm_ := hm_.mono hle22
                replace hx11 := hx11.mono hle22
                replace hx := hx.mono hle22
                refine WC.loop (G := Nat × Bool × Value × List Int × Mem × Value × List Value) (fun (q, mo, vs, ls, nn, vw, ws) => (setsF m_.length k [] 0).length - q) (fun (q, mo, vs, ls, nn, vw, ws) => nn) (fun (q, mo, vs, ls, nn, vw, ws) => [row (vw) 29 1 (fltL (pairL d m_) m_.length k q).length (ws), blk b7 25 [v1, v3]]) (fun (q, mo, vs, ls, nn, vw, ws) => [(1, vm_), (2, .pointer (some ⟨b7, 0, none⟩)), (7, vw), (8, .int .i64 (↑k)), (9, vs), (11, .bool (mo))]) (fun (q, mo, vs, ls, nn, vw, ws) => m21.le nn ∧ RdL nn ws (fltL (pairL d m_) m_.length k q) ∧ Sl nn vs ls ∧ q ≤ (setsF m_.length k [] 0).length ∧ (mo = true ↔ q < (setsF m_.length k [] 0).length) ∧ (q < (setsF m_.length k [] 0).length → ls = gt (setsF m_.length k [] 0) q)) ((0, true, vo2, runI 0 k, m21, vo, xs)) rfl (.refl _) (.cons rfl (.cons rfl (.cons rfl (.cons rfl (.cons rfl (.cons rfl .nil)))))) ?_ ?_
                · exact ⟨Mem.le_refl _, hx, hs23, Nat.zero_le _, ⟨fun _ => hst0.1, fun _ => rfl⟩, fun _ => hst0.2.symm⟩
                · rintro ⟨q, mo, vs, ls, nn, vw, ws⟩ hF24
                  show WK _ _ nn [row (vw) 29 1 (fltL (pairL d m_) m_.length k q).length (ws), blk b7 25 [v1, v3]] [(1, vm_), (2, .pointer (some ⟨b7, 0, none⟩)), (7, vw), (8, .int .i64 (↑k)), (9, vs), (11, .bool (mo))] _
                  replace hF24 : m21.le nn ∧ RdL nn ws (fltL (pairL d m_) m_.length k q) ∧ Sl nn vs ls ∧ q ≤ (setsF m_.length k [] 0).length ∧ (mo = true ↔ q < (setsF m_.length k [] 0).length) ∧ (q < (setsF m_.length k [] 0).length → ls = gt (setsF m_.length k [] 0) q) := hF24
                  obtain ⟨hnn, hw, hls, hq, hmo, hlq⟩ := hF24
                  replace hs2 := hs2.mono hnn
                  replace hs4 := hs4.mono hnn
                  replace hm_ := hm_.mono hnn
                  replace hx11 := hx11.mono hnn
                  replace hx := hx.mono hnn
                  replace hs23 := hs23.mono hnn
                  refine WC.seq ?_
                  refine WC.seq ?_
                  refine WC.region ?_
                  refine WL.x (X.move rfl) (by decide) ?_
                  refine WL.nil ?_
                  refine WK.nThen ?_
                  refine WC.condb rfl (fun h25 => ?_) (fun h25 => ?_)
                  · refine WC.skip ?_
                    refine WK.nThen ?_
                    refine WC.block ?_
                    refine WC.seq ?_
                    refine WC.seq ?_
                    have hq1 := hmo.1 (by assumption)
                    have hl1 := hlq hq1
                    have hmm1 := nx_mem hq1
                    have hls1 : ls.length ≤ 12 := (by rw [hl1, hmm1.1]; omega)
                    have hrg : rngP (↑m_.length : Int).toNat ls := (by rw [hl1, show (↑m_.length : Int).toNat = m_.length by omega]; exact hmm1.2)
                    have hrr : rngP m_.length (rstN ls (↑m_.length : Int).toNat) := (by have := rst_rng ls (↑m_.length : Int).toNat; rwa [show (↑m_.length : Int).toNat = m_.length by omega] at this ⊢)
                    have hrl := rst_len ls (↑m_.length : Int).toNat
                    have hfl := flt_len (pairL d m_) (n := m_.length) (by omega) k q
                    refine WC.draw (π := (.cons 0 (.cons 1 (.cons 2 (.cons 3 (.cons 4 (.cons 5 (.cons 6 .done)))))))) [5] [] rfl (by kernel_rfl) ?_
                    refine DW.x rfl rfl (X.loadBA (k := 1) Try.isAgg25 Try.sizeOf25 rfl rfl rfl) (by decide) ?_
                    refine DW.x rfl rfl (X.move rfl) (by decide) ?_
                    refine DW.x rfl rfl (X.move rfl) (by decide) ?_
                    refine DW.x rfl rfl (X.move rfl) (by decide) ?_
                    refine DW.x rfl rfl (X.len Try.runUnderlying26 rfl hm_) (by decide) ?_
                    refine DW.tm rfl rfl rfl (T.call Try.call122 rfl (rest122 _ _ _ hls _ (by omega))) (by decide) fun m26 r27 hle28 hR29 => ?_
                    obtain ⟨v30, hv_, hs31⟩ := hR29
                    rw [← hv_] at hs31
                    clear hv_ v30
                    replace hs2 := hs2.mono hle28
                    replace hs4 := hs4.mono hle28
                    replace hm_ := hm_.mono hle28
                    replace hx11 := hx11.mono hle28
                    replace hx := hx.mono hle28
                    replace hs23 := hs23.mono hle28
                    replace hw := hw.mono hle28
                    replace hls := hls.mono hle28
                    have hl32 := hs31.le
                    refine DW.cond rfl rfl (X.call Try.call121 rfl (together121 _ _ d ⟨_, _, rfl, hs2, hs4⟩ _ _ hm_ _ _ hs31 (by first | assumption | omega | exact okm0 hok | exact rng0 _ | simp) (by first | assumption | omega | exact okm0 hok | exact rng0 _ | simp) (by first | assumption | omega | exact okm0 hok | exact rng0 _ | simp))) (by decide) (fun h33 => ?_) (fun h33 => ?_)
                    · refine DW.nil ?_
                      refine WK.nThen ?_
                      refine WC.condT rfl ?_
                      refine WC.region ?_
                      refine WL.x (X.move rfl) (by decide) ?_
                      refine WL.ta (T.lit0 (α := Int) sl29 rfl) (by decide) (fun v34 => ?_)
                      refine WL.x (X.move rfl) (by decide) ?_
                      refine WL.ta (T.appendI (k := 0) sl29 rfl rfl hls rfl (by first | omega | (simp; omega)) (by first | omega | (simp; omega))) (by decide) (fun v35 => ?_)
                      refine WL.freezeF 0 rfl rfl (by first | (unfold lenB; omega) | (simp [lenB]; omega)) (fun m36 hle37 hs38 => ?_)
                      replace hs2 := hs2.mono hle37
                      replace hs4 := hs4.mono hle37
                      replace hm_ := hm_.mono hle37
                      replace hx11 := hx11.mono hle37
                      replace hx := hx.mono hle37
                      replace hs23 := hs23.mono hle37
                      replace hw := hw.mono hle37
                      replace hls := hls.mono hle37
                      replace hs31 := hs31.mono hle37
                      refine WL.tl (T.lit1 sl52 rfl (one_cells hs38.one) rfl (by decide)) (by decide) fun b39 => ?_
                      refine WL.ta (T.appendN (k := 0) (n' := ((fltL (pairL d m_) m_.length k q) ++ [[] ++ ls]).length) sl52 rfl rfl rfl rfl rfl (one_cons hs38.one one_nil) (by simp) (by first | omega | (simp; omega)) (by first | omega | (simp; omega))) (by decide) (fun v40 => ?_)
                      have hx41 := RdL.snoc (a := [] ++ ls) hw ⟨_, rfl, hs38⟩
                      refine WL.x (X.assign rfl) (by decide) ?_
                      refine WL.nil ?_
                      refine WK.nThen ?_
                      refine WC.seq ?_
                      refine WC.region ?_
                      refine WL.x (X.move rfl) (by decide) ?_
                      refine WL.x (X.move rfl) (by decide) ?_
                      refine WL.x (X.len Try.runUnderlying26 rfl hm_) (by decide) ?_
                      refine WL.tm (T.call Try.call123 rfl (next123 _ (l := ls) hls ↑m_.length (by omega) (by omega) (by first | assumption | omega))) (by decide) (fun m42 v43 hle44 hR_ => ?_)
                      obtain ⟨hs45, hni46⟩ := hR_
                      replace hs2 := hs2.mono hle44
                      replace hs4 := hs4.mono hle44
                      replace hm_ := hm_.mono hle44
                      replace hx11 := hx11.mono hle44
                      replace hx := hx.mono hle44
                      replace hs23 := hs23.mono hle44
                      replace hx41 := hx41.mono hle44
                      replace hls := hls.mono hle44
                      replace hs31 := hs31.mono hle44
                      replace hs38 := hs38.mono hle44
                      refine WL.x (X.assign rfl) (by decide) ?_
                      refine WL.nil ?_
                      refine WK.nThen ?_
                      refine WC.region ?_
                      refine WL.x (X.move rfl) (by decide) ?_
                      refine WL.condb (X.neqNil Try.underlying29 rfl rfl hs45) (by decide) (fun h47 => ?_) (fun h47 => ?_)
                      · refine WL.x (X.assign rfl) (by decide) ?_
                        refine WL.nil ?_
                        refine WK.nBlock ?_
                        refine WK.nThen ?_
                        have he48 : ((fltL (pairL d m_) m_.length k q) ++ [[] ++ ls]) = (fltL (pairL d m_) m_.length k (q + 1)) := (fl_yes (N := (↑m_.length : Int).toNat) (by omega) hq1 hl1 (by assumption))
                        rw [he48]
                        rw [he48] at hx41
                        refine WK.next ((q + 1, true, v43, nextL (↑m_.length : Int).toNat ls, m42, v40, ws ++ [v35])) rfl (.refl _) (.cons rfl (.cons rfl (.cons rfl (.cons rfl (.cons rfl (.cons rfl .nil)))))) ?_ ?_
                        · exact ⟨Mem.le_trans hnn (Mem.le_trans hle28 (Mem.le_trans hle37 hle44)), hx41, hs45, by omega, (by rw [← nx_more (by omega) hne1 hq1 hl1 hni46]; first | rw [(by assumption : (!nilSl v43) = true)] | rw [(by assumption : (!nilSl v43) = false)]), fun h_ => nx_val (by omega) hne1 hq1 hl1 h_⟩
                        · (dsimp only; omega)
                      · refine WL.x (X.assign rfl) (by decide) ?_
                        refine WL.nil ?_
                        refine WK.nBlock ?_
                        refine WK.nThen ?_
                        have he49 : ((fltL (pairL d m_) m_.length k q) ++ [[] ++ ls]) = (fltL (pairL d m_) m_.length k (q + 1)) := (fl_yes (N := (↑m_.length : Int).toNat) (by omega) hq1 hl1 (by assumption))
                        rw [he49]
                        rw [he49] at hx41
                        refine WK.next ((q + 1, false, v43, nextL (↑m_.length : Int).toNat ls, m42, v40, ws ++ [v35])) rfl (.refl _) (.cons rfl (.cons rfl (.cons rfl (.cons rfl (.cons rfl (.cons rfl .nil)))))) ?_ ?_
                        · exact ⟨Mem.le_trans hnn (Mem.le_trans hle28 (Mem.le_trans hle37 hle44)), hx41, hs45, by omega, (by rw [← nx_more (by omega) hne1 hq1 hl1 hni46]; first | rw [(by assumption : (!nilSl v43) = true)] | rw [(by assumption : (!nilSl v43) = false)]), fun h_ => nx_val (by omega) hne1 hq1 hl1 h_⟩
                        · (dsimp only; omega)
                    · refine DW.nil ?_
                      refine WK.nThen ?_
                      refine WC.condF rfl ?_
                      refine WC.skip ?_
                      refine WK.nThen ?_
                      refine WC.seq ?_
                      refine WC.region ?_
                      refine WL.x (X.move rfl) (by decide) ?_
                      refine WL.x (X.move rfl) (by decide) ?_
                      refine WL.x (X.len Try.runUnderlying26 rfl hm_) (by decide) ?_
                      refine WL.tm (T.call Try.call123 rfl (next123 _ (l := ls) hls ↑m_.length (by omega) (by omega) (by first | assumption | omega))) (by decide) (fun m50 v51 hle52 hR_ => ?_)
                      obtain ⟨hs53, hni54⟩ := hR_
                      replace hs2 := hs2.mono hle52
                      replace hs4 := hs4.mono hle52
                      replace hm_ := hm_.mono hle52
                      replace hx11 := hx11.mono hle52
                      replace hx := hx.mono hle52
                      replace hs23 := hs23.mono hle52
                      replace hw := hw.mono hle52
                      replace hls := hls.mono hle52
                      replace hs31 := hs31.mono hle52
                      refine WL.x (X.assign rfl) (by decide) ?_
                      refine WL.nil ?_
                      refine WK.nThen ?_
                      refine WC.region ?_
                      refine WL.x (X.move rfl) (by decide) ?_
                      refine WL.condb (X.neqNil Try.underlying29 rfl rfl hs53) (by decide) (fun h55 => ?_) (fun h55 => ?_)
                      · refine WL.x (X.assign rfl) (by decide) ?_
                        refine WL.nil ?_
                        refine WK.nBlock ?_
                        refine WK.nThen ?_
                        have he56 : (fltL (pairL d m_) m_.length k q) = (fltL (pairL d m_) m_.length k (q + 1)) := (fl_no (N := (↑m_.length : Int).toNat) (by omega) hq1 hl1 (by assumption))
                        rw [he56]
                        rw [he56] at hw
                        refine WK.next ((q + 1, true, v51, nextL (↑m_.length : Int).toNat ls, m50, vw, ws)) rfl (.refl _) (.cons rfl (.cons rfl (.cons rfl (.cons rfl (.cons rfl (.cons rfl .nil)))))) ?_ ?_
                        · exact ⟨Mem.le_trans hnn (Mem.le_trans hle28 hle52), hw, hs53, by omega, (by rw [← nx_more (by omega) hne1 hq1 hl1 hni54]; first | rw [(by assumption : (!nilSl v51) = true)] | rw [(by assumption : (!nilSl v51) = false)]), fun h_ => nx_val (by omega) hne1 hq1 hl1 h_⟩
                        · (dsimp only; omega)
                      · refine WL.x (X.assign rfl) (by decide) ?_
                        refine WL.nil ?_
                        refine WK.nBlock ?_
                        refine WK.nThen ?_
                        have he57 : (fltL (pairL d m_) m_.length k q) = (fltL (pairL d m_) m_.length k (q + 1)) := (fl_no (N := (↑m_.length : Int).toNat) (by omega) hq1 hl1 (by assumption))
                        rw [he57]
                        rw [he57] at hw
                        refine WK.next ((q + 1, false, v51, nextL (↑m_.length : Int).toNat ls, m50, vw, ws)) rfl (.refl _) (.cons rfl (.cons rfl (.cons rfl (.cons rfl (.cons rfl (.cons rfl .nil)))))) ?_ ?_
                        · exact ⟨Mem.le_trans hnn (Mem.le_trans hle28 hle52), hw, hs53, by omega, (by rw [← nx_more (by omega) hne1 hq1 hl1 hni54]; first | rw [(by assumption : (!nilSl v51) = true)] | rw [(by assumption : (!nilSl v51) = false)]), fun h_ => nx_val (by omega) hne1 hq1 hl1 h_⟩
                        · (dsimp only; omega)
                  · refine WC.exit ?_
                    refine WK.eThen ?_
                    refine WK.eThen ?_
                    refine WK.eHit ?_
                    refine WK.nBlock ?_
                    refine WK.nThen ?_
                    refine WC.region ?_
                    refine WL.x (X.move rfl) (by decide) ?_
                    refine WL.x (X.add rfl rfl (by omega) (by omega)) (by decide) ?_
                    refine WL.x (X.assign rfl) (by decide) ?_
                    refine WL.nil ?_
                    refine WK.nThen ?_
                    have he58 : (fltL (pairL d m_) m_.length k q) = (drpS (pairL d m_) m_.length (k + 1)) := (fl_end (by have hmf : ¬ q < (setsF m_.length k [] 0).length := (fun h_ => by have := hmo.2 h_; simp_all); omega))
                    rw [he58]
                    rw [he58] at hw
                    refine WK.next ((k + 1, nn, vw, ws)) rfl (.refl _) (.cons rfl (.cons rfl (.cons rfl (.cons rfl .nil)))) ?_ ?_
                    · exact ⟨Mem.le_trans hmm (Mem.le_trans hle22 hnn), hw, by omega, hne.2.1⟩
                    · (dsimp only; omega)
          · refine WL.nil ?_
            refine WK.nThen ?_
            refine WC.condF rfl ?_
            refine WC.exit ?_
            refine WK.eThen ?_
            refine WK.eThen ?_
            refine WK.eHit ?_
            refine WK.nThen ?_
            refine WC.seq ?_
            have hde := drp_end hk hk2 (by omega)
            have hdl := drpS_len (pairL d m_) (n := m_.length) (by omega) k
            refine WC.region ?_
            refine WL.x (X.move rfl) (by decide) ?_
            refine WL.x (X.assign rfl) (by decide) ?_
            refine WL.x (X.assign rfl) (by decide) ?_
            refine WL.nil ?_
            refine WK.nThen ?_
            refine WC.ret ?_
            refine WK.freezeL 0 rfl rfl hx (by first | (unfold lenB; omega) | (simp [lenB]; omega)) (fun m59 hle60 hs61 => ?_)
            replace hs2 := hs2.mono hle60
            replace hs4 := hs4.mono hle60
            replace hm_ := hm_.mono hle60
            replace hx11 := hx11.mono hle60
            replace hx := hx.mono hle60
            refine WK.ret2 rfl rfl rfl (fun w' hw' => Ret.mem hw' ?_)
            first | (exfalso; omega) | exact ⟨_, tup2 rfl (int_eq (by rw [drpR_bad (by omega)])), by rw [drpR_bad (by omega)]; exact hs61⟩ | exact ⟨_, tup2 rfl (int_eq (by rw [drpR_big (by omega) (by omega)])), by rw [drpR_big (by omega) (by omega)]; exact hs61⟩ | exact ⟨_, tup2 rfl (int_eq (by rw [drpR_time (by omega) (by omega) (by assumption)])), by rw [drpR_time (by omega) (by omega) (by assumption)]; exact hs61⟩ | exact ⟨_, tup2 rfl (int_eq (by rw [drpR_ok (by omega) (by omega) hod, ← hde])), by rw [drpR_ok (by omega) (by omega) hod, ← hde]; exact hs61⟩
      · refine WL.x (X.not rfl) (by decide) ?_
        refine WL.nil ?_
        refine WK.nThen ?_
        refine WC.condT rfl ?_
        refine WC.seq ?_
        refine WC.region ?_
        refine WL.x (X.assign rfl) (by decide) ?_
        refine WL.x (X.assign rfl) (by decide) ?_
        refine WL.nil ?_
        refine WK.nThen ?_
        refine WC.ret ?_
        refine WK.rThen ?_
        refine WK.ret2 rfl rfl rfl (fun w' hw' => Ret.mem hw' ?_)
        first | (exfalso; omega) | exact ⟨_, tup2 rfl (int_eq (by rw [drpR_bad (by omega)])), by rw [drpR_bad (by omega)]; exact .nil⟩ | exact ⟨_, tup2 rfl (int_eq (by rw [drpR_big (by omega) (by omega)])), by rw [drpR_big (by omega) (by omega)]; exact .nil⟩ | exact ⟨_, tup2 rfl (int_eq (by rw [drpR_time (by omega) (by omega) (by assumption)])), by rw [drpR_time (by omega) (by omega) (by assumption)]; exact .nil⟩ | exact ⟨_, tup2 rfl (int_eq (by rw [drpR_ok (by omega) (by omega) hod, ← hde])), by rw [drpR_ok (by omega) (by omega) hod, ← hde]; exact .nil⟩

end Go.Proofs.C2
