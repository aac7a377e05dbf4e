import Derived.Test.YtooomcigmleneaaGreatKxP
import Derived.Laws.CopyRow
/- Kx, part Q: what is owned lent to calls that only read; copies within own slices; unsigned numbers. -/
namespace Go.Kx
section
variable {P : Program} {B : Base} {m : Mem} {H : List Ent} {σ : Sig} {ty : TypeId}

/-! ### lending -/
theorem St.leAll {w : World} (hw : St B m H w) : m.le (Mem.all w) := hw.sub
theorem St.rowSl {α : Type} [Enc α] {w : World} (hw : St B m H w) {k : Nat} {v : Value} {e : TypeId} {xs : List Value} {L : List α} (hH : fetch H k = some (row v e (Enc.sz α) L.length xs)) (hx : RdL m xs L) (hl : L.length ≤ lenB) : Sl (Mem.all w) v L := by
  have hr : (row v e (Enc.sz α) L.length xs).holds w := fetch_holds hw hH
  have h2 := hw.leAll
  rcases hr.2 with ⟨rfl, h0⟩ | ⟨g, cap, cur, rfl, _, hg, hnc, hcm, hcs, htake⟩
  · have : L = [] := List.eq_nil_of_length_eq_zero h0
    subst this; exact .nil
  · refine .some _ _ _ (fun _ => rfl) hnc hl hcm ?_
    intro i x hix
    obtain ⟨vs, h3, h4⟩ := hx.2 i x hix
    refine ⟨vs, Enc.mono h2 h3, rfl, cur, e, (0, 0), hg, ?_⟩
    intro j u hu
    have h5 := h4 j u hu
    rw [← htake, List.getElem?_take] at h5
    split at h5
    · simpa [Nat.add_assoc] using h5
    · cases h5
theorem St.rowFSl {α : Type} [Flat α] [Enc α] [FlatEnc α] {w : World} (hw : St B m H w) {k : Nat} {v : Value} {e : TypeId} {L : List α} (hH : fetch H k = some (rowF v e L)) (hl : L.length ≤ lenB) : Sl (Mem.all w) v L :=
  hw.rowSl (by rw [FlatEnc.sz]; exact hH) (RdL.flat m L) hl
theorem St.lent {m' : Mem} {Es : List Ent} {w w' : World} (hw : St B m H w) (h' : St ⟨w, [], Mem.all w⟩ m' Es w') : St B m (Es ++ H) w' := by
  have he : Ext w w' := ⟨h'.os, h'.tape, h'.output, h'.size, fun b hb => h'.base b hb (by simp)⟩
  have h2 := hw.ext he
  have hEs : ∀ b ∈ idsOf Es, w.heap.size ≤ b := fun b hb => by
    rcases h'.ids b hb with h3 | h3
    · exact absurd h3 (List.not_mem_nil)
    · exact h3
  refine { h2 with own := ?_, ids := ?_, avoid := ?_, nodup := ?_ }
  · intro e hm
    rcases List.mem_append.1 hm with h3 | h3
    · exact h'.own e h3
    · exact h2.own e h3
  · intro b hb
    rw [idsOf_append] at hb
    rcases List.mem_append.1 hb with h3 | h3
    · exact .inr (Nat.le_trans hw.size (hEs b h3))
    · exact hw.ids b h3
  · intro b hb
    rw [idsOf_append] at hb
    rcases List.mem_append.1 hb with h3 | h3
    · cases hm : m b with
      | none => rfl
      | some o => exact absurd (hw.sub.lt hm) (Nat.not_lt.2 (hEs b h3))
    · exact hw.avoid b h3
  · rw [idsOf_append]
    refine List.nodup_append.2 ⟨h'.nodup, hw.nodup, ?_⟩
    intro b hb c hc hbc
    subst hbc
    exact absurd (hw.lt hc) (Nat.not_lt.2 (hEs b hb))
theorem X.callL {f : FuncId} {l : List Operand} {ts : Array TypeId} {vs : List Value} {v : Value} (hf : Enters P f) (hl : evs σ l = some vs) (hc : ∀ w, St B m H w → Exact P f vs.toArray (Mem.all w) v) :
    OpX P B m H σ (.call (Call.mk (.value (.func f)) l.toArray ts)) ty v :=
  ⟨trivial, defdc rfl hl, fun w hw o a next Q ho ht k => by
    rw [call_run hf hl w o ho]
    refine (hc w hw w (fun _ _ h => h)).mono fun e w' hr => ?_
    have hx := Ret.ext hr rfl
    obtain ⟨u, m', H', rfl, hs, rfl⟩ := hr
    exact k w' hx⟩
theorem T.callOL {f : FuncId} {l : List Operand} {ts : Array TypeId} {vs : List Value} {R : List Ent → Value → Prop} (hf : Enters P f) (hl : evs σ l = some vs) (hc : ∀ B w, St B m H w → Own P f vs.toArray (Mem.all w) (fun _ Es v => R Es v)) :
    OpTo P B m H σ (.call (Call.mk (.value (.func f)) l.toArray ts)) ty (fun v m' H' => m.le m' ∧ ∃ Es, R Es v ∧ H' = Es ++ H) :=
  ⟨trivial, defdc rfl hl, fun M B w hw o a next Q ho ht kk => upon_fen M <| by
    rw [call_run hf hl w o ho]
    have hin : St ⟨w, idsOf [], Mem.all w⟩ (Mem.all w) [] w := by
      refine ⟨rfl, rfl, rfl, Nat.le_refl _, fun _ _ _ => rfl, fun _ _ h => h, Mem.le_refl _, fun _ _ => rfl, by simp, by simp [idsOf], by simp [idsOf], by simp [idsOf]⟩
    refine (hc B w hw w hin).mono fun e' w' hr => ?_
    obtain ⟨u, m', H', rfl, hs, hR⟩ := hr
    exact kk u m _ w' ⟨Mem.le_refl _, H', hR, rfl⟩ (hw.lent hs)⟩

/-! ### unsigned numbers -/
theorem X.addU {x y : Operand} {t t' : TypeId} {a b : Int} (hx : ev σ x = some (.int .u64 a)) (hy : ev σ y = some (.int .u64 b)) (h0 : 0 ≤ a + b) (h1 : a + b ≤ 9223372036854775807) :
    OpX P B m H σ (.binOp .add t x y t') ty (.int .u64 (a + b)) :=
  .ofRun trivial (defd2 rfl hx hy) fun w _ o ho _ => by simp [execOp, ho, evd_eq hx, evd_eq hy, eqGuard, binOp, Op.intArith, wrap_u64 h0 h1]
theorem X.mulU {x y : Operand} {t t' : TypeId} {a b : Int} (hx : ev σ x = some (.int .u64 a)) (hy : ev σ y = some (.int .u64 b)) (h0 : 0 ≤ a * b) (h1 : a * b ≤ 9223372036854775807) :
    OpX P B m H σ (.binOp .mul t x y t') ty (.int .u64 (a * b)) :=
  .ofRun trivial (defd2 rfl hx hy) fun w _ o ho _ => by simp [execOp, ho, evd_eq hx, evd_eq hy, eqGuard, binOp, Op.intArith, wrap_u64 h0 h1]
theorem X.andU {x y : Operand} {t t' : TypeId} {a : Int} (hx : ev σ x = some (.int .u64 a)) (hy : ev σ y = some (.int .u64 4294967295)) (h0 : 0 ≤ a) (h1 : a ≤ 4294967295) :
    OpX P B m H σ (.binOp .and t x y t') ty (.int .u64 a) :=
  .ofRun trivial (defd2 rfl hx hy) fun w _ o ho _ => by
    have hb : (BitVec.ofInt 64 a &&& BitVec.ofInt 64 4294967295).toNat = a.toNat := by
      obtain ⟨n, rfl⟩ : ∃ n : Nat, a = n := ⟨a.toNat, by omega⟩
      have e1 : BitVec.ofInt 64 (n : Int) = BitVec.ofNat 64 n := by simp
      have e2 : BitVec.ofInt 64 4294967295 = BitVec.ofNat 64 4294967295 := rfl
      rw [e1, e2, BitVec.toNat_and, BitVec.toNat_ofNat, BitVec.toNat_ofNat]
      rw [Nat.mod_eq_of_lt (by omega), Nat.mod_eq_of_lt (by omega)]
      rw [show (4294967295 : Nat) = 2 ^ 32 - 1 by rfl, Nat.and_two_pow_sub_one_eq_mod, Nat.mod_eq_of_lt (by omega)]
      simp
    have hw2 : IntKind.u64.wrap (a.toNat : Int) = a := by rw [wrap_u64 (by omega) (by omega)]; omega
    have hb2 : (BitVec.ofInt IntKind.u64.bits a &&& BitVec.ofInt IntKind.u64.bits 4294967295).toNat = a.toNat := hb
    simp only [execOp, ho, evd_eq hx, evd_eq hy, eqGuard, binOp, Op.intBits, hb2, hw2]
    simp
theorem X.shr32 {x y : Operand} {t t' : TypeId} {a : Int} {k : IntKind} (hx : ev σ x = some (.int .u64 a)) (hy : ev σ y = some (.int k 32)) (h0 : 0 ≤ a) (h1 : a ≤ 4294967295) :
    OpX P B m H σ (.binOp .shr t x y t') ty (.int .u64 0) :=
  .ofRun trivial (defd2 rfl hx hy) fun w _ o ho _ => by
    have hd : a.fdiv 4294967296 = 0 := by rw [Int.fdiv_eq_ediv_of_nonneg a (show (0 : Int) ≤ 4294967296 by decide)]; omega
    simp [execOp, ho, evd_eq hx, evd_eq hy, eqGuard, binOp, Op.shift, IntKind.bits, hd]

/-! ### parts of own slices, and copies -/
theorem X.slLo {x y : Operand} {t e : TypeId} {g n c sz : Nat} {q : Int} (k : Nat) (ht : P.underlying t = some (.slice e)) (hz : ∀ w, (sizeOf e).run P w = .ok sz w)
    (hx : ev σ x = some (.slice (some ⟨g, 0, none⟩) n c)) (hy : ev σ y = some (.int .i64 q)) (hq : q = k) (h1 : k < n) (h2 : n ≤ c) :
    OpX P B m H σ (.slice t x (some y) none none) ty (.slice (some ⟨g, k * sz, none⟩) (n - k) (c - k)) := by
  subst hq
  have hadd : ∀ j : Nat, (⟨g, 0, none⟩ : Addr).add j = ⟨g, j, none⟩ := fun j => by rw [Addr.add_plain rfl, Nat.zero_add]
  have he : P.elem t = e := by simp [Program.elem, ht]
  have ht' : P.underlying t = some (.slice (P.elem t)) := by rw [he]; exact ht
  refine .ofRun trivial (defdL (l := [x, y]) rfl (by simp only [List.mem_cons, forall_eq_or_imp, List.not_mem_nil, false_imp_iff, implies_true, and_true]; exact ⟨⟨_, hx⟩, ⟨_, hy⟩⟩)) fun w _ o ho _ => ?_
  have hr := run_slice_l (P := P) w t (some ⟨g, 0, none⟩) n c ht' .i64 k (by omega) (by omega)
  rw [← run_sliceAt_slice (P := P) w t _ _ _ _ ht', he, hz] at hr
  simp only [Result.andThen_ok, _root_.Go.sliced, Int.toNat_natCast, if_neg (show ¬ c = k by omega), Option.map_some, hadd] at hr
  simp [execOp, ho, evd_eq hx, evd_eq hy, hr]
theorem X.slHi {x y : Operand} {t e : TypeId} {g n c sz : Nat} {q : Int} (k : Nat) (ht : P.underlying t = some (.slice e)) (hz : ∀ w, (sizeOf e).run P w = .ok sz w)
    (hx : ev σ x = some (.slice (some ⟨g, 0, none⟩) n c)) (hy : ev σ y = some (.int .i64 q)) (hq : q = k) (h1 : k < n) (h2 : n ≤ c) :
    OpX P B m H σ (.slice t x none (some y) none) ty (.slice (some ⟨g, 0, none⟩) k c) := by
  subst hq
  have hadd : ∀ j : Nat, (⟨g, 0, none⟩ : Addr).add j = ⟨g, j, none⟩ := fun j => by rw [Addr.add_plain rfl, Nat.zero_add]
  have he : P.elem t = e := by simp [Program.elem, ht]
  have ht' : P.underlying t = some (.slice (P.elem t)) := by rw [he]; exact ht
  refine .ofRun trivial (defdL (l := [x, y]) rfl (by simp only [List.mem_cons, forall_eq_or_imp, List.not_mem_nil, false_imp_iff, implies_true, and_true]; exact ⟨⟨_, hx⟩, ⟨_, hy⟩⟩)) fun w _ o ho _ => ?_
  have hr := run_slice_h (P := P) w t (some ⟨g, 0, none⟩) n c ht' .i64 k (by omega) (by omega)
  rw [← run_sliceAt_slice (P := P) w t _ _ _ _ ht', he, hz] at hr
  simp only [Result.andThen_ok, _root_.Go.sliced, Int.toNat_natCast, if_neg (show ¬ c = 0 by omega), Option.map_some, hadd, Nat.zero_mul, Nat.sub_zero] at hr
  simp [execOp, ho, evd_eq hx, evd_eq hy, hr]
theorem T.copyR {s x : Operand} {t t' e e' : TypeId} {g off dl dc sl sc n0 c0 sz n k : Nat} {a : Addr} {xs : List Value} (cs : List Value) (ht : P.underlying t = some (.slice e)) (hz : ∀ w, (sizeOf e).run P w = .ok sz w)
    (hd : ev σ s = some (.slice (some ⟨g, off, none⟩) dl dc)) (hx : ev σ x = some (.slice (some a) sl sc)) (hH : fetch H k = some (row (.slice (some ⟨g, 0, none⟩) n0 c0) e' sz n xs))
    (hn : cs.length = min sl dl * sz) (hsrc : ∀ B w, St B m H w → ∀ j v, cs[j]? = some v → w.cell? (a.add j) = some v) (hfit : off + cs.length ≤ xs.length) (h0 : 0 < cs.length) (h1 : ∀ v ∈ cs, v.oneCell' = true) :
    OpTo P B m H σ (.call (Call.mk (.builtin .copy) #[s, x] #[t, t'])) ty (fun v m' H' => v = .int .i64 ((min sl dl : Nat) : Int) ∧ m' = m ∧ H' = upd H k (row (.slice (some ⟨g, 0, none⟩) n0 c0) e' sz n (xs.take off ++ cs ++ xs.drop (off + cs.length)))) :=
  ⟨trivial, defd2 (by simp [Op.operands, Call.operands]) hd hx, fun M B w hw o ac next Q ho hty kk => upon_fen M <| by
    have hl := run_loadCells_list (P := P) w a cs (hsrc B w hw)
    rw [hn] at hl
    obtain ⟨w', hst, hs'⟩ := store_rowL (P := P) hw hH h0 hfit h1
    have hst' : (storeCells ⟨g, off, none⟩ cs).run P w = .ok () w' := hst
    have hr : (Builtin.copy_ #[t, t'] o.type #[.slice (some ⟨g, off, none⟩) dl dc, .slice (some a) sl sc]).run P w = .ok (goInt ((min sl dl : Nat) : Int)) w' := by
      simp [Builtin.copy_, run_underlying ht, Builtin.lenOf, Builtin.firstCells, hz, hl, hst']
    have := kk (.int .i64 ((min sl dl : Nat) : Int)) m _ w' ⟨rfl, rfl, rfl⟩ hs'
    simp only [execOp, ho]
    simp [resolve, invoke, builtin, evd_eq hd, evd_eq hx, hr]
    exact this⟩
theorem flat_dropN {α : Type} [Flat α] {L : List α} {k : Nat} (h : k ≤ L.length) : (flat L).drop (k * Flat.n α) = flat (L.drop k) := by
  have h1 : flat L = flat (L.take k) ++ flat (L.drop k) := by rw [← flat_append, List.take_append_drop]
  have h2 : (flat (L.take k)).length = k * Flat.n α := by rw [flat_length, List.length_take, Nat.min_eq_left h]
  rw [h1, ← h2, List.drop_left]
theorem flat_takeN {α : Type} [Flat α] {L : List α} {k : Nat} (h : k ≤ L.length) : (flat L).take (k * Flat.n α) = flat (L.take k) := by
  have h1 : flat L = flat (L.take k) ++ flat (L.drop k) := by rw [← flat_append, List.take_append_drop]
  have h2 : (flat (L.take k)).length = k * Flat.n α := by rw [flat_length, List.length_take, Nat.min_eq_left h]
  rw [h1, ← h2, List.take_left]
theorem flat_oneC {α : Type} [Flat α] (L : List α) : ∀ v ∈ flat L, v.oneCell' = true := by
  intro v hv
  unfold flat at hv
  rw [List.mem_flatMap] at hv
  obtain ⟨x, _, hx⟩ := hv
  exact Flat.one x v hx
theorem T.copyM {α : Type} [Flat α] [Enc α] [FlatEnc α] (hu : ∀ (m : Mem) (vs : List Value) (x : α), Enc.rd m vs x → vs = Flat.enc x) {s x : Operand} {t t' e e' : TypeId} {g n c k : Nat} {v : Value} {L C : List α} (ht : P.underlying t = some (.slice e)) (hz : ∀ w, (sizeOf e).run P w = .ok (Flat.n α) w)
    (hd : ev σ s = some (.slice (some ⟨g, 0, none⟩) n c)) (hx : ev σ x = some v) (hs : Sl m v C) (hH : fetch H k = some (rowF (.slice (some ⟨g, 0, none⟩) n c) e' L)) (hL : L.length = n) (h0 : 0 < C.length) (hC : C.length ≤ n) :
    OpTo P B m H σ (.call (Call.mk (.builtin .copy) #[s, x] #[t, t'])) ty (fun v' m' H' => v' = .int .i64 (C.length : Int) ∧ m' = m ∧ H' = upd H k (rowF (.slice (some ⟨g, 0, none⟩) n c) e' (C ++ L.drop C.length))) := by
  have hp : 0 < Flat.n α := Flat.pos
  obtain ⟨news, g1, g2, g3⟩ := hs.src
  have hnews : news = flat C := rd_flat (hu _) g1
  subst hnews
  rcases g3 with ⟨hv, rfl⟩ | ⟨p, cap, hv, _, g4⟩
  · simp at h0
  · have hcl : (flat C).length = C.length * Flat.n α := flat_length C
    have := T.copyR (P := P) (B := B) (m := m) (H := H) (σ := σ) (ty := ty) (t' := t') (flat C) ht hz hd (hx.trans (congrArg some hv)) hH (by rw [hcl, Nat.min_eq_left hC]) (fun B w hw j u hj => by have := g4 w hw.sub j u hj; simpa using this)
      (by rw [hcl, flat_length, hL, Nat.zero_add]; exact Nat.mul_le_mul_right _ hC) (by rw [hcl]; exact Nat.mul_pos h0 hp) (flat_oneC C)
    rw [Nat.min_eq_left hC] at this
    refine ⟨this.sel, this.defd, fun M B w hw o ac next Q ho ht k' => this.run M B w hw o ac next Q ho ht fun v' m' H' w' h hst => k' v' m' H' w' ⟨h.1, h.2.1, ?_⟩ hst⟩
    rw [h.2.2, hcl, Nat.zero_add, flat_dropN (by omega), List.take_zero, List.nil_append, ← flat_append]
    have hl2 : (C ++ L.drop C.length).length = L.length := by simp; omega
    simp only [rowF, hl2]
theorem T.copyS {α : Type} [Flat α] {s x : Operand} {t t' e e' : TypeId} {g n c k a : Nat} {L : List α} (ht : P.underlying t = some (.slice e)) (hz : ∀ w, (sizeOf e).run P w = .ok (Flat.n α) w)
    (hd : ev σ s = some (.slice (some ⟨g, a * Flat.n α, none⟩) (n - a) (c - a))) (hx : ev σ x = some (.slice (some ⟨g, 0, none⟩) a c)) (hH : fetch H k = some (rowF (.slice (some ⟨g, 0, none⟩) n c) e' L)) (hL : L.length = n) (h0 : 0 < a) (hC : a < n) :
    OpTo P B m H σ (.call (Call.mk (.builtin .copy) #[s, x] #[t, t'])) ty (fun v' m' H' => v' = .int .i64 ((min a (n - a) : Nat) : Int) ∧ m' = m ∧ H' = upd H k (rowF (.slice (some ⟨g, 0, none⟩) n c) e' (L.take a ++ L.take (min a (n - a)) ++ L.drop (a + min a (n - a))))) := by
  have hp : 0 < Flat.n α := Flat.pos
  obtain ⟨q, hq⟩ : ∃ q, q = min a (n - a) := ⟨_, rfl⟩
  rw [← hq]
  have hcl : (flat (L.take q)).length = q * Flat.n α := by rw [flat_length, List.length_take, Nat.min_eq_left (by omega)]
  have hfit : (a + q) * Flat.n α ≤ n * Flat.n α := Nat.mul_le_mul_right _ (by omega)
  rw [Nat.add_mul] at hfit
  have := T.copyR (P := P) (B := B) (m := m) (H := H) (σ := σ) (ty := ty) (t' := t') (flat (L.take q)) ht hz hd hx hH (by rw [hcl, hq]) (fun B w hw j u hj => by
      have hj2 : (flat L)[j]? = some u := by
        rw [← flat_takeN (by omega), List.getElem?_take] at hj
        split at hj
        · exact hj
        · cases hj
      have h3 := (row_cell (fetch_holds hw hH) hj2).1
      have hadd : (⟨g, 0, none⟩ : Addr).add j = rp (.slice (some ⟨g, 0, none⟩) n c) j := by rw [Addr.add_plain rfl, Nat.zero_add]; rfl
      rw [hadd]; exact h3)
    (by rw [hcl, flat_length, hL]; exact hfit) (by rw [hcl]; exact Nat.mul_pos (by omega) hp) (flat_oneC _)
  rw [← hq] at this
  refine ⟨this.sel, this.defd, fun M B w hw o ac next Q ho ht k' => this.run M B w hw o ac next Q ho ht fun v' m' H' w' h hst => k' v' m' H' w' ⟨h.1, h.2.1, ?_⟩ hst⟩
  rw [h.2.2, hcl, ← Nat.add_mul, flat_dropN (by omega), flat_takeN (by omega), ← flat_append, ← flat_append]
  have hl2 : (L.take a ++ L.take q ++ L.drop (a + q)).length = L.length := by simp; omega
  simp only [rowF, hl2]
theorem WK.form {N : Nat} {K : Act → World → Prop} {k : Nat} {v : Value} {e : TypeId} {sz n : Nat} {xs : List Value} (hH : fetch H k = some (row v e sz n xs)) (hn : 0 < n) (kk : ∀ g c, v = .slice (some ⟨g, 0, none⟩) n c → n ≤ c → WK N B m H σ K) : WK N B m H σ K := fun Ds w hw a ha => by
  have hh : (row v e sz n xs).holds w := fetch_holds hw (fetchR hH)
  obtain ⟨g, cap, cur, h1, _, h3, _⟩ := row_block hh hn
  exact kk g cap h1 h3 Ds w hw a ha
end
section
variable {M : Option Nat} {P : Program} {N : Nat} {ops : Array Oper} {Q : Exit → Act → World → Prop} {B : Base} {m : Mem} {H : List Ent} {σ : Sig} {rest : List Oper}
  {d : Nat} {op : Op} {ty : TypeId} {pos : String} {after : Array Edge} {i : Nat} {must : Bool} {π : Plan} {piv non : List Nat} {KK : Mem → List Ent → Sig → Prop} {g : Option (Nat × Bool)}
theorem WL.tv {V : Value} {H1 : List Ent} (h : OpTo P B m H σ op ty (fun v m' H' => v = V ∧ m' = m ∧ H' = H1)) (hd : d < N) (k : WL M P N ops Q B m H1 ((d, V) :: σ) rest) : WL M P N ops Q B m H σ (⟨some d, op, ty, pos, after, none⟩ :: rest) :=
  WL.to h hd fun v m' H' ⟨h0, h1, h2⟩ => by subst h0; subst h1; subst h2; exact k
theorem DW.tv {V : Value} {H1 : List Ent} (ho : ops[i]? = some ⟨some d, op, ty, pos, after, g⟩) (hp : piv.contains i = true) (hn : non.contains i = true) (hg : gOk ops σ ⟨some d, op, ty, pos, after, g⟩ = some true)
    (h : OpTo P B m H σ op ty (fun v m' H' => v = V ∧ m' = m ∧ H' = H1)) (hd : d < N) (k : DW P B N ops piv non KK false π m H1 ((d, V) :: σ)) : DW P B N ops piv non KK must (.cons i π) m H σ :=
  DW.to ho hp hg h hd (fun h' => by rw [hn] at h'; cases h') (fun _ _ _ h => by rw [h.2.1]; exact Mem.le_refl _) fun v m' H' ⟨h0, h1, h2⟩ => by subst h0; subst h1; subst h2; exact k
theorem WC.rangeFuncA {g : Operand} {ps : List Nat} {assign body : Code} {gf : Nat} {lb : List Value} {n : Nat} {A : Nat → Mem → Array Value → Prop}
    (hg : ev σ g = some (.func (.func gf) #[] lb.toArray)) (eg : Enters P gf) {once : Bool} (hit : Iter P gf lb m once n A)
    {S G : Type} (HS : S → List Ent) (I : Nat → Mem → S → Prop) (Ix : Exit → Nat → Mem → S → Prop) (s0 : S) (hH : HS s0 = H) (h0 : I 0 m s0) (hone : once = true → ∀ i m' s, ¬ I (i + 1) m' s) (hmono : ∀ i m1 m2 s, m1.le m2 → I i m1 s → I i m2 s)
    (hps : ∀ p ∈ ps, p < N) (hA : ∀ i m1 args, A i m1 args → args.size = ps.length)
    (HA : G → List Value → S → List Ent) (σA : G → List Value → Sig)
    (hassign : ∀ l B' i m1 s args (K : Act → World → Prop), args.length = ps.length → A i m1 args.toArray → m.le m1 → (∀ g, WK N B' m1 (HA g args s) (σA g args) K) → WC (some l) P N (Exit.then K (fun _ _ _ => False)) B' m1 (HS s) ((ps.zip args).reverse ++ σ) assign)
    (hbody : ∀ l B' i m1 s args g, args.length = ps.length → i < n → m.le m1 → A i m1 args.toArray → I i m1 s → WC (some l) P N (RPost B' m1 HS (I (i + 1)) (fun e => Ix e (i + 1))) B' m1 (HA g args s) (σA g args) body)
    (hdone : ∀ m' s, m.le m' → I n m' s → WK N B m' (HS s) σ (Q .normal))
    (hret : ∀ i m' s, m.le m' → i ≤ n → Ix .ret i m' s → WK N B m' (HS s) σ (Q .ret))
    (hexit : ∀ id i m' s, m.le m' → i ≤ n → Ix (.exit id) i m' s → WK N B m' (HS s) σ (Q (.exit id))) :
    WC none P N Q B m H σ (.rangeFunc g ps.toArray assign body) := by
  intro Ds w hw a ha
  subst hH
  refine wpIn_rangeFunc ?_
  intro fn hfn
  show ∃ (l : Nat) (mark : List Deferred) (w₁ : World) (d : Deferred) (w₁' : World) (f : FuncId) (args : Array Value) (w₂ : World), (Instr.enterLoop fn a.tmps ps.toArray assign body none).run P w = .ok (l, mark) w₁ ∧ _
  obtain ⟨rec, hrec⟩ : ∃ rec : LoopState → Option Code → Loop, rec = fun st pe => { state := st, pending := pe, fn, tmps := a.tmps, params := ps.toArray, assign, body, defers := w.heap.size } := ⟨_, rfl⟩
  have hen := run_enterLoop_outer (P := P) (w := w) fn a.tmps ps.toArray assign body
  have hst1 := (hw.laid (.deferred (some []))).laid (.loop (rec .ready none))
  rw [World.size_alloc] at hst1
  obtain ⟨W1, hW1⟩ : ∃ W1, (w.alloc (.deferred (some []))).alloc (.loop (rec .ready none)) = W1 := ⟨_, rfl⟩
  rw [hW1] at hst1
  refine ⟨w.heap.size + 1, [mk w.heap.size], W1, { target := .fn (.func gf) lb.toArray, args := #[.func (.yield (w.heap.size + 1)) #[] #[]] }, W1, gf,
    (Value.func (.yield (w.heap.size + 1)) #[] #[] :: lb).toArray, W1, ?_, ?_, ?_, ?_, by simp [fen_depth], ?_⟩
  · rw [hen, ← hW1, hrec]; rfl
  · have := ha.eval hg
    simp only [resolve, this]
    simp [go_sem]
  · intro f' _; exact fen_fn none f'
  · simp only [invoke]
    rw [show (#[Value.func (Fn.yield (w.heap.size + 1)) #[] #[]] ++ lb.toArray : Array Value) = (Value.func (Fn.yield (w.heap.size + 1)) #[] #[] :: lb).toArray by simp]
    exact eg _ _
  · have hll : ∀ (w' : World) (B' : Base) (m' : Mem) (H' : List Ent) (o : Obj), St B' m' (H' ++ [objE (w.heap.size + 1) o]) w' → w'.heap[w.heap.size + 1]? = some o := fun w' B' m' H' o h => h.own (objE (w.heap.size + 1) o) (by simp)
    have hper : ((HS s0 ++ [objE (w.heap.size + 1) (.loop (rec .ready none))]) ++ (objE w.heap.size (.deferred (some [])) :: marks Ds)).Perm
        (objE (w.heap.size + 1) (.loop (rec .ready none)) :: objE w.heap.size (.deferred (some [])) :: (HS s0 ++ marks Ds)) := by
      simp only [List.append_assoc, List.singleton_append]
      refine List.perm_middle.trans ?_
      exact List.Perm.cons _ List.perm_middle
    have hst2 := hst1.perm hper
    refine calls_fen none ?_
    refine (hit (w.heap.size + 1) (S ⊕ (S × Exit)) (fun
        | .inl s => HS s ++ [objE (w.heap.size + 1) (.loop (rec .ready none))]
        | .inr (s, e) => HS s ++ [objE (w.heap.size + 1) (.loop (rec .done (some (codeOf e))))])
      (fun i m' x => match x with
        | .inl s => I i m' s
        | .inr _ => False)
      (fun i m' x => match x with
        | .inl _ => False
        | .inr (s, e) => Ix e i m' s ∧ (e = .ret ∨ ∃ id, e = .exit id)) (.inl s0) (fun ho i m' x => by rcases x with s | x; exact hone ho i m' s; exact fun h => h) (fun i m1 m2 x hm h => by rcases x with s | x; exact hmono i m1 m2 s hm h; exact h) ?_ h0 W1 hst2.part).mono ?_
    · -- one round
      rintro i m1 x args hi hm1 hAi hI B' w' hw'
      rcases x with s | x
      · have hrd := hll _ _ _ _ _ hw'
        have hy := run_yield (P := P) (args := args) hrd (by rw [hrec]; simpa using hA i m1 args hAi)
        rw [hrec] at hy
        refine ⟨fn, _, assign, body, hy, roundIn_of_wpIn trivial ?_⟩
        have hin : St ⟨w', idsOf (HS s), m1⟩ m1 (HS s) w' := hw'.part
        obtain ⟨hsz, hget⟩ := put_all ps args.toList a.tmps σ (fun u v hu => ha.get u v hu) (fun p hp => by rw [ha.size]; exact hps p hp) (by simpa using (hA i m1 args hAi).symm)
        refine hassign (w.heap.size + 1) _ i m1 s args.toList _ (by simpa using hA i m1 args hAi) (by simpa using hAi) hm1 ?_ [] w' (by simpa [marks] using hin) _ ⟨rfl, ?_, ?_⟩
        rotate_left
        · simp only [← Array.foldl_toList]; rw [Array.toList_zip]; rw [hsz, ha.size]
        · intro u v hu
          have := hget u v hu
          simp only [← Array.foldl_toList]; rw [Array.toList_zip]; exact this
        · intro g Ds' w1 hw1 a1 ha1
          have hs1 := hw'.handed hw1
          have hr1 := hll _ _ _ _ _ hs1
          refine ⟨_, run_beginRound hr1 (by rw [hrec]), ?_⟩
          have hs2 := hs1.turn (o' := .loop { rec .ready none with state := .busy }) (R := [])
          have hb := hbody (w.heap.size + 1) _ i m1 s args.toList g (by simpa using hA i m1 args hAi) hi hm1 (by simpa using hAi) hI Ds' _ hs2.part a1 ha1
          refine wpIn_mono hb ?_
          intro e a3 w3 hp
          have fin : ∀ (jump : Option Code) (m' : Mem) (s' : S), St ⟨w1.putObj (w.heap.size + 1) (.loop { rec .ready none with state := .busy }), idsOf (HA g args.toList s ++ marks Ds'), m1⟩ m' (HS s') w3 →
              (Instr.endRound (w.heap.size + 1) jump).run P w3 = .ok (.bool jump.isNone) (w3.putObj (w.heap.size + 1) (.loop (rec (if jump.isNone then .ready else .done) jump))) ∧
              St B' m' (HS s' ++ [objE (w.heap.size + 1) (.loop (rec (if jump.isNone then .ready else .done) jump))]) (w3.putObj (w.heap.size + 1) (.loop (rec (if jump.isNone then .ready else .done) jump))) := by
            intro jump m' s' hs3
            have hs4 := hs2.handed hs3
            have hr4 := hll _ _ _ _ _ hs4
            have he := run_endRound (P := P) jump hr4
            refine ⟨?_, ?_⟩
            · rw [he, hrec]
            · exact hs4.turn (R := [])
          cases e with
          | normal =>
            obtain ⟨m', s', h1, h2, h3⟩ := hp
            obtain ⟨h4, h5⟩ := fin none m' s' h3
            exact ⟨_, _, h4, .inl ⟨rfl, m', _, ⟨h1, .inl s', rfl, h2⟩, h5⟩⟩
          | ret =>
            obtain ⟨m', s', h1, h2, h3⟩ := hp
            obtain ⟨h4, h5⟩ := fin (some .ret) m' s' h3
            exact ⟨_, _, h4, .inr ⟨rfl, m', _, ⟨h1, .inr (s', .ret), rfl, h2, .inl rfl⟩, h5⟩⟩
          | exit id =>
            obtain ⟨m', s', h1, h2, h3⟩ := hp
            obtain ⟨h4, h5⟩ := fin (some (.exit id)) m' s' h3
            exact ⟨_, _, h4, .inr ⟨rfl, m', _, ⟨h1, .inr (s', .exit id), rfl, h2, .inr ⟨id, rfl⟩⟩, h5⟩⟩
          | goto t => exact hp.elim
          | panic ch => exact hp.elim
          | outgrown => exact hp.elim
      · exact hI.elim
    · -- behind the iterator
      rintro e w2 ⟨v, m', Es, rfl, hs, x, rfl, hx⟩
      have hs' := hst2.handed hs
      have fin : ∀ (s : S) (r : Loop) (jump : Option Code), r.state ≠ .busy → r.pending = jump → St B m' ((HS s ++ [objE (w.heap.size + 1) (.loop r)]) ++ (objE w.heap.size (.deferred (some [])) :: marks Ds)) w2 →
          (Instr.endLoop (w.heap.size + 1)).run P w2 = .ok jump (w2.putObj (w.heap.size + 1) (.loop { r with state := .exhausted })) ∧
          St B m' (HS s ++ marks (w.heap.size :: Ds)) (w2.putObj (w.heap.size + 1) (.loop { r with state := .exhausted })) := by
        intro s r jump hr hj hs3
        have hr3 : w2.heap[w.heap.size + 1]? = some (.loop r) := hs3.own (objE (w.heap.size + 1) (.loop r)) (by simp)
        refine ⟨by rw [← hj]; exact run_endLoop hr3 hr, ?_⟩
        have h4 : St B m' (HS s ++ objE (w.heap.size + 1) (.loop r) :: (objE w.heap.size (.deferred (some [])) :: marks Ds)) w2 := by simpa using hs3
        have h5 := h4.turn (o' := .loop { r with state := .exhausted })
        exact h5.weaken (List.Sublist.append_left (List.sublist_cons_self _ _) _)
      have hen' : Env N (w.heap.size :: Ds) σ { a with defers := [mk w.heap.size] ++ a.defers } := ⟨by simp [ha.defers], ha.size, ha.get⟩
      rcases x with s | ⟨s, e⟩
      · rcases hx with hI | ⟨i, _, hF⟩
        · obtain ⟨h1, h2⟩ := fin s (rec .ready none) none (by rw [hrec]; simp) (by rw [hrec]) hs'
          refine ⟨_, _, h1, ?_⟩
          exact hdone m' s hs.le hI _ _ h2 _ hen'
        · exact hF.elim
      · rcases hx with hF | ⟨i, hi, hIx, he⟩
        · exact hF.elim
        · obtain ⟨h1, h2⟩ := fin s (rec .done (some (codeOf e))) (some (codeOf e)) (by rw [hrec]; simp) (by rw [hrec]) hs'
          refine ⟨_, _, h1, ?_⟩
          rcases he with rfl | ⟨id, rfl⟩
          · exact wpIn_ret (hret i m' s hs.le hi hIx _ _ h2 _ hen')
          · exact wpIn_exit (hexit id i m' s hs.le hi hIx _ _ h2 _ hen')
end
end Go.Kx
