import Derived.Test.YtooomcigmleneaaGreatKxI
import Derived.Deep.Upon
import Derived.Laws.StructEq
import Derived.Laws.Slices
/- Kx, part J: arrays, cuts of slices, appends of whole slices, equal structs, order of own entries. -/
namespace Go.Kx

section
variable {M : Option Nat} {P : Program} {N : Nat} {ops : Array Oper} {Q : Exit → Act → World → Prop} {B : Base} {m : Mem} {H : List Ent} {σ : Sig} {rest : List Oper}
  {d : Nat} {op : Op} {ty : TypeId} {pos : String} {after : Array Edge} {K : Act → World → Prop}

theorem one_cells {v : Value} (h : v.oneCell' = true) : v.cells = #[v] := by cases v <;> first | rfl | (simp [Value.oneCell'] at h)
theorem WK.perm (H' : List Ent) (hp : H'.Perm H) (h : WK N B m H' σ K) : WK N B m H σ K := fun Ds w hw a ha => h Ds w (hw.perm (hp.append_right _)) a ha

/-! ### whole slices as sources -/
theorem RdL.cons {α : Type} [Enc α] {m : Mem} {xs vs : List Value} {L : List α} {a : α} (ha : Enc.rd m vs a) (h : RdL m xs L) : RdL m (vs ++ xs) (a :: L) := by
  refine ⟨by rw [List.length_append, h.1, Enc.len ha, List.length_cons, Nat.add_mul]; omega, ?_⟩
  intro i x hx
  cases i with
  | zero =>
    simp at hx; subst hx
    exact ⟨vs, ha, fun j u hu => by rw [List.getElem?_append_left (by have := (List.getElem?_eq_some_iff.1 hu).1; omega)]; simpa using hu⟩
  | succ i =>
    obtain ⟨us, h1, h2⟩ := h.2 i x (by simpa using hx)
    refine ⟨us, h1, fun j u hu => ?_⟩
    rw [List.getElem?_append_right (by rw [Enc.len ha, Nat.add_mul]; omega), Enc.len ha]
    have := h2 j u hu
    rw [← this]; congr 1; rw [Nat.add_mul]; omega

theorem cells_of {α : Type} [Enc α] {m : Mem} {b : Nat} : ∀ (L : List α) (off : Nat), (∀ i x, L[i]? = some x → At m ⟨b, off + i * Enc.sz α, none⟩ x) →
    ∃ news, RdL m news L ∧ (∀ u ∈ news, u.oneCell' = true) ∧ ∀ w : World, m.sub w → ∀ j u, news[j]? = some u → w.cell? ⟨b, off + j, none⟩ = some u
  | [], off, _ => ⟨[], RdL.nil, by simp, by simp⟩
  | x :: L, off, h => by
    obtain ⟨vs, h1, h2⟩ := h 0 x rfl
    obtain ⟨news, h3, h4, h5⟩ := cells_of L (off + Enc.sz α) (fun i y hy => by
      have := h (i + 1) y (by simpa using hy)
      rwa [Nat.add_mul, Nat.one_mul, Nat.add_comm (i * _), ← Nat.add_assoc] at this)
    refine ⟨vs ++ news, RdL.cons h1 h3, ?_, ?_⟩
    · intro u hu
      rcases List.mem_append.1 hu with hu | hu
      · exact Enc.one h1 u hu
      · exact h4 u hu
    · intro w hw j u hj
      rw [List.getElem?_append] at hj
      split at hj
      · have := h2.cell hw j u hj
        rw [Addr.add_plain rfl] at this; simpa using this
      · rename_i hlt
        have := h5 w hw _ u hj
        rw [Enc.len h1] at this hlt
        rw [show off + Enc.sz α + (j - Enc.sz α) = off + j by omega] at this
        exact this

theorem Sl.src {α : Type} [Enc α] {m : Mem} {v : Value} {L : List α} (h : Sl m v L) :
    ∃ news, RdL m news L ∧ (∀ u ∈ news, u.oneCell' = true) ∧ ((v = .slice none 0 0 ∧ L = []) ∨ ∃ p cap, v = .slice (Option.some p) L.length cap ∧ L.length ≤ cap ∧ ∀ w : World, m.sub w → ∀ j u, news[j]? = Option.some u → w.cell? (p.add j) = Option.some u) := by
  cases h with
  | nil => exact ⟨[], RdL.nil, by simp, .inl ⟨rfl, rfl⟩⟩
  | some a _ cap hs hc hb hcap h =>
    obtain ⟨news, h1, h2, h3⟩ := cells_of L a.off h
    exact ⟨news, h1, h2, .inr ⟨a, cap, rfl, hc, fun w hw j u hj => by
      have hj' := (List.getElem?_eq_some_iff.1 hj).1
      rw [h1.1] at hj'
      rw [Addr.add_plain (hs (fun h0 => by rw [show L.length = 0 by omega] at hj'; omega))]; exact h3 w hw j u hj⟩⟩

theorem T.appendS {α : Type} [Enc α] {s x : Operand} {t e : TypeId} {bytes : Nat} {z : Value} (hS : SlT P t e (Enc.sz α) bytes z) {k : Nat} {v u : Value} {n : Nat} {xs : List Value} {L : List α}
    (hs : ev σ s = some v) (hx : ev σ x = some u) (hL : Sl m u L) (hH : fetch H k = some (row v e (Enc.sz α) n xs))
    (hb : (n + L.length) * bytes ≤ 140737488355328) (h63 : n + L.length ≤ 9223372036854775807) :
    OpTo P B m H σ (.call (Call.mk (.builtin .append) #[s, x] #[t, t])) ty (fun v' m' H' => m' = m ∧ ∃ news, RdL m news L ∧ H' = upd H k (row v' e (Enc.sz α) (n + L.length) (xs ++ news))) :=
  .ofRun trivial (defd2 (by simp [Op.operands, Call.operands]) hs hx) fun w hw o ho hty => by
    obtain ⟨news, h1, h2, h3⟩ := hL.src
    rcases h3 with ⟨rfl, rfl⟩ | ⟨p, cap, rfl, _, h4⟩
    · have hh : (row v e (Enc.sz α) n xs).holds w := fetch_holds hw hH
      obtain ⟨i, hi, hz, hsz, hby⟩ := hS.hi
      have hv : ∃ b c, v = .slice b n c ∧ n ≤ c := by
        rcases hh.2 with ⟨rfl, rfl⟩ | ⟨g, cap, cur, rfl, _, _, hnc, _⟩
        · exact ⟨_, _, rfl, Nat.le_refl _⟩
        · exact ⟨_, _, rfl, hnc⟩
      obtain ⟨b, c, rfl, hle⟩ := hv
      have hr := run_append_nothing (P := P) w t t o.type e i hS.ht hi b n c hle (.slice none 0 0) (Src.ofNil w hS.ht 0)
      have hnn : news = [] := List.eq_nil_of_length_eq_zero (by rw [h1.1]; simp)
      subst hnn
      refine ⟨.slice b n c, w, .inl (by simp [execOp, ho, resolve, invoke, builtin, evd_eq hs, evd_eq hx, hr]), m, _, ⟨rfl, [], h1, rfl⟩, ?_⟩
      have hq : upd H k (row (.slice b n c) e (Enc.sz α) (n + ([] : List α).length) (xs ++ [])) = H := by rw [List.append_nil]; exact fetch_lt hH
      rw [hq]; exact hw
    · obtain ⟨v', w', hr, hst, _⟩ := append_run (P := P) (ty := o.type) (cap := cap) hw hS hH h1.1 (h4 w hw.sub) h2 hb h63
      exact ⟨v', w', .inl (by simp [execOp, ho, resolve, invoke, builtin, evd_eq hs, evd_eq hx, hr]), m, _, ⟨rfl, news, h1, rfl⟩, hst⟩

theorem T.lit0 {α : Type} [Flat α] {t e : TypeId} {sz bytes : Nat} {z : Value} (hS : SlT P t e sz bytes z) (hsz : sz = Flat.n α) :
    OpTo P B m H σ (.buildSlice t 0 #[]) ty (fun v m' H' => m' = m ∧ H' = rowF v e ([] : List α) :: H) :=
  .ofRun trivial (by intro x hx; simp [Op.operands] at hx) fun w hw o ho _ => by
    subst hsz
    refine ⟨.slice (some ⟨w.heap.size, 0, none⟩) 0 0, w.alloc (.cells #[] e), .inl ?_, m, _, ⟨rfl, rfl⟩,
      hw.push (Ext.alloc w _) _ ?_ (by simp [rowF, row, Value.ownBlock]) (by simp [rowF, row, Value.ownBlock])⟩
    · simp [execOp, ho, Instr.buildSlice, hS.u, hS.s, Instr.fill, newRow, show Array.range 0 = #[] from rfl]
    · exact ⟨by simp [flat], .inr ⟨w.heap.size, 0, #[], rfl, Nat.zero_le _, heap_alloc_new w _, Nat.le_refl _, Nat.zero_le _, by simp, by simp [flat]⟩⟩

/-! ### cuts -/
theorem Sl.sliced {α : Type} [Enc α] {m : Mem} {v : Value} {L : List α} (h : Sl m v L) {l hi : Nat} (h1 : l ≤ hi) (h2 : hi ≤ L.length) :
    ∃ b n c, v = .slice b n c ∧ n = L.length ∧ n ≤ c ∧ ∀ mx, hi ≤ mx → mx ≤ c → Sl m (_root_.Go.sliced b l hi mx (Enc.sz α)) ((L.drop l).take (hi - l)) := by
  cases h with
  | nil =>
    simp at h2; subst h2
    have : l = 0 := by omega
    subst this
    refine ⟨none, 0, 0, rfl, rfl, Nat.le_refl _, fun mx _ h => ?_⟩
    have : mx = 0 := by omega
    subst this
    simp [_root_.Go.sliced]; exact .nil
  | some a _ cap hs hc hb hcap h =>
    refine ⟨Option.some a, _, cap, rfl, rfl, hc, fun mx h3 h4 => ?_⟩
    have hlen : ((L.drop l).take (hi - l)).length = hi - l := by simp; omega
    unfold Go.sliced
    by_cases he : mx = l
    · rw [if_pos he]
      have h0 : hi - l = 0 := by omega
      have h00 : mx - l = 0 := by omega
      rw [h0, h00, List.take_zero]
      exact .some a [] 0 (fun h => absurd rfl h) (Nat.zero_le _) (Nat.zero_le _) (Nat.zero_le _) (by simp)
    · rw [if_neg he]
      have hg := Sl.some (m := m) (a.add (l * Enc.sz α)) ((L.drop l).take (hi - l)) (mx - l) (fun _ => by rw [Addr.add_plain (hs (by omega))]) (by rw [hlen]; omega) (by rw [hlen]; omega) (by omega) (by
        intro i x hx
        rw [List.getElem?_take] at hx
        split at hx
        · rw [List.getElem?_drop] at hx
          have := h _ _ hx
          rw [Addr.add_plain (hs (by omega))]
          rw [Nat.add_mul, ← Nat.add_assoc] at this
          exact this
        · cases hx)
      rw [hlen] at hg
      exact hg

theorem defdL {op : Op} {l : List Operand} (ho : op.operands = l.toArray) (h : ∀ x ∈ l, ∃ v, ev σ x = some v) : defd σ op := by
  intro y hy
  rw [ho] at hy
  exact h y (by simpa using hy)

theorem E.slL {α : Type} [Enc α] {x y : Operand} {t e : TypeId} {v : Value} {L : List α} {i : Int} (l : Nat) (ht : P.underlying t = some (.slice e))
    (hz : ∀ w, (sizeOf e).run P w = .ok (Enc.sz α) w) (hx : ev σ x = some v) (hy : ev σ y = some (.int .i64 i)) (hs : Sl m v L) (hi : i = l) (h1 : l ≤ L.length) :
    E P B m H σ (.slice t x (some y) none none) ty (fun v => v) (fun v => Sl m v (L.drop l)) := by
  subst hi
  obtain ⟨b, n, c, rfl, hn, hc, hk⟩ := hs.sliced h1 (Nat.le_refl _)
  have he : P.elem t = e := by simp [Program.elem, ht]
  have ht' : P.underlying t = some (.slice (P.elem t)) := by rw [he]; exact ht
  refine ⟨_root_.Go.sliced b l n c (Enc.sz α), .ofRun trivial (defdL (l := [x, y]) rfl (by simp only [List.mem_cons, forall_eq_or_imp, List.not_mem_nil, false_imp_iff, implies_true, and_true]; exact ⟨⟨_, hx⟩, ⟨_, hy⟩⟩)) fun w _ o ho _ => ?_, by
    have := hk c (by omega) (Nat.le_refl _); rw [← hn] at this; rwa [List.take_of_length_le (by simp; omega)] at this⟩
  have hr := run_slice_l (P := P) w t b n c ht' .i64 l (by omega) (by omega)
  rw [← run_sliceAt_slice (P := P) w t _ _ _ _ ht', he, hz] at hr
  simp [execOp, ho, evd_eq hx, evd_eq hy, hr]
theorem E.slLHM {α : Type} [Enc α] {x y z u : Operand} {t e : TypeId} {v : Value} {L : List α} {i j q : Int} (l h : Nat) (ht : P.underlying t = some (.slice e))
    (hz : ∀ w, (sizeOf e).run P w = .ok (Enc.sz α) w) (hx : ev σ x = some v) (hy : ev σ y = some (.int .i64 i)) (hw : ev σ z = some (.int .i64 j)) (hu : ev σ u = some (.int .i64 q)) (hs : Sl m v L)
    (hi : i = l) (hj : j = h) (hq : q = h) (h1 : l ≤ h) (h2 : h ≤ L.length) :
    E P B m H σ (.slice t x (some y) (some z) (some u)) ty (fun v => v) (fun v => Sl m v ((L.drop l).take (h - l)) ∧ ∃ b, v = .slice b (h - l) (h - l)) := by
  subst hi; subst hj; subst hq
  obtain ⟨b, n, c, rfl, hn, hc, hk⟩ := hs.sliced h1 h2
  have he : P.elem t = e := by simp [Program.elem, ht]
  have ht' : P.underlying t = some (.slice (P.elem t)) := by rw [he]; exact ht
  refine ⟨_root_.Go.sliced b l h h (Enc.sz α), .ofRun trivial (defdL (l := [x, y, z, u]) rfl (by simp only [List.mem_cons, forall_eq_or_imp, List.not_mem_nil, false_imp_iff, implies_true, and_true]; exact ⟨⟨_, hx⟩, ⟨_, hy⟩, ⟨_, hw⟩, ⟨_, hu⟩⟩)) fun w _ o ho _ => ?_, hk h (Nat.le_refl _) (by omega), _, rfl⟩
  have hr := run_slice_lhm (P := P) w t b n c ht' .i64 .i64 .i64 l h h (by omega) (by omega) (by omega) (by omega)
  rw [← run_sliceAt_slice (P := P) w t _ _ _ _ ht', he, hz] at hr
  simp [execOp, ho, evd_eq hx, evd_eq hy, evd_eq hw, evd_eq hu, hr]
/-! ### arrays of numbers -/
def ints (L : List Int) : List Value := L.map fun x => .int .i64 x
theorem X.idxAr {x y : Operand} {t e : TypeId} {n sz : Nat} {p : Addr} {i : Int} (k : Nat) (ht : P.underlying t = some (.array n e))
    (hz : ∀ w, (sizeOf e).run P w = .ok sz w) (hx : ev σ x = some (.pointer (some p))) (hy : ev σ y = some (.int .i64 i)) (hi : i = k) (h1 : k < n) :
    OpX P B m H σ (.indexAddr t x y) ty (.pointer (some (p.add (k * sz)))) := by
  subst hi
  exact .ofRun trivial (defd2 rfl hx hy) fun w _ o ho _ => by
    have h1' : (k : Int) < n := by omega
    simp [execOp, ho, evd_eq hx, evd_eq hy, Instr.indexAt, Instr.sureAddr, asIntOf, run_underlying ht, hz, h1]
theorem Cells.sl {m : Mem} {p : Addr} {L : List Int} (h : Cells m p (ints L)) {off n c : Nat} (hc : off + c ≤ L.length) (hn : n ≤ c) (hb : c ≤ lenB) : Sl m (.slice (some (p.add off)) n c) ((L.drop off).take n) := by
  have hlen : ((L.drop off).take n).length = n := by simp; omega
  obtain ⟨h0, cs, T, fz, h1, h2⟩ := h
  have := Sl.some (m := m) (p.add off) ((L.drop off).take n) c (fun _ => by rw [Addr.add_plain h0]) (by rw [hlen]; exact hn) (by rw [hlen]; omega) (by unfold lenB at hb; unfold maxLen; omega) (by
    intro i x hx
    rw [List.getElem?_take] at hx
    split at hx
    · rw [List.getElem?_drop] at hx
      rw [Addr.add_plain h0]
      refine ⟨[.int .i64 x], rfl, rfl, cs, T, fz, h1, ?_⟩
      intro j v hv
      match j, hv with
      | 0, hv =>
        simp at hv; subst hv
        have := h2 (off + i) (.int .i64 x) (by simp [ints, hx])
        simp [Enc.sz, Flat.n]
        rw [← this]; congr 1; omega
      | j + 1, hv => simp at hv
    · cases hx)
  rwa [hlen] at this
/-! ### arrays by flat places -/
theorem X.idxArB {x y : Operand} {t e : TypeId} {n sz b off : Nat} {i : Int} (k : Nat) (ht : P.underlying t = some (.array n e))
    (hz : ∀ w, (sizeOf e).run P w = .ok sz w) (hx : ev σ x = some (.pointer (some ⟨b, off, none⟩))) (hy : ev σ y = some (.int .i64 i)) (hi : i = k) (h1 : k < n) :
    OpX P B m H σ (.indexAddr t x y) ty (.pointer (some ⟨b, off + k * sz, none⟩)) := by
  have := X.idxAr (P := P) (B := B) (m := m) (H := H) (ty := ty) k ht hz hx hy hi h1
  rwa [Addr.add_plain rfl] at this
/-! ### letting go within a region -/
theorem WL.freezeL {α : Type} [Enc α] {v : Value} {e : TypeId} {xs : List Value} {L : List α} (k : Nat) (hX : B.X = []) (hH : fetch H k = some (row v e (Enc.sz α) L.length xs)) (hx : RdL m xs L) (hl : L.length ≤ lenB)
    {l : List Oper} (kk : ∀ m', m.le m' → Sl m' v L → WL M P N ops Q B m' (del H k) σ l) : WL M P N ops Q B m H σ l := fun Ds w hw a ha =>
  WK.freezeL (K := fun a w => wpListIn (fen M) 0 P ops Q l a w) k hX hH hx hl kk Ds w hw a ha
theorem WL.freezeF {α : Type} [Flat α] [Enc α] [FlatEnc α] {v : Value} {e : TypeId} {L : List α} (k : Nat) (hX : B.X = []) (hH : fetch H k = some (rowF v e L)) (hl : L.length ≤ lenB)
    {l : List Oper} (kk : ∀ m', m.le m' → Sl m' v L → WL M P N ops Q B m' (del H k) σ l) : WL M P N ops Q B m H σ l :=
  WL.freezeL k hX (by rw [FlatEnc.sz]; exact hH) (RdL.flat m L) hl kk
theorem WL.freezeS {α : Type} [Enc α] {b : Nat} {T' : TypeId} {cs : List Value} {x : α} (k : Nat) (hX : B.X = []) (hH : fetch H k = some (blk b T' cs)) (hx : Enc.rd m cs x)
    {l : List Oper} (kk : ∀ m', m.le m' → At m' ⟨b, 0, none⟩ x → WL M P N ops Q B m' (del H k) σ l) : WL M P N ops Q B m H σ l := fun Ds w hw a ha =>
  WK.freezeS (K := fun a w => wpListIn (fen M) 0 P ops Q l a w) k hX hH hx kk Ds w hw a ha

/-! ### equal structs -/
theorem eqGuard_agg {P : Program} {o : BinOp} {t : TypeId} {x y : Operand} {xs ys : Array Value} (w : World) (hm : P.eqGuardType P.depth t = false) : (eqGuard o t x y (.agg xs) (.agg ys)).run P w = .ok () w := run_eqGuard_agg w o t x y xs ys hm
theorem X.eqlS {α : Type} [Flat α] [DecidableEq α] {x y : Operand} {t t' : TypeId} {a b : α} (hm : P.eqGuardType P.depth t = false)
    (he : ∀ w, (Op.equalIn 10000 t (.agg (Flat.enc a).toArray) (.agg (Flat.enc b).toArray)).run P w = .ok (decide (a = b)) w)
    (hx : ev σ x = some (.agg (Flat.enc a).toArray)) (hy : ev σ y = some (.agg (Flat.enc b).toArray)) : OpX P B m H σ (.binOp .eql t x y t') ty (.bool (decide (a = b))) :=
  .ofRun trivial (defd2 rfl hx hy) fun w _ o ho _ => by
    simp only [execOp, ho, evd_eq hx, evd_eq hy, Sem.run_bind, eqGuard_agg w hm, Result.andThen_ok, run_eql_struct, he]; rfl
theorem X.neqS {α : Type} [Flat α] [DecidableEq α] {x y : Operand} {t t' : TypeId} {a b : α} (hm : P.eqGuardType P.depth t = false)
    (he : ∀ w, (Op.equalIn 10000 t (.agg (Flat.enc a).toArray) (.agg (Flat.enc b).toArray)).run P w = .ok (decide (a = b)) w)
    (hx : ev σ x = some (.agg (Flat.enc a).toArray)) (hy : ev σ y = some (.agg (Flat.enc b).toArray)) : OpX P B m H σ (.binOp .neq t x y t') ty (.bool (decide (¬ a = b))) :=
  .ofRun trivial (defd2 rfl hx hy) fun w _ o ho _ => by
    simp only [execOp, ho, evd_eq hx, evd_eq hy, Sem.run_bind, eqGuard_agg w hm, Result.andThen_ok, run_neq_struct, he]
    simp

def Own (P : Program) (f : FuncId) (args : Array Value) (m : Mem) (R : Mem → List Ent → Value → Prop) : Prop := Mut P f args m [] R
theorem T.callO {f : FuncId} {l : List Operand} {ts : Array TypeId} {vs : List Value} {R : Mem → List Ent → Value → Prop} (hf : Enters P f) (hl : evs σ l = some vs) (hc : Own P f vs.toArray m R) :
    OpTo P B m H σ (.call (Call.mk (.value (.func f)) l.toArray ts)) ty (fun v m' H' => m.le m' ∧ ∃ Es, R m' Es v ∧ H' = Es ++ H) := by
  refine ⟨trivial, defdc rfl hl, fun M B w hw o a next Q ho ht kk => upon_fen M ?_⟩
  rw [call_run hf hl w o ho]
  have hin : St ⟨w, idsOf [], m⟩ m [] w := by
    refine ⟨rfl, rfl, rfl, Nat.le_refl _, fun _ _ _ => rfl, hw.sub, Mem.le_refl _, fun _ _ => rfl, by simp, by simp [idsOf], by simp [idsOf], by simp [idsOf]⟩
  refine (hc w hin).mono fun e' w' hr => ?_
  obtain ⟨u, m', H', rfl, hs, hR⟩ := hr
  exact kk u m' _ w' ⟨hs.le, H', hR, rfl⟩ (St.handed (Es := []) (R := H) hw hs)
end
end Go.Kx
