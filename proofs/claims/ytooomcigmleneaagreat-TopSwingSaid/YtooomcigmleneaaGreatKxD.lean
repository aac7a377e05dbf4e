import Derived.Test.YtooomcigmleneaaGreatKxC
import Derived.Laws.CopyRow
/- Kx, part D: operations that make or turn memory; calls; builtins. -/
namespace Go.Kx

structure SlT (P : Program) (t e : TypeId) (sz bytes : Nat) (z : Value) : Prop where
  ht : P.underlying t = some (.slice e)
  hi : ∃ i, P.info? e = some i ∧ i.zero = some z ∧ i.size = sz ∧ i.bytes = bytes
  hz : z.cells.size = sz
  pos : 0 < sz

theorem SlT.u {P : Program} {t e : TypeId} {sz bytes : Nat} {z : Value} (h : SlT P t e sz bytes z) (w : World) : (underlying t).run P w = .ok (.slice e) w := run_underlying h.ht w
theorem SlT.s {P : Program} {t e : TypeId} {sz bytes : Nat} {z : Value} (h : SlT P t e sz bytes z) (w : World) : (sizeOf e).run P w = .ok sz w := by
  obtain ⟨i, h1, _, h3, _⟩ := h.hi
  simp [sizeOf, typeInfo, h1, h3]
theorem SlT.zr {P : Program} {t e : TypeId} {sz bytes : Nat} {z : Value} (h : SlT P t e sz bytes z) (w : World) : (zeroValue e).run P w = .ok z w := by
  obtain ⟨i, h1, h2, _, _⟩ := h.hi
  simp [zeroValue, typeInfo, h1, h2]

theorem St.change {B : Base} {m : Mem} {H : List Ent} {w w' : World} {k : Nat} {e e' : Ent} (h : St B m H w) (hH : fetch H k = some e)
    (ho : w'.os = w.os) (ht : w'.tape = w.tape) (hp : w'.output = w.output) (hs : w.heap.size ≤ w'.heap.size)
    (hb : ∀ c, c < w.heap.size → c ∉ e.ids → w'.heap[c]? = w.heap[c]?) (he : e'.holds w') (hi : ∀ b ∈ e'.ids, b ∈ e.ids ∨ w.heap.size ≤ b) (hn : e'.ids.Nodup) :
    St B m (upd H k e') w' := by
  obtain ⟨A, C, h1, h2, _⟩ := fetch_split hH
  rw [h2]
  have hperm : ∀ x : Ent, ([x] ++ (A ++ C)).Perm (A ++ x :: C) := fun x => by simpa using List.perm_middle.symm
  have hst : St B m ([e] ++ (A ++ C)) w := by rw [h1] at h; exact h.perm (hperm e)
  have hsub : m.sub w' := fun b o hbo => by
    rw [hb b (h.sub.lt hbo) (fun hin => by
      have := hst.avoid b (by simp [idsOf, hin]); rw [this] at hbo; cases hbo)]
    exact h.sub b o hbo
  have hE : idsOf [e] = e.ids := by simp [idsOf]
  have hE' : idsOf [e'] = e'.ids := by simp [idsOf]
  have hst' : St ⟨w, idsOf [e], m⟩ m [e'] w' := by
    refine ⟨ho, ht, hp, hs, fun b hb' hx => hb b hb' (by rwa [hE] at hx), hsub, Mem.le_refl _, fun _ _ => rfl, ?_, ?_, ?_, ?_⟩
    · intro x hx; simp at hx; subst hx; exact he
    · intro b hb'; rw [hE'] at hb'; rw [hE]; exact hi b hb'
    · intro b hb'
      rw [hE'] at hb'
      rcases hi b hb' with h3 | h3
      · exact hst.avoid b (by simp [idsOf, h3])
      · cases hm : m b with
        | none => rfl
        | some o => exact absurd (h.sub.lt hm) (Nat.not_lt.2 h3)
    · rw [hE']; exact hn
  exact (hst.handed hst').perm (hperm e').symm

/-! ### own slices of plain data -/
def flat {α : Type} [Flat α] (L : List α) : List Value := L.flatMap Flat.enc
theorem flat_length {α : Type} [Flat α] (L : List α) : (flat L).length = L.length * Flat.n α := by
  induction L with
  | nil => simp [flat]
  | cons x L ih => simp only [flat, List.flatMap_cons, List.length_append, List.length_cons, Flat.len] at ih ⊢; rw [ih, Nat.add_mul]; omega
theorem flat_append {α : Type} [Flat α] (L M : List α) : flat (L ++ M) = flat L ++ flat M := by simp [flat]
theorem flat_get {α : Type} [Flat α] : ∀ (L : List α) (i : Nat) (x : α), L[i]? = some x → ∀ j v, (Flat.enc x)[j]? = some v → (flat L)[i * Flat.n α + j]? = some v
  | [], i, x, h, _, _, _ => by simp at h
  | y :: L, 0, x, h, j, v, hv => by
    simp at h; subst h
    have : j < (Flat.enc y).length := (List.getElem?_eq_some_iff.1 hv).1
    simp only [flat, List.flatMap_cons, Nat.zero_mul, Nat.zero_add]
    rw [List.getElem?_append_left this]; exact hv
  | y :: L, i + 1, x, h, j, v, hv => by
    have := flat_get L i x (by simpa using h) j v hv
    simp only [flat, List.flatMap_cons]
    rw [List.getElem?_append_right (by rw [Flat.len, Nat.add_mul]; omega), Flat.len]
    rw [← this, flat]
    congr 1
    rw [Nat.add_mul]; omega

def rowF {α : Type} [Flat α] (v : Value) (e : TypeId) (L : List α) : Ent := row v e (Flat.n α) L.length (flat L)

def rp (v : Value) (off : Nat) : Addr := ⟨v.ownBlock.getD 0, off, none⟩

theorem row_block {w : World} {v : Value} {e : TypeId} {sz n : Nat} {xs : List Value} (h : (row v e sz n xs).holds w) (hn : 0 < n) :
    ∃ g cap cur, v = .slice (some ⟨g, 0, none⟩) n cap ∧ w.heap[g]? = some (.cells cur e (0, 0)) ∧ n ≤ cap ∧ cap ≤ maxLen ∧ cur.size = cap * sz ∧ cur.toList.take (n * sz) = xs := by
  rcases h.2 with ⟨_, h0⟩ | ⟨g, cap, cur, h1, _, h2, h3, h4, h5, h6⟩
  · omega
  · exact ⟨g, cap, cur, h1, h2, h3, h4, h5, h6⟩

theorem row_cell {w : World} {v : Value} {e : TypeId} {sz n : Nat} {xs : List Value} (h : (row v e sz n xs).holds w) {off : Nat} {u : Value} (hx : xs[off]? = some u) :
    w.cell? (rp v off) = some u ∧ w.frozen? (rp v off) = false := by
  have hlt : off < xs.length := (List.getElem?_eq_some_iff.1 hx).1
  have hn : 0 < n := by
    rcases Nat.eq_zero_or_pos n with h0 | h0
    · rw [h.1, h0] at hlt; simp at hlt
    · exact h0
  obtain ⟨g, cap, cur, rfl, hg, h3, h4, h5, h6⟩ := row_block h hn
  have : cur.toList[off]? = some u := by
    rw [← h6, List.getElem?_take] at hx
    split at hx
    · exact hx
    · cases hx
  refine ⟨?_, ?_⟩
  · simp only [rp, Value.ownBlock, Option.getD_some, World.cell?, hg]
    simpa using this
  · simp [rp, Value.ownBlock, World.frozen?, hg]

section
variable {P : Program} {B : Base} {m : Mem} {H : List Ent} {σ : Sig} {ty : TypeId}

theorem fetch_holds {w : World} (hw : St B m H w) {k : Nat} {e : Ent} (hH : fetch H k = some e) : e.holds w := by
  obtain ⟨A, C, h1, _, _⟩ := fetch_split hH
  exact hw.own _ (by rw [h1]; simp)

theorem X.idxRow {x y : Operand} {t e e' : TypeId} {v : Value} {sz n k : Nat} {xs : List Value} {i : Int} (hu : ∀ w, (underlying t).run P w = .ok (.slice e) w)
    (hz : ∀ w, (sizeOf e).run P w = .ok sz w) (hx : ev σ x = some v) (hy : ev σ y = some (.int .i64 i)) (hH : fetch H k = some (row v e' sz n xs)) (h0 : 0 ≤ i) (h1 : i < n) :
    OpX P B m H σ (.indexAddr t x y) ty (.pointer (some (rp v (i.toNat * sz)))) :=
  .ofRun trivial (defd2 rfl hx hy) fun w hw o ho _ => by
    obtain ⟨g, cap, cur, rfl, _⟩ := row_block (fetch_holds hw hH) (by omega)
    simp only [execOp, ho, evd_eq hx, evd_eq hy, Instr.indexAt, asIntOf]
    simp [hu, hz, h0, h1, rp, Value.ownBlock, Addr.add_plain]
theorem X.idxRow1 {x y : Operand} {t e e' : TypeId} {v : Value} {n k : Nat} {xs : List Value} {i : Int} (hu : ∀ w, (underlying t).run P w = .ok (.slice e) w)
    (hz : ∀ w, (sizeOf e).run P w = .ok 1 w) (hx : ev σ x = some v) (hy : ev σ y = some (.int .i64 i)) (hH : fetch H k = some (row v e' 1 n xs)) (h0 : 0 ≤ i) (h1 : i < n) :
    OpX P B m H σ (.indexAddr t x y) ty (.pointer (some (rp v i.toNat))) := by
  have := X.idxRow (P := P) (B := B) (m := m) (ty := ty) hu hz hx hy hH h0 h1
  rwa [Nat.mul_one] at this
theorem X.loadRow {x : Operand} {t e : TypeId} {k off sz n : Nat} {v u : Value} {xs : List Value} (ha : ∀ w, (isAgg t).run P w = .ok false w)
    (hx : ev σ x = some (.pointer (some (rp v off)))) (hH : fetch H k = some (row v e sz n xs)) (hu : xs[off]? = some u) : OpX P B m H σ (.load t x) ty u :=
  .ofRun trivial (defd1 rfl hx) fun w hw o ho _ => by
    simp [execOp, ho, evd_eq hx, Instr.loadAt, Instr.sureAddr, loadVar, ha, (row_cell (fetch_holds hw hH) hu).1]

theorem flat_int (L : List Int) : flat L = L.map (Value.int .i64) := by
  induction L with
  | nil => rfl
  | cons x L ih => simp only [flat, List.flatMap_cons, List.map_cons] at ih ⊢; rw [ih]; rfl
theorem X.idxI {x y : Operand} {t e e' : TypeId} {v : Value} {k : Nat} {L : List Int} {i : Int} (hu : ∀ w, (underlying t).run P w = .ok (.slice e) w)
    (hz : ∀ w, (sizeOf e).run P w = .ok 1 w) (hx : ev σ x = some v) (hy : ev σ y = some (.int .i64 i)) (hH : fetch H k = some (rowF v e' L)) (h0 : 0 ≤ i) (h1 : i < L.length) :
    OpX P B m H σ (.indexAddr t x y) ty (.pointer (some (rp v i.toNat))) := X.idxRow1 hu hz hx hy hH h0 h1
theorem X.loadI {x : Operand} {t e : TypeId} {k i : Nat} {v : Value} {L : List Int} (ha : ∀ w, (isAgg t).run P w = .ok false w)
    (hx : ev σ x = some (.pointer (some (rp v i)))) (hH : fetch H k = some (rowF v e L)) (hi : i < L.length) : OpX P B m H σ (.load t x) ty (.int .i64 (gt L i)) :=
  X.loadRow ha hx hH (by rw [flat_int, List.getElem?_map, gt_eq hi]; rfl)
/-! lengths, least and greatest -/
theorem X.len {α : Type} [Enc α] {x : Operand} {t e : TypeId} {v : Value} {L : List α} (hu : ∀ w, (underlying t).run P w = .ok (.slice e) w) (hx : ev σ x = some v) (hs : Sl m v L) :
    OpX P B m H σ (.call (Call.mk (.builtin .len) #[x] #[t])) ty (.int .i64 L.length) :=
  .ofRun trivial (defd1 (by simp [Op.operands, Call.operands]) hx) fun w _ o ho _ => by
    cases hs with
    | nil => simp [execOp, ho, resolve, invoke, builtin, Builtin.len_, evd_eq hx, hu, goInt]
    | some a _ cap hs hc hb hcap h => simp [execOp, ho, resolve, invoke, builtin, Builtin.len_, evd_eq hx, hu, goInt]
theorem X.lenRow {x : Operand} {t e e' : TypeId} {v : Value} {k sz n : Nat} {xs : List Value} (hu : ∀ w, (underlying t).run P w = .ok (.slice e) w) (hx : ev σ x = some v) (hH : fetch H k = some (row v e' sz n xs)) :
    OpX P B m H σ (.call (Call.mk (.builtin .len) #[x] #[t])) ty (.int .i64 n) :=
  .ofRun trivial (defd1 (by simp [Op.operands, Call.operands]) hx) fun w hw o ho _ => by
    have hh := fetch_holds hw hH
    rcases hh.2 with ⟨rfl, h0⟩ | ⟨g, cap, cur, rfl, _⟩
    · subst h0; simp [execOp, ho, resolve, invoke, builtin, Builtin.len_, evd_eq hx, hu, goInt]
    · simp [execOp, ho, resolve, invoke, builtin, Builtin.len_, evd_eq hx, hu, goInt]
theorem X.lenF {α : Type} [Flat α] {x : Operand} {t e e' : TypeId} {v : Value} {k : Nat} {L : List α} (hu : ∀ w, (underlying t).run P w = .ok (.slice e) w) (hx : ev σ x = some v) (hH : fetch H k = some (rowF v e' L)) :
    OpX P B m H σ (.call (Call.mk (.builtin .len) #[x] #[t])) ty (.int .i64 L.length) := X.lenRow hu hx hH
theorem X.mn {x y : Operand} {ts : Array TypeId} {a b : Int} (hx : ev σ x = some (.int .i64 a)) (hy : ev σ y = some (.int .i64 b)) :
    OpX P B m H σ (.call (Call.mk (.builtin .min) #[x, y] ts)) ty (.int .i64 (min a b)) :=
  .ofRun trivial (defd2 (by simp [Op.operands, Call.operands]) hx hy) fun w _ o ho _ => by
    simp [execOp, ho, resolve, invoke, builtin, Builtin.min_, Builtin.min2, evd_eq hx, evd_eq hy]
    rw [Int.min_def]; (repeat' split) <;> omega
theorem X.mx {x y : Operand} {ts : Array TypeId} {a b : Int} (hx : ev σ x = some (.int .i64 a)) (hy : ev σ y = some (.int .i64 b)) :
    OpX P B m H σ (.call (Call.mk (.builtin .max) #[x, y] ts)) ty (.int .i64 (max a b)) :=
  .ofRun trivial (defd2 (by simp [Op.operands, Call.operands]) hx hy) fun w _ o ho _ => by
    simp [execOp, ho, resolve, invoke, builtin, Builtin.max_, Builtin.max2, evd_eq hx, evd_eq hy]
    rw [Int.max_def]; (repeat' split) <;> omega
/-! ### calls -/
def evs (σ : Sig) : List Operand → Option (List Value)
  | [] => some []
  | x :: l => match ev σ x, evs σ l with
    | some v, some vs => some (v :: vs)
    | _, _ => none

theorem evs_map : ∀ {l : List Operand} {vs : List Value}, evs σ l = some vs → l.map (evd σ) = vs ∧ ∀ x ∈ l, ∃ v, ev σ x = some v
  | [], vs, h => by simp only [evs] at h; cases h; exact ⟨rfl, by simp⟩
  | x :: l, vs, h => by
    simp only [evs] at h
    cases h1 : ev σ x with
    | none => simp [h1] at h
    | some v =>
      cases h2 : evs σ l with
      | none => simp [h1, h2] at h
      | some us =>
        simp only [h1, h2] at h
        cases h
        obtain ⟨h3, h4⟩ := evs_map h2
        refine ⟨by simp [evd_eq h1, h3], ?_⟩
        intro y hy
        cases hy with
        | head => exact ⟨v, h1⟩
        | tail _ hy => exact h4 y hy

def Enters (P : Program) (f : FuncId) : Prop := ∀ (args : Array Value) (w : World), (callFunc f args).run P w = .ok (.enter f args) w

theorem call_run {f : FuncId} {l : List Operand} {ts : Array TypeId} {vs : List Value} (hf : Enters P f) (hl : evs σ l = some vs) (w : World) (o : Oper)
    (ho : o.op = .call (Call.mk (.value (.func f)) l.toArray ts)) : (execOp (evd σ) o).run P w = .ok (.enter f vs.toArray) w := by
  have h1 := (evs_map hl).1
  have h2 := hf vs.toArray w
  simp [execOp, ho, resolve, Deferred.ofValue, evd, ev, invoke]
  rw [show l.map (fun x => evd σ x) = vs from h1] 
  simpa [evd] using h2

theorem callc_run {f : FuncId} {x : Operand} {cap : Array Value} {l : List Operand} {ts : Array TypeId} {vs : List Value} (hf : Enters P f) (hx : ev σ x = some (.func (.func f) #[] cap)) (hl : evs σ l = some vs) (w : World) (o : Oper)
    (ho : o.op = .call (Call.mk (.value x) l.toArray ts)) : (execOp (evd σ) o).run P w = .ok (.enter f (vs.toArray ++ cap)) w := by
  have h1 := (evs_map hl).1
  have h2 := hf (vs.toArray ++ cap) w
  simp [execOp, ho, resolve, Deferred.ofValue, evd_eq hx, invoke]
  rw [show l.map (fun x => evd σ x) = vs from h1]
  simpa using h2

theorem defdc {x : Operand} {v : Value} {l : List Operand} {ts : Array TypeId} {vs : List Value} (hx : ev σ x = some v) (hl : evs σ l = some vs) : Kx.defd σ (.call (Call.mk (.value x) l.toArray ts)) := by
  intro y hy
  simp [Op.operands, Call.operands] at hy
  rcases hy with rfl | hy
  · exact ⟨v, hx⟩
  · exact (evs_map hl).2 y hy

theorem X.call {f : FuncId} {l : List Operand} {ts : Array TypeId} {vs : List Value} {v : Value} (hf : Enters P f) (hl : evs σ l = some vs) (hc : Exact P f vs.toArray m v) :
    OpX P B m H σ (.call (Call.mk (.value (.func f)) l.toArray ts)) ty v :=
  ⟨trivial, defdc rfl hl, fun w hw o a next Q ho ht k => by
    rw [call_run hf hl w o ho]
    refine (hc w hw.sub).mono fun e w' hr => ?_
    have hx := Ret.ext hr rfl
    obtain ⟨u, m', H', rfl, hs, rfl⟩ := hr
    exact k w' hx⟩
theorem X.callc {f : FuncId} {x : Operand} {cap : Array Value} {l : List Operand} {ts : Array TypeId} {vs : List Value} {v : Value} (hf : Enters P f) (hx : ev σ x = some (.func (.func f) #[] cap)) (hl : evs σ l = some vs)
    (hc : Exact P f (vs.toArray ++ cap) m v) : OpX P B m H σ (.call (Call.mk (.value x) l.toArray ts)) ty v :=
  ⟨trivial, defdc hx hl, fun w hw o a next Q ho ht k => by
    rw [callc_run hf hx hl w o ho]
    refine (hc w hw.sub).mono fun e w' hr => ?_
    have hx := Ret.ext hr rfl
    obtain ⟨u, m', H', rfl, hs, rfl⟩ := hr
    exact k w' hx⟩

theorem T.call {f : FuncId} {l : List Operand} {ts : Array TypeId} {vs : List Value} {R : Mem → Value → Prop} (hf : Enters P f) (hl : evs σ l = some vs) (hc : Pure P f vs.toArray m R) :
    OpTo P B m H σ (.call (Call.mk (.value (.func f)) l.toArray ts)) ty (fun v m' H' => H' = H ∧ m.le m' ∧ R m' v) :=
  ⟨trivial, defdc rfl hl, fun M B w hw o a next Q ho ht k => upon_fen M <| by
    rw [call_run hf hl w o ho]
    refine (hc w hw.sub).mono fun e w' hr => ?_
    obtain ⟨u, m', H', rfl, hs, hR⟩ := hr
    exact k u m' H w' ⟨rfl, hs.le, hR⟩ (hw.called hs)⟩
theorem T.callc {f : FuncId} {x : Operand} {cap : Array Value} {l : List Operand} {ts : Array TypeId} {vs : List Value} {R : Mem → Value → Prop} (hf : Enters P f) (hx : ev σ x = some (.func (.func f) #[] cap)) (hl : evs σ l = some vs)
    (hc : Pure P f (vs.toArray ++ cap) m R) : OpTo P B m H σ (.call (Call.mk (.value x) l.toArray ts)) ty (fun v m' H' => H' = H ∧ m.le m' ∧ R m' v) :=
  ⟨trivial, defdc hx hl, fun M B w hw o a next Q ho ht k => upon_fen M <| by
    rw [callc_run hf hx hl w o ho]
    refine (hc w hw.sub).mono fun e w' hr => ?_
    obtain ⟨u, m', H', rfl, hs, hR⟩ := hr
    exact k u m' H w' ⟨rfl, hs.le, hR⟩ (hw.called hs)⟩

/-! ### new memory -/
theorem OpTo.ofRun {op : Op} {T : Value → Mem → List Ent → Prop} (hs : notSel op) (hd : Kx.defd σ op)
    (hr : ∀ {B : Base} (w : World), St B m H w → ∀ o : Oper, o.op = op → o.type = ty → ∃ v w', ((execOp (evd σ) o).run P w = .ok (.value v) w' ∨ ((execOp (evd σ) o).run P w = .ok .skip w' ∧ v = undef)) ∧ ∃ m' H', T v m' H' ∧ St B m' H' w') :
    OpTo P B m H σ op ty T :=
  ⟨hs, hd, fun M B w hw o a next Q ho ht k => upon_fen M <| by
    obtain ⟨v, w', hrun, m', H', hT, hst⟩ := hr w hw o ho ht
    rcases hrun with h | ⟨h, rfl⟩
    · rw [h]; exact k v m' H' w' hT hst
    · rw [h]; exact k undef m' H' w' hT hst⟩

theorem newVar_run (t : TypeId) (v : Value) (w : World) : (newVar t v).run P w = .ok ⟨w.heap.size, 0, none⟩ (w.alloc (.cells v.cells t)) := by
  simp [newVar, newRow]

theorem T.boxB {x : Operand} {t : TypeId} {v : Value} {cs : List Value} (hx : ev σ x = some v) (hc : v.cells = cs.toArray) :
    OpTo P B m H σ (.box t x) ty (fun u m' H' => m' = m ∧ ∃ b, u = .pointer (some ⟨b, 0, none⟩) ∧ H' = blk b t cs :: H) :=
  .ofRun trivial (defd1 rfl hx) fun w hw o ho _ => by
    refine ⟨.pointer (some ⟨w.heap.size, 0, none⟩), w.alloc (.cells cs.toArray t), .inl (by simp [execOp, ho, evd_eq hx, Instr.box, newVar_run, hc]), m, _, ⟨rfl, _, rfl, rfl⟩,
      hw.push (Ext.alloc w _) (blk w.heap.size t cs) (by show (w.heap.push _)[_]? = _; simp) (by simp [blk]) (by simp [blk])⟩
theorem T.alloc {t : TypeId} {z : Value} {cs : List Value} (hz : ∀ w, (zeroValue t).run P w = .ok z w) (hc : z.cells = cs.toArray) :
    OpTo P B m H σ (.alloc t) ty (fun u m' H' => m' = m ∧ ∃ b, u = .pointer (some ⟨b, 0, none⟩) ∧ H' = blk b t cs :: H) :=
  .ofRun trivial (by intro x hx; simp [Op.operands] at hx) fun w hw o ho _ => by
    refine ⟨.pointer (some ⟨w.heap.size, 0, none⟩), w.alloc (.cells cs.toArray t), .inl (by simp [execOp, ho, Instr.alloc, hz, newVar_run, hc]), m, _, ⟨rfl, _, rfl, rfl⟩,
      hw.push (Ext.alloc w _) (blk w.heap.size t cs) (by show (w.heap.push _)[_]? = _; simp) (by simp [blk]) (by simp [blk])⟩

theorem setRow_other (w : World) (g : Nat) (cs : Array Value) (c : Nat) (h : c ≠ g) : (w.setRow g cs).heap[c]? = w.heap[c]? := by
  simp [World.setRow, Array.getElem?_modify, Ne.symm h]
theorem setRow_self' (w : World) (g : Nat) (cs cur : Array Value) (T : TypeId) (fz : Nat × Nat) (h : w.heap[g]? = some (.cells cur T fz)) : (w.setRow g cs).heap[g]? = some (.cells cs T fz) := by
  simp only [World.setRow, Array.getElem?_modify, if_true, h, Option.map_some]

theorem store_blk {w : World} (hw : St B m H w) {k b off : Nat} {T : TypeId} {cs vs : List Value} (hH : fetch H k = some (blk b T cs)) (hl : off + vs.length ≤ cs.length) (h1 : ∀ v ∈ vs, v.oneCell' = true) :
    ∃ w', (storeCells ⟨b, off, none⟩ vs).run P w = .ok () w' ∧ St B m (upd H k (blk b T (cs.take off ++ vs ++ cs.drop (off + vs.length)))) w' := by
  have hb : w.heap[b]? = some (.cells cs.toArray T (0, 0)) := fetch_holds hw hH
  have hrun := run_storeCells_at P b off T vs 0 cs.toArray w hb (by simpa using hl) h1
  simp only [Nat.add_zero] at hrun
  refine ⟨_, hrun, hw.change hH rfl rfl rfl (by simp [World.setRow]) ?_ ?_ ?_ (by simp [blk])⟩
  · intro c _ hc
    exact setRow_other w b _ c (by simpa [blk] using hc)
  · simp only [blk]
    exact setRow_self' w b _ _ T _ hb
  · intro c hc; exact .inl (by simpa [blk] using hc)

theorem T.storeB {x y : Operand} {t : TypeId} {k b off : Nat} {T : TypeId} {cs : List Value} {v : Value} (hz : ∀ w, (sizeOf t).run P w = .ok 1 w)
    (hx : ev σ x = some (.pointer (some ⟨b, off, none⟩))) (hy : ev σ y = some v) (hH : fetch H k = some (blk b T cs)) (hv : v.oneCell' = true) (ho : off < cs.length) :
    OpTo P B m H σ (.store t x y) ty (fun _ m' H' => m' = m ∧ H' = upd H k (blk b T (cs.set off v))) :=
  .ofRun trivial (defd2 rfl hx hy) fun w hw o hop _ => by
    have hc : v.cells = #[v] := by cases v <;> first | rfl | (simp [Value.oneCell'] at hv)
    obtain ⟨w', hr, hs⟩ := store_blk (P := P) hw (off := off) (vs := [v]) hH (by simp; omega) (by simpa using hv)
    refine ⟨undef, w', .inr ⟨by simp [execOp, hop, evd_eq hx, evd_eq hy, Instr.storeAt, Instr.sureAddr, storeVar, hz, hc, hr], rfl⟩, m, _, ⟨rfl, rfl⟩, ?_⟩
    have he : cs.take off ++ [v] ++ cs.drop (off + 1) = cs.set off v := by
      rw [List.set_eq_take_append_cons_drop, if_pos ho]; simp
    rw [← he]; exact hs
theorem T.storeBA {x y : Operand} {t : TypeId} {k b : Nat} {T : TypeId} {cs vs : List Value} {n : Nat} (hz : ∀ w, (sizeOf t).run P w = .ok n w)
    (hx : ev σ x = some (.pointer (some ⟨b, 0, none⟩))) (hy : ev σ y = some (.agg vs.toArray)) (hH : fetch H k = some (blk b T cs)) (hv : ∀ v ∈ vs, v.oneCell' = true) (hn : vs.length = n) (hl : cs.length = n) :
    OpTo P B m H σ (.store t x y) ty (fun _ m' H' => m' = m ∧ H' = upd H k (blk b T vs)) :=
  .ofRun trivial (defd2 rfl hx hy) fun w hw o hop _ => by
    obtain ⟨w', hr, hs⟩ := store_blk (P := P) hw (off := 0) (vs := vs) hH (by omega) hv
    refine ⟨undef, w', .inr ⟨by simp [execOp, hop, evd_eq hx, evd_eq hy, Instr.storeAt, Instr.sureAddr, storeVar, hz, Value.cells, hn, hr], rfl⟩, m, _, ⟨rfl, rfl⟩, ?_⟩
    have he : cs.take 0 ++ vs ++ cs.drop (0 + vs.length) = vs := by simp [List.drop_eq_nil_of_le, hn, hl]
    rw [he] at hs; exact hs

end
end Go.Kx
