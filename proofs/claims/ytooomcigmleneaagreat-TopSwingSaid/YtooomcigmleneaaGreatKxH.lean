import Derived.Test.YtooomcigmleneaaGreatKxG
/- Kx, part H: structs built, rows made and stored into. -/
namespace Go.Kx

theorem one_nil : ∀ v ∈ ([] : List Value), v.oneCell' = true := by simp
theorem one_cons {v : Value} {l : List Value} (h : v.oneCell' = true) (hl : ∀ u ∈ l, u.oneCell' = true) : ∀ u ∈ v :: l, u.oneCell' = true := by
  intro u hu
  cases hu with
  | head => exact h
  | tail _ hu => exact hl u hu

section
variable {M : Option Nat} {P : Program} {N : Nat} {ops : Array Oper} {Q : Exit → Act → World → Prop} {B : Base} {m : Mem} {H : List Ent} {σ : Sig} {rest : List Oper}
  {d : Nat} {op : Op} {ty : TypeId} {pos : String} {after : Array Edge} {K : Act → World → Prop}

theorem DW.nil {piv non : List Nat} (h : WK N B m H σ (Q .normal)) : DW P B N ops piv non (fun m H σ => WK N B m H σ (Q .normal)) false .done m H σ := h

def evp (σ : Sig) : List (Nat × Operand) → Option (List (Nat × Value))
  | [] => some []
  | (i, x) :: l => match ev σ x, evp σ l with
    | some v, some vs => some ((i, v) :: vs)
    | _, _ => none
theorem evp_map : ∀ {l : List (Nat × Operand)} {vs : List (Nat × Value)}, evp σ l = some vs → (l.map fun p => (p.1, evd σ p.2)) = vs ∧ ∀ x ∈ l.map (·.2), ∃ v, ev σ x = some v
  | [], vs, h => by simp only [evp] at h; cases h; exact ⟨rfl, by simp⟩
  | (i, x) :: l, vs, h => by
    simp only [evp] at h
    cases h1 : ev σ x with
    | none => simp [h1] at h
    | some v =>
      cases h2 : evp σ l with
      | none => simp [h1, h2] at h
      | some us =>
        simp only [h1, h2] at h
        cases h
        obtain ⟨h3, h4⟩ := evp_map h2
        refine ⟨by simp [evd_eq h1, h3], ?_⟩
        intro y hy
        cases hy with
        | head => exact ⟨v, h1⟩
        | tail _ hy => exact h4 y hy

theorem X.build {t : TypeId} {z : Value} {fs : Array Field} {places : Array (Nat × Nat)} {parts : List (Nat × Operand)} {vs : List (Nat × Value)} {cs : List Value}
    (hz : ∀ w, (zeroValue t).run P w = .ok z w) (hu : ∀ w, (underlying t).run P w = .ok (.struct fs) w)
    (hp : ∀ w, (fs.mapM fun f => do pure (f.offset, ← sizeOf f.type) : Sem _).run P w = .ok places w) (hv : evp σ parts = some vs)
    (hf : Instr.fill (fun i => places[i]?) z.cells vs = some cs.toArray) : OpX P B m H σ (.build t parts.toArray) ty (.agg cs.toArray) :=
  .ofRun trivial (by intro x hx; exact (evp_map hv).2 x (by simpa [Op.operands] using hx)) fun w _ o ho _ => by
    have h1 := (evp_map hv).1
    have h2 : (parts.toArray.map fun (x : Nat × Operand) => (x.1, evd σ x.2)).toList = vs := by simpa using h1
    have h3 := hp w
    simp only [execOp, ho, Instr.build, Sem.run_bind, hz, Result.andThen_ok, hu]
    rw [show (fs.mapM (fun f => do pure (f.offset, ← sizeOf f.type) : Field → Sem (Nat × Nat))).run P w = .ok places w from h3]
    simp only [Result.andThen_ok]
    have h4 : (Array.map (fun x : Nat × Operand => match x with | (i, x) => (i, evd σ x)) parts.toArray).toList = vs := h2
    rw [h4]
    have h5 : Instr.fill (fun x => places[x]?) z.cells vs = some cs.toArray := hf
    rw [h5]
    rfl

theorem X.loadBP {x : Operand} {t : TypeId} {k b off n : Nat} {T' : TypeId} {cs vs : List Value} (ha : ∀ w, (isAgg t).run P w = .ok true w)
    (hz : ∀ w, (sizeOf t).run P w = .ok n w) (hx : ev σ x = some (.pointer (some ⟨b, off, none⟩))) (hH : fetch H k = some (blk b T' cs)) (hn : vs.length = n) (hv : (cs.drop off).take n = vs) :
    OpX P B m H σ (.load t x) ty (.agg vs.toArray) :=
  .ofRun trivial (defd1 rfl hx) fun w hw o ho _ => by
    subst hn
    have hl := run_loadCells_list (P := P) w ⟨b, off, none⟩ vs (fun j v hj => by
      rw [Addr.add_plain rfl, blk_cell hw hH]
      rw [← hv, List.getElem?_take] at hj
      split at hj
      · simpa using hj
      · cases hj)
    simp [execOp, ho, evd_eq hx, Instr.loadAt, Instr.sureAddr, loadVar, ha, hz, hl]

theorem madeCells_flat {α : Type} [Flat α] (z : Value) (a : α) (hz : z.cells.toList = Flat.enc a) (n : Nat) : (madeCells z.cells (n * Flat.n α)).toList = flat (List.replicate n a) := by
  have hsz : z.cells.size = Flat.n α := by rw [← Array.length_toList, hz, Flat.len]
  have hpos := Flat.pos (α := α)
  apply List.ext_getElem?
  intro i
  by_cases hi : i < n * Flat.n α
  · have h1 : i / Flat.n α < n := by rw [Nat.div_lt_iff_lt_mul hpos]; exact hi
    have h2 : i % Flat.n α < Flat.n α := Nat.mod_lt _ hpos
    have h3 : (Flat.enc a)[i % Flat.n α]? = some (z.cells[i % Flat.n α]!) := by
      rw [← hz]
      rw [getElem!_pos z.cells _ (by rw [hsz]; exact h2)]
      simp [hsz, h2]
    have h4 := flat_get (List.replicate n a) (i / Flat.n α) a (by simp [h1]) (i % Flat.n α) _ h3
    rw [Nat.mul_comm, Nat.div_add_mod] at h4
    rw [h4]
    simp [madeCells, hi, hsz]
  · have h5 : (flat (List.replicate n a)).length ≤ i := by rw [flat_length]; simp; omega
    rw [List.getElem?_eq_none h5, List.getElem?_eq_none (by simp [madeCells]; omega)]

theorem T.make {α : Type} [Flat α] {x y : Operand} {t e : TypeId} {bytes : Nat} {z : Value} {n : Int} {a : α} (hS : SlT P t e (Flat.n α) bytes z) (hz : z.cells.toList = Flat.enc a)
    (hx : ev σ x = some (.int .i64 n)) (hy : ev σ y = some (.int .i64 n)) (h0 : 0 ≤ n) (hb : (bytes : Int) * n ≤ 140737488355328) (hby : 0 < bytes) :
    OpTo P B m H σ (.makeSlice t x y) ty (fun v m' H' => m' = m ∧ H' = rowF v e (List.replicate n.toNat a) :: H) :=
  .ofRun trivial (defd2 rfl hx hy) fun w hw o ho _ => by
    obtain ⟨i, hi, hzi, hs, hbi⟩ := hS.hi
    have hn : n ≤ (bytes : Int) * n := by
      have : 1 * n ≤ (bytes : Int) * n := Int.mul_le_mul_of_nonneg_right (by omega) h0
      omega
    have hr := run_make (P := P) w t e i z hS.ht hi hzi .i64 .i64 n n h0 (Int.le_refl _) (by rw [hbi]; omega) (by omega)
    refine ⟨_, _, .inl (by simp only [execOp, ho, evd_eq hx, evd_eq hy, Sem.run_bind, hr]; rfl), m, _, ⟨rfl, rfl⟩, ?_⟩
    refine hw.push (Ext.alloc w _) _ ?_ (by simp [rowF, row, Value.ownBlock]) (by simp [rowF, row, Value.ownBlock])
    refine ⟨by rw [flat_length], .inr ⟨w.heap.size, n.toNat, _, by simp, Nat.zero_le _, heap_alloc_new w _, by simp, by simp only [maxLen]; omega, by rw [size_madeCells, hs], ?_⟩⟩
    rw [hs, madeCells_flat z a hz, List.take_of_length_le (by rw [flat_length]; simp)]

theorem store_row {w : World} (hw : St B m H w) {k off : Nat} {v u : Value} {e : TypeId} {sz n : Nat} {xs : List Value} (hH : fetch H k = some (row v e sz n xs)) (ho : off < xs.length) (h1 : u.oneCell' = true) :
    ∃ w', (storeCells (rp v off) [u]).run P w = .ok () w' ∧ St B m (upd H k (row v e sz n (xs.set off u))) w' := by
  have hh : (row v e sz n xs).holds w := fetch_holds hw hH
  have hn : 0 < n := by
    rcases Nat.eq_zero_or_pos n with h0 | h0
    · rw [hh.1, h0] at ho; simp at ho
    · exact h0
  obtain ⟨g, cap, cur, rfl, hg, h3, h4, h5, h6⟩ := row_block hh hn
  have hcur : off < cur.size := by
    have h7 : xs.length ≤ cur.size := by rw [← h6]; simp; omega
    omega
  have hrun := run_storeCells_at P g off e [u] 0 cur w hg (by simp; omega) (by simpa using h1)
  simp only [Nat.add_zero] at hrun
  refine ⟨_, hrun, hw.change hH rfl rfl rfl (by simp [World.setRow]) ?_ ?_ ?_ (by simp [row, Value.ownBlock])⟩
  · intro c _ hc
    exact Kx.setRow_other w g _ c (by simpa [row, Value.ownBlock] using hc)
  · refine ⟨by rw [List.length_set]; exact hh.1, .inr ⟨g, cap, _, rfl, Nat.zero_le _, Kx.setRow_self' w g _ cur e _ hg, h3, h4, ?_, ?_⟩⟩
    · simp; omega
    · simp only [List.length_singleton]
      have : cur.toList.take off ++ [u] ++ cur.toList.drop (off + 1) = cur.toList.set off u := by
        rw [List.set_eq_take_append_cons_drop, if_pos (by simpa using hcur)]; simp
      rw [this, List.take_set, h6]
  · intro c hc; exact .inl hc

theorem flat_set_int (L : List Int) (i : Nat) (y : Int) : (flat L).set i (.int .i64 y) = flat (L.set i y) := by rw [flat_int, flat_int, List.map_set]
theorem T.storeI {x y : Operand} {t e : TypeId} {k i : Nat} {v : Value} {L : List Int} {u : Int} (hz : ∀ w, (sizeOf t).run P w = .ok 1 w)
    (hx : ev σ x = some (.pointer (some (rp v i)))) (hy : ev σ y = some (.int .i64 u)) (hH : fetch H k = some (rowF v e L)) (hi : i < L.length) :
    OpTo P B m H σ (.store t x y) ty (fun _ m' H' => m' = m ∧ H' = upd H k (rowF v e (L.set i u))) :=
  .ofRun trivial (defd2 rfl hx hy) fun w hw o hop _ => by
    obtain ⟨w', hr, hs⟩ := store_row (P := P) (u := .int .i64 u) (off := i) hw hH (by rw [flat_length]; simpa [Flat.n] using hi) rfl
    refine ⟨undef, w', .inr ⟨by simp [execOp, hop, evd_eq hx, evd_eq hy, Instr.storeAt, Instr.sureAddr, storeVar, hz, Value.cells, hr], rfl⟩, m, _, ⟨rfl, rfl⟩, ?_⟩
    rw [flat_set_int] at hs
    simpa [rowF] using hs
theorem WK.own0 (e : TypeId) (sz : Nat) (h : WK N B m (row (.slice none 0 0) e sz 0 [] :: H) σ K) : WK N B m H σ K := by
  intro Ds w hw a ha
  refine h Ds w ?_ a ha
  exact hw.push (Ext.refl w) _ (World.ownsRow_nil w 0 e sz) (by simp [row, Value.ownBlock]) (by simp [row, Value.ownBlock])
theorem WK.ownF (α : Type) [Flat α] (e : TypeId) (h : WK N B m (rowF (.slice none 0 0) e ([] : List α) :: H) σ K) : WK N B m H σ K := WK.own0 e (Flat.n α) h
end
end Go.Kx
