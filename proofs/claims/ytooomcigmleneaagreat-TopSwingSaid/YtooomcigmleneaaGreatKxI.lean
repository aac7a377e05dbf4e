import Derived.Test.YtooomcigmleneaaGreatKxH
/- Kx, part I: literals of several elements; small words for the ends of walks. -/
namespace Go.Kx

theorem info_of {P : Program} {t : TypeId} {i : TypeInfo} (h : ∀ w, (typeInfo t).run P w = .ok i w) : P.info? t = some i := by
  have h1 := h default
  cases hi : P.info? t with
  | none => simp [typeInfo, hi] at h1
  | some j => simp [typeInfo, hi] at h1; rw [h1]
theorem bool_true {p : Prop} [Decidable p] (h : p) : Value.bool true = .bool (decide p) := by rw [decide_eq_true h]
theorem bool_false {p : Prop} [Decidable p] (h : ¬ p) : Value.bool false = .bool (decide p) := by rw [decide_eq_false h]
theorem int_eq {a b : Int} (h : a = b) : Value.int .i64 a = .int .i64 b := by rw [h]
theorem dec_eq {p q : Prop} [Decidable p] [Decidable q] (h : p ↔ q) : Value.bool (decide p) = .bool (decide q) := by simp [h]
theorem tup2 {a b a' b' : Value} (h1 : a = a') (h2 : b = b') : Value.tuple #[a, b] = .tuple #[a', b'] := by rw [h1, h2]
theorem ext_gt {α : Type} [Inhabited α] {a b : List α} (hl : a.length = b.length) (h : ∀ j, j < a.length → gt a j = gt b j) : a = b := by
  apply List.ext_getElem? 
  intro j
  by_cases hj : j < a.length
  · rw [gt_eq hj, gt_eq (by omega), h j hj]
  · rw [List.getElem?_eq_none (by omega), List.getElem?_eq_none (by omega)]

/-! ### literals -/
def idx : Nat → List Value → List (Nat × Value)
  | _, [] => []
  | i, v :: l => (i, v) :: idx (i + 1) l

theorem setAll (off : Nat) : ∀ (vs : List Value) (j : Nat) (acc : Array Value), off + j + vs.length ≤ acc.size →
    ((vs.zipIdx j).foldl (fun cs (p : Value × Nat) => cs.setIfInBounds (off + p.2) p.1) acc).toList = acc.toList.take (off + j) ++ vs ++ acc.toList.drop (off + j + vs.length)
  | [], j, acc, _ => by simp
  | u :: us, j, acc, h => by
    simp only [List.length_cons] at h
    simp only [List.zipIdx_cons, List.foldl_cons]
    rw [setAll off us (j + 1) _ (by simp; omega)]
    have hj : off + j < acc.toList.length := by simp; omega
    simp only [Array.toList_setIfInBounds, List.length_cons]
    rw [← Nat.add_assoc, List.take_set, List.take_succ_eq_append_getElem hj, List.set_append]
    have h1 : (acc.toList.take (off + j)).length = off + j := by simp; omega
    rw [if_neg (by omega), h1, Nat.sub_self]
    have h2 : (acc.toList.set (off + j) u).drop (off + j + 1 + us.length) = acc.toList.drop (off + j + (us.length + 1)) := by
      rw [List.drop_set, if_pos (by omega)]; congr 1; omega
    rw [h2]
    simp

theorem fill_seq {sz : Nat} : ∀ (vals : List Value) (j : Nat) (acc : Array Value), (∀ v ∈ vals, v.cells.size = sz) → (j + vals.length) * sz ≤ acc.size →
    ∃ a, Instr.fill (fun i => some (i * sz, sz)) acc (idx j vals) = some a ∧ a.toList = acc.toList.take (j * sz) ++ vals.flatMap (fun v => v.cells.toList) ++ acc.toList.drop ((j + vals.length) * sz)
  | [], j, acc, _, _ => ⟨acc, rfl, by simp⟩
  | v :: vals, j, acc, hv, hl => by
    have hvs : v.cells.size = sz := hv v (List.mem_cons_self ..)
    have hj : j * sz + sz ≤ acc.size := by
      have : (j + 1) * sz ≤ (j + (vals.length + 1)) * sz := Nat.mul_le_mul_right _ (by omega)
      rw [Nat.add_mul] at this; simp only [List.length_cons] at hl; omega
    have hset := setAll (j * sz) v.cells.toList 0 acc (by simp [hvs]; omega)
    simp only [Nat.add_zero, Array.length_toList, hvs] at hset
    simp only [Instr.fill, idx]
    rw [if_neg (by simp [hvs]; omega)]
    rw [← Array.foldl_toList, Array.toList_zipIdx]
    generalize hacc : (v.cells.toList.zipIdx.foldl (fun cs (p : Value × Nat) => cs.setIfInBounds (j * sz + p.2) p.1) acc) = acc' at hset
    have hsz' : acc'.size = acc.size := by
      have := congrArg List.length hset
      simp [hvs] at this
      omega
    obtain ⟨a, h1, h2⟩ := fill_seq vals (j + 1) acc' (fun u hu => hv u (List.mem_cons_of_mem _ hu)) (by rw [hsz']; simp only [List.length_cons] at hl; rw [show j + 1 + vals.length = j + (vals.length + 1) by omega]; exact hl)
    refine ⟨a, ?_, ?_⟩
    · rw [← h1]
    · have hjl : (acc.toList.take (j * sz)).length = j * sz := by simp; omega
      have hcl : (acc.toList.take (j * sz) ++ v.cells.toList).length = (j + 1) * sz := by rw [List.length_append, hjl, Array.length_toList, hvs, Nat.add_mul]; omega
      rw [h2, hset, List.take_append_of_le_length (by rw [hcl]; omega), List.take_of_length_le (by rw [hcl]; omega)]
      have hge : (j + 1) * sz ≤ (j + 1 + vals.length) * sz := Nat.mul_le_mul_right _ (by omega)
      rw [List.drop_append, List.drop_eq_nil_of_le (by rw [hcl]; exact hge), hcl, List.drop_drop]
      simp only [List.flatMap_cons, List.append_assoc, List.nil_append, List.length_cons]
      congr 4
      have : (j + 1 + vals.length) * sz = (j + 1) * sz + vals.length * sz := by rw [Nat.add_mul]
      have h3 : (j + 1) * sz = j * sz + sz := by rw [Nat.add_mul]; omega
      rw [show j + (vals.length + 1) = j + 1 + vals.length by omega]
      omega

def RdVs {α : Type} [Enc α] (m : Mem) : List Value → List α → Prop
  | [], [] => True
  | v :: vs, x :: L => (∃ cs, v.cells = cs.toArray ∧ Enc.rd m cs x) ∧ RdVs m vs L
  | _, _ => False
theorem RdVs.nil {α : Type} [Enc α] {m : Mem} : RdVs (α := α) m [] [] := trivial
theorem RdVs.cons {α : Type} [Enc α] {m : Mem} {v : Value} {vs : List Value} {x : α} {L : List α} {cs : List Value} (h1 : v.cells = cs.toArray) (h2 : Enc.rd m cs x) (h : RdVs m vs L) : RdVs m (v :: vs) (x :: L) := ⟨⟨cs, h1, h2⟩, h⟩

theorem RdVs.rdl {α : Type} [Enc α] {m : Mem} : ∀ {vs : List Value} {L : List α}, RdVs m vs L → RdL m (vs.flatMap fun v => v.cells.toList) L ∧ vs.length = L.length ∧ ∀ v ∈ vs, v.cells.size = Enc.sz α
  | [], [], _ => ⟨RdL.nil, rfl, by simp⟩
  | [], _ :: _, h => h.elim
  | _ :: _, [], h => h.elim
  | v :: vs, x :: L, ⟨⟨cs, h1, h2⟩, h⟩ => by
    obtain ⟨⟨g1, g1'⟩, g2, g3⟩ := RdVs.rdl h
    have hc : v.cells.toList = cs := by rw [h1]
    have hlen : cs.length = Enc.sz α := Enc.len h2
    refine ⟨⟨?_, ?_⟩, by simp [g2], ?_⟩
    · simp only [List.flatMap_cons, List.length_append, hc, hlen, g1, List.length_cons, Nat.add_mul]; omega
    · intro i y hy
      cases i with
      | zero =>
        simp at hy; subst hy
        refine ⟨cs, h2, fun j u hu => ?_⟩
        simp only [List.flatMap_cons, hc, Nat.zero_mul, Nat.zero_add]
        rw [List.getElem?_append_left (List.getElem?_eq_some_iff.1 hu).1]; exact hu
      | succ i =>
        obtain ⟨us, h3, h4⟩ := g1' i y (by simpa using hy)
        refine ⟨us, h3, fun j u hu => ?_⟩
        have := h4 j u hu
        simp only [List.flatMap_cons, hc]
        rw [List.getElem?_append_right (by rw [hlen, Nat.add_mul]; omega), hlen, ← this]
        congr 1; rw [Nat.add_mul]; omega
    · intro u hu
      cases hu with
      | head => rw [h1]; simpa using hlen
      | tail _ hu => exact g3 u hu

section
variable {M : Option Nat} {P : Program} {N : Nat} {ops : Array Oper} {Q : Exit → Act → World → Prop} {B : Base} {m : Mem} {H : List Ent} {σ : Sig} {rest : List Oper}
  {d : Nat} {op : Op} {ty : TypeId} {pos : String} {after : Array Edge} {K : Act → World → Prop}

theorem T.litM {α : Type} [Enc α] {t e : TypeId} {bytes n : Nat} {z : Value} {parts : List (Nat × Operand)} {vals : List Value} {L : List α} (hS : SlT P t e (Enc.sz α) bytes z)
    (hv : evp σ parts = some (idx 0 vals)) (hr : RdVs m vals L) (hn : vals.length = n) (hm : Nat.ble (n * Enc.sz α) 16777216 = true) :
    OpTo P B m H σ (.buildSlice t n parts.toArray) ty (fun v m' H' => H' = H ∧ m.le m' ∧ Sl m' v L) :=
  .ofRun trivial (by intro x hx; exact (evp_map hv).2 x (by simpa [Op.operands] using hx)) fun w hw o ho _ => by
    obtain ⟨h1, h2, h3⟩ := hr.rdl
    have h16 : ¬ 16777216 < n * Enc.sz α := by have := Nat.le_of_ble_eq_true hm; omega
    obtain ⟨a, hf, ha⟩ := fill_seq (sz := Enc.sz α) vals 0 ((Array.range (n * Enc.sz α)).map (z.cells[· % z.cells.size]!)) h3 (by simp [hn])
    have ha' : a.toList = vals.flatMap fun v => v.cells.toList := by
      rw [ha]; simp [hn]
    have hp : ((parts.toArray.map fun (x : Nat × Operand) => (x.1, evd σ x.2)).toList) = idx 0 vals := by simpa using (evp_map hv).1
    obtain ⟨g1, g2⟩ := hw.freshMem (.cells a e)
    refine ⟨.slice (some ⟨w.heap.size, 0, none⟩) n n, w.alloc (.cells a e), .inl ?_, _, H, ⟨rfl, g2, ?_⟩, g1⟩
    · have hp' : (Array.map (fun x : Nat × Operand => match x with | (i, x) => (i, evd σ x)) parts.toArray).toList = idx 0 vals := hp
      simp only [execOp, ho, Instr.buildSlice, Sem.run_bind, hS.u, Result.andThen_ok, hS.s]
      rw [if_neg h16]
      rw [hp']
      by_cases h0 : n * Enc.sz α = 0
      · rw [if_pos h0]
        have : vals = [] := by
          have := Enc.pos (α := α)
          rcases Nat.mul_eq_zero.1 h0 with h | h
          · rw [h] at hn; exact List.eq_nil_of_length_eq_zero hn
          · omega
        subst this
        simp [idx, Instr.fill] at hf ⊢
        simp at hn; subst hn
        simp [newRow]
        have : a = #[] := by apply Array.ext'; rw [ha']; rfl
        rw [this]; congr 2
        exact Array.ext' (by simp [Array.range])
      · rw [if_neg h0]
        simp only [Sem.run_bind, hS.zr, Result.andThen_ok, Sem.run_pure]
        rw [hf]
        simp [newRow]
    · rw [← hn, h2]
      refine .some _ _ _ (fun _ => rfl) (Nat.le_refl _) ?_ ?_ ?_
      · have := Nat.le_of_ble_eq_true hm
        have hpz := Enc.pos (α := α)
        have : n ≤ n * Enc.sz α := Nat.le_mul_of_pos_right _ hpz
        unfold lenB; omega
      · have := Nat.le_of_ble_eq_true hm
        have hpz := Enc.pos (α := α)
        have : n ≤ n * Enc.sz α := Nat.le_mul_of_pos_right _ hpz
        simp only [maxLen]; omega
      · intro i x hix
        obtain ⟨us, h4, h5⟩ := h1.2 i x hix
        refine ⟨us, Enc.mono g2 h4, rfl, a, e, (0, 0), by simp [Mem.put], ?_⟩
        intro j u hu
        have := h5 j u hu
        rw [← ha'] at this
        simpa using this
/-! results that lie in memory -/
theorem retv_cell {a : Array Value} {w : World} {t T' : TypeId} {k b : Nat} {cs : List Value} (hw : St B m H w) (ha : ∀ t v, lk σ t = some v → a[t]? = some v) (hv : lk σ t = some (.pointer (some ⟨b, 0, none⟩))) (hH : fetch H k = some (blk b T' cs))
    (hg : ∀ w, (isAgg T').run P w = .ok true w) (hz : ∀ w, (sizeOf T').run P w = .ok cs.length w) :
    a.getD t undef = .pointer (some ⟨b, 0, none⟩) ∧ (loadVar T' ⟨b, 0, none⟩).run P w = .ok (.agg cs.toArray) w := by
  have h1 := ha t _ hv
  have hl := run_loadCells_list (P := P) w ⟨b, 0, none⟩ cs (fun j v hj => by
    rw [Addr.add_plain rfl, blk_cell hw hH]; simpa using hj)
  exact ⟨by rw [Array.getD_eq_getD_getElem?, h1]; rfl, by simp [loadVar, hg, hz, hl]⟩

theorem WK.retC1 {fn : Func} {R : Ending → World → Prop} {t T' : Nat} (k : Nat) {b : Nat} {cs : List Value} (hres : fn.results = #[.cell t T']) (hv : lk σ t = some (.pointer (some ⟨b, 0, none⟩))) (hH : fetch H k = some (blk b T' cs))
    (hg : ∀ w, (isAgg T').run P w = .ok true w) (hz : ∀ w, (sizeOf T').run P w = .ok cs.length w) (hR : ∀ w, St B m H w → R (.returned (.agg cs.toArray)) w) : WK N B m H σ (bodyPost P fn R .ret) :=
  WK.fin (.inl rfl) (fun w hw a ha => by
    obtain ⟨h1, h2⟩ := retv_cell hw ha hv hH hg hz
    rw [Array.getD_eq_getD_getElem?] at h1
    simp [results, hres, h1, asAddr, h2]) hR
theorem WK.retC2 {fn : Func} {R : Ending → World → Prop} {t T' u : Nat} (k : Nat) {b : Nat} {cs : List Value} {v : Value} (hres : fn.results = #[.cell t T', .tmp u]) (hv : lk σ t = some (.pointer (some ⟨b, 0, none⟩))) (hu : lk σ u = some v) (hH : fetch H k = some (blk b T' cs))
    (hg : ∀ w, (isAgg T').run P w = .ok true w) (hz : ∀ w, (sizeOf T').run P w = .ok cs.length w) (hR : ∀ w, St B m H w → R (.returned (.tuple #[.agg cs.toArray, v])) w) : WK N B m H σ (bodyPost P fn R .ret) :=
  WK.fin (.inl rfl) (fun w hw a ha => by
    obtain ⟨h1, h2⟩ := retv_cell hw ha hv hH hg hz
    rw [Array.getD_eq_getD_getElem?] at h1
    have h3 := ha u v hu
    simp [results, hres, h1, asAddr, h2, h3]) hR
def Good (B : Base) (m : Mem) : Prop := B.m.le m ∧ ∀ b, b < B.w.heap.size → m b = B.m b
theorem WK.good (h : Good B m → WK N B m H σ K) : WK N B m H σ K := fun Ds w hw a ha => h ⟨hw.le, hw.new⟩ Ds w hw a ha
theorem WK.back {m0 : Mem} (hg : Good B m0) (hle : m0.le m) (h : WK N B m0 H σ K) : WK N B m H σ K := fun Ds w hw a ha => h Ds w
  { hw with
    sub := fun b o hb => hw.sub b o (hle b o hb)
    le := hg.1
    new := hg.2
    avoid := fun b hb => by
      cases hm : m0 b with
      | none => rfl
      | some o => have := hw.avoid b hb; rw [hle b o hm] at this; cases this } a ha
end
end Go.Kx
