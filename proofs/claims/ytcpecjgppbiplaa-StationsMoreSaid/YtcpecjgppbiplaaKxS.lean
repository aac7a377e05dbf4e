/- Kx, part S: rows of structs that are not plain data: a store of one, an empty literal of them. -/
import Derived.Test.YtcpecjgppbiplaaKxR
namespace Go.Kx
open Go
section
variable {P : Program} {B : Base} {m : Mem} {H : List Ent} {σ : Sig} {ty : TypeId}
theorem RdL.set {α : Type} [Enc α] {m : Mem} {xs us : List Value} {L : List α} {a : α} {i : Nat} (h : RdL m xs L) (ha : Enc.rd m us a) (hi : i < L.length) :
    RdL m (xs.take (i * Enc.sz α) ++ us ++ xs.drop (i * Enc.sz α + us.length)) (L.set i a) := by
  have hus := Enc.len ha
  have hle : (i + 1) * Enc.sz α ≤ L.length * Enc.sz α := Nat.mul_le_mul_right _ hi
  rw [Nat.add_mul, Nat.one_mul] at hle
  have hxl := h.1
  have htl : (xs.take (i * Enc.sz α)).length = i * Enc.sz α := by rw [List.length_take]; omega
  refine ⟨by simp only [List.length_append, List.length_drop, htl, List.length_set]; omega, ?_⟩
  intro j x hx
  rw [List.getElem?_set] at hx
  by_cases hj : i = j
  · subst hj
    rw [if_pos rfl, if_pos hi] at hx
    obtain rfl : a = x := by simpa using hx
    refine ⟨us, ha, fun q u hq => ?_⟩
    have hql : q < us.length := (List.getElem?_eq_some_iff.1 hq).1
    rw [List.append_assoc, List.getElem?_append_right (by omega), htl, show i * Enc.sz α + q - i * Enc.sz α = q by omega, List.getElem?_append_left hql]
    exact hq
  · rw [if_neg hj] at hx
    obtain ⟨vs, h1, h2⟩ := h.2 j x hx
    refine ⟨vs, h1, fun q u hq => ?_⟩
    have h3 := h2 q u hq
    have hql : q < vs.length := (List.getElem?_eq_some_iff.1 hq).1
    have hvs := Enc.len h1
    rcases Nat.lt_or_gt_of_ne hj with hlt | hgt
    · have : (i + 1) * Enc.sz α ≤ j * Enc.sz α := Nat.mul_le_mul_right _ hlt
      rw [Nat.add_mul, Nat.one_mul] at this
      rw [List.getElem?_append_right (by rw [List.length_append, htl]; omega), List.length_append, htl, List.getElem?_drop, show i * Enc.sz α + us.length + (j * Enc.sz α + q - (i * Enc.sz α + us.length)) = j * Enc.sz α + q by omega]
      exact h3
    · have : (j + 1) * Enc.sz α ≤ i * Enc.sz α := Nat.mul_le_mul_right _ hgt
      rw [Nat.add_mul, Nat.one_mul] at this
      rw [List.append_assoc, List.getElem?_append_left (by rw [htl]; omega), List.getElem?_take_of_lt (by omega)]
      exact h3
/-- a struct is stored into an own row of structs -/
theorem T.storeRs {α : Type} [Enc α] {x y : Operand} {t e : TypeId} {k i sz : Nat} {v u : Value} {xs us : List Value} {L : List α} {a : α} (hz : ∀ w, (sizeOf t).run P w = .ok sz w)
    (hx : ev σ x = some (.pointer (some (rp v (i * Enc.sz α))))) (hy : ev σ y = some u) (hc : u.cells = us.toArray) (hl : us.length = sz) (h0 : 0 < us.length) (hH : fetch H k = some (row v e (Enc.sz α) L.length xs)) (hi : i < L.length)
    (hL : RdL m xs L) (ha : Enc.rd m us a) (h1 : ∀ u ∈ us, u.oneCell' = true) :
    OpTo P B m H σ (.store t x y) ty (fun _ m' H' => m' = m ∧ ∃ ys, RdL m ys (L.set i a) ∧ H' = upd H k (row v e (Enc.sz α) (L.set i a).length ys)) :=
  .ofRun trivial (defd2 rfl hx hy) fun w hw o hop _ => by
    have hus := Enc.len ha
    have hlen : i * Enc.sz α + us.length ≤ xs.length := by
      have : (i + 1) * Enc.sz α ≤ L.length * Enc.sz α := Nat.mul_le_mul_right _ hi
      rw [Nat.add_mul, Nat.one_mul] at this
      rw [hL.1]; omega
    obtain ⟨w', hr, hs'⟩ := store_rowL (P := P) (off := i * Enc.sz α) hw hH h0 hlen h1
    refine ⟨undef, w', .inr ⟨by simp [execOp, hop, evd_eq hx, evd_eq hy, Instr.storeAt, Instr.sureAddr, storeVar, hz, hc, hl, hr], rfl⟩, m, _, ⟨rfl, _, hL.set ha hi, rfl⟩, ?_⟩
    rw [List.length_set]; exact hs'
theorem RdL.append {α : Type} [Enc α] {m : Mem} {xs ys : List Value} {K L : List α} (h : RdL m xs K) (h' : RdL m ys L) : RdL m (xs ++ ys) (K ++ L) := by
  refine ⟨by rw [List.length_append, List.length_append, h.1, h'.1, Nat.add_mul], fun i x hx => ?_⟩
  rw [List.getElem?_append] at hx
  split at hx
  · obtain ⟨vs, h1, h2⟩ := h.2 i x hx
    exact ⟨vs, h1, fun j u hj => by have h3 := h2 j u hj; rw [List.getElem?_append_left (List.getElem?_eq_some_iff.1 h3).1]; exact h3⟩
  · rename_i hle
    obtain ⟨vs, h1, h2⟩ := h'.2 _ x hx
    refine ⟨vs, h1, fun j u hj => ?_⟩
    have h3 := h2 j u hj
    have h4 : K.length * Enc.sz α ≤ i * Enc.sz α := Nat.mul_le_mul_right _ (by omega)
    have h5 := h.1
    have h6 : (i - K.length) * Enc.sz α = i * Enc.sz α - K.length * Enc.sz α := Nat.sub_mul _ _ _
    rw [List.getElem?_append_right (by omega), show i * Enc.sz α + j - xs.length = (i - K.length) * Enc.sz α + j by omega]
    exact h3
/-- an empty literal of structs that are not plain data -/
theorem T.lit0R {t e : TypeId} {sz bytes : Nat} {z : Value} (hS : SlT P t e sz bytes z) :
    OpTo P B m H σ (.buildSlice t 0 #[]) ty (fun v m' H' => m' = m ∧ H' = row v e sz 0 [] :: H) :=
  .ofRun trivial (by intro x hx; simp [Op.operands] at hx) fun w hw o ho _ => by
    refine ⟨.slice (some ⟨w.heap.size, 0, none⟩) 0 0, w.alloc (.cells #[] e), .inl ?_, m, _, ⟨rfl, rfl⟩,
      hw.push (Ext.alloc w _) _ ?_ (by simp [row, Value.ownBlock]) (by simp [row, Value.ownBlock])⟩
    · simp [execOp, ho, Instr.buildSlice, hS.u, hS.s, Instr.fill, newRow, show Array.range 0 = #[] from rfl]
    · exact ⟨by simp, .inr ⟨w.heap.size, 0, #[], rfl, Nat.zero_le _, heap_alloc_new w _, Nat.le_refl _, Nat.zero_le _, by simp, by simp⟩⟩
/-- append(own.., l...), with the list that the own row holds -/
theorem T.appendR {α : Type} [Enc α] {s x : Operand} {t e : TypeId} {bytes : Nat} {z : Value} (hS : SlT P t e (Enc.sz α) bytes z) {k : Nat} {v u : Value} {xs : List Value} {K L : List α}
    (hs : ev σ s = some v) (hx : ev σ x = some u) (hL : Sl m u L) (hH : fetch H k = some (row v e (Enc.sz α) K.length xs)) (hK : RdL m xs K)
    (hb : (K.length + L.length) * bytes ≤ 140737488355328) (h63 : K.length + L.length ≤ 9223372036854775807) :
    OpTo P B m H σ (.call (Call.mk (.builtin .append) #[s, x] #[t, t])) ty (fun v' m' H' => m' = m ∧ ∃ ys, RdL m ys (K ++ L) ∧ H' = upd H k (row v' e (Enc.sz α) (K ++ L).length ys)) :=
  by
  have this := T.appendS (P := P) (B := B) (m := m) (ty := ty) hS hs hx hL hH hb h63
  refine ⟨this.sel, this.defd, fun M B w hw o ac next Q ho ht k' => this.run M B w hw o ac next Q ho ht fun v' m' H' w' h hst => k' v' m' H' w' ⟨h.1, ?_⟩ hst⟩
  obtain ⟨_, news, h1, h2⟩ := h
  exact ⟨_, hK.append h1, by rw [h2, List.length_append]⟩
end
section
variable {M : Option Nat} {P : Program} {N : Nat} {ops : Array Oper} {Q : Exit → Act → World → Prop} {B : Base} {m : Mem} {H : List Ent} {σ : Sig} {rest : List Oper}
  {d : Nat} {op : Op} {ty : TypeId} {pos : String} {after : Array Edge}
/-- some row, of which only the list is known -/
theorem WL.te {F : Value → List Value → List Ent} {R : List Value → Prop} (h : OpTo P B m H σ op ty (fun v m' H' => m' = m ∧ ∃ ys, R ys ∧ H' = F v ys)) (hd : d < N)
    (k : ∀ v ys, R ys → WL M P N ops Q B m (F v ys) ((d, v) :: σ) rest) : WL M P N ops Q B m H σ (⟨some d, op, ty, pos, after, none⟩ :: rest) :=
  WL.to h hd fun v m' H' ⟨h1, ys, h2, h3⟩ => by subst h1; subst h3; exact k v ys h2
theorem WL.te0 {F : List Value → List Ent} {R : List Value → Prop} (h : OpTo P B m H σ op ty (fun _ m' H' => m' = m ∧ ∃ ys, R ys ∧ H' = F ys))
    (k : ∀ ys, R ys → WL M P N ops Q B m (F ys) σ rest) : WL M P N ops Q B m H σ (⟨none, op, ty, pos, after, none⟩ :: rest) :=
  WL.to0 h fun _ m' H' ⟨h1, ys, h2, h3⟩ => by subst h1; subst h3; exact k ys h2
variable {i : Nat} {g : Option (Nat × Bool)} {must : Bool} {π : Plan} {piv non : List Nat} {KK : Mem → List Ent → Sig → Prop}
theorem DW.te {F : Value → List Value → List Ent} {R : List Value → Prop} (ho : ops[i]? = some ⟨some d, op, ty, pos, after, g⟩) (hp : piv.contains i = true) (hn : non.contains i = true) (hg : gOk ops σ ⟨some d, op, ty, pos, after, g⟩ = some true)
    (h : OpTo P B m H σ op ty (fun v m' H' => m' = m ∧ ∃ ys, R ys ∧ H' = F v ys)) (hd : d < N) (k : ∀ v ys, R ys → DW P B N ops piv non KK false π m (F v ys) ((d, v) :: σ)) : DW P B N ops piv non KK must (.cons i π) m H σ :=
  DW.to ho hp hg h hd (fun h' => by rw [hn] at h'; cases h') (fun _ _ _ h => by rw [h.1]; exact Mem.le_refl _) fun v m' H' ⟨h1, ys, h2, h3⟩ => by subst h1; subst h3; exact k v ys h2
theorem DW.te0 {F : List Value → List Ent} {R : List Value → Prop} (ho : ops[i]? = some ⟨none, op, ty, pos, after, g⟩) (hp : piv.contains i = true) (hn : non.contains i = true) (hg : gOk ops σ ⟨none, op, ty, pos, after, g⟩ = some true)
    (h : OpTo P B m H σ op ty (fun _ m' H' => m' = m ∧ ∃ ys, R ys ∧ H' = F ys)) (k : ∀ ys, R ys → DW P B N ops piv non KK false π m (F ys) σ) : DW P B N ops piv non KK must (.cons i π) m H σ :=
  ⟨_, ho, (fun e he => by cases he), .inr (.inr ⟨hp, hg, _, h, (fun h' => by rw [hn] at h'; cases h'), (fun _ _ _ h => by rw [h.1]; exact Mem.le_refl _), fun v m' H' ⟨h1, ys, h2, h3⟩ => by subst h1; subst h3; exact k ys h2⟩)⟩
end
section
variable {P : Program} {B : Base} {m : Mem} {σ : Sig} {ty : TypeId}
/-- slices of frozen memory: later they are the same -/
theorem EF.slH {α : Type} [Enc α] {x z : Operand} {t e : TypeId} {v : Value} {L : List α} {j : Int} (h : Nat) (ht : P.underlying t = some (.slice e))
    (hz : ∀ w, (sizeOf e).run P w = .ok (Enc.sz α) w) (hx : ev σ x = some v) (hw : ev σ z = some (.int .i64 j)) (hs : Sl m v L) (hj : j = h) (h2 : h ≤ L.length) :
    ∃ v, (∀ m' H', m.le m' → OpX P B m' H' σ (.slice t x none (some z) none) ty v) ∧ Sl m v (L.take h) := by
  subst hj
  obtain ⟨b, n, c, rfl, hn, hc, hk⟩ := hs.sliced (Nat.zero_le h) h2
  have he : P.elem t = e := by simp [Program.elem, ht]
  have ht' : P.underlying t = some (.slice (P.elem t)) := by rw [he]; exact ht
  refine ⟨_root_.Go.sliced b 0 h c (Enc.sz α), fun m' H' _ => .ofRun trivial (defdL (l := [x, z]) rfl (by simp only [List.mem_cons, forall_eq_or_imp, List.not_mem_nil, false_imp_iff, implies_true, and_true]; exact ⟨⟨_, hx⟩, ⟨_, hw⟩⟩)) fun w _ o ho _ => ?_, by simpa using hk c (by omega) (Nat.le_refl _)⟩
  have hr := run_slice_h (P := P) w t b n c ht' .i64 h (by omega) (by omega)
  rw [← run_sliceAt_slice (P := P) w t _ _ _ _ ht', he, hz] at hr
  simp [execOp, ho, evd_eq hx, evd_eq hw, hr]
theorem EF.slL {α : Type} [Enc α] {x y : Operand} {t e : TypeId} {v : Value} {L : List α} {i : Int} (l : Nat) (ht : P.underlying t = some (.slice e))
    (hz : ∀ w, (sizeOf e).run P w = .ok (Enc.sz α) w) (hx : ev σ x = some v) (hy : ev σ y = some (.int .i64 i)) (hs : Sl m v L) (hi : i = l) (h1 : l ≤ L.length) :
    ∃ v, (∀ m' H', m.le m' → OpX P B m' H' σ (.slice t x (some y) none none) ty v) ∧ Sl m v (L.drop l) := by
  subst hi
  obtain ⟨b, n, c, rfl, hn, hc, hk⟩ := hs.sliced h1 (Nat.le_refl _)
  have he : P.elem t = e := by simp [Program.elem, ht]
  have ht' : P.underlying t = some (.slice (P.elem t)) := by rw [he]; exact ht
  refine ⟨_root_.Go.sliced b l n c (Enc.sz α), fun m' H' _ => .ofRun trivial (defdL (l := [x, y]) rfl (by simp only [List.mem_cons, forall_eq_or_imp, List.not_mem_nil, false_imp_iff, implies_true, and_true]; exact ⟨⟨_, hx⟩, ⟨_, hy⟩⟩)) fun w _ o ho _ => ?_, by
    have := hk c (by omega) (Nat.le_refl _); rw [← hn] at this; rwa [List.take_of_length_le (by simp; omega)] at this⟩
  have hr := run_slice_l (P := P) w t b n c ht' .i64 l (by omega) (by omega)
  rw [← run_sliceAt_slice (P := P) w t _ _ _ _ ht', he, hz] at hr
  simp [execOp, ho, evd_eq hx, evd_eq hy, hr]
end
end Go.Kx
