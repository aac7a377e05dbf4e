import Derived.Test.YtooomcigmleneaaGreatKxR
/- Kx, part S: rows of structs that are not plain data: a store of one, an empty literal of them. -/
namespace Go.Kx
open Go
section
variable {P : Program} {B : Base} {m : Mem} {H : List Ent} {σ : Sig} {ty : TypeId}
theorem RdL.set {α : Type} [Enc α] {m : Mem} {xs us : List Value} {L : List α} {a : α} {i : Nat} (h : RdL m xs L) (ha : Enc.rd m us a) (hi : i < L.length) :
    RdL m (xs.take (i * Enc.sz α) ++ us ++ xs.drop (i * Enc.sz α + us.length)) (L.set i a) := by
  have hus := Enc.len ha
  have hle : (i + 1) * Enc.sz α ≤ L.length * Enc.sz α := Nat.mul_le_mul_right _ hi
  rw [Nat.add_mul, Nat.one_mul] at hle
  have hxl := h.1
  have htl : (xs.take (i * Enc.sz α)).length = i * Enc.sz α := by rw [List.length_take]; omega
  refine ⟨by simp only [List.length_append, List.length_drop, htl, List.length_set]; omega, ?_⟩
  intro j x hx
  rw [List.getElem?_set] at hx
  by_cases hj : i = j
  · subst hj
    rw [if_pos rfl, if_pos hi] at hx
    obtain rfl : a = x := by simpa using hx
    refine ⟨us, ha, fun q u hq => ?_⟩
    have hql : q < us.length := (List.getElem?_eq_some_iff.1 hq).1
    rw [List.append_assoc, List.getElem?_append_right (by omega), htl, show i * Enc.sz α + q - i * Enc.sz α = q by omega, List.getElem?_append_left hql]
    exact hq
  · rw [if_neg hj] at hx
    obtain ⟨vs, h1, h2⟩ := h.2 j x hx
    refine ⟨vs, h1, fun q u hq => ?_⟩
    have h3 := h2 q u hq
    have hql : q < vs.length := (List.getElem?_eq_some_iff.1 hq).1
    have hvs := Enc.len h1
    rcases Nat.lt_or_gt_of_ne hj with hlt | hgt
    · have : (i + 1) * Enc.sz α ≤ j * Enc.sz α := Nat.mul_le_mul_right _ hlt
      rw [Nat.add_mul, Nat.one_mul] at this
      rw [List.getElem?_append_right (by rw [List.length_append, htl]; omega), List.length_append, htl, List.getElem?_drop, show i * Enc.sz α + us.length + (j * Enc.sz α + q - (i * Enc.sz α + us.length)) = j * Enc.sz α + q by omega]
      exact h3
    · have : (j + 1) * Enc.sz α ≤ i * Enc.sz α := Nat.mul_le_mul_right _ hgt
      rw [Nat.add_mul, Nat.one_mul] at this
      rw [List.append_assoc, List.getElem?_append_left (by rw [htl]; omega), List.getElem?_take_of_lt (by omega)]
      exact h3
theorem RdL.append {α : Type} [Enc α] {m : Mem} {xs ys : List Value} {K L : List α} (h : RdL m xs K) (h' : RdL m ys L) : RdL m (xs ++ ys) (K ++ L) := by
  refine ⟨by rw [List.length_append, List.length_append, h.1, h'.1, Nat.add_mul], fun i x hx => ?_⟩
  rw [List.getElem?_append] at hx
  split at hx
  · obtain ⟨vs, h1, h2⟩ := h.2 i x hx
    exact ⟨vs, h1, fun j u hj => by have h3 := h2 j u hj; rw [List.getElem?_append_left (List.getElem?_eq_some_iff.1 h3).1]; exact h3⟩
  · rename_i hle
    obtain ⟨vs, h1, h2⟩ := h'.2 _ x hx
    refine ⟨vs, h1, fun j u hj => ?_⟩
    have h3 := h2 j u hj
    have h4 : K.length * Enc.sz α ≤ i * Enc.sz α := Nat.mul_le_mul_right _ (by omega)
    have h5 := h.1
    have h6 : (i - K.length) * Enc.sz α = i * Enc.sz α - K.length * Enc.sz α := Nat.sub_mul _ _ _
    rw [List.getElem?_append_right (by omega), show i * Enc.sz α + j - xs.length = (i - K.length) * Enc.sz α + j by omega]
    exact h3
end
section
variable {M : Option Nat} {P : Program} {N : Nat} {ops : Array Oper} {Q : Exit → Act → World → Prop} {B : Base} {m : Mem} {H : List Ent} {σ : Sig} {rest : List Oper}
  {d : Nat} {op : Op} {ty : TypeId} {pos : String} {after : Array Edge}
variable {i : Nat} {g : Option (Nat × Bool)} {must : Bool} {π : Plan} {piv non : List Nat} {KK : Mem → List Ent → Sig → Prop}
end
section
variable {P : Program} {B : Base} {m : Mem} {σ : Sig} {ty : TypeId}
theorem EF.slL {α : Type} [Enc α] {x y : Operand} {t e : TypeId} {v : Value} {L : List α} {i : Int} (l : Nat) (ht : P.underlying t = some (.slice e))
    (hz : ∀ w, (sizeOf e).run P w = .ok (Enc.sz α) w) (hx : ev σ x = some v) (hy : ev σ y = some (.int .i64 i)) (hs : Sl m v L) (hi : i = l) (h1 : l ≤ L.length) :
    ∃ v, (∀ m' H', m.le m' → OpX P B m' H' σ (.slice t x (some y) none none) ty v) ∧ Sl m v (L.drop l) := by
  subst hi
  obtain ⟨b, n, c, rfl, hn, hc, hk⟩ := hs.sliced h1 (Nat.le_refl _)
  have he : P.elem t = e := by simp [Program.elem, ht]
  have ht' : P.underlying t = some (.slice (P.elem t)) := by rw [he]; exact ht
  refine ⟨_root_.Go.sliced b l n c (Enc.sz α), fun m' H' _ => .ofRun trivial (defdL (l := [x, y]) rfl (by simp only [List.mem_cons, forall_eq_or_imp, List.not_mem_nil, false_imp_iff, implies_true, and_true]; exact ⟨⟨_, hx⟩, ⟨_, hy⟩⟩)) fun w _ o ho _ => ?_, by
    have := hk c (by omega) (Nat.le_refl _); rw [← hn] at this; rwa [List.take_of_length_le (by simp; omega)] at this⟩
  have hr := run_slice_l (P := P) w t b n c ht' .i64 l (by omega) (by omega)
  rw [← run_sliceAt_slice (P := P) w t _ _ _ _ ht', he, hz] at hr
  simp [execOp, ho, evd_eq hx, evd_eq hy, hr]
end
theorem updR {R : List Ent} {x : Ent} : ∀ {H : List Ent} {k : Nat} {e : Ent}, fetch H k = some e → upd (H ++ R) k x = upd H k x ++ R
  | [], _, _, h => by simp [fetch] at h
  | _ :: _, 0, _, _ => rfl
  | y :: H, k + 1, e, h => by rw [List.cons_append, upd, upd, List.cons_append, updR (H := H) (k := k) (e := e) h]
section
variable {B : Base} {m : Mem} {H : List Ent} {σ : Sig}
end
section
variable {P : Program} {B : Base} {m : Mem} {H : List Ent} {σ : Sig} {ty : TypeId}
theorem X.cap {x : Operand} {t e : TypeId} {p : Option Addr} {n c : Nat} (hu : ∀ w, (underlying t).run P w = .ok (.slice e) w) (hx : ev σ x = some (.slice p n c)) :
    OpX P B m H σ (.call (Call.mk (.builtin .cap) #[x] #[t])) ty (.int .i64 c) :=
  .ofRun trivial (defd1 (by simp [Op.operands, Call.operands]) hx) fun w _ o ho _ => by
    simp [execOp, ho, resolve, invoke, builtin, Builtin.cap_, evd_eq hx, hu, goInt]
end
end Go.Kx
