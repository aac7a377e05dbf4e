import Derived.Test.YtednficclnjmjaaKxP
import Derived.Laws.CopyRow
/- Kx, part Q: what is owned lent to calls that only read; copies within own slices; unsigned numbers. -/
namespace Go.Kx
section
variable {P : Program} {B : Base} {m : Mem} {H : List Ent} {σ : Sig} {ty : TypeId}

/-! ### lending -/
theorem St.leAll {w : World} (hw : St B m H w) : m.le (Mem.all w) := hw.sub
theorem St.rowSl {α : Type} [Enc α] {w : World} (hw : St B m H w) {k : Nat} {v : Value} {e : TypeId} {xs : List Value} {L : List α} (hH : fetch H k = some (row v e (Enc.sz α) L.length xs)) (hx : RdL m xs L) (hl : L.length ≤ lenB) : Sl (Mem.all w) v L := by
  have hr : (row v e (Enc.sz α) L.length xs).holds w := fetch_holds hw hH
  have h2 := hw.leAll
  rcases hr.2 with ⟨rfl, h0⟩ | ⟨g, cap, cur, rfl, _, hg, hnc, hcm, hcs, htake⟩
  · have : L = [] := List.eq_nil_of_length_eq_zero h0
    subst this; exact .nil
  · refine .some _ _ _ (fun _ => rfl) hnc hl hcm ?_
    intro i x hix
    obtain ⟨vs, h3, h4⟩ := hx.2 i x hix
    refine ⟨vs, Enc.mono h2 h3, rfl, cur, e, (0, 0), hg, ?_⟩
    intro j u hu
    have h5 := h4 j u hu
    rw [← htake, List.getElem?_take] at h5
    split at h5
    · simpa [Nat.add_assoc] using h5
    · cases h5
theorem St.rowFSl {α : Type} [Flat α] [Enc α] [FlatEnc α] {w : World} (hw : St B m H w) {k : Nat} {v : Value} {e : TypeId} {L : List α} (hH : fetch H k = some (rowF v e L)) (hl : L.length ≤ lenB) : Sl (Mem.all w) v L :=
  hw.rowSl (by rw [FlatEnc.sz]; exact hH) (RdL.flat m L) hl
theorem X.callL {f : FuncId} {l : List Operand} {ts : Array TypeId} {vs : List Value} {v : Value} (hf : Enters P f) (hl : evs σ l = some vs) (hc : ∀ w, St B m H w → Exact P f vs.toArray (Mem.all w) v) :
    OpX P B m H σ (.call (Call.mk (.value (.func f)) l.toArray ts)) ty v :=
  ⟨trivial, defdc rfl hl, fun w hw o a next Q ho ht k => by
    rw [call_run hf hl w o ho]
    refine (hc w hw w (fun _ _ h => h)).mono fun e w' hr => ?_
    have hx := Ret.ext hr rfl
    obtain ⟨u, m', H', rfl, hs, rfl⟩ := hr
    exact k w' hx⟩
/-! ### unsigned numbers -/
/-! ### parts of own slices, and copies -/
theorem X.slLo {x y : Operand} {t e : TypeId} {g n c sz : Nat} {q : Int} (k : Nat) (ht : P.underlying t = some (.slice e)) (hz : ∀ w, (sizeOf e).run P w = .ok sz w)
    (hx : ev σ x = some (.slice (some ⟨g, 0, none⟩) n c)) (hy : ev σ y = some (.int .i64 q)) (hq : q = k) (h1 : k < n) (h2 : n ≤ c) :
    OpX P B m H σ (.slice t x (some y) none none) ty (.slice (some ⟨g, k * sz, none⟩) (n - k) (c - k)) := by
  subst hq
  have hadd : ∀ j : Nat, (⟨g, 0, none⟩ : Addr).add j = ⟨g, j, none⟩ := fun j => by rw [Addr.add_plain rfl, Nat.zero_add]
  have he : P.elem t = e := by simp [Program.elem, ht]
  have ht' : P.underlying t = some (.slice (P.elem t)) := by rw [he]; exact ht
  refine .ofRun trivial (defdL (l := [x, y]) rfl (by simp only [List.mem_cons, forall_eq_or_imp, List.not_mem_nil, false_imp_iff, implies_true, and_true]; exact ⟨⟨_, hx⟩, ⟨_, hy⟩⟩)) fun w _ o ho _ => ?_
  have hr := run_slice_l (P := P) w t (some ⟨g, 0, none⟩) n c ht' .i64 k (by omega) (by omega)
  rw [← run_sliceAt_slice (P := P) w t _ _ _ _ ht', he, hz] at hr
  simp only [Result.andThen_ok, _root_.Go.sliced, Int.toNat_natCast, if_neg (show ¬ c = k by omega), Option.map_some, hadd] at hr
  simp [execOp, ho, evd_eq hx, evd_eq hy, hr]
theorem X.slHi {x y : Operand} {t e : TypeId} {g n c sz : Nat} {q : Int} (k : Nat) (ht : P.underlying t = some (.slice e)) (hz : ∀ w, (sizeOf e).run P w = .ok sz w)
    (hx : ev σ x = some (.slice (some ⟨g, 0, none⟩) n c)) (hy : ev σ y = some (.int .i64 q)) (hq : q = k) (h1 : k < n) (h2 : n ≤ c) :
    OpX P B m H σ (.slice t x none (some y) none) ty (.slice (some ⟨g, 0, none⟩) k c) := by
  subst hq
  have hadd : ∀ j : Nat, (⟨g, 0, none⟩ : Addr).add j = ⟨g, j, none⟩ := fun j => by rw [Addr.add_plain rfl, Nat.zero_add]
  have he : P.elem t = e := by simp [Program.elem, ht]
  have ht' : P.underlying t = some (.slice (P.elem t)) := by rw [he]; exact ht
  refine .ofRun trivial (defdL (l := [x, y]) rfl (by simp only [List.mem_cons, forall_eq_or_imp, List.not_mem_nil, false_imp_iff, implies_true, and_true]; exact ⟨⟨_, hx⟩, ⟨_, hy⟩⟩)) fun w _ o ho _ => ?_
  have hr := run_slice_h (P := P) w t (some ⟨g, 0, none⟩) n c ht' .i64 k (by omega) (by omega)
  rw [← run_sliceAt_slice (P := P) w t _ _ _ _ ht', he, hz] at hr
  simp only [Result.andThen_ok, _root_.Go.sliced, Int.toNat_natCast, if_neg (show ¬ c = 0 by omega), Option.map_some, hadd, Nat.zero_mul, Nat.sub_zero] at hr
  simp [execOp, ho, evd_eq hx, evd_eq hy, hr]
theorem flat_takeN {α : Type} [Flat α] {L : List α} {k : Nat} (h : k ≤ L.length) : (flat L).take (k * Flat.n α) = flat (L.take k) := by
  have h1 : flat L = flat (L.take k) ++ flat (L.drop k) := by rw [← flat_append, List.take_append_drop]
  have h2 : (flat (L.take k)).length = k * Flat.n α := by rw [flat_length, List.length_take, Nat.min_eq_left h]
  rw [h1, ← h2, List.take_left]
theorem WK.form {N : Nat} {K : Act → World → Prop} {k : Nat} {v : Value} {e : TypeId} {sz n : Nat} {xs : List Value} (hH : fetch H k = some (row v e sz n xs)) (hn : 0 < n) (kk : ∀ g c, v = .slice (some ⟨g, 0, none⟩) n c → n ≤ c → WK N B m H σ K) : WK N B m H σ K := fun Ds w hw a ha => by
  have hh : (row v e sz n xs).holds w := fetch_holds hw (fetchR hH)
  obtain ⟨g, cap, cur, h1, _, h3, _⟩ := row_block hh hn
  exact kk g cap h1 h3 Ds w hw a ha
end
section
variable {M : Option Nat} {P : Program} {N : Nat} {ops : Array Oper} {Q : Exit → Act → World → Prop} {B : Base} {m : Mem} {H : List Ent} {σ : Sig} {rest : List Oper}
  {d : Nat} {op : Op} {ty : TypeId} {pos : String} {after : Array Edge} {i : Nat} {must : Bool} {π : Plan} {piv non : List Nat} {KK : Mem → List Ent → Sig → Prop} {g : Option (Nat × Bool)}
end
end Go.Kx
