/- Kx, part Q: what is owned lent to calls that only read; copies within own slices; unsigned numbers. -/
import Derived.Test.YtcpecjgppbiplaaKxP
import Derived.Laws.CopyRow
namespace Go.Kx
section
variable {P : Program} {B : Base} {m : Mem} {H : List Ent} {σ : Sig} {ty : TypeId}

/-! ### lending -/
/-! ### unsigned numbers -/
/-! ### parts of own slices, and copies -/
theorem X.slLo {x y : Operand} {t e : TypeId} {g n c sz : Nat} {q : Int} (k : Nat) (ht : P.underlying t = some (.slice e)) (hz : ∀ w, (sizeOf e).run P w = .ok sz w)
    (hx : ev σ x = some (.slice (some ⟨g, 0, none⟩) n c)) (hy : ev σ y = some (.int .i64 q)) (hq : q = k) (h1 : k < n) (h2 : n ≤ c) :
    OpX P B m H σ (.slice t x (some y) none none) ty (.slice (some ⟨g, k * sz, none⟩) (n - k) (c - k)) := by
  subst hq
  have hadd : ∀ j : Nat, (⟨g, 0, none⟩ : Addr).add j = ⟨g, j, none⟩ := fun j => by rw [Addr.add_plain rfl, Nat.zero_add]
  have he : P.elem t = e := by simp [Program.elem, ht]
  have ht' : P.underlying t = some (.slice (P.elem t)) := by rw [he]; exact ht
  refine .ofRun trivial (defdL (l := [x, y]) rfl (by simp only [List.mem_cons, forall_eq_or_imp, List.not_mem_nil, false_imp_iff, implies_true, and_true]; exact ⟨⟨_, hx⟩, ⟨_, hy⟩⟩)) fun w _ o ho _ => ?_
  have hr := run_slice_l (P := P) w t (some ⟨g, 0, none⟩) n c ht' .i64 k (by omega) (by omega)
  rw [← run_sliceAt_slice (P := P) w t _ _ _ _ ht', he, hz] at hr
  simp only [Result.andThen_ok, _root_.Go.sliced, Int.toNat_natCast, if_neg (show ¬ c = k by omega), Option.map_some, hadd] at hr
  simp [execOp, ho, evd_eq hx, evd_eq hy, hr]
theorem X.slHi {x y : Operand} {t e : TypeId} {g n c sz : Nat} {q : Int} (k : Nat) (ht : P.underlying t = some (.slice e)) (hz : ∀ w, (sizeOf e).run P w = .ok sz w)
    (hx : ev σ x = some (.slice (some ⟨g, 0, none⟩) n c)) (hy : ev σ y = some (.int .i64 q)) (hq : q = k) (h1 : k < n) (h2 : n ≤ c) :
    OpX P B m H σ (.slice t x none (some y) none) ty (.slice (some ⟨g, 0, none⟩) k c) := by
  subst hq
  have hadd : ∀ j : Nat, (⟨g, 0, none⟩ : Addr).add j = ⟨g, j, none⟩ := fun j => by rw [Addr.add_plain rfl, Nat.zero_add]
  have he : P.elem t = e := by simp [Program.elem, ht]
  have ht' : P.underlying t = some (.slice (P.elem t)) := by rw [he]; exact ht
  refine .ofRun trivial (defdL (l := [x, y]) rfl (by simp only [List.mem_cons, forall_eq_or_imp, List.not_mem_nil, false_imp_iff, implies_true, and_true]; exact ⟨⟨_, hx⟩, ⟨_, hy⟩⟩)) fun w _ o ho _ => ?_
  have hr := run_slice_h (P := P) w t (some ⟨g, 0, none⟩) n c ht' .i64 k (by omega) (by omega)
  rw [← run_sliceAt_slice (P := P) w t _ _ _ _ ht', he, hz] at hr
  simp only [Result.andThen_ok, _root_.Go.sliced, Int.toNat_natCast, if_neg (show ¬ c = 0 by omega), Option.map_some, hadd, Nat.zero_mul, Nat.sub_zero] at hr
  simp [execOp, ho, evd_eq hx, evd_eq hy, hr]
theorem T.copyR {s x : Operand} {t t' e e' : TypeId} {g off dl dc sl sc n0 c0 sz n k : Nat} {a : Addr} {xs : List Value} (cs : List Value) (ht : P.underlying t = some (.slice e)) (hz : ∀ w, (sizeOf e).run P w = .ok sz w)
    (hd : ev σ s = some (.slice (some ⟨g, off, none⟩) dl dc)) (hx : ev σ x = some (.slice (some a) sl sc)) (hH : fetch H k = some (row (.slice (some ⟨g, 0, none⟩) n0 c0) e' sz n xs))
    (hn : cs.length = min sl dl * sz) (hsrc : ∀ B w, St B m H w → ∀ j v, cs[j]? = some v → w.cell? (a.add j) = some v) (hfit : off + cs.length ≤ xs.length) (h0 : 0 < cs.length) (h1 : ∀ v ∈ cs, v.oneCell' = true) :
    OpTo P B m H σ (.call (Call.mk (.builtin .copy) #[s, x] #[t, t'])) ty (fun v m' H' => v = .int .i64 ((min sl dl : Nat) : Int) ∧ m' = m ∧ H' = upd H k (row (.slice (some ⟨g, 0, none⟩) n0 c0) e' sz n (xs.take off ++ cs ++ xs.drop (off + cs.length)))) :=
  ⟨trivial, defd2 (by simp [Op.operands, Call.operands]) hd hx, fun M B w hw o ac next Q ho hty kk => upon_fen M <| by
    have hl := run_loadCells_list (P := P) w a cs (hsrc B w hw)
    rw [hn] at hl
    obtain ⟨w', hst, hs'⟩ := store_rowL (P := P) hw hH h0 hfit h1
    have hst' : (storeCells ⟨g, off, none⟩ cs).run P w = .ok () w' := hst
    have hr : (Builtin.copy_ #[t, t'] o.type #[.slice (some ⟨g, off, none⟩) dl dc, .slice (some a) sl sc]).run P w = .ok (goInt ((min sl dl : Nat) : Int)) w' := by
      simp [Builtin.copy_, run_underlying ht, Builtin.lenOf, Builtin.firstCells, hz, hl, hst']
    have := kk (.int .i64 ((min sl dl : Nat) : Int)) m _ w' ⟨rfl, rfl, rfl⟩ hs'
    simp only [execOp, ho]
    simp [resolve, invoke, builtin, evd_eq hd, evd_eq hx, hr]
    exact this⟩
theorem flat_dropN {α : Type} [Flat α] {L : List α} {k : Nat} (h : k ≤ L.length) : (flat L).drop (k * Flat.n α) = flat (L.drop k) := by
  have h1 : flat L = flat (L.take k) ++ flat (L.drop k) := by rw [← flat_append, List.take_append_drop]
  have h2 : (flat (L.take k)).length = k * Flat.n α := by rw [flat_length, List.length_take, Nat.min_eq_left h]
  rw [h1, ← h2, List.drop_left]
theorem flat_takeN {α : Type} [Flat α] {L : List α} {k : Nat} (h : k ≤ L.length) : (flat L).take (k * Flat.n α) = flat (L.take k) := by
  have h1 : flat L = flat (L.take k) ++ flat (L.drop k) := by rw [← flat_append, List.take_append_drop]
  have h2 : (flat (L.take k)).length = k * Flat.n α := by rw [flat_length, List.length_take, Nat.min_eq_left h]
  rw [h1, ← h2, List.take_left]
theorem flat_oneC {α : Type} [Flat α] (L : List α) : ∀ v ∈ flat L, v.oneCell' = true := by
  intro v hv
  unfold flat at hv
  rw [List.mem_flatMap] at hv
  obtain ⟨x, _, hx⟩ := hv
  exact Flat.one x v hx
theorem WK.form {N : Nat} {K : Act → World → Prop} {k : Nat} {v : Value} {e : TypeId} {sz n : Nat} {xs : List Value} (hH : fetch H k = some (row v e sz n xs)) (hn : 0 < n) (kk : ∀ g c, v = .slice (some ⟨g, 0, none⟩) n c → n ≤ c → WK N B m H σ K) : WK N B m H σ K := fun Ds w hw a ha => by
  have hh : (row v e sz n xs).holds w := fetch_holds hw (fetchR hH)
  obtain ⟨g, cap, cur, h1, _, h3, _⟩ := row_block hh hn
  exact kk g cap h1 h3 Ds w hw a ha
end
section
variable {M : Option Nat} {P : Program} {N : Nat} {ops : Array Oper} {Q : Exit → Act → World → Prop} {B : Base} {m : Mem} {H : List Ent} {σ : Sig} {rest : List Oper}
  {d : Nat} {op : Op} {ty : TypeId} {pos : String} {after : Array Edge} {i : Nat} {must : Bool} {π : Plan} {piv non : List Nat} {KK : Mem → List Ent → Sig → Prop} {g : Option (Nat × Bool)}
/-- the value is known, and what is owned turns -/
theorem WL.tv {V : Value} {H1 : List Ent} (h : OpTo P B m H σ op ty (fun v m' H' => v = V ∧ m' = m ∧ H' = H1)) (hd : d < N) (k : WL M P N ops Q B m H1 ((d, V) :: σ) rest) : WL M P N ops Q B m H σ (⟨some d, op, ty, pos, after, none⟩ :: rest) :=
  WL.to h hd fun v m' H' ⟨h0, h1, h2⟩ => by subst h0; subst h1; subst h2; exact k
theorem DW.tv {V : Value} {H1 : List Ent} (ho : ops[i]? = some ⟨some d, op, ty, pos, after, g⟩) (hp : piv.contains i = true) (hn : non.contains i = true) (hg : gOk ops σ ⟨some d, op, ty, pos, after, g⟩ = some true)
    (h : OpTo P B m H σ op ty (fun v m' H' => v = V ∧ m' = m ∧ H' = H1)) (hd : d < N) (k : DW P B N ops piv non KK false π m H1 ((d, V) :: σ)) : DW P B N ops piv non KK must (.cons i π) m H σ :=
  DW.to ho hp hg h hd (fun h' => by rw [hn] at h'; cases h') (fun _ _ _ h => by rw [h.2.1]; exact Mem.le_refl _) fun v m' H' ⟨h0, h1, h2⟩ => by subst h0; subst h1; subst h2; exact k
end
end Go.Kx
