/- Kx, part P: closures with bound arguments; elements of more than one cell in own slices; arrays taken for structs; slices against nil. -/
import Derived.Test.YtcpecjgppbiplaaKxO
import Derived.Laws.Cover3
namespace Go.Kx
section
variable {P : Program} {B : Base} {m : Mem} {H : List Ent} {σ : Sig} {ty : TypeId}

/-- the value of an own slice is one cell -/
theorem OpTo.own1 {op : Op} {T : Value → Mem → List Ent → Prop} {k : Nat} {v : Value} {e : TypeId} {sz n : Nat} {xs : List Value} (hH : fetch H k = some (row v e sz n xs)) (hs : notSel op) (hd : Kx.defd σ op)
    (h : v.oneCell' = true → OpTo P B m H σ op ty T) : OpTo P B m H σ op ty T :=
  ⟨hs, hd, fun M B' w hw => (h (by
    have hh : (row v e sz n xs).holds w := fetch_holds hw hH
    rcases hh.2 with ⟨rfl, _⟩ | ⟨g, cap, cur, rfl, _⟩ <;> rfl)).run M B' w hw⟩

theorem OpX.own1 {op : Op} {V : Value} {k : Nat} {v : Value} {e : TypeId} {sz n : Nat} {xs : List Value} (hH : fetch H k = some (row v e sz n xs)) (hs : notSel op) (hd : Kx.defd σ op)
    (h : v.oneCell' = true → OpX P B m H σ op ty V) : OpX P B m H σ op ty V :=
  ⟨hs, hd, fun w hw => (h (by
    have hh : (row v e sz n xs).holds w := fetch_holds hw hH
    rcases hh.2 with ⟨rfl, _⟩ | ⟨g, cap, cur, rfl, _⟩ <;> rfl)).run w hw⟩
theorem OpTo.perm {op : Op} {T : Value → Mem → List Ent → Prop} {H' : List Ent} (hp : H'.Perm H) (h : OpTo P B m H' σ op ty T) : OpTo P B m H σ op ty T :=
  ⟨h.sel, h.defd, fun M B' w hw => h.run M B' w (hw.perm hp)⟩
/-! ### a field of a value -/
/-! ### a slice against nil -/
def nilSl : Value → Bool
  | .slice none _ _ => true
  | _ => false
/-! ### arrays taken for structs -/
theorem At.zero {α : Type} [Enc α] {p : Addr} {x : α} (h : At m p x) : At m (p.add 0) x := by simpa [Addr.add] using h

/-! ### elements of own slices -/
theorem take_splice {β : Type} {C us : List β} {off n : Nat} (h : off + us.length ≤ n) (hn : n ≤ C.length) :
    (C.take off ++ us ++ C.drop (off + us.length)).take n = (C.take n).take off ++ us ++ (C.take n).drop (off + us.length) := by
  have hl : (C.take off ++ us).length = off + us.length := by rw [List.length_append, List.length_take, Nat.min_eq_left (by omega)]
  rw [List.take_append, hl, List.take_of_length_le (by omega), List.take_take, Nat.min_eq_left (by omega), List.drop_take]
theorem store_rowL {w : World} (hw : St B m H w) {k off : Nat} {v : Value} {us : List Value} {e : TypeId} {sz n : Nat} {xs : List Value} (hH : fetch H k = some (row v e sz n xs)) (h0 : 0 < us.length) (ho : off + us.length ≤ xs.length) (h1 : ∀ u ∈ us, u.oneCell' = true) :
    ∃ w', (storeCells (rp v off) us).run P w = .ok () w' ∧ St B m (upd H k (row v e sz n (xs.take off ++ us ++ xs.drop (off + us.length)))) w' := by
  have hh : (row v e sz n xs).holds w := fetch_holds hw hH
  have hn : 0 < n := by
    rcases Nat.eq_zero_or_pos n with h2 | h2
    · have := hh.1; rw [h2, Nat.zero_mul] at this; omega
    · exact h2
  obtain ⟨g, cap, cur, rfl, hg, h3, h4, h5, h6⟩ := row_block hh hn
  have h7 : xs.length ≤ cur.size := by rw [← h6]; simp; omega
  have hrun := run_storeCells_at P g off e us 0 cur w hg (by simpa using Nat.le_trans ho h7) (by simpa using h1)
  simp only [Nat.add_zero] at hrun
  refine ⟨_, hrun, hw.change hH rfl rfl rfl (by simp [World.setRow]) ?_ ?_ ?_ (by simp [row, Value.ownBlock])⟩
  · intro c _ hc
    exact Kx.setRow_other w g _ c (by simpa [row, Value.ownBlock] using hc)
  · have hlen : (xs.take off ++ us ++ xs.drop (off + us.length)).length = xs.length := by simp; omega
    refine ⟨by rw [hlen]; exact hh.1, .inr ⟨g, cap, _, rfl, Nat.zero_le _, Kx.setRow_self' w g _ cur e _ hg, h3, h4, ?_, ?_⟩⟩
    · simp; omega
    · have hxl : xs.length = n * sz := hh.1
      have hx : cur.toList.take xs.length = xs := by rw [hxl]; exact h6
      have := take_splice (C := cur.toList) (us := us) (off := off) (n := xs.length) ho (by simpa using h7)
      rw [hx] at this
      rw [← hxl]
      simpa using this
  · intro c hc; exact .inl hc

/-- sums and differences that may pass the ends of the numbers -/
def wr (a : Int) : Int := IntKind.i64.wrap a
attribute [irreducible] wr
/-! ### the place in an own slice, by its number -/
end
end Go.Kx
namespace Go.Kx
section
variable {M : Option Nat} {P : Program} {N : Nat} {ops : Array Oper} {Q : Exit → Act → World → Prop} {B : Base} {m : Mem} {H : List Ent} {σ : Sig} {rest : List Oper}
  {d : Nat} {op : Op} {ty : TypeId} {pos : String} {after : Array Edge} {i : Nat} {must : Bool} {π : Plan} {piv non : List Nat} {KK : Mem → List Ent → Sig → Prop} {g : Option (Nat × Bool)}
/-- an operation that turns nothing, taken for a pivot -/
theorem OpX.to {V : Value} (h : ∀ B, OpX P B m H σ op ty V) : OpTo P B m H σ op ty (fun v m' H' => v = V ∧ m' = m ∧ H' = H) :=
  ⟨(h B).sel, (h B).defd, fun M B' w hw o a next Q ho ht k => upon_fen M <| (h B').run w hw o a next Q ho ht fun w' hx => k V m H w' ⟨rfl, rfl, rfl⟩ (hw.ext hx)⟩
theorem E.to {α : Type} {V : α → Value} {F : α → Prop} (B : Base) (h : ∀ B, E P B m H σ op ty V F) : OpTo P B m H σ op ty (fun v m' H' => (∃ x, v = V x ∧ F x) ∧ m' = m ∧ H' = H) := by
  obtain ⟨x0, h0, _⟩ := h B
  exact ⟨h0.sel, h0.defd, fun M B' w hw o a next Q ho ht k => upon_fen M <| by
    obtain ⟨x, h1, h2⟩ := h B'
    exact h1.run w hw o a next Q ho ht fun w' hx => k (V x) m H w' ⟨⟨x, rfl, h2⟩, rfl, rfl⟩ (hw.ext hx)⟩
end
end Go.Kx
namespace Go.Kx
section
variable {M : Option Nat} {P : Program} {N : Nat} {ops : Array Oper} {Q : Exit → Act → World → Prop} {B : Base} {m : Mem} {H : List Ent} {σ : Sig} {rest : List Oper}
  {d : Nat} {op : Op} {ty : TypeId} {pos : String} {after : Array Edge} {i : Nat} {must : Bool} {π : Plan} {piv non : List Nat} {KK : Mem → List Ent → Sig → Prop} {g : Option (Nat × Bool)}
/-- a call that hands out own memory, the order open -/
theorem DW.tO {R : Mem → List Ent → Value → Prop} (ho : ops[i]? = some ⟨some d, op, ty, pos, after, g⟩) (hp : piv.contains i = true) (hg : gOk ops σ ⟨some d, op, ty, pos, after, g⟩ = some true)
    (h : OpTo P B m H σ op ty (fun v m' H' => m.le m' ∧ ∃ Es, R m' Es v ∧ H' = Es ++ H)) (hd : d < N)
    (k : ∀ m' Es v, m.le m' → R m' Es v → DW P B N ops piv non KK false π m' (Es ++ H) ((d, v) :: σ)) : DW P B N ops piv non KK must (.cons i π) m H σ :=
  DW.to ho hp hg h hd (fun _ v m' H' ⟨h1, Es, _, h3⟩ => by subst h3; exact ⟨h1, List.sublist_append_right _ _⟩) (fun _ _ _ h => h.1) fun v m' H' ⟨h1, Es, h2, h3⟩ => by subst h3; exact k m' Es v h1 h2
/-- one own entry more, no matter where -/
theorem OpTo.taO {F : Value → Ent} (h : OpTo P B m H σ op ty (fun v m' H' => m' = m ∧ H' = F v :: H)) : OpTo P B m H σ op ty (fun v m' H' => m.le m' ∧ ∃ Es, Es = [F v] ∧ H' = Es ++ H) :=
  ⟨h.sel, h.defd, fun M B w hw o a next Q ho ht k => h.run M B w hw o a next Q ho ht fun v m' H' w' ⟨h1, h2⟩ => k v m' H' w' ⟨by rw [h1]; exact Mem.le_refl _, [F v], rfl, h2⟩⟩
/-- an operation that leans on memory alone: later it answers the same -/
theorem DW.xf {V : Value} (ho : ops[i]? = some ⟨some d, op, ty, pos, after, g⟩) (hnp : piv.contains i = false) (hg : gOk ops σ ⟨some d, op, ty, pos, after, g⟩ = some true) (h : ∀ m' H', m.le m' → OpX P B m' H' σ op ty V) (hd : d < N)
    (k : DW P B N ops piv non KK false π m H ((d, V) :: σ)) : DW P B N ops piv non KK false (.cons i π) m H σ :=
  DW.x ho hg (h m H (Mem.le_refl _)) hd k hnp (fun _ => h)
theorem DW.xfe {α : Type} {V : α → Value} {F : α → Prop} (ho : ops[i]? = some ⟨some d, op, ty, pos, after, g⟩) (hnp : piv.contains i = false) (hg : gOk ops σ ⟨some d, op, ty, pos, after, g⟩ = some true) (h : ∃ x, (∀ m' H', m.le m' → OpX P B m' H' σ op ty (V x)) ∧ F x) (hd : d < N)
    (k : ∀ x, F x → DW P B N ops piv non KK false π m H ((d, V x) :: σ)) : DW P B N ops piv non KK false (.cons i π) m H σ := by
  obtain ⟨x, h1, h2⟩ := h; exact DW.xf ho hnp hg h1 hd (k x h2)
end
section
variable {P : Program} {B : Base} {m : Mem} {H : List Ent} {σ : Sig} {ty : TypeId}
theorem EF.idx {α : Type} [Enc α] [Inhabited α] {x y : Operand} {t e : TypeId} {v : Value} {L : List α} {n : Int} (hu : ∀ w, (underlying t).run P w = .ok (.slice e) w)
    (hz : ∀ w, (sizeOf e).run P w = .ok (Enc.sz α) w) (hx : ev σ x = some v) (hy : ev σ y = some (.int .i64 n)) (hs : Sl m v L) (h0 : 0 ≤ n) (h1 : n < L.length) :
    ∃ p, (∀ m' H', m.le m' → OpX P B m' H' σ (.indexAddr t x y) ty (.pointer (some p))) ∧ At m p (gt L n.toNat) :=
  ⟨(slAddr v).add (n.toNat * Enc.sz α), fun m' H' _ => .ofRun trivial (defd2 rfl hx hy) fun w _ o ho _ => by
    cases hs with
    | nil => simp at h1; omega
    | some a _ cap hs hc hb hcap h => simp [execOp, ho, evd_eq hx, evd_eq hy, Instr.indexAt, asIntOf, hu, hz, h0, h1, slAddr], hs.at (by omega)⟩
theorem EF.idxN {α : Type} [Enc α] [Inhabited α] {x y : Operand} {t e : TypeId} {v : Value} {L : List α} (n : Nat) (hu : ∀ w, (underlying t).run P w = .ok (.slice e) w)
    (hz : ∀ w, (sizeOf e).run P w = .ok (Enc.sz α) w) (hx : ev σ x = some v) (hy : ev σ y = some (.int .i64 (n : Int))) (hs : Sl m v L) (h1 : (n : Int) < L.length) :
    ∃ p, (∀ m' H', m.le m' → OpX P B m' H' σ (.indexAddr t x y) ty (.pointer (some p))) ∧ At m p (gt L n) := by
  have := EF.idx (P := P) (B := B) (ty := ty) hu hz hx hy hs (by omega) h1
  simpa using this
theorem EF.idxE {α : Type} [Enc α] [Inhabited α] {x y : Operand} {t e : TypeId} {v : Value} {L : List α} {i : Int} (n : Nat) (hu : ∀ w, (underlying t).run P w = .ok (.slice e) w)
    (hz : ∀ w, (sizeOf e).run P w = .ok (Enc.sz α) w) (hx : ev σ x = some v) (hy : ev σ y = some (.int .i64 i)) (hs : Sl m v L) (hn : i = (n : Int)) (h1 : i < L.length) :
    ∃ p, (∀ m' H', m.le m' → OpX P B m' H' σ (.indexAddr t x y) ty (.pointer (some p))) ∧ At m p (gt L n) := by
  subst hn; exact EF.idxN n hu hz hx hy hs h1
theorem EF.loadSl {α : Type} [Enc α] {x : Operand} {t : TypeId} {p : Addr} {L : List α} (ha : ∀ w, (isAgg t).run P w = .ok false w) (hx : ev σ x = some (.pointer (some p))) (hp : At m p L) :
    ∃ v, (∀ m' H', m.le m' → OpX P B m' H' σ (.load t x) ty v) ∧ Sl m v L := by
  obtain ⟨vs, ⟨v, hv, hs⟩, h2⟩ := hp
  subst hv
  exact ⟨v, fun m' H' hle => .ofRun trivial (defd1 rfl hx) fun w hw o ho _ => by
    simp [execOp, ho, evd_eq hx, Instr.loadAt, Instr.sureAddr, loadVar, ha, (h2.mono hle).cell0 hw.sub], hs⟩
theorem EF.loadAgg {α : Type} [Enc α] {x : Operand} {t : TypeId} {p : Addr} {a : α} (ha : ∀ w, (isAgg t).run P w = .ok true w) (hz : ∀ w, (sizeOf t).run P w = .ok (Enc.sz α) w)
    (hx : ev σ x = some (.pointer (some p))) (hp : At m p a) :
    ∃ vs : List Value, (∀ m' H', m.le m' → OpX P B m' H' σ (.load t x) ty (.agg vs.toArray)) ∧ Enc.rd m vs a := by
  obtain ⟨vs, h1, h2⟩ := hp
  exact ⟨vs, fun m' H' hle => .ofRun trivial (defd1 rfl hx) fun w hw o ho _ => by
    have hl := run_loadCells_list (P := P) w p vs ((h2.mono hle).cell hw.sub)
    rw [Enc.len h1] at hl
    simp [execOp, ho, evd_eq hx, Instr.loadAt, Instr.sureAddr, loadVar, ha, hz, hl], h1⟩
end
end Go.Kx
