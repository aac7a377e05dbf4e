import Derived.Test.YtooomcigmleneaaGreatKxE
/- Kx, part F: own memory let go for reading; makes and cuts of slices; the rules that a walk types. -/
namespace Go.Kx

theorem St.freezeX {B : Base} {m : Mem} {H : List Ent} {w : World} (h : St B m H w) {k : Nat} {e : Ent} (hX : ∀ b ∈ e.ids, b ∉ B.X) (hH : fetch H k = some e) :
    St B (fun b => if b ∈ e.ids then w.heap[b]? else m b) (del H k) w ∧ m.le (fun b => if b ∈ e.ids then w.heap[b]? else m b) := by
  obtain ⟨A, C, h1, _, h3⟩ := fetch_split hH
  have hle : m.le (fun b => if b ∈ e.ids then w.heap[b]? else m b) := by
    intro b o hb
    dsimp only
    split
    · exact h.sub b o hb
    · exact hb
  have hin : ∀ b ∈ e.ids, b ∈ idsOf H := fun b hb => mem_idsOf (by rw [h1]; simp) hb
  refine ⟨?_, hle⟩
  rw [h3]
  have hs : (A ++ C).Sublist H := by rw [h1]; exact List.Sublist.append (List.Sublist.refl _) (List.sublist_cons_self _ _)
  have hw := h.weaken hs
  have hdis : ∀ b ∈ e.ids, b ∉ idsOf (A ++ C) := by
    have hnd := h.nodup
    rw [h1, idsOf_append, idsOf] at hnd
    intro b hb hc
    rw [idsOf_append] at hc
    have h4 := List.nodup_append.1 hnd
    rcases List.mem_append.1 hc with hc | hc
    · exact h4.2.2 b hc b (List.mem_append_left _ hb) rfl
    · exact (List.nodup_append.1 h4.2.1).2.2 b hb b hc rfl
  refine { hw with sub := ?_, le := Mem.le_trans h.le hle, new := ?_, avoid := ?_ }
  · intro b o hb
    dsimp only at hb
    split at hb
    · exact hb
    · exact h.sub b o hb
  · intro b hb
    rw [if_neg (fun hc => by
      rcases h.ids b (hin b hc) with h5 | h5
      · exact hX b hc h5
      · exact absurd hb (Nat.not_lt.2 h5))]
    exact h.new b hb
  · intro b hb
    rw [if_neg (fun hc => hdis b hc hb)]
    exact hw.avoid b hb

theorem St.freeze {B : Base} {m : Mem} {H : List Ent} {w : World} (h : St B m H w) (hX : B.X = []) {k : Nat} {e : Ent} (hH : fetch H k = some e) :
    St B (fun b => if b ∈ e.ids then w.heap[b]? else m b) (del H k) w ∧ m.le (fun b => if b ∈ e.ids then w.heap[b]? else m b) := h.freezeX (by rw [hX]; simp) hH
theorem St.apart {B : Base} {m : Mem} {A C : List Ent} {w : World} (h : St B m (A ++ C) w) {k : Nat} {e : Ent} (hH : fetch A k = some e) : ∀ b ∈ e.ids, b ∉ idsOf C := by
  obtain ⟨A1, A2, h1, _, _⟩ := fetch_split hH
  have hnd := h.nodup
  rw [idsOf_append] at hnd
  intro b hb hc
  exact (List.nodup_append.1 hnd).2.2 b (mem_idsOf (by rw [h1]; simp) hb) b hc rfl

def RdL {α : Type} [Enc α] (m : Mem) (xs : List Value) (L : List α) : Prop :=
  xs.length = L.length * Enc.sz α ∧ ∀ (i : Nat) (x : α), L[i]? = some x → ∃ vs, Enc.rd m vs x ∧ ∀ (j : Nat) (u : Value), vs[j]? = some u → xs[i * Enc.sz α + j]? = some u
theorem RdL.mono {α : Type} [Enc α] {m m' : Mem} {xs : List Value} {L : List α} (h : RdL m xs L) (hm : m.le m') : RdL m' xs L :=
  ⟨h.1, fun i x hx => by obtain ⟨vs, h1, h2⟩ := h.2 i x hx; exact ⟨vs, Enc.mono hm h1, h2⟩⟩
theorem RdL.nil {α : Type} [Enc α] {m : Mem} : RdL (α := α) m [] [] := ⟨by simp, fun i x h => by simp at h⟩
theorem RdL.snoc {α : Type} [Enc α] {m : Mem} {xs vs : List Value} {L : List α} {a : α} (h : RdL m xs L) (ha : Enc.rd m vs a) : RdL m (xs ++ vs) (L ++ [a]) := by
  refine ⟨by rw [List.length_append, h.1, Enc.len ha, List.length_append, Nat.add_mul]; simp, ?_⟩
  intro i x hx
  rw [List.getElem?_append] at hx
  split at hx
  · rename_i hi
    obtain ⟨us, h1, h2⟩ := h.2 i x hx
    refine ⟨us, h1, fun j u hu => ?_⟩
    have := h2 j u hu
    rw [List.getElem?_append_left (List.getElem?_eq_some_iff.1 this).1]; exact this
  · rename_i hi
    have h0 : i - L.length = 0 := by
      rcases Nat.eq_zero_or_pos (i - L.length) with h0 | h0
      · exact h0
      · rw [List.getElem?_eq_none (by simp; omega)] at hx; cases hx
    rw [h0] at hx; simp at hx; subst hx
    have hi' : i = L.length := by omega
    subst hi'
    refine ⟨vs, ha, fun j u hu => ?_⟩
    rw [List.getElem?_append_right (by rw [h.1]; omega), h.1, Nat.add_sub_cancel_left]; exact hu

class FlatEnc (α : Type) [Flat α] [Enc α] : Prop where
  sz : Enc.sz α = Flat.n α
  rd : ∀ (m : Mem) (x : α), Enc.rd m (Flat.enc x) x
instance : FlatEnc Int := ⟨rfl, fun _ _ => rfl⟩
instance : FlatEnc Bool := ⟨rfl, fun _ _ => rfl⟩

theorem RdL.flat {α : Type} [Flat α] [Enc α] [FlatEnc α] (m : Mem) (L : List α) : RdL m (Kx.flat L) L :=
  ⟨by rw [flat_length, FlatEnc.sz], fun i x hx => ⟨Flat.enc x, FlatEnc.rd m x, fun j u hu => by rw [FlatEnc.sz]; exact flat_get L i x hx j u hu⟩⟩

section
variable {M : Option Nat} {P : Program} {N : Nat} {ops : Array Oper} {Q : Exit → Act → World → Prop} {B : Base} {m : Mem} {H : List Ent} {σ : Sig} {rest : List Oper}
  {d : Nat} {op : Op} {ty : TypeId} {pos : String} {after : Array Edge} {K : Act → World → Prop}

theorem WK.freezeL {α : Type} [Enc α] {v : Value} {e : TypeId} {xs : List Value} {L : List α} (k : Nat) (hX : B.X = []) (hH : fetch H k = some (row v e (Enc.sz α) L.length xs)) (hx : RdL m xs L) (hl : L.length ≤ lenB)
    (kk : ∀ m', m.le m' → Sl m' v L → WK N B m' (del H k) σ K) : WK N B m H σ K := by
  intro Ds w hw a ha
  have hr : (row v e (Enc.sz α) L.length xs).holds w := fetch_holds hw (fetchR hH)
  obtain ⟨h1, h2⟩ := hw.freeze hX (fetchR hH)
  rw [delR hH] at h1
  refine kk _ h2 ?_ Ds w h1 a ha
  rcases hr.2 with ⟨rfl, h0⟩ | ⟨g, cap, cur, rfl, _, hg, hnc, hcm, hcs, htake⟩
  · have : L = [] := List.eq_nil_of_length_eq_zero h0
    subst this; exact .nil
  · refine .some _ _ _ (fun _ => rfl) hnc hl hcm ?_
    intro i x hix
    obtain ⟨vs, h3, h4⟩ := hx.2 i x hix
    refine ⟨vs, Enc.mono h2 h3, rfl, cur, e, (0, 0), by simp [row, Value.ownBlock, hg], ?_⟩
    intro j u hu
    have h5 := h4 j u hu
    rw [← htake, List.getElem?_take] at h5
    split at h5
    · simpa [Nat.add_assoc] using h5
    · cases h5
theorem WK.freezeF {α : Type} [Flat α] [Enc α] [FlatEnc α] {v : Value} {e : TypeId} {L : List α} (k : Nat) (hX : B.X = []) (hH : fetch H k = some (rowF v e L)) (hl : L.length ≤ lenB)
    (kk : ∀ m', m.le m' → Sl m' v L → WK N B m' (del H k) σ K) : WK N B m H σ K :=
  WK.freezeL k hX (by rw [FlatEnc.sz]; exact hH) (RdL.flat m L) hl kk
theorem WK.freezeB {b : Nat} {T' : TypeId} {cs : List Value} (k : Nat) (hX : B.X = []) (hH : fetch H k = some (blk b T' cs))
    (kk : ∀ m', m.le m' → Cells m' ⟨b, 0, none⟩ cs → WK N B m' (del H k) σ K) : WK N B m H σ K := by
  intro Ds w hw a ha
  have hr : (blk b T' cs).holds w := fetch_holds hw (fetchR hH)
  obtain ⟨h1, h2⟩ := hw.freeze hX (fetchR hH)
  rw [delR hH] at h1
  exact kk _ h2 ⟨rfl, cs.toArray, T', (0, 0), by simp only [blk] at hr ⊢; simp [hr], fun j v hv => by simpa using hv⟩ Ds w h1 a ha
theorem WK.freezeS {α : Type} [Enc α] {b : Nat} {T' : TypeId} {cs : List Value} {x : α} (k : Nat) (hX : B.X = []) (hH : fetch H k = some (blk b T' cs)) (hx : Enc.rd m cs x)
    (kk : ∀ m', m.le m' → At m' ⟨b, 0, none⟩ x → WK N B m' (del H k) σ K) : WK N B m H σ K :=
  WK.freezeB k hX hH fun m' hm hc => kk m' hm ⟨cs, Enc.mono hm hx, hc⟩
end
end Go.Kx
