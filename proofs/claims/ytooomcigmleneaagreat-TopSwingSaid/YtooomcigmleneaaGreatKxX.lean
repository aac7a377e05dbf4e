import Derived.Test.YtooomcigmleneaaGreatKxW
import Derived.Test.YtooomcigmleneaaGreatKxK
/- Kx, part X: many own entries as one; families of own rows. -/
namespace Go.Kx
open Go
def many (Es : List Ent) : Ent where
  ids := idsOf Es
  holds w := ∀ e ∈ Es, e.holds w
  loc w w' h hw e he := e.loc w w' (fun _ hb => h _ (mem_idsOf he hb)) (hw e he)
  bound w hw b hb := by
    obtain ⟨e, he, hb'⟩ := mem_idsOf_iff.1 hb
    exact e.bound w (hw e he) b hb'
theorem St.pack {B : Base} {m : Mem} {Es H : List Ent} {w : World} (h : St B m (Es ++ H) w) : St B m (many Es :: H) w := by
  have hi : idsOf (many Es :: H) = idsOf (Es ++ H) := by rw [idsOf_append]; rfl
  refine { h with own := ?_, ids := ?_, avoid := ?_, nodup := ?_ }
  · intro e he
    rcases List.mem_cons.1 he with rfl | he
    · exact fun e he => h.own e (List.mem_append_left _ he)
    · exact h.own e (List.mem_append_right _ he)
  · rw [hi]; exact h.ids
  · rw [hi]; exact h.avoid
  · rw [hi]; exact h.nodup
theorem St.unpack {B : Base} {m : Mem} {Es H : List Ent} {w : World} (h : St B m (many Es :: H) w) : St B m (Es ++ H) w := by
  have hi : idsOf (many Es :: H) = idsOf (Es ++ H) := by rw [idsOf_append]; rfl
  refine { h with own := ?_, ids := ?_, avoid := ?_, nodup := ?_ }
  · intro e he
    rcases List.mem_append.1 he with he | he
    · exact h.own _ (List.mem_cons_self ..) e he
    · exact h.own e (List.mem_cons_of_mem _ he)
  · rw [← hi]; exact h.ids
  · rw [← hi]; exact h.avoid
  · rw [← hi]; exact h.nodup
section
variable {α : Type} [Flat α]
def rowsG (e : TypeId) : List Value → List (List α) → List Ent
  | v :: vs, L :: M => rowF v e L :: rowsG e vs M
  | _, _ => []
theorem rowsG_take {e : TypeId} : ∀ {vs : List Value} {M : List (List α)} {i : Nat}, vs.length = M.length → i < M.length →
    (rowsG e vs M).Perm (rowF (gt vs i) e (gt M i) :: rowsG e (vs.eraseIdx i) (M.eraseIdx i))
  | [], [], _, _, h => by simp at h
  | [], _ :: _, _, h, _ => by simp at h
  | _ :: _, [], _, h, _ => by simp at h
  | v :: vs, L :: M, 0, _, _ => by rw [gt_zero, gt_zero]; exact .refl _
  | v :: vs, L :: M, i + 1, h, hi => by
    rw [gt_succ, gt_succ]
    simp only [rowsG, List.eraseIdx_cons_succ]
    exact ((rowsG_take (vs := vs) (M := M) (i := i) (by simpa using h) (by simpa using hi)).cons _).trans (.swap _ _ _)
theorem gt_set_at {β : Type} [Inhabited β] {L : List β} {i : Nat} (v : β) (h : i < L.length) : gt (L.set i v) i = v := by simp [gt, List.getD, h]
theorem rowsG_put {e : TypeId} {vs : List Value} {M : List (List α)} {i : Nat} (v : Value) (L : List α) (h : vs.length = M.length) (hi : i < M.length) :
    (rowsG e (vs.set i v) (M.set i L)).Perm (rowF v e L :: rowsG e (vs.eraseIdx i) (M.eraseIdx i)) := by
  have := rowsG_take (e := e) (vs := vs.set i v) (M := M.set i L) (i := i) (by simpa using h) (by simpa using hi)
  rwa [gt_set_at _ (by omega), gt_set_at _ hi, List.eraseIdx_set_eq, List.eraseIdx_set_eq] at this
end
theorem upd_fetch : ∀ {H : List Ent} {k : Nat} {e : Ent}, fetch H k = some e → ∃ A C, H = A ++ e :: C ∧ (∀ x, upd H k x = A ++ x :: C) ∧ del H k = A ++ C
  | [], _, _, h => by simp [fetch] at h
  | a :: H, 0, e, h => by
    simp only [fetch, Option.some.injEq] at h; subst h
    exact ⟨[], H, rfl, fun x => rfl, rfl⟩
  | a :: H, k + 1, e, h => by
    obtain ⟨A, C, h1, h2, h3⟩ := upd_fetch (H := H) (k := k) h
    exact ⟨a :: A, C, by rw [h1]; rfl, fun x => by rw [upd, h2 x]; rfl, by rw [del, h3]; rfl⟩
section
variable {N : Nat} {B : Base} {m : Mem} {H : List Ent} {σ : Sig} {K : Act → World → Prop}
theorem WK.st {H' : List Ent} (f : ∀ {Hm : List Ent} {w : World}, St B m (H ++ Hm) w → St B m (H' ++ Hm) w) (h : WK N B m H' σ K) : WK N B m H σ K := fun Ds w hw a ha => h Ds w (f hw) a ha
theorem WK.unpack1 {k : Nat} {Es Es' : List Ent} {e : Ent} (hH : fetch H k = some (many Es)) (hp : Es.Perm (e :: Es')) (h : WK N B m (e :: upd H k (many Es')) σ K) : WK N B m H σ K := by
  obtain ⟨A, C, rfl, hu, _⟩ := upd_fetch hH
  rw [hu] at h
  refine WK.st (fun {Hm w} hw => ?_) h
  have h1 : St B m (Es ++ (A ++ C ++ Hm)) w := (hw.perm (H' := many Es :: (A ++ C ++ Hm)) (by simp only [List.append_assoc, List.cons_append]; exact List.perm_middle.symm)).unpack
  have h2 : St B m (Es' ++ (e :: (A ++ C ++ Hm))) w := h1.perm (by
    refine List.perm_middle.trans ?_
    exact (List.Perm.append_right _ hp.symm))
  exact h2.pack.perm (by
    show ((e :: (A ++ many Es' :: C)) ++ Hm).Perm (many Es' :: e :: (A ++ C ++ Hm))
    simp only [List.cons_append, List.append_assoc]
    exact (List.Perm.cons _ List.perm_middle).trans (.swap _ _ _))
theorem WK.pack1 {k : Nat} {Es Es' : List Ent} {e : Ent} (hH : fetch H k = some (many Es')) (hp : Es.Perm (e :: Es')) (h : WK N B m (upd H k (many Es)) σ K) : WK N B m (e :: H) σ K := by
  obtain ⟨A, C, rfl, hu, _⟩ := upd_fetch hH
  rw [hu] at h
  refine WK.st (fun {Hm w} hw => ?_) h
  have h1 : St B m (Es' ++ (e :: (A ++ C ++ Hm))) w := (hw.perm (H' := many Es' :: e :: (A ++ C ++ Hm)) (by
    show (many Es' :: e :: (A ++ C ++ Hm)).Perm ((e :: (A ++ many Es' :: C)) ++ Hm)
    simp only [List.cons_append, List.append_assoc]
    exact ((List.Perm.cons _ List.perm_middle).trans (.swap _ _ _)).symm)).unpack
  have h2 : St B m (Es ++ (A ++ C ++ Hm)) w := h1.perm ((List.Perm.append_right _ hp).trans List.perm_middle.symm)
  exact h2.pack.perm (by simp only [List.append_assoc, List.cons_append]; exact List.perm_middle)
variable {α : Type} [Flat α]
theorem WK.takeG {k i : Nat} {e : TypeId} {vs : List Value} {M : List (List α)} (hH : fetch H k = some (many (rowsG e vs M))) (hl : vs.length = M.length) (hi : i < M.length)
    (h : WK N B m (rowF (gt vs i) e (gt M i) :: upd H k (many (rowsG e (vs.eraseIdx i) (M.eraseIdx i)))) σ K) : WK N B m H σ K := WK.unpack1 hH (rowsG_take hl hi) h
theorem WK.putG {k i : Nat} {e : TypeId} {vs : List Value} {M : List (List α)} {v : Value} {L : List α} (hH : fetch H k = some (many (rowsG e (vs.eraseIdx i) (M.eraseIdx i)))) (hl : vs.length = M.length) (hi : i < M.length)
    (h : WK N B m (upd H k (many (rowsG e (vs.set i v) (M.set i L)))) σ K) : WK N B m (rowF v e L :: H) σ K := WK.pack1 hH (rowsG_put v L hl hi) h
theorem WK.nilG (α : Type) [Flat α] (e : TypeId) (n : Nat) (h : WK N B m (many (rowsG e (List.replicate n (.slice none 0 0)) (List.replicate n ([] : List α))) :: H) σ K) : WK N B m H σ K := by
  refine WK.st (fun {Hm w} hw => ?_) h
  refine St.pack ?_
  clear h
  induction n with
  | zero => exact hw
  | succ n ih =>
    simp only [List.replicate_succ, rowsG, List.cons_append]
    exact (ih).push (Ext.refl w) _ (World.ownsRow_nil w 0 e (Flat.n α)) (by simp [rowF, row, Value.ownBlock]) (by simp [rowF, row, Value.ownBlock])
theorem WK.freezeG0 {α : Type} [Flat α] [Enc α] [FlatEnc α] {e : TypeId} {A : List Ent} (hX : B.X = []) : ∀ {vs : List Value} {M : List (List α)} {m : Mem}, vs.length = M.length → (∀ L ∈ M, L.length ≤ lenB) →
    (∀ m', m.le m' → RdVs m' vs M ∧ (∀ v ∈ vs, v.cells = #[v]) → WK N B m' A σ K) → WK N B m (rowsG e vs M ++ A) σ K
  | [], [], m, _, _, k => by simpa [rowsG] using k m (Mem.le_refl _) ⟨trivial, by simp⟩
  | [], _ :: _, _, h, _, _ => by simp at h
  | _ :: _, [], _, h, _, _ => by simp at h
  | v :: vs, L :: M, m, h, hb, k => by
    show WK N B m (rowF v e L :: (rowsG e vs M ++ A)) σ K
    refine WK.freezeF 0 hX rfl (hb L (List.mem_cons_self ..)) fun m1 h1 h2 => ?_
    refine WK.freezeG0 hX (vs := vs) (M := M) (by simpa using h) (fun L' hL => hb L' (List.mem_cons_of_mem _ hL)) fun m2 h3 h4 => ?_
    refine k m2 (Mem.le_trans h1 h3) ⟨⟨⟨[v], one_cells h2.one, v, rfl, h2.mono h3⟩, h4.1⟩, ?_⟩
    intro u hu
    cases hu with
    | head => exact one_cells h2.one
    | tail _ hu => exact h4.2 u hu
theorem WK.freezeG {α : Type} [Flat α] [Enc α] [FlatEnc α] {e eo : TypeId} {H1 : List Ent} {vo : Value} {n k : Nat} (hX : B.X = []) {vs : List Value} {M : List (List α)} (hH : fetch H1 k = some (many (rowsG e vs M))) (hn : n = M.length) (hlen : vs.length = M.length) (hb : ∀ L ∈ M, L.length ≤ lenB) (hM : M.length ≤ lenB)
    (kk : ∀ m', m.le m' → Sl m' vo M → WK N B m' (del H1 k) σ K) : WK N B m (row vo eo 1 n vs :: H1) σ K := by
  subst hn
  obtain ⟨A, C, rfl, hu, hd⟩ := upd_fetch hH
  rw [hd] at kk
  refine WK.st (H' := rowsG e vs M ++ (row vo eo 1 M.length vs :: (A ++ C))) (fun {Hm w} hw => ?_) ?_
  · have h1 := (hw.perm (H' := many (rowsG e vs M) :: (row vo eo 1 M.length vs :: (A ++ C) ++ Hm)) (by
      simp only [List.cons_append, List.append_assoc]
      exact ((List.Perm.cons _ List.perm_middle).trans (.swap _ _ _)).symm)).unpack
    simpa using h1
  · refine WK.freezeG0 hX hlen hb fun m1 h1 hh => ?_
    have h2 := hh.1
    have h3 := hh.2
    clear hh
    have h4 := h2.rdl.1
    have h5 : (vs.flatMap fun v => v.cells.toList) = vs := by
      clear h2 h4 hlen hH hu hd kk
      induction vs with
      | nil => rfl
      | cons v vs ih => rw [List.flatMap_cons, ih fun u hu => h3 u (List.mem_cons_of_mem _ hu), h3 v (List.mem_cons_self ..)]; rfl
    rw [h5] at h4
    exact WK.freezeL (α := List α) 0 hX rfl h4 hM fun m2 h6 h7 => kk m2 (Mem.le_trans h1 h6) h7
end
end Go.Kx
