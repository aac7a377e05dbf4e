import Derived.Test.YtmnipmbgdbdjeaaKxJ
/- Kx, part K: own slices of own slices of numbers. -/
namespace Go.Kx

def rowsOf (e : TypeId) : List Value → List (List Int) → List Ent
  | v :: vs, L :: M => rowF v e L :: rowsOf e vs M
  | _, _ => []

theorem rowsOf_snoc {e : TypeId} {v : Value} {L : List Int} : ∀ {vs : List Value} {M : List (List Int)}, vs.length = M.length → rowsOf e (vs ++ [v]) (M ++ [L]) = rowsOf e vs M ++ [rowF v e L]
  | [], [], _ => rfl
  | [], _ :: _, h => by simp at h
  | _ :: _, [], h => by simp at h
  | u :: vs, K :: M, h => by simp only [List.cons_append, rowsOf]; rw [rowsOf_snoc (by simpa using h)]

theorem gt_zero {α : Type} [Inhabited α] (x : α) (L : List α) : gt (x :: L) 0 = x := by simp [gt]
theorem gt_succ {α : Type} [Inhabited α] (x : α) (L : List α) (i : Nat) : gt (x :: L) (i + 1) = gt L i := by simp [gt]

theorem fetch_rows {e : TypeId} : ∀ {vs : List Value} {M : List (List Int)} {i : Nat}, vs.length = M.length → i < M.length → fetch (rowsOf e vs M) i = some (rowF (gt vs i) e (gt M i))
  | [], [], _, _, h => by simp at h
  | [], _ :: _, _, h, _ => by simp at h
  | _ :: _, [], _, h, _ => by simp at h
  | v :: vs, L :: M, 0, _, _ => by simp [rowsOf, fetch, gt_zero]
  | v :: vs, L :: M, i + 1, h, hi => by
    simp only [rowsOf, fetch, gt_succ]
    exact fetch_rows (by simpa using h) (by simpa using hi)
theorem upd_rows {e : TypeId} {L' : List Int} : ∀ {vs : List Value} {M : List (List Int)} {i : Nat}, vs.length = M.length → i < M.length → upd (rowsOf e vs M) i (rowF (gt vs i) e L') = rowsOf e vs (M.set i L')
  | [], [], _, _, h => by simp at h
  | [], _ :: _, _, h, _ => by simp at h
  | _ :: _, [], _, h, _ => by simp at h
  | v :: vs, L :: M, 0, _, _ => by simp [rowsOf, upd, gt_zero]
  | v :: vs, L :: M, i + 1, h, hi => by
    simp only [rowsOf, upd, gt_succ, List.set_cons_succ]
    rw [upd_rows (by simpa using h) (by simpa using hi)]
theorem fetch_app : ∀ (A : List Ent) (C : List Ent) (i : Nat), fetch (A ++ C) (A.length + i) = fetch C i
  | [], C, i => by simp
  | a :: A, C, i => by
    rw [List.cons_append, List.length_cons, show A.length + 1 + i = (A.length + i) + 1 by omega, fetch]
    exact fetch_app A C i
theorem upd_app (x : Ent) : ∀ (A : List Ent) (C : List Ent) (i : Nat), upd (A ++ C) (A.length + i) x = A ++ upd C i x
  | [], C, i => by simp
  | a :: A, C, i => by
    rw [List.cons_append, List.length_cons, show A.length + 1 + i = (A.length + i) + 1 by omega, upd, upd_app x A C i]; rfl

theorem perm_seg (A C R : List Ent) (x : Ent) : ((A ++ C) ++ (R ++ [x])).Perm ((A ++ x :: C) ++ R) := by
  simp only [List.append_assoc, List.cons_append]
  refine List.Perm.append_left A ?_
  rw [← List.append_assoc]
  exact (List.perm_append_singleton x (C ++ R))
theorem perm_own (r : Ent) (R H : List Ent) : ((r :: H) ++ R).Perm ((r :: ([] ++ R)) ++ H) := List.Perm.cons _ List.perm_append_comm
section
variable {Mo : Option Nat} {P : Program} {N : Nat} {ops : Array Oper} {Q : Exit → Act → World → Prop} {B : Base} {m : Mem} {H : List Ent} {σ : Sig} {rest : List Oper}
  {d : Nat} {op : Op} {ty : TypeId} {pos : String} {after : Array Edge} {K : Act → World → Prop}

theorem WL.perm (H' : List Ent) (hp : H'.Perm H) {l : List Oper} (h : WL Mo P N ops Q B m H' σ l) : WL Mo P N ops Q B m H σ l := fun Ds w hw a ha => h Ds w (hw.perm (hp.append_right _)) a ha
theorem WK.drop {H' : List Ent} {K : Act → World → Prop} (hH : H'.Sublist H) (h : WK N B m H' σ K) : WK N B m H σ K := fun Ds w hw a ha => h Ds w (hw.weaken (hH.append_right _)) a ha
theorem WL.drop {H' : List Ent} {l : List Oper} (hH : H'.Sublist H) (h : WL Mo P N ops Q B m H' σ l) : WL Mo P N ops Q B m H σ l := fun Ds w hw a ha => h Ds w (hw.weaken (hH.append_right _)) a ha
theorem WL.own1 {k : Nat} {v : Value} {e : TypeId} {sz n : Nat} {xs : List Value} (hH : fetch H k = some (row v e sz n xs)) {l : List Oper} (kk : v.oneCell' = true → WL Mo P N ops Q B m H σ l) : WL Mo P N ops Q B m H σ l := fun Ds w hw a ha => by
  refine kk ?_ Ds w hw a ha
  have hh : (row v e sz n xs).holds w := fetch_holds hw (fetchR hH)
  rcases hh.2 with ⟨rfl, _⟩ | ⟨g, cap, cur, rfl, _⟩ <;> rfl

/-- append of one element, the length as the caller writes it -/
theorem T.appendN {s x : Operand} {t e : TypeId} {sz bytes : Nat} {z : Value} (hS : SlT P t e sz bytes z) {k b : Nat} {T : TypeId} {v : Value} {n n' c cap : Nat} {xs news : List Value} {H1 : List Ent}
    (hs : ev σ s = some v) (hx : ev σ x = some (.slice (some ⟨b, 0, none⟩) c cap)) (hH1 : H = blk b T news :: H1) (hH : fetch H1 k = some (row v e sz n xs)) (hl : news.length = c * sz) (h1 : ∀ u ∈ news, u.oneCell' = true)
    (hn : n + c = n') (hb : n' * bytes ≤ 140737488355328) (h63 : n' ≤ 9223372036854775807) :
    OpTo P B m H σ (.call (Call.mk (.builtin .append) #[s, x] #[t, t])) ty (fun v' m' H' => m' = m ∧ H' = upd H1 k (row v' e sz n' (xs ++ news))) := by
  subst hn; exact Kx.T.append hS hs hx hH1 hH hl h1 hb h63

/-! ### one row of many -/
theorem X.loadRows {x : Operand} {t e : TypeId} {k i n : Nat} {v : Value} {vs : List Value} (ha : ∀ w, (isAgg t).run P w = .ok false w)
    (hx : ev σ x = some (.pointer (some (rp v i)))) (hH : fetch H k = some (row v e 1 n vs)) (hi : i < vs.length) : OpX P B m H σ (.load t x) ty (gt vs i) :=
  X.loadRow ha hx hH (gt_eq hi)
theorem X.idxRows {x y : Operand} {t e e' : TypeId} {A : List Ent} {vs : List Value} {M : List (List Int)} {i j : Nat} {q : Int} (hu : ∀ w, (underlying t).run P w = .ok (.slice e') w)
    (hz : ∀ w, (sizeOf e').run P w = .ok 1 w) (hx : ev σ x = some (gt vs i)) (hy : ev σ y = some (.int .i64 q)) (hH : H = A ++ rowsOf e vs M) (hl : vs.length = M.length) (hi : i < M.length) (hq : q = j) (hj : j < (gt M i).length) :
    OpX P B m H σ (.indexAddr t x y) ty (.pointer (some (rp (gt vs i) j))) := by
  subst hq
  have hf : fetch H (A.length + i) = some (rowF (gt vs i) e (gt M i)) := by rw [hH, fetch_app, fetch_rows hl hi]
  have := X.idxI (P := P) (B := B) (m := m) (H := H) (σ := σ) (ty := ty) hu hz hx hy hf (by omega) (by omega)
  simpa using this
theorem X.loadRI {x : Operand} {t e : TypeId} {A : List Ent} {vs : List Value} {M : List (List Int)} {i j : Nat} (ha : ∀ w, (isAgg t).run P w = .ok false w)
    (hx : ev σ x = some (.pointer (some (rp (gt vs i) j)))) (hH : H = A ++ rowsOf e vs M) (hl : vs.length = M.length) (hi : i < M.length) (hj : j < (gt M i).length) :
    OpX P B m H σ (.load t x) ty (.int .i64 (gt (gt M i) j)) :=
  X.loadI ha hx (k := A.length + i) (e := e) (by rw [hH, fetch_app, fetch_rows hl hi]) hj
theorem T.storeRI {x y : Operand} {t e : TypeId} {A : List Ent} {vs : List Value} {M : List (List Int)} {i j : Nat} {u : Int} (hz : ∀ w, (sizeOf t).run P w = .ok 1 w)
    (hx : ev σ x = some (.pointer (some (rp (gt vs i) j)))) (hy : ev σ y = some (.int .i64 u)) (hH : H = A ++ rowsOf e vs M) (hl : vs.length = M.length) (hi : i < M.length) (hj : j < (gt M i).length) :
    OpTo P B m H σ (.store t x y) ty (fun _ m' H' => m' = m ∧ H' = A ++ rowsOf e vs (M.set i ((gt M i).set j u))) := by
  have := T.storeI (P := P) (B := B) (m := m) (σ := σ) (ty := ty) hz hx hy (k := A.length + i) (e := e) (H := H) (by rw [hH, fetch_app, fetch_rows hl hi]) hj
  have he : upd H (A.length + i) (rowF (gt vs i) e ((gt M i).set j u)) = A ++ rowsOf e vs (M.set i ((gt M i).set j u)) := by rw [hH, upd_app, upd_rows hl hi]
  rwa [he] at this

theorem WL.freezeRows0 {e : TypeId} {A : List Ent} (hX : B.X = []) {l : List Oper} : ∀ {vs : List Value} {M : List (List Int)} {m : Mem}, vs.length = M.length → (∀ L ∈ M, L.length ≤ lenB) →
    (∀ m', m.le m' → RdVs m' vs M ∧ (∀ v ∈ vs, v.cells = #[v]) → WL Mo P N ops Q B m' A σ l) → WL Mo P N ops Q B m (A ++ rowsOf e vs M) σ l
  | [], [], m, _, _, k => by simpa [rowsOf] using k m (Mem.le_refl _) ⟨trivial, by simp⟩
  | [], _ :: _, _, h, _, _ => by simp at h
  | _ :: _, [], _, h, _, _ => by simp at h
  | v :: vs, L :: M, m, h, hb, k => by
    refine WL.perm (rowF v e L :: (A ++ rowsOf e vs M)) (by simpa [rowsOf] using List.perm_middle.symm) ?_
    refine WL.freezeF 0 hX rfl (hb L (List.mem_cons_self ..)) fun m1 h1 h2 => ?_
    refine WL.freezeRows0 hX (vs := vs) (M := M) (by simpa using h) (fun L' hL => hb L' (List.mem_cons_of_mem _ hL)) fun m2 h3 h4 => ?_
    refine k m2 (Mem.le_trans h1 h3) ⟨⟨⟨[v], one_cells h2.one, v, rfl, h2.mono h3⟩, h4.1⟩, ?_⟩
    intro u hu
    cases hu with
    | head => exact one_cells h2.one
    | tail _ hu => exact h4.2 u hu
/-- a matrix goes: for reading alone from here on -/
theorem WL.freezeRows {e eo : TypeId} {A : List Ent} {vo : Value} {n : Nat} (hX : B.X = []) {l : List Oper} {vs : List Value} {M : List (List Int)} (hn : n = M.length) (hlen : vs.length = M.length) (hb : ∀ L ∈ M, L.length ≤ lenB) (hM : M.length ≤ lenB)
    (k : ∀ m', m.le m' → Sl m' vo M → WL Mo P N ops Q B m' A σ l) : WL Mo P N ops Q B m (row vo eo 1 n vs :: (A ++ rowsOf e vs M)) σ l := by
  subst hn
  refine WL.freezeRows0 (A := row vo eo 1 M.length vs :: A) hX hlen hb fun m1 h1 hh => ?_
  have h2 := hh.1
  have h3 := hh.2
  clear hh
  have h4 := h2.rdl.1
  have h5 : (vs.flatMap fun v => v.cells.toList) = vs := by
    clear h2 h4 hlen
    induction vs with
    | nil => rfl
    | cons v vs ih => rw [List.flatMap_cons, ih fun u hu => h3 u (List.mem_cons_of_mem _ hu), h3 v (List.mem_cons_self ..)]; rfl
  rw [h5] at h4
  exact WL.freezeL (α := List Int) 0 hX rfl h4 hM fun m2 h6 h7 => k m2 (Mem.le_trans h1 h6) h7
theorem WK.freezeRows {e eo : TypeId} {A : List Ent} {vo : Value} {n : Nat} (hX : B.X = []) {vs : List Value} {M : List (List Int)} (hn : n = M.length) (hlen : vs.length = M.length) (hb : ∀ L ∈ M, L.length ≤ lenB) (hM : M.length ≤ lenB)
    (k : ∀ m', m.le m' → Sl m' vo M → WK N B m' A σ K) : WK N B m (row vo eo 1 n vs :: (A ++ rowsOf e vs M)) σ K := fun Ds w hw a ha => by
  have := WL.freezeRows (Mo := none) (P := default) (N := N) (ops := #[]) (Q := fun _ => K) (B := B) (m := m) (A := A) (σ := σ) (e := e) (eo := eo) (vo := vo) (l := []) hX hn hlen hb hM (fun m' h1 h2 => by
    intro Ds w hw a ha; exact k m' h1 h2 Ds w hw a ha)
  exact this Ds w hw a ha
end
end Go.Kx
