import Derived.Test.YtooomcigmleneaaGreatKxZ
import Derived.Test.YtooomcigmleneaaGreatKxQ
import Derived.Test.YtooomcigmleneaaGreatKxP
import Derived.Test.YtooomcigmleneaaGreatKxL
import Derived.Test.YtooomcigmleneaaGreatKxY
import Derived.Test.YtooomcigmleneaaGreatKxX
/- Ky, part A: a call of the caller's round in a region that draws. -/
namespace Go.Kx
open Go
structure RawV where
  v : Value
  one : v.oneCell' = true
instance : Inhabited RawV := ⟨⟨.slice none 0 0, rfl⟩⟩
instance : Flat RawV := ⟨1, by decide, fun x => [x.v], fun _ => rfl, fun x v hv => by simp at hv; subst hv; exact x.one⟩
theorem St.rowSlA {B : Base} {m : Mem} {H : List Ent} {α : Type} [Enc α] {w : World} (hw : St B m H w) {k : Nat} {v : Value} {e : TypeId} {xs : List Value} {L : List α} (hH : fetch H k = some (row v e (Enc.sz α) L.length xs)) (hx : RdL (Mem.all w) xs L) (hl : L.length ≤ lenB) : Sl (Mem.all w) v L := by
  have hr : (row v e (Enc.sz α) L.length xs).holds w := fetch_holds hw hH
  rcases hr.2 with ⟨rfl, h0⟩ | ⟨g, cap, cur, rfl, _, hg, hnc, hcm, hcs, htake⟩
  · have : L = [] := List.eq_nil_of_length_eq_zero h0
    subst this; exact .nil
  · refine .some _ _ _ (fun _ => rfl) hnc hl hcm ?_
    intro i x hix
    obtain ⟨vs, h3, h4⟩ := hx.2 i x hix
    refine ⟨vs, h3, rfl, cur, e, (0, 0), hg, ?_⟩
    intro j u hu
    have h5 := h4 j u hu
    rw [← htake, List.getElem?_take] at h5
    split at h5
    · simpa [Nat.add_assoc] using h5
    · cases h5
theorem rdvs_gt {α : Type} [Enc α] {m : Mem} : ∀ {vs : List Value} {M : List (List α)} {i : Nat}, RdVs m vs M → (∀ v ∈ vs, v.cells = #[v]) → i < M.length → Sl m (gt vs i) (gt M i)
  | [], [], _, _, _, h => by simp at h
  | [], _ :: _, _, h, _, _ => h.elim
  | _ :: _, [], _, h, _, _ => h.elim
  | v :: vs, L :: M, 0, h, ho, _ => by
    obtain ⟨⟨ws, hw, u, rfl, hu⟩, _⟩ := h
    rw [gt_zero, gt_zero]
    have h1 : v.cells = #[u] := hw
    rw [ho v (List.mem_cons_self ..)] at h1
    have h2 : v = u := by simpa using h1
    rw [h2]; exact hu
  | v :: vs, L :: M, i + 1, h, ho, hi => by
    rw [gt_succ, gt_succ]
    exact rdvs_gt h.2 (fun w hw => ho w (List.mem_cons_of_mem _ hw)) (by simpa using hi)
theorem WK.freezeFam {N : Nat} {B : Base} {m : Mem} {H : List Ent} {σ : Sig} {K : Act → World → Prop} {α : Type} [Flat α] [Enc α] [FlatEnc α] {e : TypeId} {k : Nat} {vs : List Value} {M : List (List α)} (hX : B.X = []) (hH : fetch H k = some (many (rowsG e vs M))) (hlen : vs.length = M.length) (hb : ∀ L ∈ M, L.length ≤ lenB)
    (kk : ∀ m', m.le m' → (∀ i, i < M.length → Sl m' (gt vs i) (gt M i)) → WK N B m' (del H k) σ K) : WK N B m H σ K := by
  obtain ⟨A, C, rfl, hu, hd⟩ := upd_fetch hH
  rw [hd] at kk
  refine WK.st (H' := rowsG e vs M ++ (A ++ C)) (fun {Hm w} hw => ?_) ?_
  · have h1 := (hw.perm (H' := many (rowsG e vs M) :: (A ++ C ++ Hm)) (by
      simp only [List.append_assoc, List.cons_append]
      exact List.perm_middle.symm)).unpack
    simpa using h1
  · exact WK.freezeG0 hX hlen hb fun m' h1 h2 => kk m' h1 fun i hi => rdvs_gt h2.1 h2.2 hi
theorem rdl_set1 {α : Type} [Enc α] {m : Mem} {ws : List Value} {L : List (List α)} {i : Nat} {v : Value} {x : List α} (h : RdL m ws L) (hv : Sl m v x) (hi : i < L.length) : RdL m (ws.set i v) (L.set i x) := by
  have hl : ws.length = L.length * 1 := h.1
  refine ⟨by rw [List.length_set, List.length_set]; exact h.1, fun j y hj => ?_⟩
  rw [List.getElem?_set] at hj
  split at hj
  · rename_i he
    subst he
    cases hj
    refine ⟨[v], ⟨v, rfl, hv⟩, fun q u hu => ?_⟩
    match q, hu with
    | 0, hu =>
      cases hu
      show (ws.set i v)[i * 1 + 0]? = some v
      rw [Nat.mul_one, Nat.add_zero]; simp [show i < ws.length by omega]
  · rename_i he
    obtain ⟨us, h1, h2⟩ := h.2 j y hj
    refine ⟨us, h1, fun q u hu => ?_⟩
    have h3 := h2 q u hu
    obtain ⟨z, rfl, _⟩ := h1
    match q, hu with
    | 0, hu =>
      have h4 : j * Enc.sz (List α) + 0 = j := Nat.mul_one j
      rw [h4] at h3 ⊢
      rw [List.getElem?_set, if_neg he]; exact h3
theorem rdl_nils {α : Type} [Enc α] (m : Mem) (n : Nat) : RdL m (List.replicate n (.slice none 0 0)) (List.replicate n ([] : List α)) := by
  refine ⟨by simp; exact (Nat.mul_one n).symm, fun j y hj => ?_⟩
  obtain ⟨h1, h2⟩ := List.getElem?_eq_some_iff.1 hj
  rw [List.length_replicate] at h1
  rw [List.getElem_replicate] at h2
  subst h2
  refine ⟨[.slice none 0 0], ⟨_, rfl, .nil⟩, fun q u hu => ?_⟩
  match q, hu with
  | 0, hu =>
    cases hu
    have h4 : j * Enc.sz (List α) + 0 = j := Nat.mul_one j
    rw [h4]; simp [h1]
theorem rdl_two {α : Type} [Enc α] {m : Mem} {v u : Value} {L M : List α} (h1 : Sl m v L) (h2 : Sl m u M) : RdL m [v, u] [L, M] :=
  RdL.snoc (xs := [v]) (vs := [u]) (L := [L]) (a := M) (RdL.snoc (xs := []) (vs := [v]) (L := []) (a := L) RdL.nil ⟨v, rfl, h1⟩) ⟨u, rfl, h2⟩
theorem raw_two {v u : Value} (h1 : v.oneCell' = true) (h2 : u.oneCell' = true) : [v, u].flatMap (fun v => v.cells.toList) = flat (α := RawV) [⟨v, h1⟩, ⟨u, h2⟩] := by
  simp [flat, Flat.enc, one_cells h1, one_cells h2]
section
variable {P : Program} {B : Base} {N : Nat} {ops : Array Oper} {piv non : List Nat} {KK : Mem → List Ent → Sig → Prop} {must : Bool} {m : Mem} {H : List Ent} {σ : Sig} {i : Nat} {d : Nat} {op : Op} {ty : TypeId} {pos : String} {after : Array Edge} {g : Option (Nat × Bool)} {π : Plan}
theorem DW.tY {A : List Ent} {T F : Mem → List Ent → Prop} (ho : ops[i]? = some ⟨some d, op, ty, pos, after, g⟩) (hp : piv.contains i = true) (hn : non.contains i = true) (hg : gOk ops σ ⟨some d, op, ty, pos, after, g⟩ = some true)
    (h : OpTo P B m H σ op ty (fun v m' H'' => ∃ H', H'' = A ++ H' ∧ ((v = .bool true ∧ T m' H') ∨ (v = .bool false ∧ F m' H')))) (hT : ∀ m' H', T m' H' → m.le m') (hF : ∀ m' H', F m' H' → m.le m') (hd : d < N)
    (kt : ∀ m' H', T m' H' → DW P B N ops piv non KK false π m' (A ++ H') ((d, .bool true) :: σ)) (kf : ∀ m' H', F m' H' → DW P B N ops piv non KK false π m' (A ++ H') ((d, .bool false) :: σ)) : DW P B N ops piv non KK must (.cons i π) m H σ :=
  DW.to ho hp hg h hd (fun h' => by rw [hn] at h'; cases h') (fun _ m' _ ⟨H', _, hv⟩ => by rcases hv with ⟨_, h1⟩ | ⟨_, h1⟩; exact hT m' H' h1; exact hF m' H' h1) fun v m' H'' ⟨H', hH, hv⟩ => by
    subst hH
    rcases hv with ⟨rfl, h1⟩ | ⟨rfl, h1⟩
    · exact kt m' H' h1
    · exact kf m' H' h1
theorem X.loadRowP {x : Operand} {t e : TypeId} {k off sz n q : Nat} {v : Value} {xs us : List Value} (ha : ∀ w, (isAgg t).run P w = .ok true w) (hz : ∀ w, (sizeOf t).run P w = .ok q w)
    (hx : ev σ x = some (.pointer (some (rp v off)))) (hH : fetch H k = some (row v e sz n xs)) (hn : us.length = q) (hu : ∀ j u, us[j]? = some u → xs[off + j]? = some u) : OpX P B m H σ (.load t x) ty (.agg us.toArray) :=
  .ofRun trivial (defd1 rfl hx) fun w hw o ho _ => by
    subst hn
    have hl := run_loadCells_list (P := P) w (rp v off) us (fun j u hj => by
      have hadd : (rp v off).add j = rp v (off + j) := by
        unfold rp; rw [Addr.add_plain rfl]
      rw [hadd]
      exact (row_cell (fetch_holds hw hH) (hu j u hj)).1)
    simp [execOp, ho, evd_eq hx, Instr.loadAt, Instr.sureAddr, loadVar, ha, hz, hl]
theorem T.storeC2 {x y : Operand} {t e : TypeId} {k off sz n : Nat} {v u w : Value} {xs : List Value} (hz : ∀ w, (sizeOf t).run P w = .ok 1 w)
    (hx : ev σ x = some (.pointer (some (rp v off)))) (hy : ev σ y = some u) (hH : fetch H k = some (row v e sz n (xs.set off w))) (hu : u.oneCell' = true) (ho : off < xs.length) :
    OpTo P B m H σ (.store t x y) ty (fun _ m' H' => m' = m ∧ H' = upd H k (row v e sz n (xs.set off u))) := by
  have h := T.storeC (P := P) (B := B) (m := m) (ty := ty) hz hx hy hH hu (by rw [List.length_set]; exact ho)
  rwa [List.set_set] at h
end
end Go.Kx
