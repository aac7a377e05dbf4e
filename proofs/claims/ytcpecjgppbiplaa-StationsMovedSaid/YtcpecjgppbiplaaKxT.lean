/- Kx, part T: what slices.Insert, Grow and Concat do: appends of zeros that must grow, parts of own slices, overlaps. -/
import Derived.Test.YtcpecjgppbiplaaKxS
import Derived.Lib.Overlaps
namespace Go.Kx
open Go
section
variable {P : Program} {B : Base} {m : Mem} {H : List Ent} {σ : Sig} {ty : TypeId}
theorem X.lenV {x : Operand} {t e : TypeId} {p : Option Addr} {n c : Nat} {q : Int} (hu : ∀ w, (underlying t).run P w = .ok (.slice e) w) (hx : ev σ x = some (.slice p n c)) (hq : q = n) :
    OpX P B m H σ (.call (Call.mk (.builtin .len) #[x] #[t])) ty (.int .i64 q) :=
  .ofRun trivial (defd1 (by simp [Op.operands, Call.operands]) hx) fun w _ o ho _ => by
    subst hq
    simp [execOp, ho, resolve, invoke, builtin, Builtin.len_, evd_eq hx, hu, goInt]
/-- a slice from a place on, whatever it is -/
theorem X.slLoA {x y : Operand} {t e : TypeId} {g n c sz : Nat} {q : Int} (k : Nat) (ht : P.underlying t = some (.slice e)) (hz : ∀ w, (sizeOf e).run P w = .ok sz w)
    (hx : ev σ x = some (.slice (some ⟨g, 0, none⟩) n c)) (hy : ev σ y = some (.int .i64 q)) (hq : q = k) (h1 : k ≤ n) :
    OpX P B m H σ (.slice t x (some y) none none) ty (_root_.Go.sliced (some ⟨g, 0, none⟩) k n c sz) := by
  subst hq
  have he : P.elem t = e := by simp [Program.elem, ht]
  have ht' : P.underlying t = some (.slice (P.elem t)) := by rw [he]; exact ht
  refine .ofRun trivial (defdL (l := [x, y]) rfl (by simp only [List.mem_cons, forall_eq_or_imp, List.not_mem_nil, false_imp_iff, implies_true, and_true]; exact ⟨⟨_, hx⟩, ⟨_, hy⟩⟩)) fun w _ o ho _ => ?_
  have hr := run_slice_l (P := P) w t (some ⟨g, 0, none⟩) n c ht' .i64 k (by omega) (by omega)
  rw [← run_sliceAt_slice (P := P) w t _ _ _ _ ht', he, hz] at hr
  simp only [Result.andThen_ok, Int.toNat_natCast] at hr
  simp [execOp, ho, evd_eq hx, evd_eq hy, hr]
/-- a call of a function of the library that the model answers itself -/
theorem X.ext {f : FuncId} {l : List Operand} {ts : Array TypeId} {vs : List Value} {v : Value} (hl : evs σ l = some vs) (hc : ∀ w, St B m H w → (callFunc f vs.toArray).run P w = .ok (.value v) w) :
    OpX P B m H σ (.call (Call.mk (.value (.func f)) l.toArray ts)) ty v :=
  ⟨trivial, defdc rfl hl, fun w hw o a next Q ho ht k => by
    have h1 := (evs_map hl).1
    have h2 := hc w hw
    have hr : (execOp (evd σ) o).run P w = .ok (.value v) w := by
      simp [execOp, ho, resolve, Deferred.ofValue, evd, ev, invoke]
      rw [show l.map (fun x => evd σ x) = vs from h1]
      simpa using h2
    rw [hr]; exact k w (Ext.refl w)⟩
/-- a block of its own and an own row that has cells do not overlap -/
theorem run_overlaps_own {P : Program} {w : World} (hw : St B m H w) {tS tR e : TypeId} (ht : P.underlying tS = some (.slice e)) {sz : Nat} (hz : ∀ w, (Go.sizeOf e).run P w = .ok sz w)
    {j k b g n c off la ca lb cb : Nat} {T e' : TypeId} {cs xs : List Value} {sz' : Nat} (hb : fetch H j = some (blk b T cs)) (hr : fetch H k = some (row (.slice (some ⟨g, 0, none⟩) n c) e' sz' n xs)) (hn : 0 < n) (hs : 0 < sz') (hne : b ≠ g) :
    (Extern.SlicesOverlaps.overlaps #[tS, tS] #[tR] #[.slice (some ⟨b, 0, none⟩) la ca, .slice (some ⟨g, off, none⟩) lb cb]).run P w = .ok (.bool false) w := by
  have h1 : w.heap[b]? = some (.cells cs.toArray T (0, 0)) := fetch_holds hw hb
  have hh : (row (.slice (some ⟨g, 0, none⟩) n c) e' sz' n xs).holds w := fetch_holds hw hr
  obtain ⟨g', cap, cur, hv, hg, hnc, hcs⟩ : ∃ g' cap cur, (Value.slice (some ⟨g, 0, none⟩) n c) = .slice (some ⟨g', 0, none⟩) n cap ∧ w.heap[g']? = some (.cells cur e' (0, 0)) ∧ n ≤ cap ∧ cur.size = cap * sz' := by
    rcases hh.2 with ⟨hv, _⟩ | ⟨g', cap, cur, hv, _, h3, h4, _, h6, _⟩
    · cases hv
    · exact ⟨g', cap, cur, hv, h3, h4, h6⟩
  cases hv
  have hpos : 0 < c * sz' := Nat.mul_pos (by omega) hs
  exact Lib.run_overlaps_apart w tS tR e ht sz hz ⟨b, 0, none⟩ ⟨g, off, none⟩ la ca lb cb hne T e' cs.length cur.size (by simp [World.shape?, h1]) (by simp [World.shape?, hg]) (by omega) (by simp [World.frozen?, h1]) (by simp [World.frozen?, h1])
theorem two_apart {w : World} (hw : St B m H w) {j k b g : Nat} {n c : Nat} {T e' : TypeId} {cs xs : List Value} {sz' : Nat} (hb : fetch H j = some (blk b T cs)) (hr : fetch H k = some (row (.slice (some ⟨g, 0, none⟩) n c) e' sz' n xs)) (hjk : j ≠ k) : b ≠ g := by
  intro hbg
  subst hbg
  have key : ∀ (H : List Ent) (j k : Nat) (x y : Ent), fetch H j = some x → fetch H k = some y → j ≠ k → (idsOf H).Nodup → b ∈ x.ids → b ∉ y.ids := by
    intro H
    induction H with
    | nil => intro j k x y h; simp [fetch] at h
    | cons z H ih =>
      intro j k x y hx hy hjk hnd hbx hby
      simp only [idsOf] at hnd
      obtain ⟨h1, h2, h3⟩ := List.nodup_append.1 hnd
      have mem : ∀ (H : List Ent) (q : Nat) (x : Ent), fetch H q = some x → x ∈ H := by
        intro H
        induction H with
        | nil => intro q x h; simp [fetch] at h
        | cons z H ih =>
          intro q x h
          cases q with
          | zero => simp [fetch] at h; simp [h]
          | succ q => exact List.mem_cons_of_mem _ (ih q x h)
      cases j with
      | zero =>
        cases k with
        | zero => exact hjk rfl
        | succ k =>
          simp only [fetch] at hx hy; cases hx
          exact h3 b hbx b (mem_idsOf (mem H k y hy) hby) rfl
      | succ j =>
        cases k with
        | zero =>
          simp only [fetch] at hx hy; cases hy
          exact h3 b hby b (mem_idsOf (mem H j x hx) hbx) rfl
        | succ k => exact ih j k x y hx hy (fun e => hjk (by rw [e])) h2 hbx hby
  exact key H j k _ _ hb hr hjk hw.nodup (by simp [blk]) (by simp [row, Value.ownBlock])
/-- append(own[:l], zeros...), beyond its capacity: a new row -/
theorem T.appendZ {s x : Operand} {t e ti : TypeId} {sz bytes : Nat} {z : Value} (hS : SlT P t e sz bytes z) (hi64 : P.underlying ti = some (.int .i64)) {k g l n c : Nat} {q : Int} {xs : List Value} (p : Nat)
    (hs : ev σ s = some (.slice (some ⟨g, 0, none⟩) l c)) (hx : ev σ x = some (.int .i64 q)) (hq : q = p) (hH : fetch H k = some (row (.slice (some ⟨g, 0, none⟩) n c) e sz n xs)) (hln : l ≤ n) (hp : 0 < p) (hsz : 0 < sz) (hgrow : c < l + p)
    (hb : (l + p) * bytes ≤ 140737488355328) (h63 : l + p ≤ 9223372036854775807) {N : Nat} (hN : l + p = N) :
    OpTo P B m H σ (.call (Call.mk (.builtin .append) #[s, x] #[t, ti])) ty (fun v m' H' => m' = m ∧ ∃ g' c' zs, v = .slice (some ⟨g', 0, none⟩) N c' ∧ N ≤ c' ∧ zs.length = p * sz ∧ H' = row v e sz N (xs.take (l * sz) ++ zs) :: H) :=
  .ofRun trivial (defd2 (by simp [Op.operands, Call.operands]) hs hx) fun w hw o ho _ => by
    subst hq; subst hN
    obtain ⟨i, hi, hz, hs', hby⟩ := hS.hi
    have hzs := hS.hz
    have ht := hS.ht
    subst hs'; subst hby
    have hh : (row (.slice (some ⟨g, 0, none⟩) n c) e i.size n xs).holds w := fetch_holds hw hH
    have hxl := hh.1
    have hlx : l * i.size ≤ xs.length := by rw [hxl]; exact Nat.mul_le_mul_right _ hln
    have hol : (xs.take (l * i.size)).length = l * i.size := by rw [List.length_take]; omega
    have holds : ∀ j u, (xs.take (l * i.size))[j]? = some u → w.drew.cell? ((⟨g, 0, none⟩ : Addr).add j) = some u := by
      intro j u hu
      rw [List.getElem?_take] at hu
      split at hu
      · have := hh.cells (g := g) rfl j u hu
        simpa using this
      · cases hu
    have hfo := run_firstCells_some (P := P) w.drew i.size l ⟨g, 0, none⟩ l c (xs.take (l * i.size)) hol holds
    have hpb : (p : Int) * (i.bytes : Int) ≤ 281474976710656 := by
      have h1 : p * i.bytes ≤ (l + p) * i.bytes := Nat.mul_le_mul_right _ (by omega)
      have h2 : ((p * i.bytes : Nat) : Int) ≤ 281474976710656 := by omega
      rw [Int.natCast_mul] at h2; exact h2
    have hw1 : IntKind.i64.wrap (p : Int) = p := wrap_in (by omega) (by omega)
    have hg1 : ¬ (l + p ≤ c) := by omega
    have h63' : ¬ (9223372036854775807 < ((l : Int) + (p : Int))) := by omega
    have h48' : ¬ (281474976710656 < Builtin.nextslicecap (l + p) c * i.bytes) := by have := growslice_fits (need := l + p) (old := c) (by omega) hb; omega
    have hneg : ¬ ((p : Int) < 0) := by omega
    have hpb' : ¬ (281474976710656 < (p : Int) * (i.bytes : Int)) := by omega
    have hge := grownCap_ge w (l + p) c e
    refine ⟨.slice (some ⟨w.heap.size, 0, none⟩) (l + p) (grownCap w (l + p) c e), w.drew.alloc (.cells ((xs.take (l * i.size)).toArray ++ Builtin.zeroCells z.cells p ++ Builtin.zeroCells z.cells (grownCap w (l + p) c e - (l + p))) e), .inl ?_, m, _,
      ⟨rfl, w.heap.size, grownCap w (l + p) c e, (Builtin.zeroCells z.cells p).toList, rfl, hge, ?_, rfl⟩, ?_⟩
    · have hr : (Builtin.append_ #[t, ti] o.type #[.slice (some ⟨g, 0, none⟩) l c, .int .i64 (p : Int)]).run P w = .ok (.slice (some ⟨w.heap.size, 0, none⟩) (l + p) (grownCap w (l + p) c e)) (w.drew.alloc (.cells ((xs.take (l * i.size)).toArray ++ Builtin.zeroCells z.cells p ++ Builtin.zeroCells z.cells (grownCap w (l + p) c e - (l + p))) e)) := by
        have hmx : max (p : Int) 0 = p := by omega
        simp [Builtin.append_, run_underlying ht, run_underlying hi64, sizeOf, typeInfo, zeroValue, hi, hz, asInt, asIntOf, hw1, hneg, hpb', hg1, h63', h48', Question.forced, hfo, newRow, grownCap, hmx]
        intro h; exact absurd h (Nat.ne_of_gt (Nat.mul_pos hp hsz))
      simp only [execOp, ho]
      simp [resolve, invoke, builtin, evd_eq hs, evd_eq hx, hr]
    · simp [size_zeroCells, hzs]
    · refine hw.push (Ext.trans (Ext.drew w) (Ext.alloc w.drew _)) _ ?_ (by simp [row, Value.ownBlock]) (by simp [row, Value.ownBlock])
      have hlen : (xs.take (l * i.size) ++ (Builtin.zeroCells z.cells p).toList).length = (l + p) * i.size := by
        rw [List.length_append, hol, Array.length_toList, size_zeroCells, hzs, Nat.add_mul]
      refine ⟨hlen, .inr ⟨w.heap.size, _, _, rfl, Nat.zero_le _, heap_alloc_new w.drew _, hge, grownCap_le_maxLen w (l + p) c e (by simpa [maxLen] using h63), ?_, ?_⟩⟩
      · simp only [Array.size_append, List.size_toArray, size_zeroCells, hzs, hol, ← Nat.add_mul]
        congr 1
        omega
      · simp only [Array.toList_append]
        rw [← hlen]
        exact List.take_left
/-- the cells of a part of an own row -/
theorem row_src {k g n c n' off : Nat} {e : TypeId} {sz : Nat} {xs cs : List Value} (hH : fetch H k = some (row (.slice (some ⟨g, 0, none⟩) n c) e sz n' xs)) (hc : ∀ j v, cs[j]? = some v → xs[off + j]? = some v) :
    ∀ B w, St B m H w → ∀ j v, cs[j]? = some v → w.cell? ((⟨g, off, none⟩ : Addr).add j) = some v := fun B w hw j v hj => by
  have h3 := (row_cell (fetch_holds hw hH) (hc j v hj)).1
  have hadd : (⟨g, off, none⟩ : Addr).add j = rp (.slice (some ⟨g, 0, none⟩) n c) (off + j) := by rw [Addr.add_plain rfl]; rfl
  rw [hadd]; exact h3
end
section
variable {α : Type} [Flat α]
theorem flat_from {L : List α} {k : Nat} (hk : k ≤ L.length) : ∀ j v, (flat (L.drop k))[j]? = some v → (flat L)[k * Flat.n α + j]? = some v := fun j v hj => by
  rw [← flat_dropN hk, List.getElem?_drop] at hj; exact hj
theorem flat_fromZ {L : List α} {k : Nat} {zs : List Value} (hk : k ≤ L.length) : ∀ j v, (flat (L.drop k))[j]? = some v → (flat L ++ zs)[k * Flat.n α + j]? = some v := fun j v hj => by
  have h1 := flat_from hk j v hj
  rw [List.getElem?_append_left (List.getElem?_eq_some_iff.1 h1).1]; exact h1
theorem rowF_of {v : Value} {e : TypeId} {n : Nat} {xs : List Value} {L : List α} (hn : n = L.length) (hx : xs = flat L) : row v e (Flat.n α) n xs = rowF v e L := by subst hn; subst hx; rfl
theorem flat_cons (a : α) (L : List α) : flat (a :: L) = Flat.enc a ++ flat L := by simp [flat]
omit [Flat α] in
theorem ins_len {L : List α} {h : α} {k : Nat} (hk : k ≤ L.length) : L.length + 1 = (L.take k ++ h :: L.drop k).length := by simp; omega
/-- one put in, in a new row -/
theorem ins_grow {L : List α} {h : α} {k : Nat} {zs : List Value} (hk : k ≤ L.length) (hz : zs.length = (L.length + 1 - k) * Flat.n α) :
    ((((flat L).take (k * Flat.n α) ++ zs).take (k * Flat.n α) ++ Flat.enc h ++ ((flat L).take (k * Flat.n α) ++ zs).drop (k * Flat.n α + (Flat.enc h).length)).take ((k + 1) * Flat.n α) ++ flat (L.drop k) ++
      (((flat L).take (k * Flat.n α) ++ zs).take (k * Flat.n α) ++ Flat.enc h ++ ((flat L).take (k * Flat.n α) ++ zs).drop (k * Flat.n α + (Flat.enc h).length)).drop ((k + 1) * Flat.n α + (flat (L.drop k)).length)) = flat (L.take k ++ h :: L.drop k) := by
  rw [flat_takeN hk]
  have h1 : (flat (L.take k)).length = k * Flat.n α := by rw [flat_length, List.length_take, Nat.min_eq_left hk]
  have h2 := Flat.len h
  have h3 : (k + 1) * Flat.n α = k * Flat.n α + Flat.n α := by rw [Nat.add_mul, Nat.one_mul]
  have h4 : (L.length + 1 - k) * Flat.n α = (L.length - k) * Flat.n α + Flat.n α := by rw [show L.length + 1 - k = (L.length - k) + 1 by omega, Nat.add_mul, Nat.one_mul]
  have h5 : (flat (L.drop k)).length = (L.length - k) * Flat.n α := by rw [flat_length, List.length_drop]
  obtain ⟨A, hA⟩ : ∃ A, A = flat (L.take k) := ⟨_, rfl⟩
  obtain ⟨C, hC⟩ : ∃ C, C = flat (L.drop k) := ⟨_, rfl⟩
  rw [flat_append, flat_cons, ← hA, ← hC]
  rw [← hA] at h1; rw [← hC] at h5
  have t1 : (A ++ zs).take (k * Flat.n α) = A := by rw [← h1]; exact List.take_left
  have t2 : (A ++ zs).drop (k * Flat.n α + (Flat.enc h).length) = zs.drop (Flat.n α) := by rw [h2, ← h1, ← List.drop_drop, List.drop_left]
  rw [t1, t2]
  have t3 : (A ++ Flat.enc h ++ zs.drop (Flat.n α)).take ((k + 1) * Flat.n α) = A ++ Flat.enc h := by
    rw [show (k + 1) * Flat.n α = (A ++ Flat.enc h).length by rw [List.length_append, h1, h2, h3]]; exact List.take_left
  have t4 : (A ++ Flat.enc h ++ zs.drop (Flat.n α)).drop ((k + 1) * Flat.n α + C.length) = [] := by
    refine List.drop_eq_nil_of_le ?_
    rw [List.length_append, List.length_append, List.length_drop, h1, h2, hz, h5, h4]
    omega
  rw [t3, t4, List.append_nil, List.append_assoc]
/-- one put in, in place -/
theorem ins_place {L : List α} {h : α} {k : Nat} {zs : List Value} (hk : k ≤ L.length) (hz : zs.length = (L.length + 1 - L.length) * Flat.n α) :
    (((flat L ++ zs).take ((k + 1) * Flat.n α) ++ flat (L.drop k) ++ (flat L ++ zs).drop ((k + 1) * Flat.n α + (flat (L.drop k)).length)).take (k * Flat.n α) ++ Flat.enc h ++
      ((flat L ++ zs).take ((k + 1) * Flat.n α) ++ flat (L.drop k) ++ (flat L ++ zs).drop ((k + 1) * Flat.n α + (flat (L.drop k)).length)).drop (k * Flat.n α + (Flat.enc h).length)) = flat (L.take k ++ h :: L.drop k) := by
  have h2 := Flat.len h
  have h3 : (k + 1) * Flat.n α = k * Flat.n α + Flat.n α := by rw [Nat.add_mul, Nat.one_mul]
  have h5 : (flat (L.drop k)).length = (L.length - k) * Flat.n α := by rw [flat_length, List.length_drop]
  have h6 : (flat L).length = L.length * Flat.n α := flat_length L
  have h7 : (L.length - k) * Flat.n α + k * Flat.n α = L.length * Flat.n α := by rw [← Nat.add_mul]; congr 1; omega
  have h8 : zs.length = Flat.n α := by rw [hz, show L.length + 1 - L.length = 1 by omega, Nat.one_mul]
  have h9 : (flat L ++ zs).length = L.length * Flat.n α + Flat.n α := by rw [List.length_append, h6, h8]
  have t1 : (flat L ++ zs).drop ((k + 1) * Flat.n α + (flat (L.drop k)).length) = [] := List.drop_eq_nil_of_le (by omega)
  have t2 : ((flat L ++ zs).take ((k + 1) * Flat.n α)).length = (k + 1) * Flat.n α := by rw [List.length_take]; omega
  rw [t1, List.append_nil, flat_append, flat_cons, h2, ← h3]
  have t3 : ((flat L ++ zs).take ((k + 1) * Flat.n α) ++ flat (L.drop k)).drop ((k + 1) * Flat.n α) = flat (L.drop k) := by
    have := @List.drop_left _ ((flat L ++ zs).take ((k + 1) * Flat.n α)) (flat (L.drop k))
    rwa [t2] at this
  have t4 : ((flat L ++ zs).take ((k + 1) * Flat.n α) ++ flat (L.drop k)).take (k * Flat.n α) = flat (L.take k) := by
    rw [List.take_append_of_le_length (by omega), List.take_take, Nat.min_eq_left (by omega), List.take_append_of_le_length (by omega), flat_takeN hk]
  rw [t3, t4, List.append_assoc]
end
end Go.Kx
