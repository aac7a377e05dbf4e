import Derived.Test.YtooomcigmleneaaGreatKxD
/- Kx, part E: appends, literals, makes, cuts of slices; own memory let go; the rules that a walk types. -/
namespace Go.Kx

section
variable {P : Program} {B : Base} {m : Mem} {H : List Ent} {σ : Sig} {ty : TypeId}

theorem blk_src {w : World} (hw : St B m H w) {k b : Nat} {T : TypeId} {cs : List Value} (hH : fetch H k = some (blk b T cs)) : ∀ j u, cs[j]? = some u → w.cell? ((⟨b, 0, none⟩ : Addr).add j) = some u := by
  intro j u hu
  rw [Addr.add_plain rfl, blk_cell hw hH]; simpa using hu

theorem fetch_lt {k : Nat} {e : Ent} : ∀ {H : List Ent}, fetch H k = some e → upd H k e = H := by
  induction k with
  | zero => intro H h; cases H <;> simp [fetch, upd] at h ⊢; exact h.symm
  | succ k ih => intro H h; cases H <;> simp [fetch, upd] at h ⊢; exact ih h

theorem append_own {w : World} {t e : TypeId} {sz bytes : Nat} {z : Value} (hS : SlT P t e sz bytes z) {v : Value} {n : Nat} {xs : List Value}
    (hown : w.ownsRow 0 e sz v n xs) {p : Addr} {c cap : Nat} {news : List Value} (hl : news.length = c * sz) (hn : ∀ j u, news[j]? = some u → w.cell? (p.add j) = some u)
    (h1 : ∀ u ∈ news, u.oneCell' = true) (hb : (n + c) * bytes ≤ 140737488355328) (h63 : n + c ≤ 9223372036854775807) :
    ∃ v' w', (Builtin.append_ #[t, t] ty #[v, .slice (some p) c cap]).run P w = .ok v' w' ∧ w'.ownsRow 0 e sz v' (n + c) (xs ++ news) ∧ w.grownBy w' v.ownBlock ∧
      (v'.ownBlock = v.ownBlock ∨ v'.ownBlock = some w.heap.size) ∧ (v' = .slice none 0 0 ↔ v = .slice none 0 0 ∧ c = 0) := by
  obtain ⟨i, hi, hz, hs, hby⟩ := hS.hi
  have hzs := hS.hz
  have ht := hS.ht
  subst hs; subst hby
  have hlen : (xs ++ news).length = (n + c) * i.size := by rw [List.length_append, hown.1, hl, Nat.add_mul]
  have new : ∀ old : Nat,
      (w.drew.alloc (.cells (xs.toArray ++ news.toArray ++ Builtin.zeroCells z.cells (grownCap w (n + c) old e - (n + c))) e)).ownsRow 0 e i.size
        (.slice (some ⟨w.heap.size, 0, none⟩) (n + c) (grownCap w (n + c) old e)) (n + c) (xs ++ news) := by
    intro old
    have hge := grownCap_ge w (n + c) old e
    refine ⟨hlen, .inr ⟨w.heap.size, _, _, rfl, Nat.zero_le _, heap_alloc_new w.drew _, hge, grownCap_le_maxLen w (n + c) old e (by simpa [maxLen] using h63), ?_, ?_⟩⟩
    · simp only [Array.size_append, List.size_toArray, size_zeroCells, hzs, hown.1, hl, ← Nat.add_mul]
      congr 1
      omega
    · simp only [Array.toList_append, List.append_assoc]
      rw [← List.append_assoc, ← hlen]
      exact List.take_left
  have grew : ∀ o row, w.grownBy (w.drew.alloc o) row := fun o row => ⟨rfl, rfl, rfl, by simp, fun k hk _ => by
    show (w.heap.push o)[k]? = _; rw [Array.getElem?_push, if_neg (Nat.ne_of_lt hk)]⟩
  rcases hown.2 with ⟨rfl, rfl⟩ | ⟨g, cp, cur, rfl, hbg, hg, hnc, hcm, hcs, htake⟩
  · have hx : xs = [] := List.eq_nil_of_length_eq_zero (by simpa using hown.1)
    subst hx
    by_cases hm : c = 0
    · subst hm
      have hnn : news = [] := List.eq_nil_of_length_eq_zero (by simpa using hl)
      subst hnn
      refine ⟨.slice none 0 0, w, ?_, hown, ⟨rfl, rfl, rfl, Nat.le_refl _, fun _ _ _ => rfl⟩, .inl rfl, by simp⟩
      simp [Builtin.append_, run_underlying ht, sizeOf, typeInfo, hi, Builtin.lenOf, Builtin.firstCells, loadCells, loadCellsFrom]
    · have hr := run_append_nil (P := P) w t ty e i z ht hi hz p c cap news hl hn (by omega) (by omega) (by have := hb; simp only [Nat.zero_add] at this; omega)
      have hgr := new 0
      simp only [Nat.zero_add, List.nil_append, Array.empty_append] at hgr ⊢
      exact ⟨_, _, hr, hgr, grew _ _, .inr rfl, by simp [hm]⟩
  · by_cases hroom : n + c ≤ cp
    · have hfit : n * i.size + news.length ≤ cur.size := by rw [hl, hcs, ← Nat.add_mul]; exact Nat.mul_le_mul_right _ hroom
      have hr := run_append_room (P := P) w t ty e i ht hi g n cp cur hg p c cap news hl hn h1 hroom hfit
      refine ⟨_, _, hr, ⟨hlen, .inr ⟨g, cp, _, rfl, Nat.zero_le _, Kx.setRow_self' w g _ cur e _ hg, hroom, hcm, ?_, ?_⟩⟩, ⟨rfl, rfl, rfl, by simp [World.setRow], fun k _ hk => Kx.setRow_other w g _ k (fun e => hk (by simp [Value.ownBlock, e]))⟩, .inl rfl, by simp⟩
      · simp only [List.size_toArray, List.length_append, List.length_take, List.length_drop, Array.length_toList]
        omega
      · rw [htake, ← hlen]
        exact List.take_left
    · have holds : ∀ j u, xs[j]? = some u → w.cell? ((⟨g, 0, none⟩ : Addr).add j) = some u := hown.cells (g := g) rfl
      have hr := run_append_grow (P := P) w t ty e i z ht hi hz ⟨g, 0, none⟩ n cp xs hown.1 holds p c cap news hl hn (by omega) (by omega) (growslice_fits (by omega) hb)
      exact ⟨_, _, hr, new cp, grew _ _, .inr rfl, by simp⟩

theorem append_run {w : World} (hw : St B m H w) {t e : TypeId} {sz bytes : Nat} {z : Value} (hS : SlT P t e sz bytes z) {k : Nat} {v : Value} {n : Nat} {xs : List Value}
    (hH : fetch H k = some (row v e sz n xs)) {p : Addr} {c cap : Nat} {news : List Value} (hl : news.length = c * sz) (hn : ∀ j u, news[j]? = some u → w.cell? (p.add j) = some u)
    (h1 : ∀ u ∈ news, u.oneCell' = true) (hb : (n + c) * bytes ≤ 140737488355328) (h63 : n + c ≤ 9223372036854775807) :
    ∃ v' w', (Builtin.append_ #[t, t] ty #[v, .slice (some p) c cap]).run P w = .ok v' w' ∧ St B m (upd H k (row v' e sz (n + c) (xs ++ news))) w' ∧ (v' = .slice none 0 0 ↔ v = .slice none 0 0 ∧ c = 0) := by
  obtain ⟨v', w', hr, ho, hg, hblk, hnil⟩ := append_own (P := P) (ty := ty) (cap := cap) hS (fetch_holds hw hH) hl hn h1 hb h63
  refine ⟨v', w', hr, ?_, hnil⟩
  refine hw.change hH hg.os hg.tape hg.output hg.size (fun b hb' hne => hg.block b hb' (fun e => hne (by simp [row, ← e]))) ho ?_ (by simp only [row]; cases v'.ownBlock <;> simp)
  intro b hb'
  simp only [row, Option.mem_toList] at hb' ⊢
  rcases hblk with h | h
  · rw [h] at hb'; exact .inl hb'
  · rw [h] at hb'; cases hb'; exact .inr (Nat.le_refl _)

theorem T.append {s x : Operand} {t e : TypeId} {sz bytes : Nat} {z : Value} (hS : SlT P t e sz bytes z) {k b : Nat} {T : TypeId} {v : Value} {n c cap : Nat} {xs news : List Value} {H1 : List Ent}
    (hs : ev σ s = some v) (hx : ev σ x = some (.slice (some ⟨b, 0, none⟩) c cap)) (hH1 : H = blk b T news :: H1) (hH : fetch H1 k = some (row v e sz n xs)) (hl : news.length = c * sz) (h1 : ∀ u ∈ news, u.oneCell' = true)
    (hb : (n + c) * bytes ≤ 140737488355328) (h63 : n + c ≤ 9223372036854775807) :
    OpTo P B m H σ (.call (Call.mk (.builtin .append) #[s, x] #[t, t])) ty (fun v' m' H' => m' = m ∧ H' = upd H1 k (row v' e sz (n + c) (xs ++ news))) :=
  .ofRun trivial (defd2 (by simp [Op.operands, Call.operands]) hs hx) fun w hw o ho hty => by
    subst hH1
    have hsrc := blk_src hw (k := 0) (b := b) (T := T) (cs := news) rfl
    have hw1 : St _ m H1 w := hw.weaken (List.sublist_cons_self _ _)
    obtain ⟨v', w', hr, hst, _⟩ := append_run (P := P) (ty := o.type) (cap := cap) hw1 hS hH hl hsrc h1 hb h63
    refine ⟨v', w', .inl ?_, m, _, ⟨rfl, rfl⟩, hst⟩
    simp [execOp, ho, resolve, invoke, builtin, evd_eq hs, evd_eq hx, hr]
theorem T.appendF {α : Type} [Flat α] {s x : Operand} {t e : TypeId} {bytes : Nat} {z : Value} (hS : SlT P t e (Flat.n α) bytes z) {k b : Nat} {T' : TypeId} {v : Value} {cap : Nat} {L : List α} {a : α} {H1 : List Ent}
    (hs : ev σ s = some v) (hx : ev σ x = some (.slice (some ⟨b, 0, none⟩) 1 cap)) (hH1 : H = blk b T' (Flat.enc a) :: H1) (hH : fetch H1 k = some (rowF v e L))
    (hb : (L.length + 1) * bytes ≤ 140737488355328) (hby : 0 < bytes) :
    OpTo P B m H σ (.call (Call.mk (.builtin .append) #[s, x] #[t, t])) ty (fun v' m' H' => m' = m ∧ H' = upd H1 k (rowF v' e (L ++ [a]))) := by
  have h63 : L.length + 1 ≤ 9223372036854775807 := by
    have := Nat.le_mul_of_pos_right (L.length + 1) hby
    omega
  have := Kx.T.append (P := P) (B := B) (m := m) (ty := ty) hS hs hx hH1 hH (by rw [Flat.len]; simp) (Flat.one a) hb h63
  refine ⟨this.sel, this.defd, fun M B w hw o ac next Q ho ht k' => this.run M B w hw o ac next Q ho ht fun v' m' H' w' h hst => k' v' m' H' w' ⟨h.1, ?_⟩ hst⟩
  rw [h.2]
  simp [rowF, flat]

theorem T.lit1 {x : Operand} {t e : TypeId} {sz bytes : Nat} {z : Value} (hS : SlT P t e sz bytes z) {v : Value} {cs : List Value} (hx : ev σ x = some v) (hc : v.cells = cs.toArray) (hl : cs.length = sz) (hm : sz ≤ 16777216) :
    OpTo P B m H σ (.buildSlice t 1 #[(0, x)]) ty (fun u m' H' => m' = m ∧ ∃ b, u = .slice (some ⟨b, 0, none⟩) 1 1 ∧ H' = blk b e cs :: H) :=
  .ofRun trivial (defd1 (by simp [Op.operands]) hx) fun w hw o ho _ => by
    have hp := hS.pos
    have hfill : Instr.fill (fun i => some (i * sz, sz)) ((Array.range (1 * sz)).map (z.cells[· % z.cells.size]!)) [(0, v)] = some cs.toArray := by
      simp only [Instr.fill, hc, Nat.zero_mul]
      rw [if_neg (by simp [hl])]
      congr 1
      apply Array.ext'
      rw [← Array.foldl_toList, Array.toList_zipIdx]
      have gen : ∀ (vs : List Value) (j : Nat) (acc : Array Value), acc.size = j + vs.length → ((vs.zipIdx j).foldl (fun cs (c, j) => cs.setIfInBounds (0 + j) c) acc).toList = acc.toList.take j ++ vs := by
        intro vs
        induction vs with
        | nil => intro j acc h; simp at h ⊢; rw [List.take_of_length_le (by simp; omega)]
        | cons u us ih =>
          intro j acc h
          simp only [List.zipIdx_cons, List.foldl_cons, Nat.zero_add] at ih ⊢
          rw [ih (j + 1) _ (by simp at h ⊢; omega)]
          simp only [Array.toList_setIfInBounds]
          have hj : j < acc.toList.length := by simp at h ⊢; omega
          rw [List.take_set, List.take_succ_eq_append_getElem hj, List.set_append]
          simp
          rw [if_neg (by omega)]
          have : j - min j acc.size = 0 := by simp at hj; omega
          simp [this]
      rw [gen cs 0 _ (by simp [hl])]
      simp
    refine ⟨.slice (some ⟨w.heap.size, 0, none⟩) 1 1, w.alloc (.cells cs.toArray e), .inl ?_, m, _, ⟨rfl, _, rfl, rfl⟩,
      hw.push (Ext.alloc w _) (blk w.heap.size e cs) (by show (w.heap.push _)[_]? = _; simp) (by simp [blk]) (by simp [blk])⟩
    simp only [Nat.one_mul] at hfill
    have h16 : ¬ 16777216 < sz := by omega
    have h0 : ¬ sz = 0 := by omega
    simp [execOp, ho, Instr.buildSlice, hS.u, hS.s, hS.zr, evd_eq hx, h16, h0, hfill, newRow]

end
end Go.Kx
