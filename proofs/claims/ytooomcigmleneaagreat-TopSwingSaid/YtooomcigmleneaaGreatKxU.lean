import Derived.Test.YtooomcigmleneaaGreatKxT
/- Kx, part U: what slices.DeleteFunc does: a tail of an own row is cleared, an own row becomes shorter. -/
namespace Go.Kx
open Go
section
variable {P : Program} {B : Base} {m : Mem} {H : List Ent} {σ : Sig} {ty : TypeId}
theorem zero_one {z : Array Value} (hz : ∀ v ∈ z.toList, v.oneCell' = true) (h0 : 0 < z.size) (n : Nat) : ∀ v ∈ (Builtin.zeroCells z n).toList, v.oneCell' = true := by
  intro v hv
  unfold Builtin.zeroCells at hv
  rw [Array.toList_map, List.mem_map] at hv
  obtain ⟨i, _, rfl⟩ := hv
  have hi : i % z.size < z.size := Nat.mod_lt _ h0
  rw [getElem!_pos z _ hi]
  exact hz _ (by rw [← Array.getElem_toList hi]; exact List.getElem_mem _)
theorem T.clear {x : Operand} {t e e' : TypeId} {g n c sz bytes k q l j : Nat} {z : Value} {xs : List Value} (hS : SlT P t e sz bytes z) (hz1 : ∀ v ∈ z.cells.toList, v.oneCell' = true) (h0 : 0 < sz)
    (hx : ev σ x = some (.slice (some ⟨g, k * sz, none⟩) l q)) (hH : fetch H j = some (row (.slice (some ⟨g, 0, none⟩) n c) e' sz n xs)) (hl : k + l = n) (hl0 : 0 < l) :
    OpTo P B m H σ (.call (Call.mk (.builtin .clear) #[x] #[t])) ty (fun _ m' H' => m' = m ∧ H' = upd H j (row (.slice (some ⟨g, 0, none⟩) n c) e' sz n (xs.take (k * sz) ++ (Builtin.zeroCells z.cells l).toList))) :=
  .ofRun trivial (defd1 (by simp [Op.operands, Call.operands]) hx) fun w hw o ho _ => by
    have hh : (row (.slice (some ⟨g, 0, none⟩) n c) e' sz n xs).holds w := fetch_holds hw hH
    have hxl : xs.length = n * sz := hh.1
    have hzl : (Builtin.zeroCells z.cells l).toList.length = l * sz := by rw [Array.length_toList, size_zeroCells, hS.hz]
    have hn : n * sz = k * sz + l * sz := by rw [← Nat.add_mul, hl]
    have hpos : 0 < l * sz := Nat.mul_pos hl0 h0
    obtain ⟨w', hr, hs'⟩ := store_rowL (P := P) (off := k * sz) hw hH (us := (Builtin.zeroCells z.cells l).toList) (by omega) (by omega) (zero_one hz1 (by rw [hS.hz]; exact h0) l)
    have hr' : (storeCells ⟨g, k * sz, none⟩ (Builtin.zeroCells z.cells l).toList).run P w = .ok () w' := hr
    refine ⟨.tuple #[], w', .inl ?_, m, _, ⟨rfl, rfl⟩, ?_⟩
    · obtain ⟨l', rfl⟩ : ∃ l', l = l' + 1 := ⟨l - 1, by omega⟩
      have hc : (Builtin.clear_ #[t] o.type #[.slice (some ⟨g, k * sz, none⟩) (l' + 1) q]).run P w = .ok (.tuple #[]) w' := by
        simp [Builtin.clear_, run_underlying hS.ht, hS.zr, hr']
      simp only [execOp, ho]
      simp [resolve, invoke, builtin, evd_eq hx, hc]
    · have hd : xs.drop (k * sz + (Builtin.zeroCells z.cells l).toList.length) = [] := List.drop_eq_nil_of_le (by omega)
      rw [hd, List.append_nil] at hs'
      exact hs'
theorem WK.shrink {N : Nat} {K : Act → World → Prop} {k g n c h sz : Nat} {e : TypeId} {xs : List Value} (hH : fetch H k = some (row (.slice (some ⟨g, 0, none⟩) n c) e sz n xs)) (h1 : h ≤ n)
    (kk : WK N B m (upd H k (row (.slice (some ⟨g, 0, none⟩) h c) e sz h (xs.take (h * sz)))) σ K) : WK N B m H σ K := fun Ds w hw a ha => by
  have hf := fetchR (R := marks Ds) hH
  have hh : (row (.slice (some ⟨g, 0, none⟩) n c) e sz n xs).holds w := fetch_holds hw hf
  have hlen := hh.1
  rcases hh.2 with ⟨hv, _⟩ | ⟨g', cap, cur, hv, hb, h3, h4, h5, h6, h7⟩
  · cases hv
  · cases hv
    have hm : h * sz ≤ n * sz := Nat.mul_le_mul_right _ h1
    refine kk Ds w ?_ a ha
    rw [← updR hH]
    refine hw.change hf rfl rfl rfl (Nat.le_refl _) (fun _ _ _ => rfl) ⟨by rw [List.length_take]; omega, .inr ⟨g, c, cur, rfl, hb, h3, by omega, h5, h6, ?_⟩⟩ (fun b hb' => .inl (by simpa [row, Value.ownBlock] using hb')) (by simp [row, Value.ownBlock])
    rw [← h7, List.take_take, Nat.min_eq_left hm]
end
end Go.Kx
