import Derived.Test.YtooomcigmleneaaGreatKxU
/- Kx, part V: what slices.Grow does to nil. -/
namespace Go.Kx
open Go
section
variable {P : Program} {B : Base} {m : Mem} {H : List Ent} {σ : Sig} {ty : TypeId}
theorem X.slNil {x y : Operand} {t e : TypeId} {sz : Nat} (ht : P.underlying t = some (.slice e)) (hz : ∀ w, (sizeOf e).run P w = .ok sz w)
    (hx : ev σ x = some (.slice none 0 0)) (hy : ev σ y = some (.int .i64 0)) :
    OpX P B m H σ (.slice t x none (some y) none) ty (.slice none 0 0) := by
  have he : P.elem t = e := by simp [Program.elem, ht]
  have ht' : P.underlying t = some (.slice (P.elem t)) := by rw [he]; exact ht
  refine .ofRun trivial (defdL (l := [x, y]) rfl (by simp only [List.mem_cons, forall_eq_or_imp, List.not_mem_nil, false_imp_iff, implies_true, and_true]; exact ⟨⟨_, hx⟩, ⟨_, hy⟩⟩)) fun w _ o ho _ => ?_
  have hr := run_slice_h (P := P) w t none 0 0 ht' .i64 0 (by omega) (by omega)
  rw [← run_sliceAt_slice (P := P) w t _ _ _ _ ht', he, hz] at hr
  simp only [Result.andThen_ok, _root_.Go.sliced, Option.map_none, Int.toNat_zero, Nat.sub_self] at hr
  simp [execOp, ho, evd_eq hx, evd_eq hy, hr]
theorem T.appendZ0 {s x : Operand} {t e ti : TypeId} {sz bytes : Nat} {z : Value} (hS : SlT P t e sz bytes z) (hi64 : P.underlying ti = some (.int .i64)) {q : Int} (p : Nat)
    (hs : ev σ s = some (.slice none 0 0)) (hx : ev σ x = some (.int .i64 q)) (hq : q = p) (hp : 0 < p) (hsz : 0 < sz) (hb : p * bytes ≤ 140737488355328) (h63 : p ≤ 9223372036854775807) :
    OpTo P B m H σ (.call (Call.mk (.builtin .append) #[s, x] #[t, ti])) ty (fun v m' H' => m' = m ∧ ∃ g' c' zs, v = .slice (some ⟨g', 0, none⟩) p c' ∧ p ≤ c' ∧ zs.length = p * sz ∧ H' = row v e sz p zs :: H) :=
  .ofRun trivial (defd2 (by simp [Op.operands, Call.operands]) hs hx) fun w hw o ho _ => by
    subst hq
    obtain ⟨i, hi, hz, hs', hby⟩ := hS.hi
    have hzs := hS.hz
    have ht := hS.ht
    subst hs'; subst hby
    have hpb : (p : Int) * (i.bytes : Int) ≤ 281474976710656 := by
      have h2 : ((p * i.bytes : Nat) : Int) ≤ 281474976710656 := by omega
      rw [Int.natCast_mul] at h2; exact h2
    have hw1 : IntKind.i64.wrap (p : Int) = p := wrap_in (by omega) (by omega)
    have hp0 : ¬ p = 0 := by omega
    have h63' : ¬ (9223372036854775807 < (p : Int)) := by omega
    have h48' : ¬ (281474976710656 < Builtin.nextslicecap p 0 * i.bytes) := by have := growslice_fits (need := p) (old := 0) (by omega) hb; omega
    have hneg : ¬ ((p : Int) < 0) := by omega
    have hpb' : ¬ (281474976710656 < (p : Int) * (i.bytes : Int)) := by omega
    have hge := grownCap_ge w p 0 e
    have hmx : max (p : Int) 0 = p := by omega
    refine ⟨.slice (some ⟨w.heap.size, 0, none⟩) p (grownCap w p 0 e), w.drew.alloc (.cells (Builtin.zeroCells z.cells p ++ Builtin.zeroCells z.cells (grownCap w p 0 e - p)) e), .inl ?_, m, _,
      ⟨rfl, w.heap.size, grownCap w p 0 e, (Builtin.zeroCells z.cells p).toList, rfl, hge, ?_, rfl⟩, ?_⟩
    · have hr : (Builtin.append_ #[t, ti] o.type #[.slice none 0 0, .int .i64 (p : Int)]).run P w = .ok (.slice (some ⟨w.heap.size, 0, none⟩) p (grownCap w p 0 e)) (w.drew.alloc (.cells (Builtin.zeroCells z.cells p ++ Builtin.zeroCells z.cells (grownCap w p 0 e - p)) e)) := by
        simp [Builtin.append_, run_underlying ht, run_underlying hi64, sizeOf, typeInfo, zeroValue, hi, hz, asInt, asIntOf, hw1, hneg, hpb', hp0, h63', h48', Question.forced, Builtin.firstCells, newRow, grownCap, hmx]
        intro h; exact absurd h (Nat.ne_of_gt (Nat.mul_pos hp hsz))
      simp only [execOp, ho]
      simp [resolve, invoke, builtin, evd_eq hs, evd_eq hx, hr]
    · simp [size_zeroCells, hzs]
    · refine hw.push (Ext.trans (Ext.drew w) (Ext.alloc w.drew _)) _ ?_ (by simp [row, Value.ownBlock]) (by simp [row, Value.ownBlock])
      have hlen : (Builtin.zeroCells z.cells p).toList.length = p * i.size := by rw [Array.length_toList, size_zeroCells, hzs]
      refine ⟨hlen, .inr ⟨w.heap.size, _, _, rfl, Nat.zero_le _, heap_alloc_new w.drew _, hge, grownCap_le_maxLen w p 0 e (by simpa [maxLen] using h63), ?_, ?_⟩⟩
      · simp only [Array.size_append, size_zeroCells, hzs, ← Nat.add_mul]
        congr 1
        omega
      · simp only [Array.toList_append]
        rw [← hlen]
        exact List.take_left
end
end Go.Kx
