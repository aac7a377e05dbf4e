import Derived.Test.YtooomcigmleneaaGreatKxM
import Derived.Laws.Small
/- Kx, part O: tests whose answer is known. -/
namespace Go.Kx
section
variable {P : Program} {B : Base} {m : Mem} {H : List Ent} {σ : Sig} {ty : TypeId} {op : Op}
theorem OpX.t {p : Prop} [Decidable p] (h : OpX P B m H σ op ty (.bool (decide p))) (hp : p) : OpX P B m H σ op ty (.bool true) := by rw [decide_eq_true hp] at h; exact h
theorem OpX.f {p : Prop} [Decidable p] (h : OpX P B m H σ op ty (.bool (decide p))) (hp : ¬ p) : OpX P B m H σ op ty (.bool false) := by rw [decide_eq_false hp] at h; exact h
theorem X.neqB {x y : Operand} {t t' : TypeId} {a b : Bool} (hu : P.underlying t = some .bool) (hx : ev σ x = some (.bool a)) (hy : ev σ y = some (.bool b)) : OpX P B m H σ (.binOp .neq t x y t') ty (.bool (decide (¬ a = b))) :=
  .ofRun trivial (defd2 rfl hx hy) fun w _ o ho _ => by
    have h := run_equal_bool (P := P) w t a b hu
    simp [execOp, ho, evd_eq hx, evd_eq hy, eqGuard, binOp, h]
    cases a <;> cases b <;> rfl
variable {M : Option Nat} {N : Nat} {ops : Array Oper} {Q : Exit → Act → World → Prop} {rest : List Oper}
theorem T.litF {α : Type} [Flat α] {t e : TypeId} {bytes n : Nat} {z : Value} {parts : List (Nat × Operand)} {vals : List Value} {L : List α} (hS : SlT P t e (Flat.n α) bytes z)
    (hv : evp σ parts = some (idx 0 vals)) (hr : vals.flatMap (fun v => v.cells.toList) = flat L) (hsz : ∀ v ∈ vals, v.cells.size = Flat.n α) (hn : vals.length = n) (hL : L.length = n) (hm : Nat.ble (n * Flat.n α) 16777216 = true) :
    OpTo P B m H σ (.buildSlice t n parts.toArray) ty (fun v m' H' => m' = m ∧ H' = rowF v e L :: H) :=
  .ofRun trivial (by intro x hx; exact (evp_map hv).2 x (by simpa [Op.operands] using hx)) fun w hw o ho _ => by
    have h16 : ¬ 16777216 < n * Flat.n α := by have := Nat.le_of_ble_eq_true hm; omega
    obtain ⟨a, hf, ha⟩ := fill_seq (sz := Flat.n α) vals 0 ((Array.range (n * Flat.n α)).map (z.cells[· % z.cells.size]!)) hsz (by simp [hn])
    have ha' : a.toList = flat L := by
      rw [ha, hr]; simp [hn]
    have hpos := Flat.pos (α := α)
    have hnm : n ≤ n * Flat.n α := Nat.le_mul_of_pos_right _ hpos
    refine ⟨.slice (some ⟨w.heap.size, 0, none⟩) n n, w.alloc (.cells a e), .inl ?_, m, _, ⟨rfl, rfl⟩, hw.push (Ext.alloc w _) _ ?_ (by simp [rowF, row, Value.ownBlock]) (by simp [rowF, row, Value.ownBlock])⟩
    · have hp : (Array.map (fun x : Nat × Operand => match x with | (i, x) => (i, evd σ x)) parts.toArray).toList = idx 0 vals := by simpa using (evp_map hv).1
      simp only [execOp, ho, Instr.buildSlice, Sem.run_bind, hS.u, Result.andThen_ok, hS.s]
      rw [if_neg h16]
      rw [hp]
      by_cases h0 : n * Flat.n α = 0
      · rw [if_pos h0]
        have : n = 0 := by omega
        subst this
        have : vals = [] := List.eq_nil_of_length_eq_zero hn
        subst this
        simp [idx, Instr.fill] at hf ⊢
        simp [newRow]
        have : a = #[] := by apply Array.ext'; rw [ha', ← hr]; rfl
        rw [this]; congr 2
        exact Array.ext' (by simp [Array.range])
      · rw [if_neg h0]
        simp only [Sem.run_bind, hS.zr, Result.andThen_ok, Sem.run_pure]
        rw [hf]
        simp [newRow]
    · have hal : a.size = n * Flat.n α := by rw [← Array.length_toList, ha', flat_length, hL]
      have hm' := Nat.le_of_ble_eq_true hm
      have hgoal : (w.alloc (.cells a e)).ownsRow 0 e (Flat.n α) (.slice (some ⟨w.heap.size, 0, none⟩) n n) n (flat L) :=
        ⟨by rw [flat_length, hL], .inr ⟨w.heap.size, n, a, rfl, Nat.zero_le _, heap_alloc_new w _, Nat.le_refl _, by simp only [maxLen]; omega, hal, by rw [ha', List.take_of_length_le (by rw [flat_length, hL]; omega)]⟩⟩
      simpa [rowF, row, hL] using hgoal
end
end Go.Kx
