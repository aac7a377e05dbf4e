import Derived.Test.YtednficclnjmjaaC8Data
import Derived.Test.YtednficclnjmjaaKxN
/- Century: from the reading of arguments to lists and structs, by program. -/
namespace Go.Proofs.C8
open Go Go.Kx

instance : Rng Span := ⟨fun x => Rng.ok x.Lo ∧ Rng.ok x.Hi⟩
instance : Rng Val := ⟨fun x => Rng.ok x.Time ∧ Rng.ok x.Levels⟩
instance : Rng Shf := ⟨fun x => Rng.ok x.Time ∧ Rng.ok x.Levels⟩
instance : Rng Ser := ⟨fun x => Rng.ok x.Values ∧ Rng.ok x.Shifts⟩
instance : Rng Rl := ⟨fun x => Rng.ok x.Levels ∧ Rng.ok x.Shifts⟩
instance : Rng Mor := ⟨fun x => Rng.ok x.Shift ∧ Rng.ok x.At ∧ Rng.ok x.Lo ∧ Rng.ok x.Hi⟩
theorem br3 : Br Try.prog 3 Int := Br.int Try.underlying3 (by kernel_rfl)
theorem br33 : Br Try.prog 33 Span := by
  refine ⟨by kernel_rfl, fun enc W fuel cs d ps h hw => ?_⟩
  obtain ⟨xs, fu, _, hx, hl, hlen, hf⟩ := DataW.trod_struct Try.underlying33 h
  rw [show Try.prog.cellsOf 33 = 2 from by kernel_rfl] at hl
  simp only [Prod.mk.injEq] at hx
  obtain ⟨rfl, _⟩ := hx
  obtain ⟨y0, hy0⟩ := some_of_len (i := 0) (n := 2) hlen rfl
  have f0 : DataW.trod enc Try.prog W 0 (fun _ => true) true fu 3 ((cs.drop 0).take (Try.prog.cellsOf 3)) = xs[0]? := hf 0 _ rfl
  rw [show Try.prog.cellsOf 3 = 1 from by kernel_rfl] at f0
  obtain ⟨a0, r0, k0⟩ := br3.2 enc W _ _ y0.1 y0.2 (f0.trans hy0) (sized_part Try.underlying33 hw (i := 0) rfl hy0)
  obtain ⟨y1, hy1⟩ := some_of_len (i := 1) (n := 2) hlen rfl
  have f1 : DataW.trod enc Try.prog W 0 (fun _ => true) true fu 3 ((cs.drop 1).take (Try.prog.cellsOf 3)) = xs[1]? := hf 1 _ rfl
  rw [show Try.prog.cellsOf 3 = 1 from by kernel_rfl] at f1
  obtain ⟨a1, r1, k1⟩ := br3.2 enc W _ _ y1.1 y1.2 (f1.trans hy1) (sized_part Try.underlying33 hw (i := 1) rfl hy1)
  have e0 := cut_drop cs 0 1
  simp only [Nat.reduceAdd] at e0
  have e1 := cut_drop cs 1 1
  simp only [Nat.reduceAdd] at e1
  have ez : cs.drop 2 = [] := List.drop_eq_nil_of_le (by omega)
  have hcs : cs = (cs.drop 0).take 1 ++ ((cs.drop 1).take 1) := by
    conv => lhs; rw [← List.drop_zero (l := cs), e0, e1, ez, List.append_nil]
  rw [hcs]
  generalize (cs.drop 0).take 1 = q0 at r0 ⊢
  obtain rfl := r0
  generalize (cs.drop 1).take 1 = q1 at r1 ⊢
  obtain rfl := r1
  exact ⟨⟨a0, a1⟩, rfl, ⟨k0, k1⟩⟩
theorem br62 : Br Try.prog 62 Val := by
  refine ⟨by kernel_rfl, fun enc W fuel cs d ps h hw => ?_⟩
  obtain ⟨xs, fu, _, hx, hl, hlen, hf⟩ := DataW.trod_struct Try.underlying62 h
  rw [show Try.prog.cellsOf 62 = 3 from by kernel_rfl] at hl
  simp only [Prod.mk.injEq] at hx
  obtain ⟨rfl, _⟩ := hx
  obtain ⟨y0, hy0⟩ := some_of_len (i := 0) (n := 2) hlen rfl
  have f0 : DataW.trod enc Try.prog W 0 (fun _ => true) true fu 3 ((cs.drop 0).take (Try.prog.cellsOf 3)) = xs[0]? := hf 0 _ rfl
  rw [show Try.prog.cellsOf 3 = 1 from by kernel_rfl] at f0
  obtain ⟨a0, r0, k0⟩ := br3.2 enc W _ _ y0.1 y0.2 (f0.trans hy0) (sized_part Try.underlying62 hw (i := 0) rfl hy0)
  obtain ⟨y1, hy1⟩ := some_of_len (i := 1) (n := 2) hlen rfl
  have f1 : DataW.trod enc Try.prog W 0 (fun _ => true) true fu 33 ((cs.drop 1).take (Try.prog.cellsOf 33)) = xs[1]? := hf 1 _ rfl
  rw [show Try.prog.cellsOf 33 = 2 from by kernel_rfl] at f1
  obtain ⟨a1, r1, k1⟩ := br33.2 enc W _ _ y1.1 y1.2 (f1.trans hy1) (sized_part Try.underlying62 hw (i := 1) rfl hy1)
  have e0 := cut_drop cs 0 1
  simp only [Nat.reduceAdd] at e0
  have e1 := cut_drop cs 1 2
  simp only [Nat.reduceAdd] at e1
  have ez : cs.drop 3 = [] := List.drop_eq_nil_of_le (by omega)
  have hcs : cs = (cs.drop 0).take 1 ++ ((cs.drop 1).take 2) := by
    conv => lhs; rw [← List.drop_zero (l := cs), e0, e1, ez, List.append_nil]
  rw [hcs]
  generalize (cs.drop 0).take 1 = q0 at r0 ⊢
  obtain rfl := r0
  generalize (cs.drop 1).take 2 = q1 at r1 ⊢
  obtain rfl := r1
  exact ⟨⟨a0, a1⟩, rfl, ⟨k0, k1⟩⟩
theorem br72 : Br Try.prog 72 Shf := by
  refine ⟨by kernel_rfl, fun enc W fuel cs d ps h hw => ?_⟩
  obtain ⟨xs, fu, _, hx, hl, hlen, hf⟩ := DataW.trod_struct Try.underlying72 h
  rw [show Try.prog.cellsOf 72 = 3 from by kernel_rfl] at hl
  simp only [Prod.mk.injEq] at hx
  obtain ⟨rfl, _⟩ := hx
  obtain ⟨y0, hy0⟩ := some_of_len (i := 0) (n := 2) hlen rfl
  have f0 : DataW.trod enc Try.prog W 0 (fun _ => true) true fu 3 ((cs.drop 0).take (Try.prog.cellsOf 3)) = xs[0]? := hf 0 _ rfl
  rw [show Try.prog.cellsOf 3 = 1 from by kernel_rfl] at f0
  obtain ⟨a0, r0, k0⟩ := br3.2 enc W _ _ y0.1 y0.2 (f0.trans hy0) (sized_part Try.underlying72 hw (i := 0) rfl hy0)
  obtain ⟨y1, hy1⟩ := some_of_len (i := 1) (n := 2) hlen rfl
  have f1 : DataW.trod enc Try.prog W 0 (fun _ => true) true fu 33 ((cs.drop 1).take (Try.prog.cellsOf 33)) = xs[1]? := hf 1 _ rfl
  rw [show Try.prog.cellsOf 33 = 2 from by kernel_rfl] at f1
  obtain ⟨a1, r1, k1⟩ := br33.2 enc W _ _ y1.1 y1.2 (f1.trans hy1) (sized_part Try.underlying72 hw (i := 1) rfl hy1)
  have e0 := cut_drop cs 0 1
  simp only [Nat.reduceAdd] at e0
  have e1 := cut_drop cs 1 2
  simp only [Nat.reduceAdd] at e1
  have ez : cs.drop 3 = [] := List.drop_eq_nil_of_le (by omega)
  have hcs : cs = (cs.drop 0).take 1 ++ ((cs.drop 1).take 2) := by
    conv => lhs; rw [← List.drop_zero (l := cs), e0, e1, ez, List.append_nil]
  rw [hcs]
  generalize (cs.drop 0).take 1 = q0 at r0 ⊢
  obtain rfl := r0
  generalize (cs.drop 1).take 2 = q1 at r1 ⊢
  obtain rfl := r1
  exact ⟨⟨a0, a1⟩, rfl, ⟨k0, k1⟩⟩
theorem br22 : Br Try.prog 22 (List Val) := Br.slice Try.underlying22 (by kernel_rfl) (by rw [show Try.prog.bytesOf 62 = 24 from by kernel_rfl]; decide) br62
theorem br23 : Br Try.prog 23 (List Shf) := Br.slice Try.underlying23 (by kernel_rfl) (by rw [show Try.prog.bytesOf 72 = 24 from by kernel_rfl]; decide) br72
theorem br25 : Br Try.prog 25 Ser := by
  refine ⟨by kernel_rfl, fun enc W fuel cs d ps h hw => ?_⟩
  obtain ⟨xs, fu, _, hx, hl, hlen, hf⟩ := DataW.trod_struct Try.underlying25 h
  rw [show Try.prog.cellsOf 25 = 2 from by kernel_rfl] at hl
  simp only [Prod.mk.injEq] at hx
  obtain ⟨rfl, _⟩ := hx
  obtain ⟨y0, hy0⟩ := some_of_len (i := 0) (n := 2) hlen rfl
  have f0 : DataW.trod enc Try.prog W 0 (fun _ => true) true fu 22 ((cs.drop 0).take (Try.prog.cellsOf 22)) = xs[0]? := hf 0 _ rfl
  rw [show Try.prog.cellsOf 22 = 1 from by kernel_rfl] at f0
  obtain ⟨a0, r0, k0⟩ := br22.2 enc W _ _ y0.1 y0.2 (f0.trans hy0) (sized_part Try.underlying25 hw (i := 0) rfl hy0)
  obtain ⟨y1, hy1⟩ := some_of_len (i := 1) (n := 2) hlen rfl
  have f1 : DataW.trod enc Try.prog W 0 (fun _ => true) true fu 23 ((cs.drop 1).take (Try.prog.cellsOf 23)) = xs[1]? := hf 1 _ rfl
  rw [show Try.prog.cellsOf 23 = 1 from by kernel_rfl] at f1
  obtain ⟨a1, r1, k1⟩ := br23.2 enc W _ _ y1.1 y1.2 (f1.trans hy1) (sized_part Try.underlying25 hw (i := 1) rfl hy1)
  have e0 := cut_drop cs 0 1
  simp only [Nat.reduceAdd] at e0
  have e1 := cut_drop cs 1 1
  simp only [Nat.reduceAdd] at e1
  have ez : cs.drop 2 = [] := List.drop_eq_nil_of_le (by omega)
  have hcs : cs = (cs.drop 0).take 1 ++ ((cs.drop 1).take 1) := by
    conv => lhs; rw [← List.drop_zero (l := cs), e0, e1, ez, List.append_nil]
  rw [hcs]
  generalize (cs.drop 0).take 1 = q0 at r0 ⊢
  obtain ⟨u0_0, rfl, s0_0⟩ := r0
  generalize (cs.drop 1).take 1 = q1 at r1 ⊢
  obtain ⟨u1_0, rfl, s1_0⟩ := r1
  exact ⟨⟨a0, a1⟩, ⟨u0_0, u1_0, rfl, s0_0, s1_0⟩, ⟨k0, k1⟩⟩
end Go.Proofs.C8
