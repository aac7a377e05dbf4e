/- Stations: from the reading of arguments to lists and structs, by program. -/
import Derived.Test.YtcpecjgppbiplaaS5Data
import Derived.Test.YtcpecjgppbiplaaKxN
namespace Go.Proofs.S5
open Go Go.Kx

instance : Rng Wind := ⟨fun x => Rng.ok x.Fixed ∧ Rng.ok x.Each⟩
instance : Rng Span := ⟨fun x => Rng.ok x.Lo ∧ Rng.ok x.Hi⟩
instance : Rng Height := ⟨fun x => Rng.ok x.Week ∧ Rng.ok x.Metres⟩
instance : Rng Station := ⟨fun x => Rng.ok x.ID ∧ Rng.ok x.X ∧ Rng.ok x.Y ∧ Rng.ok x.Heights⟩
theorem br3 : Br Try.prog 3 Int := Br.int Try.underlying3 (by kernel_rfl)
theorem br49 : Br Try.prog 49 Span := by
  refine ⟨by kernel_rfl, fun enc W fuel cs d ps h hw => ?_⟩
  obtain ⟨xs, fu, _, hx, hl, hlen, hf⟩ := DataW.trod_struct Try.underlying49 h
  rw [show Try.prog.cellsOf 49 = 2 from by kernel_rfl] at hl
  simp only [Prod.mk.injEq] at hx
  obtain ⟨rfl, _⟩ := hx
  obtain ⟨y0, hy0⟩ := some_of_len (i := 0) (n := 2) hlen rfl
  have f0 : DataW.trod enc Try.prog W 0 (fun _ => true) true fu 3 ((cs.drop 0).take (Try.prog.cellsOf 3)) = xs[0]? := hf 0 _ rfl
  rw [show Try.prog.cellsOf 3 = 1 from by kernel_rfl] at f0
  obtain ⟨a0, r0, k0⟩ := br3.2 enc W _ _ y0.1 y0.2 (f0.trans hy0) (sized_part Try.underlying49 hw (i := 0) rfl hy0)
  obtain ⟨y1, hy1⟩ := some_of_len (i := 1) (n := 2) hlen rfl
  have f1 : DataW.trod enc Try.prog W 0 (fun _ => true) true fu 3 ((cs.drop 1).take (Try.prog.cellsOf 3)) = xs[1]? := hf 1 _ rfl
  rw [show Try.prog.cellsOf 3 = 1 from by kernel_rfl] at f1
  obtain ⟨a1, r1, k1⟩ := br3.2 enc W _ _ y1.1 y1.2 (f1.trans hy1) (sized_part Try.underlying49 hw (i := 1) rfl hy1)
  have e0 := cut_drop cs 0 1
  simp only [Nat.reduceAdd] at e0
  have e1 := cut_drop cs 1 1
  simp only [Nat.reduceAdd] at e1
  have ez : cs.drop 2 = [] := List.drop_eq_nil_of_le (by omega)
  have hcs : cs = (cs.drop 0).take 1 ++ ((cs.drop 1).take 1) := by
    conv => lhs; rw [← List.drop_zero (l := cs), e0, e1, ez, List.append_nil]
  rw [hcs]
  generalize (cs.drop 0).take 1 = q0 at r0 ⊢
  obtain rfl := r0
  generalize (cs.drop 1).take 1 = q1 at r1 ⊢
  obtain rfl := r1
  exact ⟨⟨a0, a1⟩, rfl, ⟨k0, k1⟩⟩
theorem br71 : Br Try.prog 71 Height := by
  refine ⟨by kernel_rfl, fun enc W fuel cs d ps h hw => ?_⟩
  obtain ⟨xs, fu, _, hx, hl, hlen, hf⟩ := DataW.trod_struct Try.underlying71 h
  rw [show Try.prog.cellsOf 71 = 3 from by kernel_rfl] at hl
  simp only [Prod.mk.injEq] at hx
  obtain ⟨rfl, _⟩ := hx
  obtain ⟨y0, hy0⟩ := some_of_len (i := 0) (n := 2) hlen rfl
  have f0 : DataW.trod enc Try.prog W 0 (fun _ => true) true fu 3 ((cs.drop 0).take (Try.prog.cellsOf 3)) = xs[0]? := hf 0 _ rfl
  rw [show Try.prog.cellsOf 3 = 1 from by kernel_rfl] at f0
  obtain ⟨a0, r0, k0⟩ := br3.2 enc W _ _ y0.1 y0.2 (f0.trans hy0) (sized_part Try.underlying71 hw (i := 0) rfl hy0)
  obtain ⟨y1, hy1⟩ := some_of_len (i := 1) (n := 2) hlen rfl
  have f1 : DataW.trod enc Try.prog W 0 (fun _ => true) true fu 49 ((cs.drop 1).take (Try.prog.cellsOf 49)) = xs[1]? := hf 1 _ rfl
  rw [show Try.prog.cellsOf 49 = 2 from by kernel_rfl] at f1
  obtain ⟨a1, r1, k1⟩ := br49.2 enc W _ _ y1.1 y1.2 (f1.trans hy1) (sized_part Try.underlying71 hw (i := 1) rfl hy1)
  have e0 := cut_drop cs 0 1
  simp only [Nat.reduceAdd] at e0
  have e1 := cut_drop cs 1 2
  simp only [Nat.reduceAdd] at e1
  have ez : cs.drop 3 = [] := List.drop_eq_nil_of_le (by omega)
  have hcs : cs = (cs.drop 0).take 1 ++ ((cs.drop 1).take 2) := by
    conv => lhs; rw [← List.drop_zero (l := cs), e0, e1, ez, List.append_nil]
  rw [hcs]
  generalize (cs.drop 0).take 1 = q0 at r0 ⊢
  obtain rfl := r0
  generalize (cs.drop 1).take 2 = q1 at r1 ⊢
  obtain rfl := r1
  exact ⟨⟨a0, a1⟩, rfl, ⟨k0, k1⟩⟩
theorem br56 : Br Try.prog 56 (List Height) := Br.slice Try.underlying56 (by kernel_rfl) (by rw [show Try.prog.bytesOf 71 = 24 from by kernel_rfl]; decide) br71
theorem br58 : Br Try.prog 58 Station := by
  refine ⟨by kernel_rfl, fun enc W fuel cs d ps h hw => ?_⟩
  obtain ⟨xs, fu, _, hx, hl, hlen, hf⟩ := DataW.trod_struct Try.underlying58 h
  rw [show Try.prog.cellsOf 58 = 4 from by kernel_rfl] at hl
  simp only [Prod.mk.injEq] at hx
  obtain ⟨rfl, _⟩ := hx
  obtain ⟨y0, hy0⟩ := some_of_len (i := 0) (n := 4) hlen rfl
  have f0 : DataW.trod enc Try.prog W 0 (fun _ => true) true fu 3 ((cs.drop 0).take (Try.prog.cellsOf 3)) = xs[0]? := hf 0 _ rfl
  rw [show Try.prog.cellsOf 3 = 1 from by kernel_rfl] at f0
  obtain ⟨a0, r0, k0⟩ := br3.2 enc W _ _ y0.1 y0.2 (f0.trans hy0) (sized_part Try.underlying58 hw (i := 0) rfl hy0)
  obtain ⟨y1, hy1⟩ := some_of_len (i := 1) (n := 4) hlen rfl
  have f1 : DataW.trod enc Try.prog W 0 (fun _ => true) true fu 3 ((cs.drop 1).take (Try.prog.cellsOf 3)) = xs[1]? := hf 1 _ rfl
  rw [show Try.prog.cellsOf 3 = 1 from by kernel_rfl] at f1
  obtain ⟨a1, r1, k1⟩ := br3.2 enc W _ _ y1.1 y1.2 (f1.trans hy1) (sized_part Try.underlying58 hw (i := 1) rfl hy1)
  obtain ⟨y2, hy2⟩ := some_of_len (i := 2) (n := 4) hlen rfl
  have f2 : DataW.trod enc Try.prog W 0 (fun _ => true) true fu 3 ((cs.drop 2).take (Try.prog.cellsOf 3)) = xs[2]? := hf 2 _ rfl
  rw [show Try.prog.cellsOf 3 = 1 from by kernel_rfl] at f2
  obtain ⟨a2, r2, k2⟩ := br3.2 enc W _ _ y2.1 y2.2 (f2.trans hy2) (sized_part Try.underlying58 hw (i := 2) rfl hy2)
  obtain ⟨y3, hy3⟩ := some_of_len (i := 3) (n := 4) hlen rfl
  have f3 : DataW.trod enc Try.prog W 0 (fun _ => true) true fu 56 ((cs.drop 3).take (Try.prog.cellsOf 56)) = xs[3]? := hf 3 _ rfl
  rw [show Try.prog.cellsOf 56 = 1 from by kernel_rfl] at f3
  obtain ⟨a3, r3, k3⟩ := br56.2 enc W _ _ y3.1 y3.2 (f3.trans hy3) (sized_part Try.underlying58 hw (i := 3) rfl hy3)
  have e0 := cut_drop cs 0 1
  simp only [Nat.reduceAdd] at e0
  have e1 := cut_drop cs 1 1
  simp only [Nat.reduceAdd] at e1
  have e2 := cut_drop cs 2 1
  simp only [Nat.reduceAdd] at e2
  have e3 := cut_drop cs 3 1
  simp only [Nat.reduceAdd] at e3
  have ez : cs.drop 4 = [] := List.drop_eq_nil_of_le (by omega)
  have hcs : cs = (cs.drop 0).take 1 ++ ((cs.drop 1).take 1 ++ ((cs.drop 2).take 1 ++ ((cs.drop 3).take 1))) := by
    conv => lhs; rw [← List.drop_zero (l := cs), e0, e1, e2, e3, ez, List.append_nil]
  rw [hcs]
  generalize (cs.drop 0).take 1 = q0 at r0 ⊢
  obtain rfl := r0
  generalize (cs.drop 1).take 1 = q1 at r1 ⊢
  obtain rfl := r1
  generalize (cs.drop 2).take 1 = q2 at r2 ⊢
  obtain rfl := r2
  generalize (cs.drop 3).take 1 = q3 at r3 ⊢
  obtain ⟨u3_0, rfl, s3_0⟩ := r3
  exact ⟨⟨a0, a1, a2, a3⟩, ⟨u3_0, rfl, s3_0⟩, ⟨k0, k1, k2, k3⟩⟩
end Go.Proofs.S5
