import Derived.Test.YtmnipmbgdbdjeaaC2Data
import Derived.Test.YtmnipmbgdbdjeaaKxN
/- Clocks: from the reading of arguments to lists and structs, by program. -/
namespace Go.Proofs.C2
open Go Go.Kx

instance : Rng Span := ⟨fun x => Rng.ok x.Lo ∧ Rng.ok x.Hi⟩
instance : Rng Stop := ⟨fun x => Rng.ok x.Column ∧ Rng.ok x.Ticks⟩
instance : Rng Mark := ⟨fun x => Rng.ok x.Column ∧ Rng.ok x.Ticks⟩
instance : Rng Drum := ⟨fun x => Rng.ok x.Rates ∧ Rng.ok x.Stops⟩
instance : Rng Clk := ⟨fun x => Rng.ok x.D ∧ Rng.ok x.M⟩
instance : Rng Ask := ⟨fun x => Rng.ok x.A ∧ Rng.ok x.B ∧ Rng.ok x.Tick ∧ Rng.ok x.One ∧ Rng.ok x.Two ∧ Rng.ok x.Three ∧ Rng.ok x.First ∧ Rng.ok x.Second ∧ Rng.ok x.Stop⟩
theorem br3 : Br Try.prog 3 Int := Br.int Try.underlying3 (by kernel_rfl)
theorem br31 : Br Try.prog 31 Span := by
  refine ⟨by kernel_rfl, fun enc W fuel cs d ps h hw => ?_⟩
  obtain ⟨xs, fu, _, hx, hl, hlen, hf⟩ := DataW.trod_struct Try.underlying31 h
  rw [show Try.prog.cellsOf 31 = 2 from by kernel_rfl] at hl
  simp only [Prod.mk.injEq] at hx
  obtain ⟨rfl, _⟩ := hx
  obtain ⟨y0, hy0⟩ := some_of_len (i := 0) (n := 2) hlen rfl
  have f0 : DataW.trod enc Try.prog W 0 (fun _ => true) true fu 3 ((cs.drop 0).take (Try.prog.cellsOf 3)) = xs[0]? := hf 0 _ rfl
  rw [show Try.prog.cellsOf 3 = 1 from by kernel_rfl] at f0
  obtain ⟨a0, r0, k0⟩ := br3.2 enc W _ _ y0.1 y0.2 (f0.trans hy0) (sized_part Try.underlying31 hw (i := 0) rfl hy0)
  obtain ⟨y1, hy1⟩ := some_of_len (i := 1) (n := 2) hlen rfl
  have f1 : DataW.trod enc Try.prog W 0 (fun _ => true) true fu 3 ((cs.drop 1).take (Try.prog.cellsOf 3)) = xs[1]? := hf 1 _ rfl
  rw [show Try.prog.cellsOf 3 = 1 from by kernel_rfl] at f1
  obtain ⟨a1, r1, k1⟩ := br3.2 enc W _ _ y1.1 y1.2 (f1.trans hy1) (sized_part Try.underlying31 hw (i := 1) rfl hy1)
  have e0 := cut_drop cs 0 1
  simp only [Nat.reduceAdd] at e0
  have e1 := cut_drop cs 1 1
  simp only [Nat.reduceAdd] at e1
  have ez : cs.drop 2 = [] := List.drop_eq_nil_of_le (by omega)
  have hcs : cs = (cs.drop 0).take 1 ++ ((cs.drop 1).take 1) := by
    conv => lhs; rw [← List.drop_zero (l := cs), e0, e1, ez, List.append_nil]
  rw [hcs]
  generalize (cs.drop 0).take 1 = q0 at r0 ⊢
  obtain rfl := r0
  generalize (cs.drop 1).take 1 = q1 at r1 ⊢
  obtain rfl := r1
  exact ⟨⟨a0, a1⟩, rfl, ⟨k0, k1⟩⟩
theorem br34 : Br Try.prog 34 Stop := by
  refine ⟨by kernel_rfl, fun enc W fuel cs d ps h hw => ?_⟩
  obtain ⟨xs, fu, _, hx, hl, hlen, hf⟩ := DataW.trod_struct Try.underlying34 h
  rw [show Try.prog.cellsOf 34 = 3 from by kernel_rfl] at hl
  simp only [Prod.mk.injEq] at hx
  obtain ⟨rfl, _⟩ := hx
  obtain ⟨y0, hy0⟩ := some_of_len (i := 0) (n := 2) hlen rfl
  have f0 : DataW.trod enc Try.prog W 0 (fun _ => true) true fu 3 ((cs.drop 0).take (Try.prog.cellsOf 3)) = xs[0]? := hf 0 _ rfl
  rw [show Try.prog.cellsOf 3 = 1 from by kernel_rfl] at f0
  obtain ⟨a0, r0, k0⟩ := br3.2 enc W _ _ y0.1 y0.2 (f0.trans hy0) (sized_part Try.underlying34 hw (i := 0) rfl hy0)
  obtain ⟨y1, hy1⟩ := some_of_len (i := 1) (n := 2) hlen rfl
  have f1 : DataW.trod enc Try.prog W 0 (fun _ => true) true fu 31 ((cs.drop 1).take (Try.prog.cellsOf 31)) = xs[1]? := hf 1 _ rfl
  rw [show Try.prog.cellsOf 31 = 2 from by kernel_rfl] at f1
  obtain ⟨a1, r1, k1⟩ := br31.2 enc W _ _ y1.1 y1.2 (f1.trans hy1) (sized_part Try.underlying34 hw (i := 1) rfl hy1)
  have e0 := cut_drop cs 0 1
  simp only [Nat.reduceAdd] at e0
  have e1 := cut_drop cs 1 2
  simp only [Nat.reduceAdd] at e1
  have ez : cs.drop 3 = [] := List.drop_eq_nil_of_le (by omega)
  have hcs : cs = (cs.drop 0).take 1 ++ ((cs.drop 1).take 2) := by
    conv => lhs; rw [← List.drop_zero (l := cs), e0, e1, ez, List.append_nil]
  rw [hcs]
  generalize (cs.drop 0).take 1 = q0 at r0 ⊢
  obtain rfl := r0
  generalize (cs.drop 1).take 2 = q1 at r1 ⊢
  obtain rfl := r1
  exact ⟨⟨a0, a1⟩, rfl, ⟨k0, k1⟩⟩
theorem br33 : Br Try.prog 33 Mark := by
  refine ⟨by kernel_rfl, fun enc W fuel cs d ps h hw => ?_⟩
  obtain ⟨xs, fu, _, hx, hl, hlen, hf⟩ := DataW.trod_struct Try.underlying33 h
  rw [show Try.prog.cellsOf 33 = 3 from by kernel_rfl] at hl
  simp only [Prod.mk.injEq] at hx
  obtain ⟨rfl, _⟩ := hx
  obtain ⟨y0, hy0⟩ := some_of_len (i := 0) (n := 2) hlen rfl
  have f0 : DataW.trod enc Try.prog W 0 (fun _ => true) true fu 3 ((cs.drop 0).take (Try.prog.cellsOf 3)) = xs[0]? := hf 0 _ rfl
  rw [show Try.prog.cellsOf 3 = 1 from by kernel_rfl] at f0
  obtain ⟨a0, r0, k0⟩ := br3.2 enc W _ _ y0.1 y0.2 (f0.trans hy0) (sized_part Try.underlying33 hw (i := 0) rfl hy0)
  obtain ⟨y1, hy1⟩ := some_of_len (i := 1) (n := 2) hlen rfl
  have f1 : DataW.trod enc Try.prog W 0 (fun _ => true) true fu 31 ((cs.drop 1).take (Try.prog.cellsOf 31)) = xs[1]? := hf 1 _ rfl
  rw [show Try.prog.cellsOf 31 = 2 from by kernel_rfl] at f1
  obtain ⟨a1, r1, k1⟩ := br31.2 enc W _ _ y1.1 y1.2 (f1.trans hy1) (sized_part Try.underlying33 hw (i := 1) rfl hy1)
  have e0 := cut_drop cs 0 1
  simp only [Nat.reduceAdd] at e0
  have e1 := cut_drop cs 1 2
  simp only [Nat.reduceAdd] at e1
  have ez : cs.drop 3 = [] := List.drop_eq_nil_of_le (by omega)
  have hcs : cs = (cs.drop 0).take 1 ++ ((cs.drop 1).take 2) := by
    conv => lhs; rw [← List.drop_zero (l := cs), e0, e1, ez, List.append_nil]
  rw [hcs]
  generalize (cs.drop 0).take 1 = q0 at r0 ⊢
  obtain rfl := r0
  generalize (cs.drop 1).take 2 = q1 at r1 ⊢
  obtain rfl := r1
  exact ⟨⟨a0, a1⟩, rfl, ⟨k0, k1⟩⟩
theorem br22 : Br Try.prog 22 (List Span) := Br.slice Try.underlying22 (by kernel_rfl) (by rw [show Try.prog.bytesOf 31 = 16 from by kernel_rfl]; decide) br31
theorem br23 : Br Try.prog 23 (List Stop) := Br.slice Try.underlying23 (by kernel_rfl) (by rw [show Try.prog.bytesOf 34 = 24 from by kernel_rfl]; decide) br34
theorem br26 : Br Try.prog 26 (List Mark) := Br.slice Try.underlying26 (by kernel_rfl) (by rw [show Try.prog.bytesOf 33 = 24 from by kernel_rfl]; decide) br33
theorem br29 : Br Try.prog 29 (List Int) := Br.slice Try.underlying29 (by kernel_rfl) (by rw [show Try.prog.bytesOf 3 = 8 from by kernel_rfl]; decide) br3
theorem br25 : Br Try.prog 25 Drum := by
  refine ⟨by kernel_rfl, fun enc W fuel cs d ps h hw => ?_⟩
  obtain ⟨xs, fu, _, hx, hl, hlen, hf⟩ := DataW.trod_struct Try.underlying25 h
  rw [show Try.prog.cellsOf 25 = 2 from by kernel_rfl] at hl
  simp only [Prod.mk.injEq] at hx
  obtain ⟨rfl, _⟩ := hx
  obtain ⟨y0, hy0⟩ := some_of_len (i := 0) (n := 2) hlen rfl
  have f0 : DataW.trod enc Try.prog W 0 (fun _ => true) true fu 22 ((cs.drop 0).take (Try.prog.cellsOf 22)) = xs[0]? := hf 0 _ rfl
  rw [show Try.prog.cellsOf 22 = 1 from by kernel_rfl] at f0
  obtain ⟨a0, r0, k0⟩ := br22.2 enc W _ _ y0.1 y0.2 (f0.trans hy0) (sized_part Try.underlying25 hw (i := 0) rfl hy0)
  obtain ⟨y1, hy1⟩ := some_of_len (i := 1) (n := 2) hlen rfl
  have f1 : DataW.trod enc Try.prog W 0 (fun _ => true) true fu 23 ((cs.drop 1).take (Try.prog.cellsOf 23)) = xs[1]? := hf 1 _ rfl
  rw [show Try.prog.cellsOf 23 = 1 from by kernel_rfl] at f1
  obtain ⟨a1, r1, k1⟩ := br23.2 enc W _ _ y1.1 y1.2 (f1.trans hy1) (sized_part Try.underlying25 hw (i := 1) rfl hy1)
  have e0 := cut_drop cs 0 1
  simp only [Nat.reduceAdd] at e0
  have e1 := cut_drop cs 1 1
  simp only [Nat.reduceAdd] at e1
  have ez : cs.drop 2 = [] := List.drop_eq_nil_of_le (by omega)
  have hcs : cs = (cs.drop 0).take 1 ++ ((cs.drop 1).take 1) := by
    conv => lhs; rw [← List.drop_zero (l := cs), e0, e1, ez, List.append_nil]
  rw [hcs]
  generalize (cs.drop 0).take 1 = q0 at r0 ⊢
  obtain ⟨u0_0, rfl, s0_0⟩ := r0
  generalize (cs.drop 1).take 1 = q1 at r1 ⊢
  obtain ⟨u1_0, rfl, s1_0⟩ := r1
  exact ⟨⟨a0, a1⟩, ⟨u0_0, u1_0, rfl, s0_0, s1_0⟩, ⟨k0, k1⟩⟩
theorem br28 : Br Try.prog 28 Clk := by
  refine ⟨by kernel_rfl, fun enc W fuel cs d ps h hw => ?_⟩
  obtain ⟨xs, fu, _, hx, hl, hlen, hf⟩ := DataW.trod_struct Try.underlying28 h
  rw [show Try.prog.cellsOf 28 = 3 from by kernel_rfl] at hl
  simp only [Prod.mk.injEq] at hx
  obtain ⟨rfl, _⟩ := hx
  obtain ⟨y0, hy0⟩ := some_of_len (i := 0) (n := 2) hlen rfl
  have f0 : DataW.trod enc Try.prog W 0 (fun _ => true) true fu 25 ((cs.drop 0).take (Try.prog.cellsOf 25)) = xs[0]? := hf 0 _ rfl
  rw [show Try.prog.cellsOf 25 = 2 from by kernel_rfl] at f0
  obtain ⟨a0, r0, k0⟩ := br25.2 enc W _ _ y0.1 y0.2 (f0.trans hy0) (sized_part Try.underlying28 hw (i := 0) rfl hy0)
  obtain ⟨y1, hy1⟩ := some_of_len (i := 1) (n := 2) hlen rfl
  have f1 : DataW.trod enc Try.prog W 0 (fun _ => true) true fu 26 ((cs.drop 2).take (Try.prog.cellsOf 26)) = xs[1]? := hf 1 _ rfl
  rw [show Try.prog.cellsOf 26 = 1 from by kernel_rfl] at f1
  obtain ⟨a1, r1, k1⟩ := br26.2 enc W _ _ y1.1 y1.2 (f1.trans hy1) (sized_part Try.underlying28 hw (i := 1) rfl hy1)
  have e0 := cut_drop cs 0 2
  simp only [Nat.reduceAdd] at e0
  have e1 := cut_drop cs 2 1
  simp only [Nat.reduceAdd] at e1
  have ez : cs.drop 3 = [] := List.drop_eq_nil_of_le (by omega)
  have hcs : cs = (cs.drop 0).take 2 ++ ((cs.drop 2).take 1) := by
    conv => lhs; rw [← List.drop_zero (l := cs), e0, e1, ez, List.append_nil]
  rw [hcs]
  generalize (cs.drop 0).take 2 = q0 at r0 ⊢
  obtain ⟨u0_0, u0_1, rfl, s0_0, s0_1⟩ := r0
  generalize (cs.drop 2).take 1 = q1 at r1 ⊢
  obtain ⟨u1_0, rfl, s1_0⟩ := r1
  exact ⟨⟨a0, a1⟩, ⟨u0_0, u0_1, u1_0, rfl, s0_0, s0_1, s1_0⟩, ⟨k0, k1⟩⟩
theorem br36 : Br Try.prog 36 Ask := by
  refine ⟨by kernel_rfl, fun enc W fuel cs d ps h hw => ?_⟩
  obtain ⟨xs, fu, _, hx, hl, hlen, hf⟩ := DataW.trod_struct Try.underlying36 h
  rw [show Try.prog.cellsOf 36 = 15 from by kernel_rfl] at hl
  simp only [Prod.mk.injEq] at hx
  obtain ⟨rfl, _⟩ := hx
  obtain ⟨y0, hy0⟩ := some_of_len (i := 0) (n := 9) hlen rfl
  have f0 : DataW.trod enc Try.prog W 0 (fun _ => true) true fu 3 ((cs.drop 0).take (Try.prog.cellsOf 3)) = xs[0]? := hf 0 _ rfl
  rw [show Try.prog.cellsOf 3 = 1 from by kernel_rfl] at f0
  obtain ⟨a0, r0, k0⟩ := br3.2 enc W _ _ y0.1 y0.2 (f0.trans hy0) (sized_part Try.underlying36 hw (i := 0) rfl hy0)
  obtain ⟨y1, hy1⟩ := some_of_len (i := 1) (n := 9) hlen rfl
  have f1 : DataW.trod enc Try.prog W 0 (fun _ => true) true fu 3 ((cs.drop 1).take (Try.prog.cellsOf 3)) = xs[1]? := hf 1 _ rfl
  rw [show Try.prog.cellsOf 3 = 1 from by kernel_rfl] at f1
  obtain ⟨a1, r1, k1⟩ := br3.2 enc W _ _ y1.1 y1.2 (f1.trans hy1) (sized_part Try.underlying36 hw (i := 1) rfl hy1)
  obtain ⟨y2, hy2⟩ := some_of_len (i := 2) (n := 9) hlen rfl
  have f2 : DataW.trod enc Try.prog W 0 (fun _ => true) true fu 3 ((cs.drop 2).take (Try.prog.cellsOf 3)) = xs[2]? := hf 2 _ rfl
  rw [show Try.prog.cellsOf 3 = 1 from by kernel_rfl] at f2
  obtain ⟨a2, r2, k2⟩ := br3.2 enc W _ _ y2.1 y2.2 (f2.trans hy2) (sized_part Try.underlying36 hw (i := 2) rfl hy2)
  obtain ⟨y3, hy3⟩ := some_of_len (i := 3) (n := 9) hlen rfl
  have f3 : DataW.trod enc Try.prog W 0 (fun _ => true) true fu 29 ((cs.drop 3).take (Try.prog.cellsOf 29)) = xs[3]? := hf 3 _ rfl
  rw [show Try.prog.cellsOf 29 = 1 from by kernel_rfl] at f3
  obtain ⟨a3, r3, k3⟩ := br29.2 enc W _ _ y3.1 y3.2 (f3.trans hy3) (sized_part Try.underlying36 hw (i := 3) rfl hy3)
  obtain ⟨y4, hy4⟩ := some_of_len (i := 4) (n := 9) hlen rfl
  have f4 : DataW.trod enc Try.prog W 0 (fun _ => true) true fu 29 ((cs.drop 4).take (Try.prog.cellsOf 29)) = xs[4]? := hf 4 _ rfl
  rw [show Try.prog.cellsOf 29 = 1 from by kernel_rfl] at f4
  obtain ⟨a4, r4, k4⟩ := br29.2 enc W _ _ y4.1 y4.2 (f4.trans hy4) (sized_part Try.underlying36 hw (i := 4) rfl hy4)
  obtain ⟨y5, hy5⟩ := some_of_len (i := 5) (n := 9) hlen rfl
  have f5 : DataW.trod enc Try.prog W 0 (fun _ => true) true fu 29 ((cs.drop 5).take (Try.prog.cellsOf 29)) = xs[5]? := hf 5 _ rfl
  rw [show Try.prog.cellsOf 29 = 1 from by kernel_rfl] at f5
  obtain ⟨a5, r5, k5⟩ := br29.2 enc W _ _ y5.1 y5.2 (f5.trans hy5) (sized_part Try.underlying36 hw (i := 5) rfl hy5)
  obtain ⟨y6, hy6⟩ := some_of_len (i := 6) (n := 9) hlen rfl
  have f6 : DataW.trod enc Try.prog W 0 (fun _ => true) true fu 33 ((cs.drop 6).take (Try.prog.cellsOf 33)) = xs[6]? := hf 6 _ rfl
  rw [show Try.prog.cellsOf 33 = 3 from by kernel_rfl] at f6
  obtain ⟨a6, r6, k6⟩ := br33.2 enc W _ _ y6.1 y6.2 (f6.trans hy6) (sized_part Try.underlying36 hw (i := 6) rfl hy6)
  obtain ⟨y7, hy7⟩ := some_of_len (i := 7) (n := 9) hlen rfl
  have f7 : DataW.trod enc Try.prog W 0 (fun _ => true) true fu 33 ((cs.drop 9).take (Try.prog.cellsOf 33)) = xs[7]? := hf 7 _ rfl
  rw [show Try.prog.cellsOf 33 = 3 from by kernel_rfl] at f7
  obtain ⟨a7, r7, k7⟩ := br33.2 enc W _ _ y7.1 y7.2 (f7.trans hy7) (sized_part Try.underlying36 hw (i := 7) rfl hy7)
  obtain ⟨y8, hy8⟩ := some_of_len (i := 8) (n := 9) hlen rfl
  have f8 : DataW.trod enc Try.prog W 0 (fun _ => true) true fu 34 ((cs.drop 12).take (Try.prog.cellsOf 34)) = xs[8]? := hf 8 _ rfl
  rw [show Try.prog.cellsOf 34 = 3 from by kernel_rfl] at f8
  obtain ⟨a8, r8, k8⟩ := br34.2 enc W _ _ y8.1 y8.2 (f8.trans hy8) (sized_part Try.underlying36 hw (i := 8) rfl hy8)
  have e0 := cut_drop cs 0 1
  simp only [Nat.reduceAdd] at e0
  have e1 := cut_drop cs 1 1
  simp only [Nat.reduceAdd] at e1
  have e2 := cut_drop cs 2 1
  simp only [Nat.reduceAdd] at e2
  have e3 := cut_drop cs 3 1
  simp only [Nat.reduceAdd] at e3
  have e4 := cut_drop cs 4 1
  simp only [Nat.reduceAdd] at e4
  have e5 := cut_drop cs 5 1
  simp only [Nat.reduceAdd] at e5
  have e6 := cut_drop cs 6 3
  simp only [Nat.reduceAdd] at e6
  have e7 := cut_drop cs 9 3
  simp only [Nat.reduceAdd] at e7
  have e8 := cut_drop cs 12 3
  simp only [Nat.reduceAdd] at e8
  have ez : cs.drop 15 = [] := List.drop_eq_nil_of_le (by omega)
  have hcs : cs = (cs.drop 0).take 1 ++ ((cs.drop 1).take 1 ++ ((cs.drop 2).take 1 ++ ((cs.drop 3).take 1 ++ ((cs.drop 4).take 1 ++ ((cs.drop 5).take 1 ++ ((cs.drop 6).take 3 ++ ((cs.drop 9).take 3 ++ ((cs.drop 12).take 3)))))))) := by
    conv => lhs; rw [← List.drop_zero (l := cs), e0, e1, e2, e3, e4, e5, e6, e7, e8, ez, List.append_nil]
  rw [hcs]
  generalize (cs.drop 0).take 1 = q0 at r0 ⊢
  obtain rfl := r0
  generalize (cs.drop 1).take 1 = q1 at r1 ⊢
  obtain rfl := r1
  generalize (cs.drop 2).take 1 = q2 at r2 ⊢
  obtain rfl := r2
  generalize (cs.drop 3).take 1 = q3 at r3 ⊢
  obtain ⟨u3_0, rfl, s3_0⟩ := r3
  generalize (cs.drop 4).take 1 = q4 at r4 ⊢
  obtain ⟨u4_0, rfl, s4_0⟩ := r4
  generalize (cs.drop 5).take 1 = q5 at r5 ⊢
  obtain ⟨u5_0, rfl, s5_0⟩ := r5
  generalize (cs.drop 6).take 3 = q6 at r6 ⊢
  obtain rfl := r6
  generalize (cs.drop 9).take 3 = q7 at r7 ⊢
  obtain rfl := r7
  generalize (cs.drop 12).take 3 = q8 at r8 ⊢
  obtain rfl := r8
  exact ⟨⟨a0, a1, a2, a3, a4, a5, a6, a7, a8⟩, ⟨u3_0, u4_0, u5_0, rfl, s3_0, s4_0, s5_0⟩, ⟨k0, k1, k2, k3, k4, k5, k6, k7, k8⟩⟩
end Go.Proofs.C2
