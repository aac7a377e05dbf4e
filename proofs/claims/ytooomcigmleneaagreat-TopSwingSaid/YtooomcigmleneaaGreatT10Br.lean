import Derived.Test.YtooomcigmleneaaGreatT10Data
import Derived.Test.YtooomcigmleneaaGreatKxN
/- Top: from the reading of arguments to lists and structs, by program. -/
namespace Go.Proofs.T10
open Go Go.Kx

instance : Rng Span := ⟨fun x => Rng.ok x.Lo ∧ Rng.ok x.Hi⟩
instance : Rng Paper := ⟨fun x => Rng.ok x.Pitch ∧ Rng.ok x.Height ∧ Rng.ok x.Radius ∧ Rng.ok x.Low ∧ Rng.ok x.High ∧ Rng.ok x.Columns ∧ Rng.ok x.Along ∧ Rng.ok x.Across⟩
instance : Rng Point := ⟨fun x => Rng.ok x.X ∧ Rng.ok x.Y ∧ Rng.ok x.Half⟩
instance : Rng Stp := ⟨fun x => Rng.ok x.Column ∧ Rng.ok x.Ticks⟩
instance : Rng Drum := ⟨fun x => Rng.ok x.Rates ∧ Rng.ok x.Stops⟩
instance : Rng Pen := ⟨fun x => Rng.ok x.Band ∧ Rng.ok x.Zero ∧ Rng.ok x.Rate⟩
instance : Rng Sheet := ⟨fun x => Rng.ok x.Paper ∧ Rng.ok x.Trace ∧ Rng.ok x.Blots ∧ Rng.ok x.Drum ∧ Rng.ok x.Pen⟩
instance : Rng Course := ⟨fun x => Rng.ok x.Zero ∧ Rng.ok x.Ticks ∧ Rng.ok x.Shown ∧ Rng.ok x.Levels⟩
theorem br3 : Br Tryz.prog 3 Int := Br.int Tryz.underlying3 (by kernel_rfl)
theorem br23 : Br Tryz.prog 23 Span := by
  refine ⟨by kernel_rfl, fun enc W fuel cs d ps h hw => ?_⟩
  obtain ⟨xs, fu, _, hx, hl, hlen, hf⟩ := DataW.trod_struct Tryz.underlying23 h
  rw [show Tryz.prog.cellsOf 23 = 2 from by kernel_rfl] at hl
  simp only [Prod.mk.injEq] at hx
  obtain ⟨rfl, _⟩ := hx
  obtain ⟨y0, hy0⟩ := some_of_len (i := 0) (n := 2) hlen rfl
  have f0 : DataW.trod enc Tryz.prog W 0 (fun _ => true) true fu 3 ((cs.drop 0).take (Tryz.prog.cellsOf 3)) = xs[0]? := hf 0 _ rfl
  rw [show Tryz.prog.cellsOf 3 = 1 from by kernel_rfl] at f0
  obtain ⟨a0, r0, k0⟩ := br3.2 enc W _ _ y0.1 y0.2 (f0.trans hy0) (sized_part Tryz.underlying23 hw (i := 0) rfl hy0)
  obtain ⟨y1, hy1⟩ := some_of_len (i := 1) (n := 2) hlen rfl
  have f1 : DataW.trod enc Tryz.prog W 0 (fun _ => true) true fu 3 ((cs.drop 1).take (Tryz.prog.cellsOf 3)) = xs[1]? := hf 1 _ rfl
  rw [show Tryz.prog.cellsOf 3 = 1 from by kernel_rfl] at f1
  obtain ⟨a1, r1, k1⟩ := br3.2 enc W _ _ y1.1 y1.2 (f1.trans hy1) (sized_part Tryz.underlying23 hw (i := 1) rfl hy1)
  have e0 := cut_drop cs 0 1
  simp only [Nat.reduceAdd] at e0
  have e1 := cut_drop cs 1 1
  simp only [Nat.reduceAdd] at e1
  have ez : cs.drop 2 = [] := List.drop_eq_nil_of_le (by omega)
  have hcs : cs = (cs.drop 0).take 1 ++ ((cs.drop 1).take 1) := by
    conv => lhs; rw [← List.drop_zero (l := cs), e0, e1, ez, List.append_nil]
  rw [hcs]
  generalize (cs.drop 0).take 1 = q0 at r0 ⊢
  obtain rfl := r0
  generalize (cs.drop 1).take 1 = q1 at r1 ⊢
  obtain rfl := r1
  exact ⟨⟨a0, a1⟩, rfl, ⟨k0, k1⟩⟩
theorem br25 : Br Tryz.prog 25 Paper := by
  refine ⟨by kernel_rfl, fun enc W fuel cs d ps h hw => ?_⟩
  obtain ⟨xs, fu, _, hx, hl, hlen, hf⟩ := DataW.trod_struct Tryz.underlying25 h
  rw [show Tryz.prog.cellsOf 25 = 10 from by kernel_rfl] at hl
  simp only [Prod.mk.injEq] at hx
  obtain ⟨rfl, _⟩ := hx
  obtain ⟨y0, hy0⟩ := some_of_len (i := 0) (n := 8) hlen rfl
  have f0 : DataW.trod enc Tryz.prog W 0 (fun _ => true) true fu 3 ((cs.drop 0).take (Tryz.prog.cellsOf 3)) = xs[0]? := hf 0 _ rfl
  rw [show Tryz.prog.cellsOf 3 = 1 from by kernel_rfl] at f0
  obtain ⟨a0, r0, k0⟩ := br3.2 enc W _ _ y0.1 y0.2 (f0.trans hy0) (sized_part Tryz.underlying25 hw (i := 0) rfl hy0)
  obtain ⟨y1, hy1⟩ := some_of_len (i := 1) (n := 8) hlen rfl
  have f1 : DataW.trod enc Tryz.prog W 0 (fun _ => true) true fu 3 ((cs.drop 1).take (Tryz.prog.cellsOf 3)) = xs[1]? := hf 1 _ rfl
  rw [show Tryz.prog.cellsOf 3 = 1 from by kernel_rfl] at f1
  obtain ⟨a1, r1, k1⟩ := br3.2 enc W _ _ y1.1 y1.2 (f1.trans hy1) (sized_part Tryz.underlying25 hw (i := 1) rfl hy1)
  obtain ⟨y2, hy2⟩ := some_of_len (i := 2) (n := 8) hlen rfl
  have f2 : DataW.trod enc Tryz.prog W 0 (fun _ => true) true fu 3 ((cs.drop 2).take (Tryz.prog.cellsOf 3)) = xs[2]? := hf 2 _ rfl
  rw [show Tryz.prog.cellsOf 3 = 1 from by kernel_rfl] at f2
  obtain ⟨a2, r2, k2⟩ := br3.2 enc W _ _ y2.1 y2.2 (f2.trans hy2) (sized_part Tryz.underlying25 hw (i := 2) rfl hy2)
  obtain ⟨y3, hy3⟩ := some_of_len (i := 3) (n := 8) hlen rfl
  have f3 : DataW.trod enc Tryz.prog W 0 (fun _ => true) true fu 3 ((cs.drop 3).take (Tryz.prog.cellsOf 3)) = xs[3]? := hf 3 _ rfl
  rw [show Tryz.prog.cellsOf 3 = 1 from by kernel_rfl] at f3
  obtain ⟨a3, r3, k3⟩ := br3.2 enc W _ _ y3.1 y3.2 (f3.trans hy3) (sized_part Tryz.underlying25 hw (i := 3) rfl hy3)
  obtain ⟨y4, hy4⟩ := some_of_len (i := 4) (n := 8) hlen rfl
  have f4 : DataW.trod enc Tryz.prog W 0 (fun _ => true) true fu 3 ((cs.drop 4).take (Tryz.prog.cellsOf 3)) = xs[4]? := hf 4 _ rfl
  rw [show Tryz.prog.cellsOf 3 = 1 from by kernel_rfl] at f4
  obtain ⟨a4, r4, k4⟩ := br3.2 enc W _ _ y4.1 y4.2 (f4.trans hy4) (sized_part Tryz.underlying25 hw (i := 4) rfl hy4)
  obtain ⟨y5, hy5⟩ := some_of_len (i := 5) (n := 8) hlen rfl
  have f5 : DataW.trod enc Tryz.prog W 0 (fun _ => true) true fu 3 ((cs.drop 5).take (Tryz.prog.cellsOf 3)) = xs[5]? := hf 5 _ rfl
  rw [show Tryz.prog.cellsOf 3 = 1 from by kernel_rfl] at f5
  obtain ⟨a5, r5, k5⟩ := br3.2 enc W _ _ y5.1 y5.2 (f5.trans hy5) (sized_part Tryz.underlying25 hw (i := 5) rfl hy5)
  obtain ⟨y6, hy6⟩ := some_of_len (i := 6) (n := 8) hlen rfl
  have f6 : DataW.trod enc Tryz.prog W 0 (fun _ => true) true fu 23 ((cs.drop 6).take (Tryz.prog.cellsOf 23)) = xs[6]? := hf 6 _ rfl
  rw [show Tryz.prog.cellsOf 23 = 2 from by kernel_rfl] at f6
  obtain ⟨a6, r6, k6⟩ := br23.2 enc W _ _ y6.1 y6.2 (f6.trans hy6) (sized_part Tryz.underlying25 hw (i := 6) rfl hy6)
  obtain ⟨y7, hy7⟩ := some_of_len (i := 7) (n := 8) hlen rfl
  have f7 : DataW.trod enc Tryz.prog W 0 (fun _ => true) true fu 23 ((cs.drop 8).take (Tryz.prog.cellsOf 23)) = xs[7]? := hf 7 _ rfl
  rw [show Tryz.prog.cellsOf 23 = 2 from by kernel_rfl] at f7
  obtain ⟨a7, r7, k7⟩ := br23.2 enc W _ _ y7.1 y7.2 (f7.trans hy7) (sized_part Tryz.underlying25 hw (i := 7) rfl hy7)
  have e0 := cut_drop cs 0 1
  simp only [Nat.reduceAdd] at e0
  have e1 := cut_drop cs 1 1
  simp only [Nat.reduceAdd] at e1
  have e2 := cut_drop cs 2 1
  simp only [Nat.reduceAdd] at e2
  have e3 := cut_drop cs 3 1
  simp only [Nat.reduceAdd] at e3
  have e4 := cut_drop cs 4 1
  simp only [Nat.reduceAdd] at e4
  have e5 := cut_drop cs 5 1
  simp only [Nat.reduceAdd] at e5
  have e6 := cut_drop cs 6 2
  simp only [Nat.reduceAdd] at e6
  have e7 := cut_drop cs 8 2
  simp only [Nat.reduceAdd] at e7
  have ez : cs.drop 10 = [] := List.drop_eq_nil_of_le (by omega)
  have hcs : cs = (cs.drop 0).take 1 ++ ((cs.drop 1).take 1 ++ ((cs.drop 2).take 1 ++ ((cs.drop 3).take 1 ++ ((cs.drop 4).take 1 ++ ((cs.drop 5).take 1 ++ ((cs.drop 6).take 2 ++ ((cs.drop 8).take 2))))))) := by
    conv => lhs; rw [← List.drop_zero (l := cs), e0, e1, e2, e3, e4, e5, e6, e7, ez, List.append_nil]
  rw [hcs]
  generalize (cs.drop 0).take 1 = q0 at r0 ⊢
  obtain rfl := r0
  generalize (cs.drop 1).take 1 = q1 at r1 ⊢
  obtain rfl := r1
  generalize (cs.drop 2).take 1 = q2 at r2 ⊢
  obtain rfl := r2
  generalize (cs.drop 3).take 1 = q3 at r3 ⊢
  obtain rfl := r3
  generalize (cs.drop 4).take 1 = q4 at r4 ⊢
  obtain rfl := r4
  generalize (cs.drop 5).take 1 = q5 at r5 ⊢
  obtain rfl := r5
  generalize (cs.drop 6).take 2 = q6 at r6 ⊢
  obtain rfl := r6
  generalize (cs.drop 8).take 2 = q7 at r7 ⊢
  obtain rfl := r7
  exact ⟨⟨a0, a1, a2, a3, a4, a5, a6, a7⟩, rfl, ⟨k0, k1, k2, k3, k4, k5, k6, k7⟩⟩
theorem br102 : Br Tryz.prog 102 Point := by
  refine ⟨by kernel_rfl, fun enc W fuel cs d ps h hw => ?_⟩
  obtain ⟨xs, fu, _, hx, hl, hlen, hf⟩ := DataW.trod_struct Tryz.underlying102 h
  rw [show Tryz.prog.cellsOf 102 = 3 from by kernel_rfl] at hl
  simp only [Prod.mk.injEq] at hx
  obtain ⟨rfl, _⟩ := hx
  obtain ⟨y0, hy0⟩ := some_of_len (i := 0) (n := 3) hlen rfl
  have f0 : DataW.trod enc Tryz.prog W 0 (fun _ => true) true fu 3 ((cs.drop 0).take (Tryz.prog.cellsOf 3)) = xs[0]? := hf 0 _ rfl
  rw [show Tryz.prog.cellsOf 3 = 1 from by kernel_rfl] at f0
  obtain ⟨a0, r0, k0⟩ := br3.2 enc W _ _ y0.1 y0.2 (f0.trans hy0) (sized_part Tryz.underlying102 hw (i := 0) rfl hy0)
  obtain ⟨y1, hy1⟩ := some_of_len (i := 1) (n := 3) hlen rfl
  have f1 : DataW.trod enc Tryz.prog W 0 (fun _ => true) true fu 3 ((cs.drop 1).take (Tryz.prog.cellsOf 3)) = xs[1]? := hf 1 _ rfl
  rw [show Tryz.prog.cellsOf 3 = 1 from by kernel_rfl] at f1
  obtain ⟨a1, r1, k1⟩ := br3.2 enc W _ _ y1.1 y1.2 (f1.trans hy1) (sized_part Tryz.underlying102 hw (i := 1) rfl hy1)
  obtain ⟨y2, hy2⟩ := some_of_len (i := 2) (n := 3) hlen rfl
  have f2 : DataW.trod enc Tryz.prog W 0 (fun _ => true) true fu 3 ((cs.drop 2).take (Tryz.prog.cellsOf 3)) = xs[2]? := hf 2 _ rfl
  rw [show Tryz.prog.cellsOf 3 = 1 from by kernel_rfl] at f2
  obtain ⟨a2, r2, k2⟩ := br3.2 enc W _ _ y2.1 y2.2 (f2.trans hy2) (sized_part Tryz.underlying102 hw (i := 2) rfl hy2)
  have e0 := cut_drop cs 0 1
  simp only [Nat.reduceAdd] at e0
  have e1 := cut_drop cs 1 1
  simp only [Nat.reduceAdd] at e1
  have e2 := cut_drop cs 2 1
  simp only [Nat.reduceAdd] at e2
  have ez : cs.drop 3 = [] := List.drop_eq_nil_of_le (by omega)
  have hcs : cs = (cs.drop 0).take 1 ++ ((cs.drop 1).take 1 ++ ((cs.drop 2).take 1)) := by
    conv => lhs; rw [← List.drop_zero (l := cs), e0, e1, e2, ez, List.append_nil]
  rw [hcs]
  generalize (cs.drop 0).take 1 = q0 at r0 ⊢
  obtain rfl := r0
  generalize (cs.drop 1).take 1 = q1 at r1 ⊢
  obtain rfl := r1
  generalize (cs.drop 2).take 1 = q2 at r2 ⊢
  obtain rfl := r2
  exact ⟨⟨a0, a1, a2⟩, rfl, ⟨k0, k1, k2⟩⟩
theorem br26 : Br Tryz.prog 26 (List Point) := Br.slice Tryz.underlying26 (by kernel_rfl) (by rw [show Tryz.prog.bytesOf 102 = 24 from by kernel_rfl]; decide) br102
theorem br27 : Br Tryz.prog 27 (List Int) := Br.slice Tryz.underlying27 (by kernel_rfl) (by rw [show Tryz.prog.bytesOf 3 = 8 from by kernel_rfl]; decide) br3
theorem br28 : Br Tryz.prog 28 (List Span) := Br.slice Tryz.underlying28 (by kernel_rfl) (by rw [show Tryz.prog.bytesOf 23 = 16 from by kernel_rfl]; decide) br23
theorem br108 : Br Tryz.prog 108 Stp := by
  refine ⟨by kernel_rfl, fun enc W fuel cs d ps h hw => ?_⟩
  obtain ⟨xs, fu, _, hx, hl, hlen, hf⟩ := DataW.trod_struct Tryz.underlying108 h
  rw [show Tryz.prog.cellsOf 108 = 3 from by kernel_rfl] at hl
  simp only [Prod.mk.injEq] at hx
  obtain ⟨rfl, _⟩ := hx
  obtain ⟨y0, hy0⟩ := some_of_len (i := 0) (n := 2) hlen rfl
  have f0 : DataW.trod enc Tryz.prog W 0 (fun _ => true) true fu 3 ((cs.drop 0).take (Tryz.prog.cellsOf 3)) = xs[0]? := hf 0 _ rfl
  rw [show Tryz.prog.cellsOf 3 = 1 from by kernel_rfl] at f0
  obtain ⟨a0, r0, k0⟩ := br3.2 enc W _ _ y0.1 y0.2 (f0.trans hy0) (sized_part Tryz.underlying108 hw (i := 0) rfl hy0)
  obtain ⟨y1, hy1⟩ := some_of_len (i := 1) (n := 2) hlen rfl
  have f1 : DataW.trod enc Tryz.prog W 0 (fun _ => true) true fu 23 ((cs.drop 1).take (Tryz.prog.cellsOf 23)) = xs[1]? := hf 1 _ rfl
  rw [show Tryz.prog.cellsOf 23 = 2 from by kernel_rfl] at f1
  obtain ⟨a1, r1, k1⟩ := br23.2 enc W _ _ y1.1 y1.2 (f1.trans hy1) (sized_part Tryz.underlying108 hw (i := 1) rfl hy1)
  have e0 := cut_drop cs 0 1
  simp only [Nat.reduceAdd] at e0
  have e1 := cut_drop cs 1 2
  simp only [Nat.reduceAdd] at e1
  have ez : cs.drop 3 = [] := List.drop_eq_nil_of_le (by omega)
  have hcs : cs = (cs.drop 0).take 1 ++ ((cs.drop 1).take 2) := by
    conv => lhs; rw [← List.drop_zero (l := cs), e0, e1, ez, List.append_nil]
  rw [hcs]
  generalize (cs.drop 0).take 1 = q0 at r0 ⊢
  obtain rfl := r0
  generalize (cs.drop 1).take 2 = q1 at r1 ⊢
  obtain rfl := r1
  exact ⟨⟨a0, a1⟩, rfl, ⟨k0, k1⟩⟩
theorem br29 : Br Tryz.prog 29 (List Stp) := Br.slice Tryz.underlying29 (by kernel_rfl) (by rw [show Tryz.prog.bytesOf 108 = 24 from by kernel_rfl]; decide) br108
theorem br31 : Br Tryz.prog 31 Drum := by
  refine ⟨by kernel_rfl, fun enc W fuel cs d ps h hw => ?_⟩
  obtain ⟨xs, fu, _, hx, hl, hlen, hf⟩ := DataW.trod_struct Tryz.underlying31 h
  rw [show Tryz.prog.cellsOf 31 = 2 from by kernel_rfl] at hl
  simp only [Prod.mk.injEq] at hx
  obtain ⟨rfl, _⟩ := hx
  obtain ⟨y0, hy0⟩ := some_of_len (i := 0) (n := 2) hlen rfl
  have f0 : DataW.trod enc Tryz.prog W 0 (fun _ => true) true fu 28 ((cs.drop 0).take (Tryz.prog.cellsOf 28)) = xs[0]? := hf 0 _ rfl
  rw [show Tryz.prog.cellsOf 28 = 1 from by kernel_rfl] at f0
  obtain ⟨a0, r0, k0⟩ := br28.2 enc W _ _ y0.1 y0.2 (f0.trans hy0) (sized_part Tryz.underlying31 hw (i := 0) rfl hy0)
  obtain ⟨y1, hy1⟩ := some_of_len (i := 1) (n := 2) hlen rfl
  have f1 : DataW.trod enc Tryz.prog W 0 (fun _ => true) true fu 29 ((cs.drop 1).take (Tryz.prog.cellsOf 29)) = xs[1]? := hf 1 _ rfl
  rw [show Tryz.prog.cellsOf 29 = 1 from by kernel_rfl] at f1
  obtain ⟨a1, r1, k1⟩ := br29.2 enc W _ _ y1.1 y1.2 (f1.trans hy1) (sized_part Tryz.underlying31 hw (i := 1) rfl hy1)
  have e0 := cut_drop cs 0 1
  simp only [Nat.reduceAdd] at e0
  have e1 := cut_drop cs 1 1
  simp only [Nat.reduceAdd] at e1
  have ez : cs.drop 2 = [] := List.drop_eq_nil_of_le (by omega)
  have hcs : cs = (cs.drop 0).take 1 ++ ((cs.drop 1).take 1) := by
    conv => lhs; rw [← List.drop_zero (l := cs), e0, e1, ez, List.append_nil]
  rw [hcs]
  generalize (cs.drop 0).take 1 = q0 at r0 ⊢
  obtain ⟨u0_0, rfl, s0_0⟩ := r0
  generalize (cs.drop 1).take 1 = q1 at r1 ⊢
  obtain ⟨u1_0, rfl, s1_0⟩ := r1
  exact ⟨⟨a0, a1⟩, ⟨u0_0, u1_0, rfl, s0_0, s1_0⟩, ⟨k0, k1⟩⟩
theorem br33 : Br Tryz.prog 33 Pen := by
  refine ⟨by kernel_rfl, fun enc W fuel cs d ps h hw => ?_⟩
  obtain ⟨xs, fu, _, hx, hl, hlen, hf⟩ := DataW.trod_struct Tryz.underlying33 h
  rw [show Tryz.prog.cellsOf 33 = 4 from by kernel_rfl] at hl
  simp only [Prod.mk.injEq] at hx
  obtain ⟨rfl, _⟩ := hx
  obtain ⟨y0, hy0⟩ := some_of_len (i := 0) (n := 3) hlen rfl
  have f0 : DataW.trod enc Tryz.prog W 0 (fun _ => true) true fu 3 ((cs.drop 0).take (Tryz.prog.cellsOf 3)) = xs[0]? := hf 0 _ rfl
  rw [show Tryz.prog.cellsOf 3 = 1 from by kernel_rfl] at f0
  obtain ⟨a0, r0, k0⟩ := br3.2 enc W _ _ y0.1 y0.2 (f0.trans hy0) (sized_part Tryz.underlying33 hw (i := 0) rfl hy0)
  obtain ⟨y1, hy1⟩ := some_of_len (i := 1) (n := 3) hlen rfl
  have f1 : DataW.trod enc Tryz.prog W 0 (fun _ => true) true fu 23 ((cs.drop 1).take (Tryz.prog.cellsOf 23)) = xs[1]? := hf 1 _ rfl
  rw [show Tryz.prog.cellsOf 23 = 2 from by kernel_rfl] at f1
  obtain ⟨a1, r1, k1⟩ := br23.2 enc W _ _ y1.1 y1.2 (f1.trans hy1) (sized_part Tryz.underlying33 hw (i := 1) rfl hy1)
  obtain ⟨y2, hy2⟩ := some_of_len (i := 2) (n := 3) hlen rfl
  have f2 : DataW.trod enc Tryz.prog W 0 (fun _ => true) true fu 3 ((cs.drop 3).take (Tryz.prog.cellsOf 3)) = xs[2]? := hf 2 _ rfl
  rw [show Tryz.prog.cellsOf 3 = 1 from by kernel_rfl] at f2
  obtain ⟨a2, r2, k2⟩ := br3.2 enc W _ _ y2.1 y2.2 (f2.trans hy2) (sized_part Tryz.underlying33 hw (i := 2) rfl hy2)
  have e0 := cut_drop cs 0 1
  simp only [Nat.reduceAdd] at e0
  have e1 := cut_drop cs 1 2
  simp only [Nat.reduceAdd] at e1
  have e2 := cut_drop cs 3 1
  simp only [Nat.reduceAdd] at e2
  have ez : cs.drop 4 = [] := List.drop_eq_nil_of_le (by omega)
  have hcs : cs = (cs.drop 0).take 1 ++ ((cs.drop 1).take 2 ++ ((cs.drop 3).take 1)) := by
    conv => lhs; rw [← List.drop_zero (l := cs), e0, e1, e2, ez, List.append_nil]
  rw [hcs]
  generalize (cs.drop 0).take 1 = q0 at r0 ⊢
  obtain rfl := r0
  generalize (cs.drop 1).take 2 = q1 at r1 ⊢
  obtain rfl := r1
  generalize (cs.drop 3).take 1 = q2 at r2 ⊢
  obtain rfl := r2
  exact ⟨⟨a0, a1, a2⟩, rfl, ⟨k0, k1, k2⟩⟩
theorem br35 : Br Tryz.prog 35 Sheet := by
  refine ⟨by kernel_rfl, fun enc W fuel cs d ps h hw => ?_⟩
  obtain ⟨xs, fu, _, hx, hl, hlen, hf⟩ := DataW.trod_struct Tryz.underlying35 h
  rw [show Tryz.prog.cellsOf 35 = 18 from by kernel_rfl] at hl
  simp only [Prod.mk.injEq] at hx
  obtain ⟨rfl, _⟩ := hx
  obtain ⟨y0, hy0⟩ := some_of_len (i := 0) (n := 5) hlen rfl
  have f0 : DataW.trod enc Tryz.prog W 0 (fun _ => true) true fu 25 ((cs.drop 0).take (Tryz.prog.cellsOf 25)) = xs[0]? := hf 0 _ rfl
  rw [show Tryz.prog.cellsOf 25 = 10 from by kernel_rfl] at f0
  obtain ⟨a0, r0, k0⟩ := br25.2 enc W _ _ y0.1 y0.2 (f0.trans hy0) (sized_part Tryz.underlying35 hw (i := 0) rfl hy0)
  obtain ⟨y1, hy1⟩ := some_of_len (i := 1) (n := 5) hlen rfl
  have f1 : DataW.trod enc Tryz.prog W 0 (fun _ => true) true fu 26 ((cs.drop 10).take (Tryz.prog.cellsOf 26)) = xs[1]? := hf 1 _ rfl
  rw [show Tryz.prog.cellsOf 26 = 1 from by kernel_rfl] at f1
  obtain ⟨a1, r1, k1⟩ := br26.2 enc W _ _ y1.1 y1.2 (f1.trans hy1) (sized_part Tryz.underlying35 hw (i := 1) rfl hy1)
  obtain ⟨y2, hy2⟩ := some_of_len (i := 2) (n := 5) hlen rfl
  have f2 : DataW.trod enc Tryz.prog W 0 (fun _ => true) true fu 27 ((cs.drop 11).take (Tryz.prog.cellsOf 27)) = xs[2]? := hf 2 _ rfl
  rw [show Tryz.prog.cellsOf 27 = 1 from by kernel_rfl] at f2
  obtain ⟨a2, r2, k2⟩ := br27.2 enc W _ _ y2.1 y2.2 (f2.trans hy2) (sized_part Tryz.underlying35 hw (i := 2) rfl hy2)
  obtain ⟨y3, hy3⟩ := some_of_len (i := 3) (n := 5) hlen rfl
  have f3 : DataW.trod enc Tryz.prog W 0 (fun _ => true) true fu 31 ((cs.drop 12).take (Tryz.prog.cellsOf 31)) = xs[3]? := hf 3 _ rfl
  rw [show Tryz.prog.cellsOf 31 = 2 from by kernel_rfl] at f3
  obtain ⟨a3, r3, k3⟩ := br31.2 enc W _ _ y3.1 y3.2 (f3.trans hy3) (sized_part Tryz.underlying35 hw (i := 3) rfl hy3)
  obtain ⟨y4, hy4⟩ := some_of_len (i := 4) (n := 5) hlen rfl
  have f4 : DataW.trod enc Tryz.prog W 0 (fun _ => true) true fu 33 ((cs.drop 14).take (Tryz.prog.cellsOf 33)) = xs[4]? := hf 4 _ rfl
  rw [show Tryz.prog.cellsOf 33 = 4 from by kernel_rfl] at f4
  obtain ⟨a4, r4, k4⟩ := br33.2 enc W _ _ y4.1 y4.2 (f4.trans hy4) (sized_part Tryz.underlying35 hw (i := 4) rfl hy4)
  have e0 := cut_drop cs 0 10
  simp only [Nat.reduceAdd] at e0
  have e1 := cut_drop cs 10 1
  simp only [Nat.reduceAdd] at e1
  have e2 := cut_drop cs 11 1
  simp only [Nat.reduceAdd] at e2
  have e3 := cut_drop cs 12 2
  simp only [Nat.reduceAdd] at e3
  have e4 := cut_drop cs 14 4
  simp only [Nat.reduceAdd] at e4
  have ez : cs.drop 18 = [] := List.drop_eq_nil_of_le (by omega)
  have hcs : cs = (cs.drop 0).take 10 ++ ((cs.drop 10).take 1 ++ ((cs.drop 11).take 1 ++ ((cs.drop 12).take 2 ++ ((cs.drop 14).take 4)))) := by
    conv => lhs; rw [← List.drop_zero (l := cs), e0, e1, e2, e3, e4, ez, List.append_nil]
  rw [hcs]
  generalize (cs.drop 0).take 10 = q0 at r0 ⊢
  obtain rfl := r0
  generalize (cs.drop 10).take 1 = q1 at r1 ⊢
  obtain ⟨u1_0, rfl, s1_0⟩ := r1
  generalize (cs.drop 11).take 1 = q2 at r2 ⊢
  obtain ⟨u2_0, rfl, s2_0⟩ := r2
  generalize (cs.drop 12).take 2 = q3 at r3 ⊢
  obtain ⟨u3_0, u3_1, rfl, s3_0, s3_1⟩ := r3
  generalize (cs.drop 14).take 4 = q4 at r4 ⊢
  obtain rfl := r4
  exact ⟨⟨a0, a1, a2, a3, a4⟩, ⟨u1_0, u2_0, u3_0, u3_1, rfl, s1_0, s2_0, s3_0, s3_1⟩, ⟨k0, k1, k2, k3, k4⟩⟩
theorem br37 : Br Tryz.prog 37 Course := by
  refine ⟨by kernel_rfl, fun enc W fuel cs d ps h hw => ?_⟩
  obtain ⟨xs, fu, _, hx, hl, hlen, hf⟩ := DataW.trod_struct Tryz.underlying37 h
  rw [show Tryz.prog.cellsOf 37 = 4 from by kernel_rfl] at hl
  simp only [Prod.mk.injEq] at hx
  obtain ⟨rfl, _⟩ := hx
  obtain ⟨y0, hy0⟩ := some_of_len (i := 0) (n := 4) hlen rfl
  have f0 : DataW.trod enc Tryz.prog W 0 (fun _ => true) true fu 3 ((cs.drop 0).take (Tryz.prog.cellsOf 3)) = xs[0]? := hf 0 _ rfl
  rw [show Tryz.prog.cellsOf 3 = 1 from by kernel_rfl] at f0
  obtain ⟨a0, r0, k0⟩ := br3.2 enc W _ _ y0.1 y0.2 (f0.trans hy0) (sized_part Tryz.underlying37 hw (i := 0) rfl hy0)
  obtain ⟨y1, hy1⟩ := some_of_len (i := 1) (n := 4) hlen rfl
  have f1 : DataW.trod enc Tryz.prog W 0 (fun _ => true) true fu 27 ((cs.drop 1).take (Tryz.prog.cellsOf 27)) = xs[1]? := hf 1 _ rfl
  rw [show Tryz.prog.cellsOf 27 = 1 from by kernel_rfl] at f1
  obtain ⟨a1, r1, k1⟩ := br27.2 enc W _ _ y1.1 y1.2 (f1.trans hy1) (sized_part Tryz.underlying37 hw (i := 1) rfl hy1)
  obtain ⟨y2, hy2⟩ := some_of_len (i := 2) (n := 4) hlen rfl
  have f2 : DataW.trod enc Tryz.prog W 0 (fun _ => true) true fu 27 ((cs.drop 2).take (Tryz.prog.cellsOf 27)) = xs[2]? := hf 2 _ rfl
  rw [show Tryz.prog.cellsOf 27 = 1 from by kernel_rfl] at f2
  obtain ⟨a2, r2, k2⟩ := br27.2 enc W _ _ y2.1 y2.2 (f2.trans hy2) (sized_part Tryz.underlying37 hw (i := 2) rfl hy2)
  obtain ⟨y3, hy3⟩ := some_of_len (i := 3) (n := 4) hlen rfl
  have f3 : DataW.trod enc Tryz.prog W 0 (fun _ => true) true fu 27 ((cs.drop 3).take (Tryz.prog.cellsOf 27)) = xs[3]? := hf 3 _ rfl
  rw [show Tryz.prog.cellsOf 27 = 1 from by kernel_rfl] at f3
  obtain ⟨a3, r3, k3⟩ := br27.2 enc W _ _ y3.1 y3.2 (f3.trans hy3) (sized_part Tryz.underlying37 hw (i := 3) rfl hy3)
  have e0 := cut_drop cs 0 1
  simp only [Nat.reduceAdd] at e0
  have e1 := cut_drop cs 1 1
  simp only [Nat.reduceAdd] at e1
  have e2 := cut_drop cs 2 1
  simp only [Nat.reduceAdd] at e2
  have e3 := cut_drop cs 3 1
  simp only [Nat.reduceAdd] at e3
  have ez : cs.drop 4 = [] := List.drop_eq_nil_of_le (by omega)
  have hcs : cs = (cs.drop 0).take 1 ++ ((cs.drop 1).take 1 ++ ((cs.drop 2).take 1 ++ ((cs.drop 3).take 1))) := by
    conv => lhs; rw [← List.drop_zero (l := cs), e0, e1, e2, e3, ez, List.append_nil]
  rw [hcs]
  generalize (cs.drop 0).take 1 = q0 at r0 ⊢
  obtain rfl := r0
  generalize (cs.drop 1).take 1 = q1 at r1 ⊢
  obtain ⟨u1_0, rfl, s1_0⟩ := r1
  generalize (cs.drop 2).take 1 = q2 at r2 ⊢
  obtain ⟨u2_0, rfl, s2_0⟩ := r2
  generalize (cs.drop 3).take 1 = q3 at r3 ⊢
  obtain ⟨u3_0, rfl, s3_0⟩ := r3
  exact ⟨⟨a0, a1, a2, a3⟩, ⟨u1_0, u2_0, u3_0, rfl, s1_0, s2_0, s3_0⟩, ⟨k0, k1, k2, k3⟩⟩
end Go.Proofs.T10
