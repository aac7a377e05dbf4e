import Derived.Test.YtmnipmbgdbdjeaaKxP
import Derived.Test.YtmnipmbgdbdjeaaProg
import Derived.KernelRfl
/- Clocks: the data types and the facts of types, by program. -/
namespace Go.Proofs.C2
open Go Go.Kx

structure Span where
  Lo : Int
  Hi : Int
  deriving DecidableEq, Inhabited
instance : Flat Span := ⟨2, by decide, fun x => [.int .i64 x.Lo, .int .i64 x.Hi], fun _ => rfl, fun x v hv => by simp at hv; rcases hv with rfl | rfl <;> rfl⟩
instance : Enc Span := Flat.toEnc Span
instance : FlatEnc Span := ⟨rfl, fun _ _ => rfl⟩
theorem At.Span_0 {m : Mem} {p : Addr} {x : Span} (h : At m p x) : At m (p.add 0) x.Lo := by
  obtain ⟨vs, h, hc⟩ := h
  obtain rfl := h
  exact ⟨[.int .i64 x.Lo], rfl, hc.part 0 (by intro j v hj; match j, hj with
    | 0, hj => exact hj
    | j + 1, hj => simp at hj)⟩
theorem At.Span_1 {m : Mem} {p : Addr} {x : Span} (h : At m p x) : At m (p.add 1) x.Hi := by
  obtain ⟨vs, h, hc⟩ := h
  obtain rfl := h
  exact ⟨[.int .i64 x.Hi], rfl, hc.part 1 (by intro j v hj; match j, hj with
    | 0, hj => exact hj
    | j + 1, hj => simp at hj)⟩

structure Stop where
  Column : Int
  Ticks : Span
  deriving DecidableEq, Inhabited
instance : Flat Stop := ⟨3, by decide, fun x => [.int .i64 x.Column, .int .i64 x.Ticks.Lo, .int .i64 x.Ticks.Hi], fun _ => rfl, fun x v hv => by simp at hv; rcases hv with rfl | rfl | rfl <;> rfl⟩
instance : Enc Stop := Flat.toEnc Stop
instance : FlatEnc Stop := ⟨rfl, fun _ _ => rfl⟩
theorem At.Stop_0 {m : Mem} {p : Addr} {x : Stop} (h : At m p x) : At m (p.add 0) x.Column := by
  obtain ⟨vs, h, hc⟩ := h
  obtain rfl := h
  exact ⟨[.int .i64 x.Column], rfl, hc.part 0 (by intro j v hj; match j, hj with
    | 0, hj => exact hj
    | j + 1, hj => simp at hj)⟩
theorem At.Stop_1 {m : Mem} {p : Addr} {x : Stop} (h : At m p x) : At m (p.add 1) x.Ticks := by
  obtain ⟨vs, h, hc⟩ := h
  obtain rfl := h
  exact ⟨[.int .i64 x.Ticks.Lo, .int .i64 x.Ticks.Hi], rfl, hc.part 1 (by intro j v hj; match j, hj with
    | 0, hj => exact hj
    | 1, hj => exact hj
    | j + 2, hj => simp at hj)⟩

structure Mark where
  Column : Int
  Ticks : Span
  deriving DecidableEq, Inhabited
instance : Flat Mark := ⟨3, by decide, fun x => [.int .i64 x.Column, .int .i64 x.Ticks.Lo, .int .i64 x.Ticks.Hi], fun _ => rfl, fun x v hv => by simp at hv; rcases hv with rfl | rfl | rfl <;> rfl⟩
instance : Enc Mark := Flat.toEnc Mark
instance : FlatEnc Mark := ⟨rfl, fun _ _ => rfl⟩
theorem At.Mark_0 {m : Mem} {p : Addr} {x : Mark} (h : At m p x) : At m (p.add 0) x.Column := by
  obtain ⟨vs, h, hc⟩ := h
  obtain rfl := h
  exact ⟨[.int .i64 x.Column], rfl, hc.part 0 (by intro j v hj; match j, hj with
    | 0, hj => exact hj
    | j + 1, hj => simp at hj)⟩
theorem At.Mark_1 {m : Mem} {p : Addr} {x : Mark} (h : At m p x) : At m (p.add 1) x.Ticks := by
  obtain ⟨vs, h, hc⟩ := h
  obtain rfl := h
  exact ⟨[.int .i64 x.Ticks.Lo, .int .i64 x.Ticks.Hi], rfl, hc.part 1 (by intro j v hj; match j, hj with
    | 0, hj => exact hj
    | 1, hj => exact hj
    | j + 2, hj => simp at hj)⟩

structure Drum where
  Rates : List Span
  Stops : List Stop
  deriving DecidableEq, Inhabited
instance : Enc Drum where
  sz := 2
  pos := by decide
  rd m vs x := ∃ v0 v1 : Value, vs = [v0, v1] ∧ Sl m v0 x.Rates ∧ Sl m v1 x.Stops
  len h := by obtain ⟨v0, v1, rfl, h0, h1⟩ := h; rfl
  mono hm h := by obtain ⟨v0, v1, hv, h0, h1⟩ := h; exact ⟨v0, v1, hv, h0.mono hm, h1.mono hm⟩
  one h := by
    obtain ⟨v0, v1, rfl, h0, h1⟩ := h
    intro u hu
    simp at hu
    rcases hu with rfl | rfl <;> first | rfl | exact h0.one | exact h1.one
theorem At.Drum_0 {m : Mem} {p : Addr} {x : Drum} (h : At m p x) : At m (p.add 0) x.Rates := by
  obtain ⟨vs, h, hc⟩ := h
  obtain ⟨v0, v1, rfl, h0, h1⟩ := h
  exact ⟨[v0], ⟨_, rfl, h0⟩, hc.part 0 (by intro j v hj; match j, hj with
    | 0, hj => exact hj
    | j + 1, hj => simp at hj)⟩
theorem At.Drum_1 {m : Mem} {p : Addr} {x : Drum} (h : At m p x) : At m (p.add 1) x.Stops := by
  obtain ⟨vs, h, hc⟩ := h
  obtain ⟨v0, v1, rfl, h0, h1⟩ := h
  exact ⟨[v1], ⟨_, rfl, h1⟩, hc.part 1 (by intro j v hj; match j, hj with
    | 0, hj => exact hj
    | j + 1, hj => simp at hj)⟩

structure Ratio where
  Num : Int
  Den : Int
  deriving DecidableEq, Inhabited
instance : Flat Ratio := ⟨2, by decide, fun x => [.int .i64 x.Num, .int .i64 x.Den], fun _ => rfl, fun x v hv => by simp at hv; rcases hv with rfl | rfl <;> rfl⟩
instance : Enc Ratio := Flat.toEnc Ratio
instance : FlatEnc Ratio := ⟨rfl, fun _ _ => rfl⟩
structure Ck where
  gaps : List Span
  at_ : List Span
  deriving DecidableEq, Inhabited
instance : Enc Ck where
  sz := 2
  pos := by decide
  rd m vs x := ∃ v0 v1 : Value, vs = [v0, v1] ∧ Sl m v0 x.gaps ∧ Sl m v1 x.at_
  len h := by obtain ⟨v0, v1, rfl, h0, h1⟩ := h; rfl
  mono hm h := by obtain ⟨v0, v1, hv, h0, h1⟩ := h; exact ⟨v0, v1, hv, h0.mono hm, h1.mono hm⟩
  one h := by
    obtain ⟨v0, v1, rfl, h0, h1⟩ := h
    intro u hu
    simp at hu
    rcases hu with rfl | rfl <;> first | rfl | exact h0.one | exact h1.one
structure Clk where
  D : Drum
  M : List Mark
  deriving DecidableEq, Inhabited
instance : Enc Clk where
  sz := 3
  pos := by decide
  rd m vs x := ∃ v0 v1 v2 : Value, vs = [v0, v1, v2] ∧ Sl m v0 x.D.Rates ∧ Sl m v1 x.D.Stops ∧ Sl m v2 x.M
  len h := by obtain ⟨v0, v1, v2, rfl, h0, h1, h2⟩ := h; rfl
  mono hm h := by obtain ⟨v0, v1, v2, hv, h0, h1, h2⟩ := h; exact ⟨v0, v1, v2, hv, h0.mono hm, h1.mono hm, h2.mono hm⟩
  one h := by
    obtain ⟨v0, v1, v2, rfl, h0, h1, h2⟩ := h
    intro u hu
    simp at hu
    rcases hu with rfl | rfl | rfl <;> first | rfl | exact h0.one | exact h1.one | exact h2.one
structure Ask where
  A : Int
  B : Int
  Tick : Int
  One : List Int
  Two : List Int
  Three : List Int
  First : Mark
  Second : Mark
  Stop : Stop
  deriving DecidableEq, Inhabited
instance : Enc Ask where
  sz := 15
  pos := by decide
  rd m vs x := ∃ v0 v1 v2 : Value, vs = [.int .i64 x.A, .int .i64 x.B, .int .i64 x.Tick, v0, v1, v2, .int .i64 x.First.Column, .int .i64 x.First.Ticks.Lo, .int .i64 x.First.Ticks.Hi, .int .i64 x.Second.Column, .int .i64 x.Second.Ticks.Lo, .int .i64 x.Second.Ticks.Hi, .int .i64 x.Stop.Column, .int .i64 x.Stop.Ticks.Lo, .int .i64 x.Stop.Ticks.Hi] ∧ Sl m v0 x.One ∧ Sl m v1 x.Two ∧ Sl m v2 x.Three
  len h := by obtain ⟨v0, v1, v2, rfl, h0, h1, h2⟩ := h; rfl
  mono hm h := by obtain ⟨v0, v1, v2, hv, h0, h1, h2⟩ := h; exact ⟨v0, v1, v2, hv, h0.mono hm, h1.mono hm, h2.mono hm⟩
  one h := by
    obtain ⟨v0, v1, v2, rfl, h0, h1, h2⟩ := h
    intro u hu
    simp at hu
    rcases hu with rfl | rfl | rfl | rfl | rfl | rfl | rfl | rfl | rfl | rfl | rfl | rfl | rfl | rfl | rfl <;> first | rfl | exact h0.one | exact h1.one | exact h2.one
theorem sl22 : SlT Try.prog 22 31 2 16 (.agg #[.int .i64 0, .int .i64 0]) := ⟨Try.underlying22, ⟨Try.t31, info_of Try.typeInfo31, rfl, rfl, rfl⟩, rfl, by decide⟩
theorem sl23 : SlT Try.prog 23 34 3 24 (.agg #[.int .i64 0, .int .i64 0, .int .i64 0]) := ⟨Try.underlying23, ⟨Try.t34, info_of Try.typeInfo34, rfl, rfl, rfl⟩, rfl, by decide⟩
theorem places25 (fs : Array Field) (h : Try.prog.underlying 25 = some (.struct fs)) (w : World) : (fs.mapM fun f => do pure (f.offset, ← sizeOf f.type) : Sem _).run Try.prog w = .ok #[(0, 1), (1, 1)] w := by
  rw [Try.underlying25] at h; cases h; simp [Try.sizeOf22, Try.sizeOf23]
theorem sl26 : SlT Try.prog 26 33 3 24 (.agg #[.int .i64 0, .int .i64 0, .int .i64 0]) := ⟨Try.underlying26, ⟨Try.t33, info_of Try.typeInfo33, rfl, rfl, rfl⟩, rfl, by decide⟩
theorem sl29 : SlT Try.prog 29 3 1 8 (.int .i64 0) := ⟨Try.underlying29, ⟨Try.t3, info_of Try.typeInfo3, rfl, rfl, rfl⟩, rfl, by decide⟩
theorem places31 (fs : Array Field) (h : Try.prog.underlying 31 = some (.struct fs)) (w : World) : (fs.mapM fun f => do pure (f.offset, ← sizeOf f.type) : Sem _).run Try.prog w = .ok #[(0, 1), (1, 1)] w := by
  rw [Try.underlying31] at h; cases h; simp [Try.sizeOf3]
theorem gd31 : Try.prog.eqGuardType Try.prog.depth 31 = false := by kernel_rfl
theorem fs31 : Try.prog.underlying 31 = some (.struct (Try.prog.fieldsOf 31)) := by simp only [Program.fieldsOf, Try.underlying31]
theorem sh31 : Try.prog.stoodInHeld 31 = false := by kernel_rfl
theorem places33 (fs : Array Field) (h : Try.prog.underlying 33 = some (.struct fs)) (w : World) : (fs.mapM fun f => do pure (f.offset, ← sizeOf f.type) : Sem _).run Try.prog w = .ok #[(0, 1), (1, 2)] w := by
  rw [Try.underlying33] at h; cases h; simp [Try.sizeOf3, Try.sizeOf31]
theorem places34 (fs : Array Field) (h : Try.prog.underlying 34 = some (.struct fs)) (w : World) : (fs.mapM fun f => do pure (f.offset, ← sizeOf f.type) : Sem _).run Try.prog w = .ok #[(0, 1), (1, 2)] w := by
  rw [Try.underlying34] at h; cases h; simp [Try.sizeOf3, Try.sizeOf31]
theorem gd34 : Try.prog.eqGuardType Try.prog.depth 34 = false := by kernel_rfl
theorem fs34 : Try.prog.underlying 34 = some (.struct (Try.prog.fieldsOf 34)) := by simp only [Program.fieldsOf, Try.underlying34]
theorem sh34 : Try.prog.stoodInHeld 34 = false := by kernel_rfl
theorem places46 (fs : Array Field) (h : Try.prog.underlying 46 = some (.struct fs)) (w : World) : (fs.mapM fun f => do pure (f.offset, ← sizeOf f.type) : Sem _).run Try.prog w = .ok #[(0, 1), (1, 1)] w := by
  rw [Try.underlying46] at h; cases h; simp [Try.sizeOf3]
theorem gd46 : Try.prog.eqGuardType Try.prog.depth 46 = false := by kernel_rfl
theorem fs46 : Try.prog.underlying 46 = some (.struct (Try.prog.fieldsOf 46)) := by simp only [Program.fieldsOf, Try.underlying46]
theorem sh46 : Try.prog.stoodInHeld 46 = false := by kernel_rfl
theorem sl52 : SlT Try.prog 52 29 1 24 (.slice none 0 0) := ⟨Try.underlying52, ⟨Try.t29, info_of Try.typeInfo29, rfl, rfl, rfl⟩, rfl, by decide⟩
theorem places83 (fs : Array Field) (h : Try.prog.underlying 83 = some (.struct fs)) (w : World) : (fs.mapM fun f => do pure (f.offset, ← sizeOf f.type) : Sem _).run Try.prog w = .ok #[(0, 1), (1, 1)] w := by
  rw [Try.underlying83] at h; cases h; simp [Try.sizeOf22]
theorem sl136 : SlT Try.prog 136 4 1 1 (.bool false) := ⟨Try.underlying136, ⟨Try.t4, info_of Try.typeInfo4, rfl, rfl, rfl⟩, rfl, by decide⟩
theorem eqS31 (d : Nat) (a b : Span) (w : World) : (Op.equalIn (d + 2) 31 (.agg (Flat.enc a).toArray) (.agg (Flat.enc b).toArray)).run Try.prog w = .ok (decide (a = b)) w := by
  obtain ⟨x0, x1⟩ := a
  obtain ⟨y0, y1⟩ := b
  simp only [Flat.enc, run_equalIn_agg w (d + 1) 31 _ _ fs31 sh31, Program.fieldsOf, Try.underlying31]
  simp [Op.eqFields, part, Try.sizeOf3, Try.isAgg3, run_equalIn_int _ _ _ _ _ _ _ Try.underlying3]
  repeat' split
  all_goals simp_all
theorem eqS46 (d : Nat) (a b : Ratio) (w : World) : (Op.equalIn (d + 2) 46 (.agg (Flat.enc a).toArray) (.agg (Flat.enc b).toArray)).run Try.prog w = .ok (decide (a = b)) w := by
  obtain ⟨x0, x1⟩ := a
  obtain ⟨y0, y1⟩ := b
  simp only [Flat.enc, run_equalIn_agg w (d + 1) 46 _ _ fs46 sh46, Program.fieldsOf, Try.underlying46]
  simp [Op.eqFields, part, Try.sizeOf3, Try.isAgg3, run_equalIn_int _ _ _ _ _ _ _ Try.underlying3]
  repeat' split
  all_goals simp_all
theorem eqS34 (d : Nat) (a b : Stop) (w : World) : (Op.equalIn (d + 3) 34 (.agg (Flat.enc a).toArray) (.agg (Flat.enc b).toArray)).run Try.prog w = .ok (decide (a = b)) w := by
  obtain ⟨x0, x1⟩ := a
  obtain ⟨y0, y1⟩ := b
  have h1 := fun w => eqS31 (d + 0) x1 y1 w
  simp only [Flat.enc] at h1
  simp only [Flat.enc, run_equalIn_agg w (d + 2) 34 _ _ fs34 sh34, Program.fieldsOf, Try.underlying34]
  simp [Op.eqFields, part, Try.sizeOf3, Try.sizeOf31, Try.isAgg3, Try.isAgg31, h1, run_equalIn_int _ _ _ _ _ _ _ Try.underlying3]
  repeat' split
  all_goals simp_all
end Go.Proofs.C2
