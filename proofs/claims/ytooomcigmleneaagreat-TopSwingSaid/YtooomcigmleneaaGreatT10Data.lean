import Derived.Test.YtooomcigmleneaaGreatT10Pen
import Derived.Test.YtooomcigmleneaaGreatKxX
import Derived.Test.YtooomcigmleneaaGreatKxP
import Derived.Test.YtooomcigmleneaaGreatProg
import Derived.KernelRfl
/- Top: the data types and the facts of types, by program. -/
namespace Go.Proofs.T10
open Go Go.Kx

structure Span where
  Lo : Int
  Hi : Int
  deriving DecidableEq, Inhabited
instance : Flat Span := ⟨2, by decide, fun x => [.int .i64 x.Lo, .int .i64 x.Hi], fun _ => rfl, fun x v hv => by simp at hv; rcases hv with rfl | rfl <;> rfl⟩
instance : Enc Span := Flat.toEnc Span
instance : FlatEnc Span := ⟨rfl, fun _ _ => rfl⟩
theorem At.Span_0 {m : Mem} {p : Addr} {x : Span} (h : At m p x) : At m (p.add 0) x.Lo := by
  obtain ⟨vs, h, hc⟩ := h
  obtain rfl := h
  exact ⟨[.int .i64 x.Lo], rfl, hc.part 0 (by intro j v hj; match j, hj with
    | 0, hj => exact hj
    | j + 1, hj => simp at hj)⟩
theorem At.Span_1 {m : Mem} {p : Addr} {x : Span} (h : At m p x) : At m (p.add 1) x.Hi := by
  obtain ⟨vs, h, hc⟩ := h
  obtain rfl := h
  exact ⟨[.int .i64 x.Hi], rfl, hc.part 1 (by intro j v hj; match j, hj with
    | 0, hj => exact hj
    | j + 1, hj => simp at hj)⟩

structure Paper where
  Pitch : Int
  Height : Int
  Radius : Int
  Low : Int
  High : Int
  Columns : Int
  Along : Span
  Across : Span
  deriving DecidableEq, Inhabited
instance : Flat Paper := ⟨10, by decide, fun x => [.int .i64 x.Pitch, .int .i64 x.Height, .int .i64 x.Radius, .int .i64 x.Low, .int .i64 x.High, .int .i64 x.Columns, .int .i64 x.Along.Lo, .int .i64 x.Along.Hi, .int .i64 x.Across.Lo, .int .i64 x.Across.Hi], fun _ => rfl, fun x v hv => by simp at hv; rcases hv with rfl | rfl | rfl | rfl | rfl | rfl | rfl | rfl | rfl | rfl <;> rfl⟩
instance : Enc Paper := Flat.toEnc Paper
instance : FlatEnc Paper := ⟨rfl, fun _ _ => rfl⟩
theorem At.Paper_0 {m : Mem} {p : Addr} {x : Paper} (h : At m p x) : At m (p.add 0) x.Pitch := by
  obtain ⟨vs, h, hc⟩ := h
  obtain rfl := h
  exact ⟨[.int .i64 x.Pitch], rfl, hc.part 0 (by intro j v hj; match j, hj with
    | 0, hj => exact hj
    | j + 1, hj => simp at hj)⟩
theorem At.Paper_5 {m : Mem} {p : Addr} {x : Paper} (h : At m p x) : At m (p.add 5) x.Columns := by
  obtain ⟨vs, h, hc⟩ := h
  obtain rfl := h
  exact ⟨[.int .i64 x.Columns], rfl, hc.part 5 (by intro j v hj; match j, hj with
    | 0, hj => exact hj
    | j + 1, hj => simp at hj)⟩
structure Stp where
  Column : Int
  Ticks : Span
  deriving DecidableEq, Inhabited
instance : Flat Stp := ⟨3, by decide, fun x => [.int .i64 x.Column, .int .i64 x.Ticks.Lo, .int .i64 x.Ticks.Hi], fun _ => rfl, fun x v hv => by simp at hv; rcases hv with rfl | rfl | rfl <;> rfl⟩
instance : Enc Stp := Flat.toEnc Stp
instance : FlatEnc Stp := ⟨rfl, fun _ _ => rfl⟩
theorem At.Stp_0 {m : Mem} {p : Addr} {x : Stp} (h : At m p x) : At m (p.add 0) x.Column := by
  obtain ⟨vs, h, hc⟩ := h
  obtain rfl := h
  exact ⟨[.int .i64 x.Column], rfl, hc.part 0 (by intro j v hj; match j, hj with
    | 0, hj => exact hj
    | j + 1, hj => simp at hj)⟩
theorem At.Stp_1 {m : Mem} {p : Addr} {x : Stp} (h : At m p x) : At m (p.add 1) x.Ticks := by
  obtain ⟨vs, h, hc⟩ := h
  obtain rfl := h
  exact ⟨[.int .i64 x.Ticks.Lo, .int .i64 x.Ticks.Hi], rfl, hc.part 1 (by intro j v hj; match j, hj with
    | 0, hj => exact hj
    | 1, hj => exact hj
    | j + 2, hj => simp at hj)⟩

structure Mark where
  Column : Int
  Ticks : Span
  deriving DecidableEq, Inhabited
instance : Flat Mark := ⟨3, by decide, fun x => [.int .i64 x.Column, .int .i64 x.Ticks.Lo, .int .i64 x.Ticks.Hi], fun _ => rfl, fun x v hv => by simp at hv; rcases hv with rfl | rfl | rfl <;> rfl⟩
instance : Enc Mark := Flat.toEnc Mark
instance : FlatEnc Mark := ⟨rfl, fun _ _ => rfl⟩
structure Point where
  X : Int
  Y : Int
  Half : Int
  deriving DecidableEq, Inhabited
instance : Flat Point := ⟨3, by decide, fun x => [.int .i64 x.X, .int .i64 x.Y, .int .i64 x.Half], fun _ => rfl, fun x v hv => by simp at hv; rcases hv with rfl | rfl | rfl <;> rfl⟩
instance : Enc Point := Flat.toEnc Point
instance : FlatEnc Point := ⟨rfl, fun _ _ => rfl⟩
theorem At.Point_2 {m : Mem} {p : Addr} {x : Point} (h : At m p x) : At m (p.add 2) x.Half := by
  obtain ⟨vs, h, hc⟩ := h
  obtain rfl := h
  exact ⟨[.int .i64 x.Half], rfl, hc.part 2 (by intro j v hj; match j, hj with
    | 0, hj => exact hj
    | j + 1, hj => simp at hj)⟩

structure Pen where
  Band : Int
  Zero : Span
  Rate : Int
  deriving DecidableEq, Inhabited
instance : Flat Pen := ⟨4, by decide, fun x => [.int .i64 x.Band, .int .i64 x.Zero.Lo, .int .i64 x.Zero.Hi, .int .i64 x.Rate], fun _ => rfl, fun x v hv => by simp at hv; rcases hv with rfl | rfl | rfl | rfl <;> rfl⟩
instance : Enc Pen := Flat.toEnc Pen
instance : FlatEnc Pen := ⟨rfl, fun _ _ => rfl⟩
theorem At.Pen_0 {m : Mem} {p : Addr} {x : Pen} (h : At m p x) : At m (p.add 0) x.Band := by
  obtain ⟨vs, h, hc⟩ := h
  obtain rfl := h
  exact ⟨[.int .i64 x.Band], rfl, hc.part 0 (by intro j v hj; match j, hj with
    | 0, hj => exact hj
    | j + 1, hj => simp at hj)⟩
theorem At.Pen_1 {m : Mem} {p : Addr} {x : Pen} (h : At m p x) : At m (p.add 1) x.Zero := by
  obtain ⟨vs, h, hc⟩ := h
  obtain rfl := h
  exact ⟨[.int .i64 x.Zero.Lo, .int .i64 x.Zero.Hi], rfl, hc.part 1 (by intro j v hj; match j, hj with
    | 0, hj => exact hj
    | 1, hj => exact hj
    | j + 2, hj => simp at hj)⟩
theorem At.Pen_2 {m : Mem} {p : Addr} {x : Pen} (h : At m p x) : At m (p.add 3) x.Rate := by
  obtain ⟨vs, h, hc⟩ := h
  obtain rfl := h
  exact ⟨[.int .i64 x.Rate], rfl, hc.part 3 (by intro j v hj; match j, hj with
    | 0, hj => exact hj
    | j + 1, hj => simp at hj)⟩

structure Drum where
  Rates : List Span
  Stops : List Stp
  deriving DecidableEq, Inhabited
instance : Enc Drum where
  sz := 2
  pos := by decide
  rd m vs x := ∃ v0 v1 : Value, vs = [v0, v1] ∧ Sl m v0 x.Rates ∧ Sl m v1 x.Stops
  len h := by obtain ⟨v0, v1, rfl, h0, h1⟩ := h; rfl
  mono hm h := by obtain ⟨v0, v1, hv, h0, h1⟩ := h; exact ⟨v0, v1, hv, h0.mono hm, h1.mono hm⟩
  one h := by
    obtain ⟨v0, v1, rfl, h0, h1⟩ := h
    intro u hu
    simp at hu
    rcases hu with rfl | rfl <;> first | rfl | exact h0.one | exact h1.one
theorem At.Drum_0 {m : Mem} {p : Addr} {x : Drum} (h : At m p x) : At m (p.add 0) x.Rates := by
  obtain ⟨vs, h, hc⟩ := h
  obtain ⟨v0, v1, rfl, h0, h1⟩ := h
  exact ⟨[v0], ⟨_, rfl, h0⟩, hc.part 0 (by intro j v hj; match j, hj with
    | 0, hj => exact hj
    | j + 1, hj => simp at hj)⟩
theorem At.Drum_1 {m : Mem} {p : Addr} {x : Drum} (h : At m p x) : At m (p.add 1) x.Stops := by
  obtain ⟨vs, h, hc⟩ := h
  obtain ⟨v0, v1, rfl, h0, h1⟩ := h
  exact ⟨[v1], ⟨_, rfl, h1⟩, hc.part 1 (by intro j v hj; match j, hj with
    | 0, hj => exact hj
    | j + 1, hj => simp at hj)⟩

structure Sheet where
  Paper : Paper
  Trace : List Point
  Blots : List Int
  Drum : Drum
  Pen : Pen
  deriving DecidableEq, Inhabited
instance : Enc Sheet where
  sz := 18
  pos := by decide
  rd m vs x := ∃ v0 v1 v2 v3 : Value, vs = [.int .i64 x.Paper.Pitch, .int .i64 x.Paper.Height, .int .i64 x.Paper.Radius, .int .i64 x.Paper.Low, .int .i64 x.Paper.High, .int .i64 x.Paper.Columns, .int .i64 x.Paper.Along.Lo, .int .i64 x.Paper.Along.Hi, .int .i64 x.Paper.Across.Lo, .int .i64 x.Paper.Across.Hi, v0, v1, v2, v3, .int .i64 x.Pen.Band, .int .i64 x.Pen.Zero.Lo, .int .i64 x.Pen.Zero.Hi, .int .i64 x.Pen.Rate] ∧ Sl m v0 x.Trace ∧ Sl m v1 x.Blots ∧ Sl m v2 x.Drum.Rates ∧ Sl m v3 x.Drum.Stops
  len h := by obtain ⟨v0, v1, v2, v3, rfl, h0, h1, h2, h3⟩ := h; rfl
  mono hm h := by obtain ⟨v0, v1, v2, v3, hv, h0, h1, h2, h3⟩ := h; exact ⟨v0, v1, v2, v3, hv, h0.mono hm, h1.mono hm, h2.mono hm, h3.mono hm⟩
  one h := by
    obtain ⟨v0, v1, v2, v3, rfl, h0, h1, h2, h3⟩ := h
    intro u hu
    simp at hu
    rcases hu with rfl | rfl | rfl | rfl | rfl | rfl | rfl | rfl | rfl | rfl | rfl | rfl | rfl | rfl | rfl | rfl | rfl | rfl <;> first | rfl | exact h0.one | exact h1.one | exact h2.one | exact h3.one
theorem At.Sheet_0 {m : Mem} {p : Addr} {x : Sheet} (h : At m p x) : At m (p.add 0) x.Paper := by
  obtain ⟨vs, h, hc⟩ := h
  obtain ⟨v0, v1, v2, v3, rfl, h0, h1, h2, h3⟩ := h
  exact ⟨[.int .i64 x.Paper.Pitch, .int .i64 x.Paper.Height, .int .i64 x.Paper.Radius, .int .i64 x.Paper.Low, .int .i64 x.Paper.High, .int .i64 x.Paper.Columns, .int .i64 x.Paper.Along.Lo, .int .i64 x.Paper.Along.Hi, .int .i64 x.Paper.Across.Lo, .int .i64 x.Paper.Across.Hi], rfl, hc.part 0 (by intro j v hj; match j, hj with
    | 0, hj => exact hj
    | 1, hj => exact hj
    | 2, hj => exact hj
    | 3, hj => exact hj
    | 4, hj => exact hj
    | 5, hj => exact hj
    | 6, hj => exact hj
    | 7, hj => exact hj
    | 8, hj => exact hj
    | 9, hj => exact hj
    | j + 10, hj => simp at hj)⟩
theorem At.Sheet_1 {m : Mem} {p : Addr} {x : Sheet} (h : At m p x) : At m (p.add 10) x.Trace := by
  obtain ⟨vs, h, hc⟩ := h
  obtain ⟨v0, v1, v2, v3, rfl, h0, h1, h2, h3⟩ := h
  exact ⟨[v0], ⟨_, rfl, h0⟩, hc.part 10 (by intro j v hj; match j, hj with
    | 0, hj => exact hj
    | j + 1, hj => simp at hj)⟩
theorem At.Sheet_2 {m : Mem} {p : Addr} {x : Sheet} (h : At m p x) : At m (p.add 11) x.Blots := by
  obtain ⟨vs, h, hc⟩ := h
  obtain ⟨v0, v1, v2, v3, rfl, h0, h1, h2, h3⟩ := h
  exact ⟨[v1], ⟨_, rfl, h1⟩, hc.part 11 (by intro j v hj; match j, hj with
    | 0, hj => exact hj
    | j + 1, hj => simp at hj)⟩
theorem At.Sheet_3 {m : Mem} {p : Addr} {x : Sheet} (h : At m p x) : At m (p.add 12) x.Drum := by
  obtain ⟨vs, h, hc⟩ := h
  obtain ⟨v0, v1, v2, v3, rfl, h0, h1, h2, h3⟩ := h
  exact ⟨[v2, v3], ⟨_, _, rfl, h2, h3⟩, hc.part 12 (by intro j v hj; match j, hj with
    | 0, hj => exact hj
    | 1, hj => exact hj
    | j + 2, hj => simp at hj)⟩
theorem At.Sheet_4 {m : Mem} {p : Addr} {x : Sheet} (h : At m p x) : At m (p.add 14) x.Pen := by
  obtain ⟨vs, h, hc⟩ := h
  obtain ⟨v0, v1, v2, v3, rfl, h0, h1, h2, h3⟩ := h
  exact ⟨[.int .i64 x.Pen.Band, .int .i64 x.Pen.Zero.Lo, .int .i64 x.Pen.Zero.Hi, .int .i64 x.Pen.Rate], rfl, hc.part 14 (by intro j v hj; match j, hj with
    | 0, hj => exact hj
    | 1, hj => exact hj
    | 2, hj => exact hj
    | 3, hj => exact hj
    | j + 4, hj => simp at hj)⟩

structure Course where
  Zero : Int
  Ticks : List Int
  Shown : List Int
  Levels : List Int
  deriving DecidableEq, Inhabited
instance : Enc Course where
  sz := 4
  pos := by decide
  rd m vs x := ∃ v0 v1 v2 : Value, vs = [.int .i64 x.Zero, v0, v1, v2] ∧ Sl m v0 x.Ticks ∧ Sl m v1 x.Shown ∧ Sl m v2 x.Levels
  len h := by obtain ⟨v0, v1, v2, rfl, h0, h1, h2⟩ := h; rfl
  mono hm h := by obtain ⟨v0, v1, v2, hv, h0, h1, h2⟩ := h; exact ⟨v0, v1, v2, hv, h0.mono hm, h1.mono hm, h2.mono hm⟩
  one h := by
    obtain ⟨v0, v1, v2, rfl, h0, h1, h2⟩ := h
    intro u hu
    simp at hu
    rcases hu with rfl | rfl | rfl | rfl <;> first | rfl | exact h0.one | exact h1.one | exact h2.one
theorem At.Course_0 {m : Mem} {p : Addr} {x : Course} (h : At m p x) : At m (p.add 0) x.Zero := by
  obtain ⟨vs, h, hc⟩ := h
  obtain ⟨v0, v1, v2, rfl, h0, h1, h2⟩ := h
  exact ⟨[.int .i64 x.Zero], rfl, hc.part 0 (by intro j v hj; match j, hj with
    | 0, hj => exact hj
    | j + 1, hj => simp at hj)⟩
theorem At.Course_1 {m : Mem} {p : Addr} {x : Course} (h : At m p x) : At m (p.add 1) x.Ticks := by
  obtain ⟨vs, h, hc⟩ := h
  obtain ⟨v0, v1, v2, rfl, h0, h1, h2⟩ := h
  exact ⟨[v0], ⟨_, rfl, h0⟩, hc.part 1 (by intro j v hj; match j, hj with
    | 0, hj => exact hj
    | j + 1, hj => simp at hj)⟩
theorem At.Course_2 {m : Mem} {p : Addr} {x : Course} (h : At m p x) : At m (p.add 2) x.Shown := by
  obtain ⟨vs, h, hc⟩ := h
  obtain ⟨v0, v1, v2, rfl, h0, h1, h2⟩ := h
  exact ⟨[v1], ⟨_, rfl, h1⟩, hc.part 2 (by intro j v hj; match j, hj with
    | 0, hj => exact hj
    | j + 1, hj => simp at hj)⟩
theorem At.Course_3 {m : Mem} {p : Addr} {x : Course} (h : At m p x) : At m (p.add 3) x.Levels := by
  obtain ⟨vs, h, hc⟩ := h
  obtain ⟨v0, v1, v2, rfl, h0, h1, h2⟩ := h
  exact ⟨[v2], ⟨_, rfl, h2⟩, hc.part 3 (by intro j v hj; match j, hj with
    | 0, hj => exact hj
    | j + 1, hj => simp at hj)⟩

structure Inked where
  Columns : List (List Span)
  deriving DecidableEq, Inhabited
instance : Enc Inked where
  sz := 1
  pos := by decide
  rd m vs x := ∃ v0 : Value, vs = [v0] ∧ Sl m v0 x.Columns
  len h := by obtain ⟨v0, rfl, h0⟩ := h; rfl
  mono hm h := by obtain ⟨v0, hv, h0⟩ := h; exact ⟨v0, hv, h0.mono hm⟩
  one h := by
    obtain ⟨v0, rfl, h0⟩ := h
    intro u hu
    simp at hu
    rcases hu with rfl <;> first | rfl | exact h0.one
structure Moment where
  Shown : Int
  Real : Int
  deriving DecidableEq, Inhabited
instance : Flat Moment := ⟨2, by decide, fun x => [.int .i64 x.Shown, .int .i64 x.Real], fun _ => rfl, fun x v hv => by simp at hv; rcases hv with rfl | rfl <;> rfl⟩
instance : Enc Moment := Flat.toEnc Moment
instance : FlatEnc Moment := ⟨rfl, fun _ _ => rfl⟩
structure Clk where
  gaps : List Span
  at_ : List Span
  deriving DecidableEq, Inhabited
instance : Enc Clk where
  sz := 2
  pos := by decide
  rd m vs x := ∃ v0 v1 : Value, vs = [v0, v1] ∧ Sl m v0 x.gaps ∧ Sl m v1 x.at_
  len h := by obtain ⟨v0, v1, rfl, h0, h1⟩ := h; rfl
  mono hm h := by obtain ⟨v0, v1, hv, h0, h1⟩ := h; exact ⟨v0, v1, hv, h0.mono hm, h1.mono hm⟩
  one h := by
    obtain ⟨v0, v1, rfl, h0, h1⟩ := h
    intro u hu
    simp at hu
    rcases hu with rfl | rfl <;> first | rfl | exact h0.one | exact h1.one
theorem places23 (fs : Array Field) (h : Tryz.prog.underlying 23 = some (.struct fs)) (w : World) : (fs.mapM fun f => do pure (f.offset, ← sizeOf f.type) : Sem _).run Tryz.prog w = .ok #[(0, 1), (1, 1)] w := by
  rw [Tryz.underlying23] at h; cases h; simp [Tryz.sizeOf3]
theorem gd23 : Tryz.prog.eqGuardType Tryz.prog.depth 23 = false := by kernel_rfl
theorem fs23 : Tryz.prog.underlying 23 = some (.struct (Tryz.prog.fieldsOf 23)) := by simp only [Program.fieldsOf, Tryz.underlying23]
theorem sh23 : Tryz.prog.stoodInHeld 23 = false := by kernel_rfl
theorem sl27 : SlT Tryz.prog 27 3 1 8 (.int .i64 0) := ⟨Tryz.underlying27, ⟨Tryz.t3, info_of Tryz.typeInfo3, rfl, rfl, rfl⟩, rfl, by decide⟩
theorem sl28 : SlT Tryz.prog 28 23 2 16 (.agg #[.int .i64 0, .int .i64 0]) := ⟨Tryz.underlying28, ⟨Tryz.t23, info_of Tryz.typeInfo23, rfl, rfl, rfl⟩, rfl, by decide⟩
theorem places31 (fs : Array Field) (h : Tryz.prog.underlying 31 = some (.struct fs)) (w : World) : (fs.mapM fun f => do pure (f.offset, ← sizeOf f.type) : Sem _).run Tryz.prog w = .ok #[(0, 1), (1, 1)] w := by
  rw [Tryz.underlying31] at h; cases h; simp [Tryz.sizeOf28, Tryz.sizeOf29]
theorem places33 (fs : Array Field) (h : Tryz.prog.underlying 33 = some (.struct fs)) (w : World) : (fs.mapM fun f => do pure (f.offset, ← sizeOf f.type) : Sem _).run Tryz.prog w = .ok #[(0, 1), (1, 2), (3, 1)] w := by
  rw [Tryz.underlying33] at h; cases h; simp [Tryz.sizeOf3, Tryz.sizeOf23]
theorem sl67 : SlT Tryz.prog 67 28 1 24 (.slice none 0 0) := ⟨Tryz.underlying67, ⟨Tryz.t28, info_of Tryz.typeInfo28, rfl, rfl, rfl⟩, rfl, by decide⟩
theorem sl74 : SlT Tryz.prog 74 98 3 24 (.agg #[.int .i64 0, .int .i64 0, .int .i64 0]) := ⟨Tryz.underlying74, ⟨Tryz.t98, info_of Tryz.typeInfo98, rfl, rfl, rfl⟩, rfl, by decide⟩
theorem sl89 : SlT Tryz.prog 89 92 1 24 (.slice none 0 0) := ⟨Tryz.underlying89, ⟨Tryz.t92, info_of Tryz.typeInfo92, rfl, rfl, rfl⟩, rfl, by decide⟩
theorem sl92 : SlT Tryz.prog 92 5 1 1 (.int .u8 0) := ⟨Tryz.underlying92, ⟨Tryz.t5, info_of Tryz.typeInfo5, rfl, rfl, rfl⟩, rfl, by decide⟩
theorem places98 (fs : Array Field) (h : Tryz.prog.underlying 98 = some (.struct fs)) (w : World) : (fs.mapM fun f => do pure (f.offset, ← sizeOf f.type) : Sem _).run Tryz.prog w = .ok #[(0, 1), (1, 2)] w := by
  rw [Tryz.underlying98] at h; cases h; simp [Tryz.sizeOf3, Tryz.sizeOf23]
theorem places104 (fs : Array Field) (h : Tryz.prog.underlying 104 = some (.struct fs)) (w : World) : (fs.mapM fun f => do pure (f.offset, ← sizeOf f.type) : Sem _).run Tryz.prog w = .ok #[(0, 1)] w := by
  rw [Tryz.underlying104] at h; cases h; simp [Tryz.sizeOf67]
theorem places113 (fs : Array Field) (h : Tryz.prog.underlying 113 = some (.struct fs)) (w : World) : (fs.mapM fun f => do pure (f.offset, ← sizeOf f.type) : Sem _).run Tryz.prog w = .ok #[(0, 4)] w := by
  rw [Tryz.underlying113] at h; cases h; simp [Tryz.sizeOf33]
theorem sl157 : SlT Tryz.prog 157 160 64 64 (.agg #[.int .u8 0, .int .u8 0, .int .u8 0, .int .u8 0, .int .u8 0, .int .u8 0, .int .u8 0, .int .u8 0, .int .u8 0, .int .u8 0, .int .u8 0, .int .u8 0, .int .u8 0, .int .u8 0, .int .u8 0, .int .u8 0, .int .u8 0, .int .u8 0, .int .u8 0, .int .u8 0, .int .u8 0, .int .u8 0, .int .u8 0, .int .u8 0, .int .u8 0, .int .u8 0, .int .u8 0, .int .u8 0, .int .u8 0, .int .u8 0, .int .u8 0, .int .u8 0, .int .u8 0, .int .u8 0, .int .u8 0, .int .u8 0, .int .u8 0, .int .u8 0, .int .u8 0, .int .u8 0, .int .u8 0, .int .u8 0, .int .u8 0, .int .u8 0, .int .u8 0, .int .u8 0, .int .u8 0, .int .u8 0, .int .u8 0, .int .u8 0, .int .u8 0, .int .u8 0, .int .u8 0, .int .u8 0, .int .u8 0, .int .u8 0, .int .u8 0, .int .u8 0, .int .u8 0, .int .u8 0, .int .u8 0, .int .u8 0, .int .u8 0, .int .u8 0]) := ⟨Tryz.underlying157, ⟨Tryz.t160, info_of Tryz.typeInfo160, rfl, rfl, rfl⟩, rfl, by decide⟩
theorem places172 (fs : Array Field) (h : Tryz.prog.underlying 172 = some (.struct fs)) (w : World) : (fs.mapM fun f => do pure (f.offset, ← sizeOf f.type) : Sem _).run Tryz.prog w = .ok #[(0, 1), (1, 1)] w := by
  rw [Tryz.underlying172] at h; cases h; simp [Tryz.sizeOf3]
theorem places174 (fs : Array Field) (h : Tryz.prog.underlying 174 = some (.struct fs)) (w : World) : (fs.mapM fun f => do pure (f.offset, ← sizeOf f.type) : Sem _).run Tryz.prog w = .ok #[(0, 1), (1, 1)] w := by
  rw [Tryz.underlying174] at h; cases h; simp [Tryz.sizeOf28]
theorem places179 (fs : Array Field) (h : Tryz.prog.underlying 179 = some (.struct fs)) (w : World) : (fs.mapM fun f => do pure (f.offset, ← sizeOf f.type) : Sem _).run Tryz.prog w = .ok #[(0, 10)] w := by
  rw [Tryz.underlying179] at h; cases h; simp [Tryz.sizeOf25]
theorem sl182 : SlT Tryz.prog 182 186 2 32 (.agg #[.slice none 0 0, .bool false]) := ⟨Tryz.underlying182, ⟨Tryz.t186, info_of Tryz.typeInfo186, rfl, rfl, rfl⟩, rfl, by decide⟩
theorem sl187 : SlT Tryz.prog 187 184 1 24 (.agg #[.slice none 0 0]) := ⟨Tryz.underlying187, ⟨Tryz.t184, info_of Tryz.typeInfo184, rfl, rfl, rfl⟩, rfl, by decide⟩
theorem eqS23 (d : Nat) (a b : Span) (w : World) : (Op.equalIn (d + 2) 23 (.agg (Flat.enc a).toArray) (.agg (Flat.enc b).toArray)).run Tryz.prog w = .ok (decide (a = b)) w := by
  obtain ⟨x0, x1⟩ := a
  obtain ⟨y0, y1⟩ := b
  simp only [Flat.enc, run_equalIn_agg w (d + 1) 23 _ _ fs23 sh23, Program.fieldsOf, Tryz.underlying23]
  simp [Op.eqFields, part, Tryz.sizeOf3, Tryz.isAgg3, run_equalIn_int _ _ _ _ _ _ _ Tryz.underlying3]
  repeat' split
  all_goals simp_all
end Go.Proofs.T10
