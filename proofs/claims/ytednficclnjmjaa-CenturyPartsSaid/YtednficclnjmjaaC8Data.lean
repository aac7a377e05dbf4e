import Derived.Test.YtednficclnjmjaaKxP
import Derived.Test.YtednficclnjmjaaProg
import Derived.KernelRfl
/- Century: the data types and the facts of types, by program. -/
namespace Go.Proofs.C8
open Go Go.Kx

structure Span where
  Lo : Int
  Hi : Int
  deriving DecidableEq, Inhabited
instance : Flat Span := ⟨2, by decide, fun x => [.int .i64 x.Lo, .int .i64 x.Hi], fun _ => rfl, fun x v hv => by simp at hv; rcases hv with rfl | rfl <;> rfl⟩
instance : Enc Span := Flat.toEnc Span
instance : FlatEnc Span := ⟨rfl, fun _ _ => rfl⟩
theorem At.Span_0 {m : Mem} {p : Addr} {x : Span} (h : At m p x) : At m (p.add 0) x.Lo := by
  obtain ⟨vs, h, hc⟩ := h
  obtain rfl := h
  exact ⟨[.int .i64 x.Lo], rfl, hc.part 0 (by intro j v hj; match j, hj with
    | 0, hj => exact hj
    | j + 1, hj => simp at hj)⟩
theorem At.Span_1 {m : Mem} {p : Addr} {x : Span} (h : At m p x) : At m (p.add 1) x.Hi := by
  obtain ⟨vs, h, hc⟩ := h
  obtain rfl := h
  exact ⟨[.int .i64 x.Hi], rfl, hc.part 1 (by intro j v hj; match j, hj with
    | 0, hj => exact hj
    | j + 1, hj => simp at hj)⟩

structure Ratio where
  Num : Int
  Den : Int
  deriving DecidableEq, Inhabited
instance : Flat Ratio := ⟨2, by decide, fun x => [.int .i64 x.Num, .int .i64 x.Den], fun _ => rfl, fun x v hv => by simp at hv; rcases hv with rfl | rfl <;> rfl⟩
instance : Enc Ratio := Flat.toEnc Ratio
instance : FlatEnc Ratio := ⟨rfl, fun _ _ => rfl⟩
structure A2 where
  a : Int
  b : Int
  deriving DecidableEq, Inhabited
instance : Flat A2 := ⟨2, by decide, fun x => [.int .i64 x.a, .int .i64 x.b], fun _ => rfl, fun x v hv => by simp at hv; rcases hv with rfl | rfl <;> rfl⟩
instance : Enc A2 := Flat.toEnc A2
instance : FlatEnc A2 := ⟨rfl, fun _ _ => rfl⟩
theorem At.A2_0 {m : Mem} {p : Addr} {x : A2} (h : At m p x) : At m (p.add 0) x.a := by
  obtain ⟨vs, h, hc⟩ := h
  obtain rfl := h
  exact ⟨[.int .i64 x.a], rfl, hc.part 0 (by intro j v hj; match j, hj with
    | 0, hj => exact hj
    | j + 1, hj => simp at hj)⟩
theorem At.A2_1 {m : Mem} {p : Addr} {x : A2} (h : At m p x) : At m (p.add 1) x.b := by
  obtain ⟨vs, h, hc⟩ := h
  obtain rfl := h
  exact ⟨[.int .i64 x.b], rfl, hc.part 1 (by intro j v hj; match j, hj with
    | 0, hj => exact hj
    | j + 1, hj => simp at hj)⟩

structure Val where
  Time : Int
  Levels : Span
  deriving DecidableEq, Inhabited
instance : Flat Val := ⟨3, by decide, fun x => [.int .i64 x.Time, .int .i64 x.Levels.Lo, .int .i64 x.Levels.Hi], fun _ => rfl, fun x v hv => by simp at hv; rcases hv with rfl | rfl | rfl <;> rfl⟩
instance : Enc Val := Flat.toEnc Val
instance : FlatEnc Val := ⟨rfl, fun _ _ => rfl⟩
theorem At.Val_0 {m : Mem} {p : Addr} {x : Val} (h : At m p x) : At m (p.add 0) x.Time := by
  obtain ⟨vs, h, hc⟩ := h
  obtain rfl := h
  exact ⟨[.int .i64 x.Time], rfl, hc.part 0 (by intro j v hj; match j, hj with
    | 0, hj => exact hj
    | j + 1, hj => simp at hj)⟩
theorem At.Val_1 {m : Mem} {p : Addr} {x : Val} (h : At m p x) : At m (p.add 1) x.Levels := by
  obtain ⟨vs, h, hc⟩ := h
  obtain rfl := h
  exact ⟨[.int .i64 x.Levels.Lo, .int .i64 x.Levels.Hi], rfl, hc.part 1 (by intro j v hj; match j, hj with
    | 0, hj => exact hj
    | 1, hj => exact hj
    | j + 2, hj => simp at hj)⟩

structure Shf where
  Time : Int
  Levels : Span
  deriving DecidableEq, Inhabited
instance : Flat Shf := ⟨3, by decide, fun x => [.int .i64 x.Time, .int .i64 x.Levels.Lo, .int .i64 x.Levels.Hi], fun _ => rfl, fun x v hv => by simp at hv; rcases hv with rfl | rfl | rfl <;> rfl⟩
instance : Enc Shf := Flat.toEnc Shf
instance : FlatEnc Shf := ⟨rfl, fun _ _ => rfl⟩
theorem At.Shf_0 {m : Mem} {p : Addr} {x : Shf} (h : At m p x) : At m (p.add 0) x.Time := by
  obtain ⟨vs, h, hc⟩ := h
  obtain rfl := h
  exact ⟨[.int .i64 x.Time], rfl, hc.part 0 (by intro j v hj; match j, hj with
    | 0, hj => exact hj
    | j + 1, hj => simp at hj)⟩
structure Ser where
  Values : List Val
  Shifts : List Shf
  deriving DecidableEq, Inhabited
instance : Enc Ser where
  sz := 2
  pos := by decide
  rd m vs x := ∃ v0 v1 : Value, vs = [v0, v1] ∧ Sl m v0 x.Values ∧ Sl m v1 x.Shifts
  len h := by obtain ⟨v0, v1, rfl, h0, h1⟩ := h; rfl
  mono hm h := by obtain ⟨v0, v1, hv, h0, h1⟩ := h; exact ⟨v0, v1, hv, h0.mono hm, h1.mono hm⟩
  one h := by
    obtain ⟨v0, v1, rfl, h0, h1⟩ := h
    intro u hu
    simp at hu
    rcases hu with rfl | rfl <;> first | rfl | exact h0.one | exact h1.one
theorem At.Ser_0 {m : Mem} {p : Addr} {x : Ser} (h : At m p x) : At m (p.add 0) x.Values := by
  obtain ⟨vs, h, hc⟩ := h
  obtain ⟨v0, v1, rfl, h0, h1⟩ := h
  exact ⟨[v0], ⟨_, rfl, h0⟩, hc.part 0 (by intro j v hj; match j, hj with
    | 0, hj => exact hj
    | j + 1, hj => simp at hj)⟩
theorem At.Ser_1 {m : Mem} {p : Addr} {x : Ser} (h : At m p x) : At m (p.add 1) x.Shifts := by
  obtain ⟨vs, h, hc⟩ := h
  obtain ⟨v0, v1, rfl, h0, h1⟩ := h
  exact ⟨[v1], ⟨_, rfl, h1⟩, hc.part 1 (by intro j v hj; match j, hj with
    | 0, hj => exact hj
    | j + 1, hj => simp at hj)⟩

structure Pick where
  levels : List Int
  shifts : List Int
  deriving DecidableEq, Inhabited
instance : Enc Pick where
  sz := 2
  pos := by decide
  rd m vs x := ∃ v0 v1 : Value, vs = [v0, v1] ∧ Sl m v0 x.levels ∧ Sl m v1 x.shifts
  len h := by obtain ⟨v0, v1, rfl, h0, h1⟩ := h; rfl
  mono hm h := by obtain ⟨v0, v1, hv, h0, h1⟩ := h; exact ⟨v0, v1, hv, h0.mono hm, h1.mono hm⟩
  one h := by
    obtain ⟨v0, v1, rfl, h0, h1⟩ := h
    intro u hu
    simp at hu
    rcases hu with rfl | rfl <;> first | rfl | exact h0.one | exact h1.one
structure Sum where
  run : Ser
  levels : List Int
  shifts : List Int
  deriving DecidableEq, Inhabited
instance : Enc Sum where
  sz := 4
  pos := by decide
  rd m vs x := ∃ v0 v1 v2 v3 : Value, vs = [v0, v1, v2, v3] ∧ Sl m v0 x.run.Values ∧ Sl m v1 x.run.Shifts ∧ Sl m v2 x.levels ∧ Sl m v3 x.shifts
  len h := by obtain ⟨v0, v1, v2, v3, rfl, h0, h1, h2, h3⟩ := h; rfl
  mono hm h := by obtain ⟨v0, v1, v2, v3, hv, h0, h1, h2, h3⟩ := h; exact ⟨v0, v1, v2, v3, hv, h0.mono hm, h1.mono hm, h2.mono hm, h3.mono hm⟩
  one h := by
    obtain ⟨v0, v1, v2, v3, rfl, h0, h1, h2, h3⟩ := h
    intro u hu
    simp at hu
    rcases hu with rfl | rfl | rfl | rfl <;> first | rfl | exact h0.one | exact h1.one | exact h2.one | exact h3.one
theorem At.Sum_1 {m : Mem} {p : Addr} {x : Sum} (h : At m p x) : At m (p.add 2) x.levels := by
  obtain ⟨vs, h, hc⟩ := h
  obtain ⟨v0, v1, v2, v3, rfl, h0, h1, h2, h3⟩ := h
  exact ⟨[v2], ⟨_, rfl, h2⟩, hc.part 2 (by intro j v hj; match j, hj with
    | 0, hj => exact hj
    | j + 1, hj => simp at hj)⟩
theorem At.Sum_2 {m : Mem} {p : Addr} {x : Sum} (h : At m p x) : At m (p.add 3) x.shifts := by
  obtain ⟨vs, h, hc⟩ := h
  obtain ⟨v0, v1, v2, v3, rfl, h0, h1, h2, h3⟩ := h
  exact ⟨[v3], ⟨_, rfl, h3⟩, hc.part 3 (by intro j v hj; match j, hj with
    | 0, hj => exact hj
    | j + 1, hj => simp at hj)⟩

structure Win where
  levels : List Span
  shifts : List Span
  deriving DecidableEq, Inhabited
instance : Enc Win where
  sz := 2
  pos := by decide
  rd m vs x := ∃ v0 v1 : Value, vs = [v0, v1] ∧ Sl m v0 x.levels ∧ Sl m v1 x.shifts
  len h := by obtain ⟨v0, v1, rfl, h0, h1⟩ := h; rfl
  mono hm h := by obtain ⟨v0, v1, hv, h0, h1⟩ := h; exact ⟨v0, v1, hv, h0.mono hm, h1.mono hm⟩
  one h := by
    obtain ⟨v0, v1, rfl, h0, h1⟩ := h
    intro u hu
    simp at hu
    rcases hu with rfl | rfl <;> first | rfl | exact h0.one | exact h1.one
structure Rl where
  Levels : List Int
  Shifts : List Int
  deriving DecidableEq, Inhabited
instance : Enc Rl where
  sz := 2
  pos := by decide
  rd m vs x := ∃ v0 v1 : Value, vs = [v0, v1] ∧ Sl m v0 x.Levels ∧ Sl m v1 x.Shifts
  len h := by obtain ⟨v0, v1, rfl, h0, h1⟩ := h; rfl
  mono hm h := by obtain ⟨v0, v1, hv, h0, h1⟩ := h; exact ⟨v0, v1, hv, h0.mono hm, h1.mono hm⟩
  one h := by
    obtain ⟨v0, v1, rfl, h0, h1⟩ := h
    intro u hu
    simp at hu
    rcases hu with rfl | rfl <;> first | rfl | exact h0.one | exact h1.one
structure Mor where
  Shift : Bool
  At : Int
  Lo : Int
  Hi : Int
  deriving DecidableEq, Inhabited
instance : Flat Mor := ⟨4, by decide, fun x => [.bool x.Shift, .int .i64 x.At, .int .i64 x.Lo, .int .i64 x.Hi], fun _ => rfl, fun x v hv => by simp at hv; rcases hv with rfl | rfl | rfl | rfl <;> rfl⟩
instance : Enc Mor := Flat.toEnc Mor
instance : FlatEnc Mor := ⟨rfl, fun _ _ => rfl⟩
structure Pr where
  s : Int
  t : Int
  deriving DecidableEq, Inhabited
instance : Flat Pr := ⟨2, by decide, fun x => [.int .i64 x.s, .int .i64 x.t], fun _ => rfl, fun x v hv => by simp at hv; rcases hv with rfl | rfl <;> rfl⟩
instance : Enc Pr := Flat.toEnc Pr
instance : FlatEnc Pr := ⟨rfl, fun _ _ => rfl⟩
theorem sl22 : SlT Try.prog 22 62 3 24 (.agg #[.int .i64 0, .int .i64 0, .int .i64 0]) := ⟨Try.underlying22, ⟨Try.t62, info_of Try.typeInfo62, rfl, rfl, rfl⟩, rfl, by decide⟩
theorem sl23 : SlT Try.prog 23 72 3 24 (.agg #[.int .i64 0, .int .i64 0, .int .i64 0]) := ⟨Try.underlying23, ⟨Try.t72, info_of Try.typeInfo72, rfl, rfl, rfl⟩, rfl, by decide⟩
theorem places25 (fs : Array Field) (h : Try.prog.underlying 25 = some (.struct fs)) (w : World) : (fs.mapM fun f => do pure (f.offset, ← sizeOf f.type) : Sem _).run Try.prog w = .ok #[(0, 1), (1, 1)] w := by
  rw [Try.underlying25] at h; cases h; simp [Try.sizeOf22, Try.sizeOf23]
theorem sl28 : SlT Try.prog 28 3 1 8 (.int .i64 0) := ⟨Try.underlying28, ⟨Try.t3, info_of Try.typeInfo3, rfl, rfl, rfl⟩, rfl, by decide⟩
theorem places33 (fs : Array Field) (h : Try.prog.underlying 33 = some (.struct fs)) (w : World) : (fs.mapM fun f => do pure (f.offset, ← sizeOf f.type) : Sem _).run Try.prog w = .ok #[(0, 1), (1, 1)] w := by
  rw [Try.underlying33] at h; cases h; simp [Try.sizeOf3]
theorem gd33 : Try.prog.eqGuardType Try.prog.depth 33 = false := by kernel_rfl
theorem fs33 : Try.prog.underlying 33 = some (.struct (Try.prog.fieldsOf 33)) := by simp only [Program.fieldsOf, Try.underlying33]
theorem sh33 : Try.prog.stoodInHeld 33 = false := by kernel_rfl
theorem places45 (fs : Array Field) (h : Try.prog.underlying 45 = some (.struct fs)) (w : World) : (fs.mapM fun f => do pure (f.offset, ← sizeOf f.type) : Sem _).run Try.prog w = .ok #[(0, 1), (1, 1)] w := by
  rw [Try.underlying45] at h; cases h; simp [Try.sizeOf3]
theorem gd45 : Try.prog.eqGuardType Try.prog.depth 45 = false := by kernel_rfl
theorem fs45 : Try.prog.underlying 45 = some (.struct (Try.prog.fieldsOf 45)) := by simp only [Program.fieldsOf, Try.underlying45]
theorem sh45 : Try.prog.stoodInHeld 45 = false := by kernel_rfl
theorem places62 (fs : Array Field) (h : Try.prog.underlying 62 = some (.struct fs)) (w : World) : (fs.mapM fun f => do pure (f.offset, ← sizeOf f.type) : Sem _).run Try.prog w = .ok #[(0, 1), (1, 2)] w := by
  rw [Try.underlying62] at h; cases h; simp [Try.sizeOf3, Try.sizeOf33]
theorem gd62 : Try.prog.eqGuardType Try.prog.depth 62 = false := by kernel_rfl
theorem fs62 : Try.prog.underlying 62 = some (.struct (Try.prog.fieldsOf 62)) := by simp only [Program.fieldsOf, Try.underlying62]
theorem sh62 : Try.prog.stoodInHeld 62 = false := by kernel_rfl
theorem places72 (fs : Array Field) (h : Try.prog.underlying 72 = some (.struct fs)) (w : World) : (fs.mapM fun f => do pure (f.offset, ← sizeOf f.type) : Sem _).run Try.prog w = .ok #[(0, 1), (1, 2)] w := by
  rw [Try.underlying72] at h; cases h; simp [Try.sizeOf3, Try.sizeOf33]
theorem gd72 : Try.prog.eqGuardType Try.prog.depth 72 = false := by kernel_rfl
theorem fs72 : Try.prog.underlying 72 = some (.struct (Try.prog.fieldsOf 72)) := by simp only [Program.fieldsOf, Try.underlying72]
theorem sh72 : Try.prog.stoodInHeld 72 = false := by kernel_rfl
theorem sl74 : SlT Try.prog 74 33 2 16 (.agg #[.int .i64 0, .int .i64 0]) := ⟨Try.underlying74, ⟨Try.t33, info_of Try.typeInfo33, rfl, rfl, rfl⟩, rfl, by decide⟩
theorem sl108 : SlT Try.prog 108 113 2 16 (.agg #[.int .i64 0, .int .i64 0]) := ⟨Try.underlying108, ⟨Try.t113, info_of Try.typeInfo113, rfl, rfl, rfl⟩, rfl, by decide⟩
theorem places111 (fs : Array Field) (h : Try.prog.underlying 111 = some (.struct fs)) (w : World) : (fs.mapM fun f => do pure (f.offset, ← sizeOf f.type) : Sem _).run Try.prog w = .ok #[(0, 2)] w := by
  rw [Try.underlying111] at h; cases h; simp [Try.sizeOf25]
theorem places121 (fs : Array Field) (h : Try.prog.underlying 121 = some (.struct fs)) (w : World) : (fs.mapM fun f => do pure (f.offset, ← sizeOf f.type) : Sem _).run Try.prog w = .ok #[(0, 1), (1, 1)] w := by
  rw [Try.underlying121] at h; cases h; simp [Try.sizeOf74]
theorem places139 (fs : Array Field) (h : Try.prog.underlying 139 = some (.struct fs)) (w : World) : (fs.mapM fun f => do pure (f.offset, ← sizeOf f.type) : Sem _).run Try.prog w = .ok #[(0, 2), (2, 1), (3, 1)] w := by
  rw [Try.underlying139] at h; cases h; simp [Try.sizeOf28, Try.sizeOf111]
theorem places151 (fs : Array Field) (h : Try.prog.underlying 151 = some (.struct fs)) (w : World) : (fs.mapM fun f => do pure (f.offset, ← sizeOf f.type) : Sem _).run Try.prog w = .ok #[(0, 1), (1, 1)] w := by
  rw [Try.underlying151] at h; cases h; simp [Try.sizeOf28]
theorem sl179 : SlT Try.prog 179 25 2 48 (.agg #[.slice none 0 0, .slice none 0 0]) := ⟨Try.underlying179, ⟨Try.t25, info_of Try.typeInfo25, rfl, rfl, rfl⟩, rfl, by decide⟩
theorem sl190 : SlT Try.prog 190 22 1 24 (.slice none 0 0) := ⟨Try.underlying190, ⟨Try.t22, info_of Try.typeInfo22, rfl, rfl, rfl⟩, rfl, by decide⟩
theorem eqS33 (d : Nat) (a b : Span) (w : World) : (Op.equalIn (d + 2) 33 (.agg (Flat.enc a).toArray) (.agg (Flat.enc b).toArray)).run Try.prog w = .ok (decide (a = b)) w := by
  obtain ⟨x0, x1⟩ := a
  obtain ⟨y0, y1⟩ := b
  simp only [Flat.enc, run_equalIn_agg w (d + 1) 33 _ _ fs33 sh33, Program.fieldsOf, Try.underlying33]
  simp [Op.eqFields, part, Try.sizeOf3, Try.isAgg3, run_equalIn_int _ _ _ _ _ _ _ Try.underlying3]
  repeat' split
  all_goals simp_all
theorem eqS45 (d : Nat) (a b : Ratio) (w : World) : (Op.equalIn (d + 2) 45 (.agg (Flat.enc a).toArray) (.agg (Flat.enc b).toArray)).run Try.prog w = .ok (decide (a = b)) w := by
  obtain ⟨x0, x1⟩ := a
  obtain ⟨y0, y1⟩ := b
  simp only [Flat.enc, run_equalIn_agg w (d + 1) 45 _ _ fs45 sh45, Program.fieldsOf, Try.underlying45]
  simp [Op.eqFields, part, Try.sizeOf3, Try.isAgg3, run_equalIn_int _ _ _ _ _ _ _ Try.underlying3]
  repeat' split
  all_goals simp_all
theorem eqS62 (d : Nat) (a b : Val) (w : World) : (Op.equalIn (d + 3) 62 (.agg (Flat.enc a).toArray) (.agg (Flat.enc b).toArray)).run Try.prog w = .ok (decide (a = b)) w := by
  obtain ⟨x0, x1⟩ := a
  obtain ⟨y0, y1⟩ := b
  have h1 := fun w => eqS33 (d + 0) x1 y1 w
  simp only [Flat.enc] at h1
  simp only [Flat.enc, run_equalIn_agg w (d + 2) 62 _ _ fs62 sh62, Program.fieldsOf, Try.underlying62]
  simp [Op.eqFields, part, Try.sizeOf3, Try.sizeOf33, Try.isAgg3, Try.isAgg33, h1, run_equalIn_int _ _ _ _ _ _ _ Try.underlying3]
  repeat' split
  all_goals simp_all
theorem eqS72 (d : Nat) (a b : Shf) (w : World) : (Op.equalIn (d + 3) 72 (.agg (Flat.enc a).toArray) (.agg (Flat.enc b).toArray)).run Try.prog w = .ok (decide (a = b)) w := by
  obtain ⟨x0, x1⟩ := a
  obtain ⟨y0, y1⟩ := b
  have h1 := fun w => eqS33 (d + 0) x1 y1 w
  simp only [Flat.enc] at h1
  simp only [Flat.enc, run_equalIn_agg w (d + 2) 72 _ _ fs72 sh72, Program.fieldsOf, Try.underlying72]
  simp [Op.eqFields, part, Try.sizeOf3, Try.sizeOf33, Try.isAgg3, Try.isAgg33, h1, run_equalIn_int _ _ _ _ _ _ _ Try.underlying3]
  repeat' split
  all_goals simp_all
end Go.Proofs.C8
