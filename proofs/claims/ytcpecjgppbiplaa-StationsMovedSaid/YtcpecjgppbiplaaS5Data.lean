/- Stations: the data types and the facts of types, by program. -/
import Derived.Test.YtcpecjgppbiplaaKxS
import Derived.Test.YtcpecjgppbiplaaProg
import Derived.KernelRfl
namespace Go.Proofs.S5
open Go Go.Kx

structure Wind where
  Fixed : Int
  Each : Int
  deriving DecidableEq, Inhabited
instance : Flat Wind := ⟨2, by decide, fun x => [.int .i64 x.Fixed, .int .i64 x.Each], fun _ => rfl, fun x v hv => by simp at hv; rcases hv with rfl | rfl <;> rfl⟩
instance : Enc Wind := Flat.toEnc Wind
instance : FlatEnc Wind := ⟨rfl, fun _ _ => rfl⟩
structure Span where
  Lo : Int
  Hi : Int
  deriving DecidableEq, Inhabited
instance : Flat Span := ⟨2, by decide, fun x => [.int .i64 x.Lo, .int .i64 x.Hi], fun _ => rfl, fun x v hv => by simp at hv; rcases hv with rfl | rfl <;> rfl⟩
instance : Enc Span := Flat.toEnc Span
instance : FlatEnc Span := ⟨rfl, fun _ _ => rfl⟩
theorem At.Span_0 {m : Mem} {p : Addr} {x : Span} (h : At m p x) : At m (p.add 0) x.Lo := by
  obtain ⟨vs, h, hc⟩ := h
  obtain rfl := h
  exact ⟨[.int .i64 x.Lo], rfl, hc.part 0 (by intro j v hj; match j, hj with
    | 0, hj => exact hj
    | j + 1, hj => simp at hj)⟩
theorem At.Span_1 {m : Mem} {p : Addr} {x : Span} (h : At m p x) : At m (p.add 1) x.Hi := by
  obtain ⟨vs, h, hc⟩ := h
  obtain rfl := h
  exact ⟨[.int .i64 x.Hi], rfl, hc.part 1 (by intro j v hj; match j, hj with
    | 0, hj => exact hj
    | j + 1, hj => simp at hj)⟩

structure Ratio where
  Num : Int
  Den : Int
  deriving DecidableEq, Inhabited
instance : Flat Ratio := ⟨2, by decide, fun x => [.int .i64 x.Num, .int .i64 x.Den], fun _ => rfl, fun x v hv => by simp at hv; rcases hv with rfl | rfl <;> rfl⟩
instance : Enc Ratio := Flat.toEnc Ratio
instance : FlatEnc Ratio := ⟨rfl, fun _ _ => rfl⟩
structure Height where
  Week : Int
  Metres : Span
  deriving DecidableEq, Inhabited
instance : Flat Height := ⟨3, by decide, fun x => [.int .i64 x.Week, .int .i64 x.Metres.Lo, .int .i64 x.Metres.Hi], fun _ => rfl, fun x v hv => by simp at hv; rcases hv with rfl | rfl | rfl <;> rfl⟩
instance : Enc Height := Flat.toEnc Height
instance : FlatEnc Height := ⟨rfl, fun _ _ => rfl⟩
theorem At.Height_0 {m : Mem} {p : Addr} {x : Height} (h : At m p x) : At m (p.add 0) x.Week := by
  obtain ⟨vs, h, hc⟩ := h
  obtain rfl := h
  exact ⟨[.int .i64 x.Week], rfl, hc.part 0 (by intro j v hj; match j, hj with
    | 0, hj => exact hj
    | j + 1, hj => simp at hj)⟩
theorem At.Height_1 {m : Mem} {p : Addr} {x : Height} (h : At m p x) : At m (p.add 1) x.Metres := by
  obtain ⟨vs, h, hc⟩ := h
  obtain rfl := h
  exact ⟨[.int .i64 x.Metres.Lo, .int .i64 x.Metres.Hi], rfl, hc.part 1 (by intro j v hj; match j, hj with
    | 0, hj => exact hj
    | 1, hj => exact hj
    | j + 2, hj => simp at hj)⟩

structure Station where
  ID : Int
  X : Int
  Y : Int
  Heights : List Height
  deriving DecidableEq, Inhabited
instance : Enc Station where
  sz := 4
  pos := by decide
  rd m vs x := ∃ v0 : Value, vs = [.int .i64 x.ID, .int .i64 x.X, .int .i64 x.Y, v0] ∧ Sl m v0 x.Heights
  len h := by obtain ⟨v0, rfl, h0⟩ := h; rfl
  mono hm h := by obtain ⟨v0, hv, h0⟩ := h; exact ⟨v0, hv, h0.mono hm⟩
  one h := by
    obtain ⟨v0, rfl, h0⟩ := h
    intro u hu
    simp at hu
    rcases hu with rfl | rfl | rfl | rfl <;> first | rfl | exact h0.one
theorem At.Station_0 {m : Mem} {p : Addr} {x : Station} (h : At m p x) : At m (p.add 0) x.ID := by
  obtain ⟨vs, h, hc⟩ := h
  obtain ⟨v0, rfl, h0⟩ := h
  exact ⟨[.int .i64 x.ID], rfl, hc.part 0 (by intro j v hj; match j, hj with
    | 0, hj => exact hj
    | j + 1, hj => simp at hj)⟩
theorem places23 (fs : Array Field) (h : Try.prog.underlying 23 = some (.struct fs)) (w : World) : (fs.mapM fun f => do pure (f.offset, ← sizeOf f.type) : Sem _).run Try.prog w = .ok #[(0, 1), (1, 1)] w := by
  rw [Try.underlying23] at h; cases h; simp [Try.sizeOf3]
theorem sl24 : SlT Try.prog 24 58 4 48 (.agg #[.int .i64 0, .int .i64 0, .int .i64 0, .slice none 0 0]) := ⟨Try.underlying24, ⟨Try.t58, info_of Try.typeInfo58, rfl, rfl, rfl⟩, rfl, by decide⟩
theorem sl27 : SlT Try.prog 27 31 1 24 (.slice none 0 0) := ⟨Try.underlying27, ⟨Try.t31, info_of Try.typeInfo31, rfl, rfl, rfl⟩, rfl, by decide⟩
theorem sl31 : SlT Try.prog 31 3 1 8 (.int .i64 0) := ⟨Try.underlying31, ⟨Try.t3, info_of Try.typeInfo3, rfl, rfl, rfl⟩, rfl, by decide⟩
theorem places49 (fs : Array Field) (h : Try.prog.underlying 49 = some (.struct fs)) (w : World) : (fs.mapM fun f => do pure (f.offset, ← sizeOf f.type) : Sem _).run Try.prog w = .ok #[(0, 1), (1, 1)] w := by
  rw [Try.underlying49] at h; cases h; simp [Try.sizeOf3]
theorem gd49 : Try.prog.eqGuardType Try.prog.depth 49 = false := by kernel_rfl
theorem fs49 : Try.prog.underlying 49 = some (.struct (Try.prog.fieldsOf 49)) := by simp only [Program.fieldsOf, Try.underlying49]
theorem sh49 : Try.prog.stoodInHeld 49 = false := by kernel_rfl
theorem sl56 : SlT Try.prog 56 71 3 24 (.agg #[.int .i64 0, .int .i64 0, .int .i64 0]) := ⟨Try.underlying56, ⟨Try.t71, info_of Try.typeInfo71, rfl, rfl, rfl⟩, rfl, by decide⟩
theorem places58 (fs : Array Field) (h : Try.prog.underlying 58 = some (.struct fs)) (w : World) : (fs.mapM fun f => do pure (f.offset, ← sizeOf f.type) : Sem _).run Try.prog w = .ok #[(0, 1), (1, 1), (2, 1), (3, 1)] w := by
  rw [Try.underlying58] at h; cases h; simp [Try.sizeOf3, Try.sizeOf56]
theorem places63 (fs : Array Field) (h : Try.prog.underlying 63 = some (.struct fs)) (w : World) : (fs.mapM fun f => do pure (f.offset, ← sizeOf f.type) : Sem _).run Try.prog w = .ok #[(0, 1), (1, 1)] w := by
  rw [Try.underlying63] at h; cases h; simp [Try.sizeOf3]
theorem gd63 : Try.prog.eqGuardType Try.prog.depth 63 = false := by kernel_rfl
theorem fs63 : Try.prog.underlying 63 = some (.struct (Try.prog.fieldsOf 63)) := by simp only [Program.fieldsOf, Try.underlying63]
theorem sh63 : Try.prog.stoodInHeld 63 = false := by kernel_rfl
theorem places71 (fs : Array Field) (h : Try.prog.underlying 71 = some (.struct fs)) (w : World) : (fs.mapM fun f => do pure (f.offset, ← sizeOf f.type) : Sem _).run Try.prog w = .ok #[(0, 1), (1, 2)] w := by
  rw [Try.underlying71] at h; cases h; simp [Try.sizeOf3, Try.sizeOf49]
theorem gd71 : Try.prog.eqGuardType Try.prog.depth 71 = false := by kernel_rfl
theorem fs71 : Try.prog.underlying 71 = some (.struct (Try.prog.fieldsOf 71)) := by simp only [Program.fieldsOf, Try.underlying71]
theorem sh71 : Try.prog.stoodInHeld 71 = false := by kernel_rfl
theorem places92 (fs : Array Field) (h : Try.prog.underlying 92 = some (.struct fs)) (w : World) : (fs.mapM fun f => do pure (f.offset, ← sizeOf f.type) : Sem _).run Try.prog w = .ok #[(0, 1024), (1024, 2), (1026, 1)] w := by
  rw [Try.underlying92] at h; cases h; simp [Try.sizeOf23, Try.sizeOf24, Try.sizeOf90]
theorem sl100 : SlT Try.prog 100 49 2 16 (.agg #[.int .i64 0, .int .i64 0]) := ⟨Try.underlying100, ⟨Try.t49, info_of Try.typeInfo49, rfl, rfl, rfl⟩, rfl, by decide⟩
theorem sl132 : SlT Try.prog 132 4 1 1 (.bool false) := ⟨Try.underlying132, ⟨Try.t4, info_of Try.typeInfo4, rfl, rfl, rfl⟩, rfl, by decide⟩
theorem eqS49 (d : Nat) (a b : Span) (w : World) : (Op.equalIn (d + 2) 49 (.agg (Flat.enc a).toArray) (.agg (Flat.enc b).toArray)).run Try.prog w = .ok (decide (a = b)) w := by
  obtain ⟨x0, x1⟩ := a
  obtain ⟨y0, y1⟩ := b
  simp only [Flat.enc, run_equalIn_agg w (d + 1) 49 _ _ fs49 sh49, Program.fieldsOf, Try.underlying49]
  simp [Op.eqFields, part, Try.sizeOf3, Try.isAgg3, run_equalIn_int _ _ _ _ _ _ _ Try.underlying3]
  repeat' split
  all_goals simp_all
theorem eqS63 (d : Nat) (a b : Ratio) (w : World) : (Op.equalIn (d + 2) 63 (.agg (Flat.enc a).toArray) (.agg (Flat.enc b).toArray)).run Try.prog w = .ok (decide (a = b)) w := by
  obtain ⟨x0, x1⟩ := a
  obtain ⟨y0, y1⟩ := b
  simp only [Flat.enc, run_equalIn_agg w (d + 1) 63 _ _ fs63 sh63, Program.fieldsOf, Try.underlying63]
  simp [Op.eqFields, part, Try.sizeOf3, Try.isAgg3, run_equalIn_int _ _ _ _ _ _ _ Try.underlying3]
  repeat' split
  all_goals simp_all
theorem eqS71 (d : Nat) (a b : Height) (w : World) : (Op.equalIn (d + 3) 71 (.agg (Flat.enc a).toArray) (.agg (Flat.enc b).toArray)).run Try.prog w = .ok (decide (a = b)) w := by
  obtain ⟨x0, x1⟩ := a
  obtain ⟨y0, y1⟩ := b
  have h1 := fun w => eqS49 (d + 0) x1 y1 w
  simp only [Flat.enc] at h1
  simp only [Flat.enc, run_equalIn_agg w (d + 2) 71 _ _ fs71 sh71, Program.fieldsOf, Try.underlying71]
  simp [Op.eqFields, part, Try.sizeOf3, Try.sizeOf49, Try.isAgg3, Try.isAgg49, h1, run_equalIn_int _ _ _ _ _ _ _ Try.underlying3]
  repeat' split
  all_goals simp_all
end Go.Proofs.S5
