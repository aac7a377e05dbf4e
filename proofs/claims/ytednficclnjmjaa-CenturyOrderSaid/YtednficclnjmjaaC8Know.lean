import Derived.Test.YtednficclnjmjaaC8Less
import Derived.Test.YtednficclnjmjaaC8Lin
/- Century: what becomes known more exactly; equal series; in plain Lean. -/
namespace Go.Proofs.C8
open Go Go.Kx

def cutW (s : Span) (x : Mor) : Span := ⟨wr (s.Lo + min (max x.Lo 0) (max 0 (wr (s.Hi - s.Lo)))), wr (s.Hi - min (max x.Hi 0) (wr (max 0 (wr (s.Hi - s.Lo)) - min (max x.Lo 0) (max 0 (wr (s.Hi - s.Lo))))))⟩
attribute [irreducible] cutW
def knownP (s : Ser) (x : Mor) : Prop := 0 ≤ x.At ∧ (x.Shift = true → x.At < s.Shifts.length) ∧ (x.Shift = false → x.At < s.Values.length)
instance (s : Ser) (x : Mor) : Decidable (knownP s x) := by unfold knownP; exact inferInstance
def knownS (s : Ser) (x : Mor) : Ser := if x.Shift = true then ⟨s.Values, s.Shifts.set x.At.toNat ⟨(gt s.Shifts x.At.toNat).Time, cutW (gt s.Shifts x.At.toNat).Levels x⟩⟩
  else ⟨s.Values.set x.At.toNat ⟨(gt s.Values x.At.toNat).Time, cutW (gt s.Values x.At.toNat).Levels x⟩, s.Shifts⟩
def knownR (s : Ser) (x : Mor) : Ser × Bool := if knownP s x then (knownS s x, true) else (s, false)
theorem ser_ext {a b : Ser} (h1 : a.Values = b.Values) (h2 : a.Shifts = b.Shifts) : a = b := by cases a; cases b; simp_all
end Go.Proofs.C8
/- Century: breaks are real, in plain Lean. -/
namespace Go.Proofs.C8
open Go Go.Kx

end Go.Proofs.C8
/- Century: windows: what lies within them, and how they look backwards and upside down; in plain Lean. -/
namespace Go.Proofs.C8
open Go Go.Kx

/-! ### numbers within a window -/
/-! ### upside down -/
def mirS (c : Int) (x : Span) : Span := ⟨c - x.Hi, c - x.Lo⟩
/-! ### lists that rise -/
def incL (A : List Int) : Prop := ∀ i j, i < j → j < A.length → gt A i < gt A j
/-! ### common times, either way round -/
end Go.Proofs.C8
/- Century: adjustments: either way round, upside down, and whoever found them; in plain Lean. -/
namespace Go.Proofs.C8
open Go Go.Kx

section
variable {s t : Ser} {time : Int}
end
/-! ### whoever has levels and shifts -/
/-- the plain difference and the shifts of a common time -/
def rawD (lv lv' : List Int) (s t : Ser) (n : Nat) : Int := gt lv (gt (comL s t) n).a.toNat - gt lv' (gt (comL s t) n).b.toNat
def offD (sh sh' : List Int) (s t : Ser) (n : Nat) : Int := offN s.Shifts sh (difT s t n) s.Shifts.length - offN t.Shifts sh' (difT s t n) t.Shifts.length
end Go.Proofs.C8
