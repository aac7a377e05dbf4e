import Derived.Test.YtednficclnjmjaaC8Lin
/- Century: breaks are real, in plain Lean. -/
namespace Go.Proofs.C8
open Go Go.Kx

end Go.Proofs.C8
/- Century: windows: what lies within them, and how they look backwards and upside down; in plain Lean. -/
namespace Go.Proofs.C8
open Go Go.Kx

/-! ### numbers within a window -/
/-! ### upside down -/
def mirS (c : Int) (x : Span) : Span := ⟨c - x.Hi, c - x.Lo⟩
/-! ### lists that rise -/
def incL (A : List Int) : Prop := ∀ i j, i < j → j < A.length → gt A i < gt A j
/-! ### common times, either way round -/
end Go.Proofs.C8
/- Century: adjustments: either way round, upside down, and whoever found them; in plain Lean. -/
namespace Go.Proofs.C8
open Go Go.Kx

section
variable {s t : Ser} {time : Int}
end
/-! ### whoever has levels and shifts -/
/-- the plain difference and the shifts of a common time -/
def rawD (lv lv' : List Int) (s t : Ser) (n : Nat) : Int := gt lv (gt (comL s t) n).a.toNat - gt lv' (gt (comL s t) n).b.toNat
def offD (sh sh' : List Int) (s t : Ser) (n : Nat) : Int := offN s.Shifts sh (difT s t n) s.Shifts.length - offN t.Shifts sh' (difT s t n) t.Shifts.length
end Go.Proofs.C8
