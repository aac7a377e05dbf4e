import Derived.Test.YtednficclnjmjaaC8Less
/- Century: what becomes known more exactly; equal series; in plain Lean. -/
namespace Go.Proofs.C8
open Go Go.Kx

def cutW (s : Span) (x : Mor) : Span := ⟨wr (s.Lo + min (max x.Lo 0) (max 0 (wr (s.Hi - s.Lo)))), wr (s.Hi - min (max x.Hi 0) (wr (max 0 (wr (s.Hi - s.Lo)) - min (max x.Lo 0) (max 0 (wr (s.Hi - s.Lo))))))⟩
attribute [irreducible] cutW
def knownP (s : Ser) (x : Mor) : Prop := 0 ≤ x.At ∧ (x.Shift = true → x.At < s.Shifts.length) ∧ (x.Shift = false → x.At < s.Values.length)
instance (s : Ser) (x : Mor) : Decidable (knownP s x) := by unfold knownP; exact inferInstance
def knownS (s : Ser) (x : Mor) : Ser := if x.Shift = true then ⟨s.Values, s.Shifts.set x.At.toNat ⟨(gt s.Shifts x.At.toNat).Time, cutW (gt s.Shifts x.At.toNat).Levels x⟩⟩
  else ⟨s.Values.set x.At.toNat ⟨(gt s.Values x.At.toNat).Time, cutW (gt s.Values x.At.toNat).Levels x⟩, s.Shifts⟩
def knownR (s : Ser) (x : Mor) : Ser × Bool := if knownP s x then (knownS s x, true) else (s, false)
end Go.Proofs.C8
