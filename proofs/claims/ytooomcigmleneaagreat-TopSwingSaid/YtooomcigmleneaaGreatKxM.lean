import Derived.Test.YtooomcigmleneaaGreatKxL
/- Kx, part M: unsigned numbers, as the library's searches use them. -/
namespace Go.Kx
section
variable {P : Program} {B : Base} {m : Mem} {H : List Ent} {σ : Sig} {ty : TypeId}
theorem X.conv {x : Operand} {s d : TypeId} {a : Int} {k k' : IntKind} (hu : ∀ w, (underlying s).run P w = .ok (.int k) w) (hv : ∀ w, (underlying d).run P w = .ok (.int k') w)
    (hx : ev σ x = some (.int k a)) (h : k'.wrap a = a) : OpX P B m H σ (.convert s d x) ty (.int k' a) :=
  .ofRun trivial (defd1 rfl hx) fun w _ o ho _ => by simp [execOp, ho, evd_eq hx, Go.convert, hu, hv, Conv.intToInt, h]
theorem wrap_u64 {a : Int} (h0 : 0 ≤ a) (h1 : a ≤ 9223372036854775807) : IntKind.u64.wrap a = a := by
  simp [IntKind.wrap, IntKind.bits, IntKind.signed]
  omega
end
end Go.Kx
