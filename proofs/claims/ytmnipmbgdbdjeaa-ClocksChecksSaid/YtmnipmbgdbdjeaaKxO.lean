import Derived.Test.YtmnipmbgdbdjeaaKxM
import Derived.Laws.Small
/- Kx, part O: tests whose answer is known. -/
namespace Go.Kx
section
variable {P : Program} {B : Base} {m : Mem} {H : List Ent} {σ : Sig} {ty : TypeId} {op : Op}
theorem OpX.t {p : Prop} [Decidable p] (h : OpX P B m H σ op ty (.bool (decide p))) (hp : p) : OpX P B m H σ op ty (.bool true) := by rw [decide_eq_true hp] at h; exact h
theorem OpX.f {p : Prop} [Decidable p] (h : OpX P B m H σ op ty (.bool (decide p))) (hp : ¬ p) : OpX P B m H σ op ty (.bool false) := by rw [decide_eq_false hp] at h; exact h
theorem X.eqlB {x y : Operand} {t t' : TypeId} {a b : Bool} (hu : P.underlying t = some .bool) (hx : ev σ x = some (.bool a)) (hy : ev σ y = some (.bool b)) : OpX P B m H σ (.binOp .eql t x y t') ty (.bool (decide (a = b))) :=
  .ofRun trivial (defd2 rfl hx hy) fun w _ o ho _ => by
    have h := run_equal_bool (P := P) w t a b hu
    simp [execOp, ho, evd_eq hx, evd_eq hy, eqGuard, binOp, h]
    rfl
variable {M : Option Nat} {N : Nat} {ops : Array Oper} {Q : Exit → Act → World → Prop} {rest : List Oper}
end
end Go.Kx
