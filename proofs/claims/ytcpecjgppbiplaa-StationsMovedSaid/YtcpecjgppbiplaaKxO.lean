/- Kx, part O: tests whose answer is known. -/
import Derived.Test.YtcpecjgppbiplaaKxM
import Derived.Laws.Small
namespace Go.Kx
section
variable {P : Program} {B : Base} {m : Mem} {H : List Ent} {σ : Sig} {ty : TypeId} {op : Op}
theorem OpX.t {p : Prop} [Decidable p] (h : OpX P B m H σ op ty (.bool (decide p))) (hp : p) : OpX P B m H σ op ty (.bool true) := by rw [decide_eq_true hp] at h; exact h
theorem OpX.f {p : Prop} [Decidable p] (h : OpX P B m H σ op ty (.bool (decide p))) (hp : ¬ p) : OpX P B m H σ op ty (.bool false) := by rw [decide_eq_false hp] at h; exact h
theorem OpX.tb {b : Bool} (h : OpX P B m H σ op ty (.bool b)) (hb : b = true) : OpX P B m H σ op ty (.bool true) := by rw [hb] at h; exact h
variable {M : Option Nat} {N : Nat} {ops : Array Oper} {Q : Exit → Act → World → Prop} {rest : List Oper}
end
end Go.Kx
