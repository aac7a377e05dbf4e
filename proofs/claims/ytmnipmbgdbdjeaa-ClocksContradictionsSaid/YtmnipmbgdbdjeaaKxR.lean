import Derived.Test.YtmnipmbgdbdjeaaKxQ
/- A slice that is not nil. -/
namespace Go.Kx
open Go
variable {P : Program} {B : Base} {m : Mem} {H : List Ent} {σ : Sig} {ty : TypeId}
theorem X.neqNil {α : Type} [Enc α] {x y : Operand} {t t' e : TypeId} {v : Value} {L : List α} (hu : P.underlying t = some (.slice e)) (hx : ev σ x = some v) (hy : ev σ y = some (.slice none 0 0)) (hs : Sl m v L) :
    OpX P B m H σ (.binOp .neq t x y t') ty (.bool (!nilSl v)) :=
  .ofRun trivial (defd2 rfl hx hy) fun w _ o ho _ => by
    cases hs with
    | nil =>
      have h := run_equal_slice_nil (P := P) w t e none 0 0 hu
      simp [execOp, ho, evd_eq hx, evd_eq hy, eqGuard, binOp, h, nilSl]
    | some a _ cap hs hc hb hcap h' =>
      have h := run_equal_slice_nil (P := P) w t e (some a) L.length cap hu
      simp [execOp, ho, evd_eq hx, evd_eq hy, eqGuard, binOp, h, nilSl]
theorem nil_dec {α : Type} [Enc α] {v : Value} {L : List α} {p : Prop} [Decidable p] (h : Sl m v L) (hn : L ≠ []) (hp : ¬ p) : nilSl v = decide p := by
  rw [decide_eq_false hp]
  cases hv : nilSl v with
  | false => rfl
  | true => exact absurd (h.nil_of hv) hn
end Go.Kx
