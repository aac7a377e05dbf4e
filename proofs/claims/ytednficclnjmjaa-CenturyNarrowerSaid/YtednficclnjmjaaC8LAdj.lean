/- Century: adjustments: either way round, upside down, and whoever found them; in plain Lean. -/
import Derived.Test.YtednficclnjmjaaC8LWin
namespace Go.Proofs.C8
open Go Go.Kx

theorem first_congr {p q : Nat → Prop} [DecidablePred p] [DecidablePred q] {n : Nat} (h : ∀ i, i < n → (p i ↔ q i)) : first p n = first q n := by
  rcases first_cases q n with ⟨h1, h2⟩ | ⟨h1, h2, h3⟩
  · rw [h1]; exact first_no fun j hj hp => h2 j hj ((h j hj).1 hp)
  · exact first_eq h1 (fun j hj hp => h3 j hj ((h j (by omega)).1 hp)) ((h _ h1).2 h2)

section
variable {s t : Ser} {time : Int}
end
/-! ### whoever has levels and shifts -/
/-- the plain difference and the shifts of a common time -/
def rawD (lv lv' : List Int) (s t : Ser) (n : Nat) : Int := gt lv (gt (comL s t) n).a.toNat - gt lv' (gt (comL s t) n).b.toNat
def offD (sh sh' : List Int) (s t : Ser) (n : Nat) : Int := offN s.Shifts sh (difT s t n) s.Shifts.length - offN t.Shifts sh' (difT s t n) t.Shifts.length
end Go.Proofs.C8
