import Derived.Test.YtmnipmbgdbdjeaaC2LH
/- Clocks: marks picked and left out; in plain Lean. -/
namespace Go.Proofs.C2
open Go Go.Kx

def woN (m : List Mark) (l : List Int) : Nat → List Mark
  | 0 => []
  | n + 1 => if (n : Int) ∈ l then woN m l n else woN m l n ++ [gt m n]
def inM (m : List Mark) (v : Int) : Prop := 0 ≤ v ∧ v < (m.length : Int)
instance (m : List Mark) (v : Int) : Decidable (inM m v) := by unfold inM; exact inferInstance
def pickN (m : List Mark) (l : List Int) : Nat → List Mark
  | 0 => []
  | n + 1 => if inM m (gt l n) then pickN m l n ++ [gt m (gt l n).toNat] else pickN m l n
/-! ### a clock backwards -/
def turnC (x : Clk) : Clk := ⟨turnD x.D, turnM x.D x.M⟩
theorem map_succ2 {α : Type} (f : Nat → α) (k : Nat) : (List.range k).map f ++ [f k] = (List.range (k + 1)).map f := by rw [List.range_succ, List.map_append]; rfl
end Go.Proofs.C2
