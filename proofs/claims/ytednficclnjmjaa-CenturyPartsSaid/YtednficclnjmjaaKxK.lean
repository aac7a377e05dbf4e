import Derived.Test.YtednficclnjmjaaKxJ
/- Kx, part K: own slices of own slices of numbers. -/
namespace Go.Kx

def rowsOf (e : TypeId) : List Value → List (List Int) → List Ent
  | v :: vs, L :: M => rowF v e L :: rowsOf e vs M
  | _, _ => []

section
variable {Mo : Option Nat} {P : Program} {N : Nat} {ops : Array Oper} {Q : Exit → Act → World → Prop} {B : Base} {m : Mem} {H : List Ent} {σ : Sig} {rest : List Oper}
  {d : Nat} {op : Op} {ty : TypeId} {pos : String} {after : Array Edge} {K : Act → World → Prop}

theorem WL.perm (H' : List Ent) (hp : H'.Perm H) {l : List Oper} (h : WL Mo P N ops Q B m H' σ l) : WL Mo P N ops Q B m H σ l := fun Ds w hw a ha => h Ds w (hw.perm (hp.append_right _)) a ha
theorem WK.drop {H' : List Ent} {K : Act → World → Prop} (hH : H'.Sublist H) (h : WK N B m H' σ K) : WK N B m H σ K := fun Ds w hw a ha => h Ds w (hw.weaken (hH.append_right _)) a ha
theorem WL.drop {H' : List Ent} {l : List Oper} (hH : H'.Sublist H) (h : WL Mo P N ops Q B m H' σ l) : WL Mo P N ops Q B m H σ l := fun Ds w hw a ha => h Ds w (hw.weaken (hH.append_right _)) a ha
theorem WL.own1 {k : Nat} {v : Value} {e : TypeId} {sz n : Nat} {xs : List Value} (hH : fetch H k = some (row v e sz n xs)) {l : List Oper} (kk : v.oneCell' = true → WL Mo P N ops Q B m H σ l) : WL Mo P N ops Q B m H σ l := fun Ds w hw a ha => by
  refine kk ?_ Ds w hw a ha
  have hh : (row v e sz n xs).holds w := fetch_holds hw (fetchR hH)
  rcases hh.2 with ⟨rfl, _⟩ | ⟨g, cap, cur, rfl, _⟩ <;> rfl

/-! ### one row of many -/
end
end Go.Kx
