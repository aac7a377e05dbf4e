import Derived.Test.YtooomcigmleneaaGreatKxJ
/- Kx, part K: own slices of own slices of numbers. -/
namespace Go.Kx

def rowsOf (e : TypeId) : List Value → List (List Int) → List Ent
  | v :: vs, L :: M => rowF v e L :: rowsOf e vs M
  | _, _ => []

theorem gt_zero {α : Type} [Inhabited α] (x : α) (L : List α) : gt (x :: L) 0 = x := by simp [gt]
theorem gt_succ {α : Type} [Inhabited α] (x : α) (L : List α) (i : Nat) : gt (x :: L) (i + 1) = gt L i := by simp [gt]

section
variable {Mo : Option Nat} {P : Program} {N : Nat} {ops : Array Oper} {Q : Exit → Act → World → Prop} {B : Base} {m : Mem} {H : List Ent} {σ : Sig} {rest : List Oper}
  {d : Nat} {op : Op} {ty : TypeId} {pos : String} {after : Array Edge} {K : Act → World → Prop}

theorem WL.perm (H' : List Ent) (hp : H'.Perm H) {l : List Oper} (h : WL Mo P N ops Q B m H' σ l) : WL Mo P N ops Q B m H σ l := fun Ds w hw a ha => h Ds w (hw.perm (hp.append_right _)) a ha
theorem WK.drop {H' : List Ent} {K : Act → World → Prop} (hH : H'.Sublist H) (h : WK N B m H' σ K) : WK N B m H σ K := fun Ds w hw a ha => h Ds w (hw.weaken (hH.append_right _)) a ha
theorem WL.drop {H' : List Ent} {l : List Oper} (hH : H'.Sublist H) (h : WL Mo P N ops Q B m H' σ l) : WL Mo P N ops Q B m H σ l := fun Ds w hw a ha => h Ds w (hw.weaken (hH.append_right _)) a ha
theorem WL.own1 {k : Nat} {v : Value} {e : TypeId} {sz n : Nat} {xs : List Value} (hH : fetch H k = some (row v e sz n xs)) {l : List Oper} (kk : v.oneCell' = true → WL Mo P N ops Q B m H σ l) : WL Mo P N ops Q B m H σ l := fun Ds w hw a ha => by
  refine kk ?_ Ds w hw a ha
  have hh : (row v e sz n xs).holds w := fetch_holds hw (fetchR hH)
  rcases hh.2 with ⟨rfl, _⟩ | ⟨g, cap, cur, rfl, _⟩ <;> rfl

theorem T.appendN {s x : Operand} {t e : TypeId} {sz bytes : Nat} {z : Value} (hS : SlT P t e sz bytes z) {k b : Nat} {T : TypeId} {v : Value} {n n' c cap : Nat} {xs news : List Value} {H1 : List Ent}
    (hs : ev σ s = some v) (hx : ev σ x = some (.slice (some ⟨b, 0, none⟩) c cap)) (hH1 : H = blk b T news :: H1) (hH : fetch H1 k = some (row v e sz n xs)) (hl : news.length = c * sz) (h1 : ∀ u ∈ news, u.oneCell' = true)
    (hn : n + c = n') (hb : n' * bytes ≤ 140737488355328) (h63 : n' ≤ 9223372036854775807) :
    OpTo P B m H σ (.call (Call.mk (.builtin .append) #[s, x] #[t, t])) ty (fun v' m' H' => m' = m ∧ H' = upd H1 k (row v' e sz n' (xs ++ news))) := by
  subst hn; exact Kx.T.append hS hs hx hH1 hH hl h1 hb h63

/-! ### one row of many -/
end
end Go.Kx
