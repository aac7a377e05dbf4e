import Derived.Test.YtednficclnjmjaaKxP
import Derived.Laws.CopyRow
/- Kx, part Q: what is owned lent to calls that only read; copies within own slices; unsigned numbers. -/
namespace Go.Kx
section
variable {P : Program} {B : Base} {m : Mem} {H : List Ent} {σ : Sig} {ty : TypeId}

/-! ### lending -/
theorem St.leAll {w : World} (hw : St B m H w) : m.le (Mem.all w) := hw.sub
theorem St.rowSl {α : Type} [Enc α] {w : World} (hw : St B m H w) {k : Nat} {v : Value} {e : TypeId} {xs : List Value} {L : List α} (hH : fetch H k = some (row v e (Enc.sz α) L.length xs)) (hx : RdL m xs L) (hl : L.length ≤ lenB) : Sl (Mem.all w) v L := by
  have hr : (row v e (Enc.sz α) L.length xs).holds w := fetch_holds hw hH
  have h2 := hw.leAll
  rcases hr.2 with ⟨rfl, h0⟩ | ⟨g, cap, cur, rfl, _, hg, hnc, hcm, hcs, htake⟩
  · have : L = [] := List.eq_nil_of_length_eq_zero h0
    subst this; exact .nil
  · refine .some _ _ _ (fun _ => rfl) hnc hl hcm ?_
    intro i x hix
    obtain ⟨vs, h3, h4⟩ := hx.2 i x hix
    refine ⟨vs, Enc.mono h2 h3, rfl, cur, e, (0, 0), hg, ?_⟩
    intro j u hu
    have h5 := h4 j u hu
    rw [← htake, List.getElem?_take] at h5
    split at h5
    · simpa [Nat.add_assoc] using h5
    · cases h5
theorem St.rowFSl {α : Type} [Flat α] [Enc α] [FlatEnc α] {w : World} (hw : St B m H w) {k : Nat} {v : Value} {e : TypeId} {L : List α} (hH : fetch H k = some (rowF v e L)) (hl : L.length ≤ lenB) : Sl (Mem.all w) v L :=
  hw.rowSl (by rw [FlatEnc.sz]; exact hH) (RdL.flat m L) hl
theorem X.callL {f : FuncId} {l : List Operand} {ts : Array TypeId} {vs : List Value} {v : Value} (hf : Enters P f) (hl : evs σ l = some vs) (hc : ∀ w, St B m H w → Exact P f vs.toArray (Mem.all w) v) :
    OpX P B m H σ (.call (Call.mk (.value (.func f)) l.toArray ts)) ty v :=
  ⟨trivial, defdc rfl hl, fun w hw o a next Q ho ht k => by
    rw [call_run hf hl w o ho]
    refine (hc w hw w (fun _ _ h => h)).mono fun e w' hr => ?_
    have hx := Ret.ext hr rfl
    obtain ⟨u, m', H', rfl, hs, rfl⟩ := hr
    exact k w' hx⟩
/-! ### unsigned numbers -/
/-! ### parts of own slices, and copies -/
end
section
variable {M : Option Nat} {P : Program} {N : Nat} {ops : Array Oper} {Q : Exit → Act → World → Prop} {B : Base} {m : Mem} {H : List Ent} {σ : Sig} {rest : List Oper}
  {d : Nat} {op : Op} {ty : TypeId} {pos : String} {after : Array Edge} {i : Nat} {must : Bool} {π : Plan} {piv non : List Nat} {KK : Mem → List Ent → Sig → Prop} {g : Option (Nat × Bool)}
end
end Go.Kx
