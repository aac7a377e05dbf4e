import Derived.Test.YtooomcigmleneaaGreatKxG
/- Kx, part W: short forms for printed walks. -/
namespace Go.Kx
open Go
section
variable {M : Option Nat} {P : Program} {N : Nat} {ops : Array Oper} {Q : Exit → Act → World → Prop} {B : Base} {m : Mem} {H : List Ent} {σ : Sig} {rest : List Oper}
  {d : Nat} {op : Op} {ty : TypeId} {pos : String} {after : Array Edge}
theorem WL.y {V : Value} (h : OpX P B m H σ op ty V) (k : WL M P N ops Q B m H ((d, V) :: σ) rest) (hd : d < N := by decide) :
    WL M P N ops Q B m H σ (⟨some d, op, ty, pos, after, none⟩ :: rest) := WL.x h hd k
theorem WL.mv {V : Value} {x : Operand} (h : ev σ x = some V) (k : WL M P N ops Q B m H ((d, V) :: σ) rest) (hd : d < N := by decide) :
    WL M P N ops Q B m H σ (⟨some d, .move x, ty, pos, after, none⟩ :: rest) := WL.x (X.move h) hd k
theorem WL.ag {V : Value} {x : Operand} (h : ev σ x = some V) (k : WL M P N ops Q B m H ((d, V) :: σ) rest) (hd : d < N := by decide) :
    WL M P N ops Q B m H σ (⟨some d, .assign x, ty, pos, after, none⟩ :: rest) := WL.x (X.assign h) hd k
theorem WL.z {K : Act → World → Prop} (h : WK N B m H σ K) : WL M P N ops (Exit.then K Q) B m H σ [] := WL.nil (WK.nThen h)
theorem WC.r {id : Nat} {l : List Oper} {y : Code} (h : WL M P N l.toArray (Exit.then (y.wpIn (fen M) 0 P Q) Q) B m H σ l) : WC M P N Q B m H σ (.seq (.region id l.toArray false) y) := WC.seq (WC.region h)
theorem WK.c {c : Code} (h : WC M P N Q B m H σ c) : WK N B m H σ (c.wpIn (fen M) 0 P Q) := h
end
section
variable {P : Program} {B : Base} {N : Nat} {ops : Array Oper} {piv non : List Nat} {KK : Mem → List Ent → Sig → Prop} {π : Plan} {m : Mem} {H : List Ent} {σ : Sig} {i d : Nat} {op : Op} {ty : TypeId} {pos : String} {after : Array Edge} {g : Option (Nat × Bool)}
theorem DW.y {V : Value} (ho : ops[i]? = some ⟨some d, op, ty, pos, after, g⟩) (hg : gOk ops σ ⟨some d, op, ty, pos, after, g⟩ = some true) (h : OpX P B m H σ op ty V)
    (k : DW P B N ops piv non KK false π m H ((d, V) :: σ)) (hd : d < N := by decide) (hnp : piv.contains i = false := by rfl) (hfr : non.contains (i + 100000) = true → ∀ m' H', m.le m' → OpX P B m' H' σ op ty V := by exact fun h => absurd h (by decide)) : DW P B N ops piv non KK false (.cons i π) m H σ :=
  DW.x ho hg h hd k hnp hfr
end
end Go.Kx
