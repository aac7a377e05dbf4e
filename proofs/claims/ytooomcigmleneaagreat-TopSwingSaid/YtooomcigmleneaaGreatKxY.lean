import Derived.Test.YtooomcigmleneaaGreatKxX
import Derived.Test.YtooomcigmleneaaGreatKxQ
/- Kx, part Y: letters of strings; small numbers. -/
namespace Go.Kx
open Go
theorem wrap_u8 {z : Int} (h1 : 0 ≤ z) (h2 : z ≤ 255) : IntKind.u8.wrap z = z := by
  simp only [IntKind.wrap, IntKind.bits, IntKind.signed]
  have : z % 256 = z := Int.emod_eq_of_lt h1 (by omega)
  simp [this]
def byteAt (b : ByteArray) (q : Int) : Int := ((b[q.toNat]?).getD 0).toNat
theorem byteAt_bd (b : ByteArray) (q : Int) : 0 ≤ byteAt b q ∧ byteAt b q ≤ 255 := by
  unfold byteAt
  have := ((b[q.toNat]?).getD 0).toNat_lt
  omega
section
variable {P : Program} {B : Base} {m : Mem} {H : List Ent} {σ : Sig} {ty : TypeId}
theorem X.idxStr {x y : Operand} {t : TypeId} {b : ByteArray} {k : IntKind} {q : Int} (hu : ∀ w, (underlying t).run P w = .ok .string w) (hx : ev σ x = some (.string b)) (hy : ev σ y = some (.int k q)) (h0 : 0 ≤ q) (h1 : q.toNat < b.size) :
    OpX P B m H σ (.index t x y) ty (.int .u8 (byteAt b q)) :=
  .ofRun trivial (defd2 rfl hx hy) fun w _ o ho _ => by
    have hb : b[q.toNat]? = some (b[q.toNat]'h1) := by simp [h1]
    simp [execOp, ho, Instr.index, asIntOf, evd_eq hx, evd_eq hy, hu, h0, hb, byteAt]
theorem E.idxStr {x y : Operand} {t : TypeId} {b : ByteArray} {k : IntKind} {q : Int} (n : Nat) (hu : ∀ w, (underlying t).run P w = .ok .string w) (hx : ev σ x = some (.string b)) (hy : ev σ y = some (.int k q)) (hb : b.size = n) (h0 : 0 ≤ q) (h1 : q < n) :
    E P B m H σ (.index t x y) ty (fun r : Int => .int .u8 r) (fun r => 0 ≤ r ∧ r ≤ 255) := ⟨byteAt b q, X.idxStr hu hx hy h0 (by omega), byteAt_bd b q⟩
theorem T.storeC {x y : Operand} {t e : TypeId} {k off sz n : Nat} {v u : Value} {xs : List Value} (hz : ∀ w, (sizeOf t).run P w = .ok 1 w)
    (hx : ev σ x = some (.pointer (some (rp v off)))) (hy : ev σ y = some u) (hH : fetch H k = some (row v e sz n xs)) (hu : u.oneCell' = true) (ho : off < xs.length) :
    OpTo P B m H σ (.store t x y) ty (fun _ m' H' => m' = m ∧ H' = upd H k (row v e sz n (xs.set off u))) :=
  .ofRun trivial (defd2 rfl hx hy) fun w hw o hop _ => by
    have hc : u.cells = #[u] := one_cells hu
    obtain ⟨w', hr, hs⟩ := store_row (P := P) (u := u) (off := off) hw hH ho hu
    exact ⟨undef, w', .inr ⟨by simp [execOp, hop, evd_eq hx, evd_eq hy, Instr.storeAt, Instr.sureAddr, storeVar, hz, hc, hr], rfl⟩, m, _, ⟨rfl, rfl⟩, hs⟩
theorem set_same {xs : List Value} {off : Nat} {v : Value} (h : xs[off]? = some v) : xs.set off v = xs := by
  apply List.ext_getElem?
  intro i
  rw [List.getElem?_set]
  split
  · rename_i hi; subst hi
    have : off < xs.length := (List.getElem?_eq_some_iff.1 h).1
    rw [if_pos this, h]
  · rfl
theorem WK.own1 {N : Nat} {K : Act → World → Prop} {k : Nat} {v : Value} {e : TypeId} {sz n : Nat} {xs : List Value} (hH : fetch H k = some (row v e sz n xs)) (kk : v.oneCell' = true → WK N B m H σ K) : WK N B m H σ K := fun Ds w hw a ha => by
  refine kk ?_ Ds w hw a ha
  have hh : (row v e sz n xs).holds w := fetch_holds hw (fetchR hH)
  rcases hh.2 with ⟨rfl, _⟩ | ⟨g, cap, cur, rfl, _⟩ <;> rfl
end
end Go.Kx
