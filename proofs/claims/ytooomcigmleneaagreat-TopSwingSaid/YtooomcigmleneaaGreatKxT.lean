import Derived.Test.YtooomcigmleneaaGreatKxS
import Derived.Lib.Overlaps
/- Kx, part T: what slices.Insert, Grow and Concat do: appends of zeros that must grow, parts of own slices, overlaps. -/
namespace Go.Kx
open Go
section
variable {P : Program} {B : Base} {m : Mem} {H : List Ent} {σ : Sig} {ty : TypeId}
theorem X.lenV {x : Operand} {t e : TypeId} {p : Option Addr} {n c : Nat} {q : Int} (hu : ∀ w, (underlying t).run P w = .ok (.slice e) w) (hx : ev σ x = some (.slice p n c)) (hq : q = n) :
    OpX P B m H σ (.call (Call.mk (.builtin .len) #[x] #[t])) ty (.int .i64 q) :=
  .ofRun trivial (defd1 (by simp [Op.operands, Call.operands]) hx) fun w _ o ho _ => by
    subst hq
    simp [execOp, ho, resolve, invoke, builtin, Builtin.len_, evd_eq hx, hu, goInt]
theorem X.ext {f : FuncId} {l : List Operand} {ts : Array TypeId} {vs : List Value} {v : Value} (hl : evs σ l = some vs) (hc : ∀ w, St B m H w → (callFunc f vs.toArray).run P w = .ok (.value v) w) :
    OpX P B m H σ (.call (Call.mk (.value (.func f)) l.toArray ts)) ty v :=
  ⟨trivial, defdc rfl hl, fun w hw o a next Q ho ht k => by
    have h1 := (evs_map hl).1
    have h2 := hc w hw
    have hr : (execOp (evd σ) o).run P w = .ok (.value v) w := by
      simp [execOp, ho, resolve, Deferred.ofValue, evd, ev, invoke]
      rw [show l.map (fun x => evd σ x) = vs from h1]
      simpa using h2
    rw [hr]; exact k w (Ext.refl w)⟩
end
section
variable {α : Type} [Flat α]
theorem rowF_of {v : Value} {e : TypeId} {n : Nat} {xs : List Value} {L : List α} (hn : n = L.length) (hx : xs = flat L) : row v e (Flat.n α) n xs = rowF v e L := by subst hn; subst hx; rfl
end
end Go.Kx
