import Derived.Test.YtednficclnjmjaaKxL
/- Kx, part M: unsigned numbers, as the library's searches use them. -/
namespace Go.Kx
section
variable {P : Program} {B : Base} {m : Mem} {H : List Ent} {σ : Sig} {ty : TypeId}
theorem X.conv {x : Operand} {s d : TypeId} {a : Int} {k k' : IntKind} (hu : ∀ w, (underlying s).run P w = .ok (.int k) w) (hv : ∀ w, (underlying d).run P w = .ok (.int k') w)
    (hx : ev σ x = some (.int k a)) (h : k'.wrap a = a) : OpX P B m H σ (.convert s d x) ty (.int k' a) :=
  .ofRun trivial (defd1 rfl hx) fun w _ o ho _ => by simp [execOp, ho, evd_eq hx, Go.convert, hu, hv, Conv.intToInt, h]
theorem wrap_u64 {a : Int} (h0 : 0 ≤ a) (h1 : a ≤ 9223372036854775807) : IntKind.u64.wrap a = a := by
  simp [IntKind.wrap, IntKind.bits, IntKind.signed]
  omega
theorem X.shr1 {x y : Operand} {t t' : TypeId} {a : Int} {k : IntKind} (hx : ev σ x = some (.int .u64 a)) (hy : ev σ y = some (.int k 1)) (_h0 : 0 ≤ a) :
    OpX P B m H σ (.binOp .shr t x y t') ty (.int .u64 (a / 2)) :=
  .ofRun trivial (defd2 rfl hx hy) fun w _ o ho _ => by
    simp [execOp, ho, evd_eq hx, evd_eq hy, eqGuard, binOp, Op.shift, IntKind.bits, Int.fdiv_eq_ediv_of_nonneg a (show (0 : Int) ≤ 2 by decide)]

/-- a call of a closure that is handed some of what is owned -/
theorem T.callcP {f : FuncId} {x : Operand} {cap : Array Value} {l : List Operand} {ts : Array TypeId} {vs : List Value} {A Hs : List Ent} {R : Mem → List Ent → Value → Prop} (hf : Enters P f)
    (hx : ev σ x = some (.func (.func f) #[] cap)) (hl : evs σ l = some vs) (hp : (Hs ++ A).Perm H)
    (hc : Mut P f (vs.toArray ++ cap) m Hs R) : OpTo P B m H σ (.call (Call.mk (.value x) l.toArray ts)) ty (fun v m' H' => m.le m' ∧ ∃ Es, R m' Es v ∧ H' = Es ++ A) :=
  ⟨trivial, defdc hx hl, fun M B w hw o a next Q ho ht kk => upon_fen M <| by
    rw [callc_run hf hx hl w o ho]
    have hw' := hw.perm hp
    refine (hc w hw'.part).mono fun e' w' hr => ?_
    obtain ⟨u, m', H', rfl, hs, hR⟩ := hr
    exact kk u m' _ w' ⟨hs.le, H', hR, rfl⟩ (hw'.handed hs)⟩
end
end Go.Kx
