import Derived.Test.YtooomcigmleneaaGreatKxY
/- Kx, part Z: bits of unsigned numbers. -/
namespace Go.Kx
open Go
def u64P (a : Int) : Prop := 0 ≤ a ∧ a ≤ 18446744073709551615
theorem wrap_bd (z : Int) : u64P (IntKind.u64.wrap z) := by
  simp only [u64P, IntKind.wrap, IntKind.bits, IntKind.signed]
  simp
  omega
section
variable {P : Program} {B : Base} {m : Mem} {H : List Ent} {σ : Sig} {ty : TypeId}
theorem E.shlU {x y : Operand} {t t' : TypeId} {a s : Int} {k : IntKind} (hx : ev σ x = some (.int .u64 a)) (hy : ev σ y = some (.int k s)) (hs : 0 ≤ s) :
    E P B m H σ (.binOp .shl t x y t') ty (fun r : Int => .int .u64 r) u64P :=
  ⟨IntKind.u64.wrap (a * 2 ^ (min s.toNat 64)), .ofRun trivial (defd2 rfl hx hy) fun w _ o ho _ => by
    have : ¬ s < 0 := by omega
    simp [execOp, ho, evd_eq hx, evd_eq hy, eqGuard, binOp, Op.shift, IntKind.bits, this], wrap_bd _⟩
theorem E.shrU {x y : Operand} {t t' : TypeId} {a s : Int} {k : IntKind} (hx : ev σ x = some (.int .u64 a)) (hy : ev σ y = some (.int k s)) (hs : 0 ≤ s) (ha : u64P a) :
    E P B m H σ (.binOp .shr t x y t') ty (fun r : Int => .int .u64 r) (fun r => u64P r ∧ r ≤ a) :=
  ⟨a.fdiv (2 ^ (min s.toNat 64)), .ofRun trivial (defd2 rfl hx hy) fun w _ o ho _ => by
    have : ¬ s < 0 := by omega
    simp [execOp, ho, evd_eq hx, evd_eq hy, eqGuard, binOp, Op.shift, IntKind.bits, this], by
    have hp : (0 : Int) < 2 ^ (min s.toNat 64) := Int.pow_pos (by decide)
    rw [Int.fdiv_eq_ediv_of_nonneg a (by omega)]
    have h1 := Int.ediv_nonneg ha.1 (show (0 : Int) ≤ 2 ^ (min s.toNat 64) by omega)
    have h2 := Int.ediv_le_self (2 ^ (min s.toNat 64)) ha.1
    have := ha.2
    exact ⟨⟨h1, by omega⟩, h2⟩⟩
theorem E.xorU {x y : Operand} {t t' : TypeId} {a b : Int} (hx : ev σ x = some (.int .u64 a)) (hy : ev σ y = some (.int .u64 b)) :
    E P B m H σ (.binOp .xor t x y t') ty (fun r : Int => .int .u64 r) u64P :=
  ⟨IntKind.u64.wrap (BitVec.ofInt 64 a ^^^ BitVec.ofInt 64 b).toNat, .ofRun trivial (defd2 rfl hx hy) fun w _ o ho _ => by
    simp [execOp, ho, evd_eq hx, evd_eq hy, eqGuard, binOp, Op.intBits, IntKind.bits]
    have e : (BitVec.ofInt 64 a ^^^ BitVec.ofInt 64 b).toNat = (a % 18446744073709551616).toNat ^^^ (b % 18446744073709551616).toNat := by
      rw [BitVec.toNat_xor, BitVec.toNat_ofInt, BitVec.toNat_ofInt]; rfl
    exact congrArg (fun n : Nat => IntKind.u64.wrap (n : Int)) e, wrap_bd _⟩
theorem E.andU {x y : Operand} {t t' : TypeId} {a b : Int} (hx : ev σ x = some (.int .u64 a)) (hy : ev σ y = some (.int .u64 b)) (hb : u64P b) :
    E P B m H σ (.binOp .and t x y t') ty (fun r : Int => .int .u64 r) (fun r => 0 ≤ r ∧ r ≤ b) :=
  ⟨IntKind.u64.wrap (BitVec.ofInt 64 a &&& BitVec.ofInt 64 b).toNat, .ofRun trivial (defd2 rfl hx hy) fun w _ o ho _ => by
    simp [execOp, ho, evd_eq hx, evd_eq hy, eqGuard, binOp, Op.intBits, IntKind.bits]
    have e : (BitVec.ofInt 64 a &&& BitVec.ofInt 64 b).toNat = (a % 18446744073709551616).toNat &&& (b % 18446744073709551616).toNat := by
      rw [BitVec.toNat_and, BitVec.toNat_ofInt, BitVec.toNat_ofInt]; rfl
    exact congrArg (fun n : Nat => IntKind.u64.wrap (n : Int)) e, by
    have hn : (BitVec.ofInt 64 a &&& BitVec.ofInt 64 b).toNat ≤ b.toNat := by
      rw [BitVec.toNat_and]
      refine Nat.le_trans Nat.and_le_right ?_
      rw [BitVec.toNat_ofInt]
      have h1 := hb.1
      have h2 := hb.2
      have : b % 18446744073709551616 = b := Int.emod_eq_of_lt h1 (by omega)
      show (b % 18446744073709551616).toNat ≤ b.toNat
      rw [this]; exact Nat.le_refl _
    have h1 := hb.1
    have h2 := hb.2
    have hw : ∀ n : Nat, n ≤ b.toNat → IntKind.u64.wrap (n : Int) = n := fun n h => by
      simp only [IntKind.wrap, IntKind.bits, IntKind.signed]
      simp
      omega
    rw [hw _ hn]
    omega⟩
theorem X.shrC {x y : Operand} {t t' : TypeId} {a s : Int} {k : IntKind} (c : Int) (hx : ev σ x = some (.int .u64 a)) (hy : ev σ y = some (.int k s)) (hs : 0 ≤ s) (hc : (2 : Int) ^ (min s.toNat 64) = c) :
    OpX P B m H σ (.binOp .shr t x y t') ty (.int .u64 (a / c)) :=
  .ofRun trivial (defd2 rfl hx hy) fun w _ o ho _ => by
    have h1 : ¬ s < 0 := by omega
    have hp : (0 : Int) < 2 ^ (min s.toNat 64) := Int.pow_pos (by decide)
    have hd : a.fdiv (2 ^ (min s.toNat 64)) = a / c := by rw [Int.fdiv_eq_ediv_of_nonneg a (by omega), hc]
    simp [execOp, ho, evd_eq hx, evd_eq hy, eqGuard, binOp, Op.shift, IntKind.bits, h1, hd]
theorem E.idxStrQ {x y : Operand} {t : TypeId} {b : ByteArray} {k : IntKind} {q : Int} (n : Nat) (f : Nat → Nat → Bool) (hu : ∀ w, (underlying t).run P w = .ok .string w) (hx : ev σ x = some (.string b)) (hy : ev σ y = some (.int k q)) (hb : b.size = n) (hall : (List.range n).all (fun i => f i ((b[i]?).getD 0).toNat) = true) (h0 : 0 ≤ q) (h1 : q < n) :
    E P B m H σ (.index t x y) ty (fun r : Nat => .int .u8 r) (fun r => f q.toNat r = true ∧ r ≤ 255) :=
  ⟨((b[q.toNat]?).getD 0).toNat, X.idxStr hu hx hy h0 (by omega), List.all_eq_true.1 hall _ (List.mem_range.2 (by omega)), by have := ((b[q.toNat]?).getD 0).toNat_lt; omega⟩
theorem X.shlPow {x y : Operand} {t t' : TypeId} {r : Nat} {k : IntKind} (hx : ev σ x = some (.int .u64 1)) (hy : ev σ y = some (.int k r)) (hr : r ≤ 62) :
    OpX P B m H σ (.binOp .shl t x y t') ty (.int .u64 ((2 : Int) ^ r)) :=
  .ofRun trivial (defd2 rfl hx hy) fun w _ o ho _ => by
    have h1 : ¬ (r : Int) < 0 := by omega
    have h2 : min r 64 = r := by omega
    have h3 : (2 : Int) ^ r ≤ 2 ^ 62 := by
      have := Nat.pow_le_pow_right (show 0 < 2 by decide) hr
      exact_mod_cast this
    have h4 : (0 : Int) < 2 ^ r := Int.pow_pos (by decide)
    have h5 : IntKind.u64.wrap ((2 : Int) ^ r) = 2 ^ r := wrap_u64 (by omega) (by omega)
    simp [execOp, ho, evd_eq hx, evd_eq hy, eqGuard, binOp, Op.shift, IntKind.bits, h2, h5]
    intro h; exact absurd h h1
theorem X.subU {x y : Operand} {t t' : TypeId} {a b : Int} (hx : ev σ x = some (.int .u64 a)) (hy : ev σ y = some (.int .u64 b)) (h0 : 0 ≤ a - b) (h1 : a - b ≤ 9223372036854775807) :
    OpX P B m H σ (.binOp .sub t x y t') ty (.int .u64 (a - b)) :=
  .ofRun trivial (defd2 rfl hx hy) fun w _ o ho _ => by simp [execOp, ho, evd_eq hx, evd_eq hy, eqGuard, binOp, Op.intArith, wrap_u64 h0 h1]
end
end Go.Kx
