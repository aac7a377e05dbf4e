import Derived.Test.YtooomcigmleneaaGreatKxB
import Derived.IntWalk
import Derived.Laws.AppendOwn
import Derived.Laws.Cells
import Derived.Laws.MakeOwn
/- Kx, part C: how data lie in memory; the operations one by one. -/
namespace Go.Kx

/-! ### data in memory -/
def Cells (m : Mem) (p : Addr) (vs : List Value) : Prop :=
  p.spot = none ∧ ∃ cs T fz, m p.block = some (.cells cs T fz) ∧ ∀ j v, vs[j]? = some v → cs[p.off + j]? = some v

class Enc (α : Type) where
  sz : Nat
  pos : 0 < sz
  rd : Mem → List Value → α → Prop
  len : ∀ {m vs x}, rd m vs x → vs.length = sz
  mono : ∀ {m m' : Mem} {vs x}, m.le m' → rd m vs x → rd m' vs x
  one : ∀ {m vs x}, rd m vs x → ∀ v ∈ vs, v.oneCell' = true

class Flat (α : Type) where
  n : Nat
  pos : 0 < n
  enc : α → List Value
  len : ∀ x, (enc x).length = n
  one : ∀ x, ∀ v ∈ enc x, v.oneCell' = true

abbrev Flat.toEnc (α : Type) [Flat α] : Enc α where
  sz := Flat.n α
  pos := Flat.pos
  rd _ vs x := vs = Flat.enc x
  len h := by rw [h]; exact Flat.len _
  mono _ h := h
  one h := by rw [h]; exact Flat.one _

instance : Flat Int := ⟨1, by decide, fun x => [.int .i64 x], fun _ => rfl, fun _ v hv => by simp at hv; subst hv; rfl⟩
instance : Flat Bool := ⟨1, by decide, fun x => [.bool x], fun _ => rfl, fun _ v hv => by simp at hv; subst hv; rfl⟩
instance : Enc Int := Flat.toEnc Int
instance : Enc Bool := Flat.toEnc Bool

def gt {α : Type} [Inhabited α] (L : List α) (k : Nat) : α := L.getD k default

theorem gt_eq {α : Type} [Inhabited α] {L : List α} {k : Nat} (h : k < L.length) : L[k]? = some (gt L k) := by
  simp [gt, List.getD, List.getElem?_eq_getElem h]

def At {α : Type} [Enc α] (m : Mem) (p : Addr) (x : α) : Prop := ∃ vs, Enc.rd m vs x ∧ Cells m p vs

def lenB : Nat := 140737488355328

inductive Sl {α : Type} [Enc α] (m : Mem) : Value → List α → Prop
  | nil : Sl m (.slice none 0 0) []
  | some (a : Addr) (L : List α) (cap : Nat) (hs : cap ≠ 0 → a.spot = none) (hc : L.length ≤ cap) (hb : L.length ≤ lenB) (hcap : cap ≤ maxLen)
      (h : ∀ i x, L[i]? = some x → At m ⟨a.block, a.off + i * Enc.sz α, none⟩ x) : Sl m (.slice (some a) L.length cap) L

theorem Cells.mono {m m' : Mem} {p : Addr} {vs : List Value} (hm : m.le m') (h : Cells m p vs) : Cells m' p vs := by
  obtain ⟨h0, cs, T, fz, h1, h2⟩ := h
  exact ⟨h0, cs, T, fz, hm _ _ h1, h2⟩
theorem At.mono {α : Type} [Enc α] {m m' : Mem} {p : Addr} {x : α} (h : At m p x) (hm : m.le m') : At m' p x := by
  obtain ⟨vs, h1, h2⟩ := h
  exact ⟨vs, Enc.mono hm h1, h2.mono hm⟩
theorem Sl.mono {α : Type} [Enc α] {m m' : Mem} {v : Value} {L : List α} (h : Sl m v L) (hm : m.le m') : Sl m' v L := by
  cases h with
  | nil => exact .nil
  | some a _ cap hs hc hb hcap h => exact .some a L cap hs hc hb hcap fun i x hx => (h i x hx).mono hm
theorem Sl.le {α : Type} [Enc α] {m : Mem} {v : Value} {L : List α} (h : Sl m v L) : (L.length : Int) ≤ 140737488355328 := by
  cases h with
  | nil => simp
  | some a _ cap hs hc hb hcap h => unfold lenB at hb; omega

theorem Sl.one {α : Type} [Enc α] {m : Mem} {v : Value} {L : List α} (h : Sl m v L) : v.oneCell' = true := by cases h <;> rfl

instance {α : Type} [Enc α] : Enc (List α) where
  sz := 1
  pos := by decide
  rd m vs L := ∃ v, vs = [v] ∧ Sl m v L
  len h := by obtain ⟨v, rfl, _⟩ := h; rfl
  mono hm h := by obtain ⟨v, hv, hs⟩ := h; exact ⟨v, hv, hs.mono hm⟩
  one h := by obtain ⟨v, rfl, hs⟩ := h; intro u hu; simp at hu; subst hu; exact hs.one

def slAddr : Value → Addr
  | .slice (some a) _ _ => a
  | _ => ⟨0, 0, none⟩

theorem Addr.add_plain {a : Addr} (h : a.spot = none) (n : Nat) : a.add n = ⟨a.block, a.off + n, none⟩ := by
  unfold Addr.add
  split
  · rename_i h0; subst h0; cases a; simp_all
  · rfl

theorem Sl.at {α : Type} [Enc α] [Inhabited α] {m : Mem} {v : Value} {L : List α} (h : Sl m v L) {k : Nat} (hk : k < L.length) :
    At m ((slAddr v).add (k * Enc.sz α)) (gt L k) := by
  cases h with
  | nil => simp at hk
  | some a _ cap hs hc hb hcap h =>
    have := h k _ (gt_eq hk)
    simp only [slAddr]
    rw [Addr.add_plain (hs (by omega))]
    exact this

theorem Cells.cell {m : Mem} {p : Addr} {vs : List Value} {w : World} (h : Cells m p vs) (hw : m.sub w) : ∀ j v, vs[j]? = some v → w.cell? (p.add j) = some v := by
  obtain ⟨h0, cs, T, fz, h1, h2⟩ := h
  intro j v hv
  rw [Addr.add_plain h0]
  unfold World.cell?
  simp only [hw _ _ h1]
  exact h2 j v hv

theorem Cells.cell0 {m : Mem} {p : Addr} {v : Value} {w : World} (h : Cells m p [v]) (hw : m.sub w) : w.cell? p = some v := by
  have := h.cell hw 0 v rfl
  simpa [Addr.add] using this

/-! ### own blocks -/
def blk (b : Nat) (T : TypeId) (cs : List Value) : Ent where
  ids := [b]
  holds w := w.heap[b]? = some (.cells cs.toArray T (0, 0))
  loc w w' h hw := by rw [h b (List.mem_singleton.2 rfl)]; exact hw
  bound w hw b' hb := by
    have : b' = b := by simpa using hb
    subst this; exact (Array.getElem?_eq_some_iff.1 hw).1

def row (v : Value) (e : TypeId) (size n : Nat) (xs : List Value) : Ent where
  ids := v.ownBlock.toList
  holds w := w.ownsRow 0 e size v n xs
  loc w w' h hw := by
    refine ⟨hw.1, ?_⟩
    rcases hw.2 with hn | ⟨g, cap, cur, rfl, hb, hgg, rest⟩
    · exact .inl hn
    · exact .inr ⟨g, cap, cur, rfl, hb, by rw [h g (by simp [Value.ownBlock])]; exact hgg, rest⟩
  bound w hw b hb := (hw.lt b (by simpa using hb)).2

def fetch : List Ent → Nat → Option Ent
  | [], _ => none
  | e :: _, 0 => some e
  | _ :: H, k + 1 => fetch H k
def upd : List Ent → Nat → Ent → List Ent
  | [], _, _ => []
  | _ :: H, 0, e => e :: H
  | x :: H, k + 1, e => x :: upd H k e
def del : List Ent → Nat → List Ent
  | [], _ => []
  | _ :: H, 0 => H
  | x :: H, k + 1 => x :: del H k

theorem fetchR {R : List Ent} : ∀ {H : List Ent} {k : Nat} {e : Ent}, fetch H k = some e → fetch (H ++ R) k = some e
  | [], _, _, h => by simp [fetch] at h
  | x :: H, 0, e, h => h
  | x :: H, k + 1, e, h => fetchR (H := H) (k := k) h
theorem delR {R : List Ent} : ∀ {H : List Ent} {k : Nat} {e : Ent}, fetch H k = some e → del (H ++ R) k = del H k ++ R
  | [], _, _, h => by simp [fetch] at h
  | x :: H, 0, e, h => rfl
  | x :: H, k + 1, e, h => by simp only [List.cons_append, del]; rw [delR (H := H) (k := k) h]
theorem fetch_split : ∀ {H : List Ent} {k : Nat} {e : Ent}, fetch H k = some e → ∃ A C, H = A ++ e :: C ∧ (∀ e', upd H k e' = A ++ e' :: C) ∧ del H k = A ++ C
  | [], _, _, h => by simp [fetch] at h
  | x :: H, 0, e, h => by simp only [fetch] at h; cases h; exact ⟨[], H, rfl, fun _ => rfl, rfl⟩
  | x :: H, k + 1, e, h => by
    obtain ⟨A, C, h1, h2, h3⟩ := fetch_split (H := H) (k := k) (e := e) h
    exact ⟨x :: A, C, by simp [h1], fun e' => by simp [upd, h2 e'], by simp [del, h3]⟩

section
variable {P : Program} {B : Base} {m : Mem} {H : List Ent} {σ : Sig} {ty : TypeId}

theorem evd_eq {x : Operand} {v : Value} (h : ev σ x = some v) : evd σ x = v := by simp [evd, h]

theorem OpX.ofRun {op : Op} {V : Value} (hs : notSel op) (hd : Kx.defd σ op)
    (hr : ∀ w, St B m H w → ∀ o : Oper, o.op = op → o.type = ty → (execOp (evd σ) o).run P w = .ok (.value V) w) : OpX P B m H σ op ty V :=
  ⟨hs, hd, fun w hw o a next Q ho ht k => by rw [hr w hw o ho ht]; exact k w (Ext.refl w)⟩

theorem defd1 {op : Op} {x : Operand} {v : Value} (ho : op.operands = #[x]) (h : ev σ x = some v) : defd σ op := by
  intro y hy; rw [ho] at hy; simp at hy; subst hy; exact ⟨v, h⟩
theorem defd2 {op : Op} {x y : Operand} {v u : Value} (ho : op.operands = #[x, y]) (h : ev σ x = some v) (h' : ev σ y = some u) : defd σ op := by
  intro z hz; rw [ho] at hz; simp at hz; rcases hz with rfl | rfl; exact ⟨v, h⟩; exact ⟨u, h'⟩
theorem defd3 {op : Op} {x y z : Operand} {v u t : Value} (ho : op.operands = #[x, y, z]) (h : ev σ x = some v) (h' : ev σ y = some u) (h'' : ev σ z = some t) : defd σ op := by
  intro q hq; rw [ho] at hq; simp at hq; rcases hq with rfl | rfl | rfl; exact ⟨v, h⟩; exact ⟨u, h'⟩; exact ⟨t, h''⟩

theorem X.move {x : Operand} {v : Value} (h : ev σ x = some v) : OpX P B m H σ (.move x) ty v :=
  .ofRun trivial (defd1 rfl h) fun w _ o ho _ => by simp only [execOp, ho, evd_eq h]; rfl
theorem X.assign {x : Operand} {v : Value} (h : ev σ x = some v) : OpX P B m H σ (.assign x) ty v :=
  .ofRun trivial (defd1 rfl h) fun w _ o ho _ => by simp only [execOp, ho, evd_eq h]; rfl
theorem X.pickT {c a b : Operand} {v u : Value} (hc : ev σ c = some (.bool true)) (ha : ev σ a = some v) (hb : ev σ b = some u) : OpX P B m H σ (.pick c a b) ty v :=
  .ofRun trivial (defd3 rfl hc ha hb) fun w _ o ho _ => by simp only [execOp, ho, evd_eq hc, evd_eq ha]; rfl
theorem X.pickF {c a b : Operand} {v u : Value} (hc : ev σ c = some (.bool false)) (ha : ev σ a = some u) (hb : ev σ b = some v) : OpX P B m H σ (.pick c a b) ty v :=
  .ofRun trivial (defd3 rfl hc ha hb) fun w _ o ho _ => by simp only [execOp, ho, evd_eq hc, evd_eq hb]; rfl

theorem wrap_in {a : Int} (h1 : -9223372036854775808 ≤ a) (h2 : a ≤ 9223372036854775807) : IntKind.i64.wrap a = a := IntWalk.i64_in a (by omega)

theorem X.add {x y : Operand} {t t' : TypeId} {a b : Int} (hx : ev σ x = some (.int .i64 a)) (hy : ev σ y = some (.int .i64 b))
    (h1 : -9223372036854775808 ≤ a + b) (h2 : a + b ≤ 9223372036854775807) : OpX P B m H σ (.binOp .add t x y t') ty (.int .i64 (a + b)) :=
  .ofRun trivial (defd2 rfl hx hy) fun w _ o ho _ => by simp [execOp, ho, evd_eq hx, evd_eq hy, eqGuard, binOp, Op.intArith, wrap_in h1 h2]
theorem X.sub {x y : Operand} {t t' : TypeId} {a b : Int} (hx : ev σ x = some (.int .i64 a)) (hy : ev σ y = some (.int .i64 b))
    (h1 : -9223372036854775808 ≤ a - b) (h2 : a - b ≤ 9223372036854775807) : OpX P B m H σ (.binOp .sub t x y t') ty (.int .i64 (a - b)) :=
  .ofRun trivial (defd2 rfl hx hy) fun w _ o ho _ => by simp [execOp, ho, evd_eq hx, evd_eq hy, eqGuard, binOp, Op.intArith, wrap_in h1 h2]
theorem X.mul {x y : Operand} {t t' : TypeId} {a b : Int} (hx : ev σ x = some (.int .i64 a)) (hy : ev σ y = some (.int .i64 b))
    (h1 : -9223372036854775808 ≤ a * b) (h2 : a * b ≤ 9223372036854775807) : OpX P B m H σ (.binOp .mul t x y t') ty (.int .i64 (a * b)) :=
  .ofRun trivial (defd2 rfl hx hy) fun w _ o ho _ => by simp [execOp, ho, evd_eq hx, evd_eq hy, eqGuard, binOp, Op.intArith, wrap_in h1 h2]
theorem X.quo {x y : Operand} {t t' : TypeId} {a b : Int} (hx : ev σ x = some (.int .i64 a)) (hy : ev σ y = some (.int .i64 b))
    (h0 : 0 ≤ a) (hb : 0 < b) (h2 : a ≤ 9223372036854775807) : OpX P B m H σ (.binOp .quo t x y t') ty (.int .i64 (a / b)) :=
  .ofRun trivial (defd2 rfl hx hy) fun w _ o ho _ => by
    have hb0 : b ≠ 0 := by omega
    have h3 : 0 ≤ a / b := Int.ediv_nonneg h0 (by omega)
    have h4 : a / b ≤ a := Int.ediv_le_self _ h0
    simp [execOp, ho, evd_eq hx, evd_eq hy, eqGuard, binOp, Op.intDiv, hb0, Int.tdiv_eq_ediv_of_nonneg h0, wrap_in (show -9223372036854775808 ≤ a / b by omega) (show a / b ≤ 9223372036854775807 by omega)]
theorem X.quoT {x y : Operand} {t t' : TypeId} {a b : Int} (hx : ev σ x = some (.int .i64 a)) (hy : ev σ y = some (.int .i64 b))
    (hb : b ≠ 0) (h1 : -9223372036854775808 ≤ a.tdiv b) (h2 : a.tdiv b ≤ 9223372036854775807) : OpX P B m H σ (.binOp .quo t x y t') ty (.int .i64 (a.tdiv b)) :=
  .ofRun trivial (defd2 rfl hx hy) fun w _ o ho _ => by
    simp [execOp, ho, evd_eq hx, evd_eq hy, eqGuard, binOp, Op.intDiv, hb, wrap_in h1 h2]
theorem X.rem {x y : Operand} {t t' : TypeId} {a b : Int} (hx : ev σ x = some (.int .i64 a)) (hy : ev σ y = some (.int .i64 b))
    (h0 : 0 ≤ a) (hb : b ≠ 0) : OpX P B m H σ (.binOp .rem t x y t') ty (.int .i64 (a % b)) :=
  .ofRun trivial (defd2 rfl hx hy) fun w _ o ho _ => by
    simp [execOp, ho, evd_eq hx, evd_eq hy, eqGuard, binOp, Op.intDiv, hb, Int.tmod_eq_emod_of_nonneg h0]
theorem X.neg {x : Operand} {t : TypeId} {a : Int} (hx : ev σ x = some (.int .i64 a)) (h1 : -9223372036854775808 ≤ 0 - a) (h2 : 0 - a ≤ 9223372036854775807) :
    OpX P B m H σ (.unOp .neg t x) ty (.int .i64 (-a)) :=
  .ofRun trivial (defd1 rfl hx) fun w _ o ho _ => by
    have := wrap_in h1 h2
    simp [execOp, ho, evd_eq hx, Op.unary, Op.intArith] at this ⊢
    exact this

theorem X.lss {x y : Operand} {t t' : TypeId} {k : IntKind} {a b : Int} (hx : ev σ x = some (.int k a)) (hy : ev σ y = some (.int k b)) :
    OpX P B m H σ (.binOp .lss t x y t') ty (.bool (decide (a < b))) :=
  .ofRun trivial (defd2 rfl hx hy) fun w _ o ho _ => by simp [execOp, ho, evd_eq hx, evd_eq hy, eqGuard, binOp, Op.intCmp]
theorem X.leq {x y : Operand} {t t' : TypeId} {k : IntKind} {a b : Int} (hx : ev σ x = some (.int k a)) (hy : ev σ y = some (.int k b)) :
    OpX P B m H σ (.binOp .leq t x y t') ty (.bool (decide (a ≤ b))) :=
  .ofRun trivial (defd2 rfl hx hy) fun w _ o ho _ => by simp [execOp, ho, evd_eq hx, evd_eq hy, eqGuard, binOp, Op.intCmp]
theorem X.gtr {x y : Operand} {t t' : TypeId} {k : IntKind} {a b : Int} (hx : ev σ x = some (.int k a)) (hy : ev σ y = some (.int k b)) :
    OpX P B m H σ (.binOp .gtr t x y t') ty (.bool (decide (b < a))) :=
  .ofRun trivial (defd2 rfl hx hy) fun w _ o ho _ => by simp [execOp, ho, evd_eq hx, evd_eq hy, eqGuard, binOp, Op.intCmp]
theorem X.geq {x y : Operand} {t t' : TypeId} {k : IntKind} {a b : Int} (hx : ev σ x = some (.int k a)) (hy : ev σ y = some (.int k b)) :
    OpX P B m H σ (.binOp .geq t x y t') ty (.bool (decide (b ≤ a))) :=
  .ofRun trivial (defd2 rfl hx hy) fun w _ o ho _ => by simp [execOp, ho, evd_eq hx, evd_eq hy, eqGuard, binOp, Op.intCmp]
theorem X.eql {x y : Operand} {t t' : TypeId} {k : IntKind} {a b : Int} (hx : ev σ x = some (.int k a)) (hy : ev σ y = some (.int k b)) :
    OpX P B m H σ (.binOp .eql t x y t') ty (.bool (decide (a = b))) :=
  .ofRun trivial (defd2 rfl hx hy) fun w _ o ho _ => by
    simp [execOp, ho, evd_eq hx, evd_eq hy, eqGuard, binOp, Op.intCmp]
    rfl
theorem X.neq {x y : Operand} {t t' : TypeId} {k : IntKind} {a b : Int} (hx : ev σ x = some (.int k a)) (hy : ev σ y = some (.int k b)) :
    OpX P B m H σ (.binOp .neq t x y t') ty (.bool (decide (¬ a = b))) :=
  .ofRun trivial (defd2 rfl hx hy) fun w _ o ho _ => by
    simp [execOp, ho, evd_eq hx, evd_eq hy, eqGuard, binOp, Op.intCmp, bne]
    rfl
theorem X.notp {x : Operand} {t : TypeId} {p : Prop} [Decidable p] (hx : ev σ x = some (.bool (decide p))) : OpX P B m H σ (.unOp .not t x) ty (.bool (decide (¬ p))) :=
  .ofRun trivial (defd1 rfl hx) fun w _ o ho _ => by simp [execOp, ho, evd_eq hx, Op.unary]
theorem X.not {x : Operand} {t : TypeId} {b : Bool} (hx : ev σ x = some (.bool b)) : OpX P B m H σ (.unOp .not t x) ty (.bool (!b)) :=
  .ofRun trivial (defd1 rfl hx) fun w _ o ho _ => by simp [execOp, ho, evd_eq hx, Op.unary]
theorem X.extract {x : Operand} {i : Nat} {vs : Array Value} {v : Value} (hx : ev σ x = some (.tuple vs)) (hi : vs[i]? = some v) : OpX P B m H σ (.extract x i) ty v :=
  .ofRun trivial (defd1 rfl hx) fun w _ o ho _ => by simp [execOp, ho, evd_eq hx, Instr.extract, hi]
theorem X.nilCheck {x : Operand} {p : Addr} (hx : ev σ x = some (.pointer (some p))) : OpX P B m H σ (.nilCheck x) ty (.pointer (some p)) :=
  .ofRun trivial (defd1 rfl hx) fun w _ o ho _ => by simp [execOp, ho, evd_eq hx]
theorem X.convert {x : Operand} {s d : TypeId} {a : Int} {k : IntKind} (hu : ∀ w, (underlying s).run P w = .ok (.int k) w) (hv : ∀ w, (underlying d).run P w = .ok (.int .i64) w)
    (hx : ev σ x = some (.int k a)) (h1 : -9223372036854775808 ≤ a) (h2 : a ≤ 9223372036854775807) : OpX P B m H σ (.convert s d x) ty (.int .i64 a) :=
  .ofRun trivial (defd1 rfl hx) fun w _ o ho _ => by simp [execOp, ho, evd_eq hx, Go.convert, hu, hv, Conv.intToInt, wrap_in h1 h2]
theorem X.makeFunc {f : FuncId} {cap : List Operand} {vs : List Value} (hd : ∀ x ∈ cap, ∃ v, ev σ x = some v) (hc : cap.map (evd σ) = vs) :
    OpX P B m H σ (.makeFunc (.func f) #[] cap.toArray) ty (.func (.func f) #[] vs.toArray) :=
  .ofRun trivial (by intro x hx; simp [Op.operands] at hx; exact hd x hx) fun w _ o ho _ => by simp [execOp, ho, Instr.makeFunc, hc]

/-! fields, elements, loads -/
theorem X.field {x : Operand} {s : TypeId} {i n : Nat} {fs : Array Field} {f : Field} {p : Addr} (hu : ∀ w, (underlying s).run P w = .ok (.struct fs) w) (hf : fs[i]? = some f)
    (hs : ∀ w, (sizeOf f.type).run P w = .ok (n + 1) w) (hx : ev σ x = some (.pointer (some p))) : OpX P B m H σ (.fieldAddr s x i) ty (.pointer (some (p.add f.offset))) :=
  .ofRun trivial (defd1 rfl hx) fun w _ o ho _ => by simp [execOp, ho, evd_eq hx, Instr.fieldAt, hu, hf, Instr.sureAddr, fieldPlace, hs]

def E (P : Program) (B : Base) (m : Mem) (H : List Ent) (σ : Sig) (op : Op) (ty : TypeId) {α : Type} (V : α → Value) (F : α → Prop) : Prop := ∃ x, OpX P B m H σ op ty (V x) ∧ F x

theorem E.idx {α : Type} [Enc α] [Inhabited α] {x y : Operand} {t e : TypeId} {v : Value} {L : List α} {n : Int} (hu : ∀ w, (underlying t).run P w = .ok (.slice e) w)
    (hz : ∀ w, (sizeOf e).run P w = .ok (Enc.sz α) w) (hx : ev σ x = some v) (hy : ev σ y = some (.int .i64 n)) (hs : Sl m v L) (h0 : 0 ≤ n) (h1 : n < L.length) :
    E P B m H σ (.indexAddr t x y) ty (fun p => .pointer (some p)) (fun p => At m p (gt L n.toNat)) :=
  ⟨(slAddr v).add (n.toNat * Enc.sz α), .ofRun trivial (defd2 rfl hx hy) fun w _ o ho _ => by
    cases hs with
    | nil => simp at h1; omega
    | some a _ cap hs hc hb hcap h => simp [execOp, ho, evd_eq hx, evd_eq hy, Instr.indexAt, asIntOf, hu, hz, h0, h1, slAddr], hs.at (by omega)⟩

theorem E.idxN {α : Type} [Enc α] [Inhabited α] {x y : Operand} {t e : TypeId} {v : Value} {L : List α} (n : Nat) (hu : ∀ w, (underlying t).run P w = .ok (.slice e) w)
    (hz : ∀ w, (sizeOf e).run P w = .ok (Enc.sz α) w) (hx : ev σ x = some v) (hy : ev σ y = some (.int .i64 (n : Int))) (hs : Sl m v L) (h1 : (n : Int) < L.length) :
    E P B m H σ (.indexAddr t x y) ty (fun p => .pointer (some p)) (fun p => At m p (gt L n)) :=
  E.idx hu hz hx hy hs (by omega) h1

theorem E.idxE {α : Type} [Enc α] [Inhabited α] {x y : Operand} {t e : TypeId} {v : Value} {L : List α} {i : Int} (n : Nat) (hu : ∀ w, (underlying t).run P w = .ok (.slice e) w)
    (hz : ∀ w, (sizeOf e).run P w = .ok (Enc.sz α) w) (hx : ev σ x = some v) (hy : ev σ y = some (.int .i64 i)) (hs : Sl m v L) (hn : i = (n : Int)) (h1 : i < L.length) :
    E P B m H σ (.indexAddr t x y) ty (fun p => .pointer (some p)) (fun p => At m p (gt L n)) := by
  subst hn; exact E.idxN n hu hz hx hy hs h1

theorem X.loadInt {x : Operand} {t : TypeId} {p : Addr} {n : Int} (ha : ∀ w, (isAgg t).run P w = .ok false w) (hx : ev σ x = some (.pointer (some p))) (hp : At m p n) :
    OpX P B m H σ (.load t x) ty (.int .i64 n) :=
  .ofRun trivial (defd1 rfl hx) fun w hw o ho _ => by
    obtain ⟨vs, h1, h2⟩ := hp
    have h1' : vs = [.int .i64 n] := h1
    subst h1'
    simp [execOp, ho, evd_eq hx, Instr.loadAt, Instr.sureAddr, loadVar, ha, h2.cell0 hw.sub]
theorem E.loadSl {α : Type} [Enc α] {x : Operand} {t : TypeId} {p : Addr} {L : List α} (ha : ∀ w, (isAgg t).run P w = .ok false w) (hx : ev σ x = some (.pointer (some p))) (hp : At m p L) :
    E P B m H σ (.load t x) ty (fun v => v) (fun v => Sl m v L) := by
  obtain ⟨vs, ⟨v, hv, hs⟩, h2⟩ := hp
  subst hv
  exact ⟨v, .ofRun trivial (defd1 rfl hx) fun w hw o ho _ => by
    simp [execOp, ho, evd_eq hx, Instr.loadAt, Instr.sureAddr, loadVar, ha, h2.cell0 hw.sub], hs⟩
theorem E.loadAgg {α : Type} [Enc α] {x : Operand} {t : TypeId} {p : Addr} {a : α} (ha : ∀ w, (isAgg t).run P w = .ok true w) (hz : ∀ w, (sizeOf t).run P w = .ok (Enc.sz α) w)
    (hx : ev σ x = some (.pointer (some p))) (hp : At m p a) :
    E P B m H σ (.load t x) ty (fun vs : List Value => .agg vs.toArray) (fun vs => Enc.rd m vs a) := by
  obtain ⟨vs, h1, h2⟩ := hp
  exact ⟨vs, .ofRun trivial (defd1 rfl hx) fun w hw o ho _ => by
    have hl := run_loadCells_list (P := P) w p vs (h2.cell hw.sub)
    rw [Enc.len h1] at hl
    simp [execOp, ho, evd_eq hx, Instr.loadAt, Instr.sureAddr, loadVar, ha, hz, hl], h1⟩

theorem blk_cell {w : World} (hw : St B m H w) {k b : Nat} {T : TypeId} {cs : List Value} (hH : fetch H k = some (blk b T cs)) (off : Nat) : w.cell? ⟨b, off, none⟩ = cs[off]? := by
  obtain ⟨A, C, h1, _, _⟩ := fetch_split hH
  have : (blk b T cs).holds w := hw.own _ (by rw [h1]; simp)
  simp only [blk] at this
  simp [World.cell?, this]

theorem X.loadB {x : Operand} {t : TypeId} {k b off : Nat} {T : TypeId} {cs : List Value} {v : Value} (ha : ∀ w, (isAgg t).run P w = .ok false w)
    (hx : ev σ x = some (.pointer (some ⟨b, off, none⟩))) (hH : fetch H k = some (blk b T cs)) (hc : cs[off]? = some v) : OpX P B m H σ (.load t x) ty v :=
  .ofRun trivial (defd1 rfl hx) fun w hw o ho _ => by
    simp [execOp, ho, evd_eq hx, Instr.loadAt, Instr.sureAddr, loadVar, ha, blk_cell hw hH off, hc]
theorem X.loadBA {x : Operand} {t : TypeId} {k b n : Nat} {T : TypeId} {cs : List Value} (ha : ∀ w, (isAgg t).run P w = .ok true w)
    (hz : ∀ w, (sizeOf t).run P w = .ok n w) (hx : ev σ x = some (.pointer (some ⟨b, 0, none⟩))) (hH : fetch H k = some (blk b T cs)) (hn : cs.length = n) : OpX P B m H σ (.load t x) ty (.agg cs.toArray) :=
  .ofRun trivial (defd1 rfl hx) fun w hw o ho _ => by
    subst hn
    have hl := run_loadCells_list (P := P) w ⟨b, 0, none⟩ cs (fun j v hj => by
      rw [Addr.add_plain rfl, blk_cell hw hH]; simpa using hj)
    simp [execOp, ho, evd_eq hx, Instr.loadAt, Instr.sureAddr, loadVar, ha, hz, hl]

end
end Go.Kx
