import Derived.Test.YtooomcigmleneaaGreatKxM
import Derived.ProofKit
import Derived.ChangeArms
import Derived.ChangeOld
import Derived.Carry
import Derived.SizedLaws
import Derived.OpenShut
/- Kx, part N: from the reading of arguments to memory for reading. -/
namespace Go.Kx
class Rng (α : Type) where
  ok : α → Prop
instance : Rng Int := ⟨fun n => -9223372036854775808 ≤ n ∧ n ≤ 9223372036854775807⟩
instance : Rng Bool := ⟨fun _ => True⟩
instance {α : Type} [Rng α] : Rng (List α) := ⟨fun L => ∀ x ∈ L, Rng.ok x⟩

def Br (P : Program) (t : TypeId) (α : Type) [Enc α] [Rng α] : Prop :=
  P.cellsOf t = Enc.sz α ∧ ∀ {H : Type} (enc : TypeId × Value → H) (W : World) (fuel : Nat) (cs : List Value) (d : DataW H) (ps : List MemPlace),
    DataW.trod enc P W 0 (fun _ => true) true fuel t cs = some (d, ps) → (∀ n ∈ d.weights P t, n ≤ reachBytes) → ∃ a : α, Enc.rd (Mem.all W) cs a ∧ Rng.ok a

theorem Br.int {P : Program} {t : TypeId} (hu : P.underlying t = some (.int .i64)) (hc : P.cellsOf t = 1) : Br P t Int := by
  refine ⟨hc, fun enc W fuel cs d ps h _ => ?_⟩
  obtain ⟨n, rfl, _, hw⟩ := DataW.trod_int hu h
  exact ⟨n, rfl, bounds_i64 hw⟩
theorem Br.bool {P : Program} {t : TypeId} (hu : P.underlying t = some .bool) (hc : P.cellsOf t = 1) : Br P t Bool := by
  refine ⟨hc, fun enc W fuel cs d ps h _ => ?_⟩
  obtain ⟨b, rfl, _⟩ := DataW.trod_bool hu h
  exact ⟨b, rfl, trivial⟩

theorem list_of {α : Type} {p : Nat → α → Prop} : ∀ (n : Nat), (∀ i, i < n → ∃ x, p i x) → ∃ L : List α, L.length = n ∧ ∀ i x, L[i]? = some x → p i x
  | 0, _ => ⟨[], rfl, fun i x h => by simp at h⟩
  | n + 1, h => by
    obtain ⟨L, hl, hL⟩ := list_of n (fun i hi => h i (by omega))
    obtain ⟨y, hy⟩ := h n (by omega)
    refine ⟨L ++ [y], by simp [hl], fun i x hx => ?_⟩
    rw [List.getElem?_append] at hx
    split at hx
    · exact hL i x hx
    · rename_i hi
      have h0 : i - L.length = 0 := by
        rcases Nat.eq_zero_or_pos (i - L.length) with h0 | h0
        · exact h0
        · rw [List.getElem?_eq_none (by simp; omega)] at hx; cases hx
      rw [h0] at hx
      simp at hx
      subst hx
      have : i = n := by omega
      subst this; exact hy

theorem weightsAll_mem {H : Type} {P : Program} {e : TypeId} {d : DataW H} : ∀ {ds : List (DataW H)}, d ∈ ds → ∀ n ∈ d.weights P e, n ∈ DataW.weightsAll P e ds
  | [], h, _, _ => by cases h
  | x :: ds, h, n, hn => by
    rw [DataW.weightsAll, List.mem_append]
    cases h with
    | head => exact .inl hn
    | tail _ h => exact .inr (weightsAll_mem h n hn)

theorem cells_of_cells? {W : World} {a : Addr} {n : Nat} {cs : List Value} (h : W.cells? 0 a n = some cs) (hs : a.spot = none) (hn : 0 < n) : Cells (Mem.all W) a cs := by
  obtain ⟨_, hl, hc⟩ := World.cells?_some h
  have h0 := hc 0 hn
  have hlt : 0 < cs.length := by omega
  rw [List.getElem?_eq_getElem hlt] at h0
  rw [Addr.add_plain hs] at h0
  unfold World.cell? at h0
  cases hb : W.heap[a.block]? with
  | none => simp [hb] at h0
  | some o =>
    cases o with
    | cells c T fz =>
      refine ⟨hs, c, T, fz, hb, fun j v hj => ?_⟩
      have hjl : j < n := by rw [← hl]; exact (List.getElem?_eq_some_iff.1 hj).1
      have h1 := hc j hjl
      rw [hj, Addr.add_plain hs] at h1
      unfold World.cell? at h1
      simpa [hb] using h1
    | _ => simp [hb] at h0

theorem Br.slice {P : Program} {t e : TypeId} {α : Type} [Enc α] [Rng α] (hu : P.underlying t = some (.slice e)) (hc : P.cellsOf t = 1) (hb : 0 < P.bytesOf e) (he : Br P e α) : Br P t (List α) := by
  refine ⟨hc, fun {H} enc W fuel cs d ps h hw => ?_⟩
  rcases DataW.trod_slice hu h with ⟨rfl, hx⟩ | ⟨a, len, cap, elems, rest, n, _, rfl, hx, _, hl, hm, hlen, hel, hsp, _⟩
  · exact ⟨[], ⟨_, rfl, .nil⟩, fun x hx => by cases hx⟩
  · obtain ⟨hrl, hre⟩ := hsp rfl
    simp only [Prod.mk.injEq] at hx
    obtain ⟨hd, _⟩ := hx
    subst hd
    have hpos := Enc.pos (α := α)
    have hspot : ∀ i, (W.cells? 0 (a.add (i * P.cellsOf e)) (P.cellsOf e)).isSome = true → a.spot = none ∨ i ≠ 0 := fun i hi => by
      by_cases e0 : i = 0
      · subst e0
        obtain ⟨cs', hcs⟩ := Option.isSome_iff_exists.1 hi
        obtain ⟨_, hl', hc'⟩ := World.cells?_some hcs
        have h0 := hc' 0 (by rw [he.1]; exact hpos)
        rw [List.getElem?_eq_getElem (by rw [hl', he.1]; exact hpos)] at h0
        have := World.cell?_spot h0
        simp only [Nat.zero_mul, Addr.add, if_true] at this
        exact .inl this
      · exact .inr e0
    have hs : cap ≠ 0 → a.spot = none := fun h0 => by
      have : (W.cells? 0 (a.add (0 * P.cellsOf e)) (P.cellsOf e)).isSome = true := by
        by_cases hl0 : 0 < len
        · have h1 := hel 0 hl0
          rw [List.getElem?_eq_getElem (by omega)] at h1
          cases hq : W.cells? 0 (a.add (0 * P.cellsOf e)) (P.cellsOf e) with
          | none => rw [hq] at h1; cases h1
          | some _ => rfl
        · have h1 := hre 0 (by omega)
          rw [List.getElem?_eq_getElem (by omega), show len + 0 = 0 by omega] at h1
          cases hq : W.cells? 0 (a.add (0 * P.cellsOf e)) (P.cellsOf e) with
          | none => rw [hq] at h1; cases h1
          | some _ => rfl
      rcases hspot 0 this with h1 | h1
      · exact h1
      · exact absurd rfl h1
    have hwl : (elems.length + rest.length) * P.bytesOf e ≤ reachBytes := hw _ (by simp [DataW.weights, hu])
    have hcap : elems.length + rest.length = cap := by omega
    have hcb : cap ≤ lenB := by
      have h1 : cap * 1 ≤ cap * P.bytesOf e := Nat.mul_le_mul_left _ hb
      rw [hcap] at hwl
      have := reachBytes_lt
      unfold lenB; omega
    obtain ⟨L, hL, hLp⟩ := list_of (α := α) (p := fun i x => At (Mem.all W) ⟨a.block, a.off + i * Enc.sz α, none⟩ x ∧ Rng.ok x) len (fun i hi => by
      have h1 := hel i hi
      have hil : i < elems.length := by omega
      rw [List.getElem?_eq_getElem hil] at h1
      cases hq : W.cells? 0 (a.add (i * P.cellsOf e)) (P.cellsOf e) with
      | none => rw [hq] at h1; cases h1
      | some cs' =>
        rw [hq] at h1
        simp only [Option.bind_some] at h1
        obtain ⟨x, hx1, hx2⟩ := he.2 enc W n cs' elems[i].1 elems[i].2 h1 (fun q hq' => hw q (by
          simp only [DataW.weights, hu, List.mem_cons, List.mem_append]
          exact .inr (.inl (weightsAll_mem (List.mem_map.2 ⟨elems[i], List.getElem_mem hil, rfl⟩) q hq'))))
        rw [Addr.add_plain (hs (by omega)), he.1] at hq
        exact ⟨x, ⟨cs', hx1, cells_of_cells? hq rfl hpos⟩, hx2⟩)
    have := Sl.some (m := Mem.all W) a L cap hs (by omega) (by omega) hm (fun i x hx => (hLp i x hx).1)
    rw [hL] at this
    refine ⟨L, ⟨_, rfl, this⟩, fun x hx => ?_⟩
    obtain ⟨i, hi, rfl⟩ := List.getElem_of_mem hx
    exact (hLp i _ (List.getElem?_eq_getElem hi)).2

/-! for structs -/
theorem cut_drop (cs : List Value) (a k : Nat) : cs.drop a = (cs.drop a).take k ++ cs.drop (a + k) := by rw [← List.drop_drop, List.take_append_drop]
theorem sized_part {H : Type} {P : Program} {t : TypeId} {fs : Array Field} {xs : List (DataW H × List MemPlace)} (hu : P.underlying t = some (.struct fs)) {B : Nat} (hw : ∀ n ∈ (DataW.agg (xs.map (·.1))).weights P t, n ≤ B)
    {i : Nat} {f : Field} {y : DataW H × List MemPlace} (hf : fs[i]? = some f) (hy : xs[i]? = some y) : ∀ n ∈ y.1.weights P f.type, n ≤ B := by
  intro n hn
  refine hw n ?_
  simp only [DataW.weights, hu]
  exact DataW.weights_mem_each (ts := fs.toList.map (·.type)) (ds := xs.map (·.1)) (j := i) (t := f.type) (d := y.1) (by simp [hf]) (by simp [hy]) n hn
theorem some_of_len {α : Type} {xs : List α} {n i : Nat} (h : xs.length = n) (hi : Nat.ble (i + 1) n = true) : ∃ y, xs[i]? = some y :=
  ⟨_, List.getElem?_eq_getElem (by rw [h]; exact Nat.le_of_ble_eq_true hi)⟩

/-! arguments -/
section
variable {P : Program} {W : World} {r : Reach} {b0 : Nat} {H : Type} {enc : TypeId × Value → H} {t : TypeId} {v : Value} {d : DataW H} {ps : List MemPlace}
theorem arg_int (hu : P.underlying t = some (.int .i64)) (hval : Value.okWide P W r b0 t v) (hd : DataW.Trod enc P W 0 (fun _ => true) true t v d ps) :
    ∃ n : Int, v = .int .i64 n ∧ -9223372036854775808 ≤ n ∧ n ≤ 9223372036854775807 := by
  obtain ⟨n, rfl, _, _, hw⟩ := ChangeShapes.open_int hu hval hd
  exact ⟨n, rfl, bounds_i64 hw⟩
theorem arg_st {fs : Array Field} {α : Type} [Enc α] [Rng α] (hb : Br P t α) (hu : P.underlying t = some (.struct fs)) (hval : Value.okWide P W r b0 t v) (hd : DataW.Trod enc P W 0 (fun _ => true) true t v d ps) (hw : ∀ n ∈ d.weights P t, n ≤ reachBytes) :
    ∃ (cs : List Value) (x : α), v = .agg cs.toArray ∧ Enc.rd (Mem.all W) cs x ∧ Rng.ok x := by
  unfold Value.okWide at hval
  rw [hu] at hval
  obtain ⟨cs, rfl, _⟩ := hval
  obtain ⟨fuel, hf⟩ := hd
  obtain ⟨x, hx, hok⟩ := hb.2 enc W fuel _ d ps hf hw
  exact ⟨cs.toList, x, by simp, by simpa [Value.cells] using hx, hok⟩
theorem weigh {ts : List TypeId} {ds : List (DataW H)} (h : (DataW.weightsEach P ts ds).all (· ≤ reachBytes) = true) {j : Nat} (ht : ts[j]? = some t) (hd : ds[j]? = some d) : ∀ n ∈ d.weights P t, n ≤ reachBytes := fun n hn => by
  have := List.all_eq_true.1 h n (DataW.weights_mem_each ht hd n hn)
  simpa using this
end
theorem St.below {w w' : World} {m m' : Mem} {H : List Ent} (h : St ⟨w, [], m⟩ m' H w') : RowKit.Below w.heap.size w w' := ⟨h.os, h.tape, h.output, h.size, fun b hb => h.base b hb (by simp)⟩
theorem Exact.law {P : Program} {f : FuncId} {args : Array Value} {W : World} (h : Exact P f args (Mem.all W) (.bool true)) : Calls P f args W fun e w' => e = .returned (.bool true) ∧ RowKit.Below W.heap.size W w' :=
  (h W (fun _ _ h => h)).mono fun e w' ⟨v, m', H', he, hs, hv⟩ => ⟨by rw [he, hv], hs.below⟩
end Go.Kx
