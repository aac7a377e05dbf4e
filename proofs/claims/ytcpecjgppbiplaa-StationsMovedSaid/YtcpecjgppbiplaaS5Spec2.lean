/- Stations: regions, tight bounds: what they are, in plain Lean. -/
import Derived.Test.YtcpecjgppbiplaaS5Spec
import Derived.Test.YtcpecjgppbiplaaKxJ
namespace Go.Proofs.S5
open Go Go.Kx

/-! ### matrices -/
def stepM (k i j : Nat) (f : Nat → Nat → Int) : Nat → Nat → Int := fun a b => if a = i ∧ b = j then min (f i j) (f i k + f k j) else f a b
def rowS (k i : Nat) (f : Nat → Nat → Int) : Nat → Nat → Nat → Int
  | 0 => f
  | j + 1 => stepM k i j (rowS k i f j)
def layS (n k : Nat) (f : Nat → Nat → Int) : Nat → Nat → Nat → Int
  | 0 => f
  | i + 1 => rowS k i (layS n k f i) n
def allS (n : Nat) (f : Nat → Nat → Int) : Nat → Nat → Nat → Int
  | 0 => f
  | k + 1 => layS n k (allS n f k) n
def InB (n : Nat) (C : Int) (f : Nat → Nat → Int) : Prop := ∀ a b, a < n → b < n → 0 ≤ f a b ∧ f a b ≤ C
theorem InB.step {n : Nat} {C : Int} {f : Nat → Nat → Int} (h : InB n C f) {k i j : Nat} (hk : k < n) (hi : i < n) (hj : j < n) : InB n C (stepM k i j f) := by
  intro a b ha hb
  unfold stepM
  split
  · have h1 := h i j hi hj; have h2 := h i k hi hk; have h3 := h k j hk hj; omega
  · exact h a b ha hb
theorem InB.row {n : Nat} {C : Int} {f : Nat → Nat → Int} (h : InB n C f) {k i : Nat} (hk : k < n) (hi : i < n) : ∀ j, j ≤ n → InB n C (rowS k i f j)
  | 0, _ => h
  | j + 1, hj => (InB.row h hk hi j (by omega)).step hk hi (by omega)
theorem InB.lay {n : Nat} {C : Int} {f : Nat → Nat → Int} (h : InB n C f) {k : Nat} (hk : k < n) : ∀ i, i ≤ n → InB n C (layS n k f i)
  | 0, _ => h
  | i + 1, hi => (InB.lay h hk i (by omega)).row hk (by omega) n (Nat.le_refl _)
theorem InB.all {n : Nat} {C : Int} {f : Nat → Nat → Int} (h : InB n C f) : ∀ k, k ≤ n → InB n C (allS n f k)
  | 0, _ => h
  | k + 1, hk => (InB.all h k (by omega)).lay (by omega) n (Nat.le_refl _)

theorem gt_set {α : Type} [Inhabited α] {L : List α} {i j : Nat} {x : α} (hi : i < L.length) : gt (L.set i x) j = if i = j then x else gt L j := by
  unfold gt
  rw [List.getD_eq_getElem?_getD, List.getD_eq_getElem?_getD, List.getElem?_set]
  by_cases h : i = j
  · subst h; simp [hi]
  · simp [h]
/-- a flat array as a matrix of 32 columns -/
def Mat (L : List Int) (f : Nat → Nat → Int) : Prop := L.length = 1024 ∧ ∀ a b, a < 32 → b < 32 → gt L (a * 32 + b) = f a b
theorem Mat.set {L : List Int} {f : Nat → Nat → Int} (h : Mat L f) {i j : Nat} (hi : i < 32) (hj : j < 32) (x : Int) : Mat (L.set (i * 32 + j) x) (fun a b => if a = i ∧ b = j then x else f a b) := by
  refine ⟨by rw [List.length_set]; exact h.1, fun a b ha hb => ?_⟩
  rw [gt_set (by rw [h.1]; omega)]
  by_cases e : a = i ∧ b = j
  · obtain ⟨rfl, rfl⟩ := e; simp
  · dsimp only; rw [if_neg (by omega), if_neg e]; exact h.2 a b ha hb
theorem Mat.gt {L : List Int} {f : Nat → Nat → Int} (h : Mat L f) {a b : Nat} (ha : a < 32) (hb : b < 32) : Kx.gt L (a * 32 + b) = f a b := h.2 a b ha hb
theorem Mat.congr {L : List Int} {f g : Nat → Nat → Int} (h : Mat L f) (hg : ∀ a b, a < 32 → b < 32 → f a b = g a b) : Mat L g := ⟨h.1, fun a b ha hb => by rw [h.2 a b ha hb, hg a b ha hb]⟩

/-! ### the region -/
structure Reg where
  B : List Int
  W : Wind
  L : List Station
  deriving DecidableEq, Inhabited
instance : Enc Reg where
  sz := 1027
  pos := by decide
  rd m vs x := ∃ v : Value, x.B.length = 1024 ∧ vs = ints x.B ++ [.int .i64 x.W.Fixed, .int .i64 x.W.Each, v] ∧ Sl m v x.L
  len h := by obtain ⟨v, h1, rfl, _⟩ := h; simp [ints_len, h1]
  mono hm h := by obtain ⟨v, h1, h2, h3⟩ := h; exact ⟨v, h1, h2, h3.mono hm⟩
  one h := by
    obtain ⟨v, h1, rfl, h3⟩ := h
    intro u hu
    rcases List.mem_append.1 hu with hu | hu
    · obtain ⟨x, _, rfl⟩ := List.mem_map.1 hu; rfl
    · simp at hu
      rcases hu with rfl | rfl | rfl
      · rfl
      · rfl
      · exact h3.one
theorem Cells.pre {m : Mem} {p : Addr} {us vs : List Value} (h : Cells m p (us ++ vs)) : Cells m p us := by
  obtain ⟨h0, cs, T, fz, h1, h2⟩ := h
  exact ⟨h0, cs, T, fz, h1, fun j v hj => h2 j v (by rw [List.getElem?_append_left (List.getElem?_eq_some_iff.1 hj).1]; exact hj)⟩
theorem Cells.post {m : Mem} {p : Addr} {us vs ws : List Value} {n : Nat} (h : Cells m p (us ++ (vs ++ ws))) (hn : us.length = n) : Cells m (p.add n) vs := by
  obtain ⟨h0, cs, T, fz, h1, h2⟩ := h
  rw [Addr.add_plain h0]
  exact ⟨rfl, cs, T, fz, h1, fun j v hj => by
    have := h2 (n + j) v (by rw [List.getElem?_append_right (by omega), hn, Nat.add_sub_cancel_left, List.getElem?_append_left (List.getElem?_eq_some_iff.1 hj).1]; exact hj)
    rw [← Nat.add_assoc] at this; exact this⟩
theorem At.Reg_0 {m : Mem} {p : Addr} {x : Reg} (h : At m p x) : Cells m p (ints x.B) := by
  obtain ⟨vs, ⟨v, h1, rfl, h3⟩, hc⟩ := h
  exact Cells.pre hc
theorem At.Reg_1 {m : Mem} {p : Addr} {x : Reg} (h : At m p x) : At m (p.add 1024) x.W := by
  obtain ⟨vs, ⟨v, h1, rfl, h3⟩, hc⟩ := h
  exact ⟨[.int .i64 x.W.Fixed, .int .i64 x.W.Each], rfl, Cells.post (vs := [.int .i64 x.W.Fixed, .int .i64 x.W.Each]) (ws := [v]) hc (by rw [ints_len, h1])⟩
theorem At.Reg_2 {m : Mem} {p : Addr} {x : Reg} (h : At m p x) : At m (p.add 1026) x.L := by
  obtain ⟨vs, ⟨v, h1, rfl, h3⟩, hc⟩ := h
  refine ⟨[v], ⟨v, rfl, h3⟩, Cells.post (us := ints x.B ++ [.int .i64 x.W.Fixed, .int .i64 x.W.Each]) (vs := [v]) (ws := []) ?_ (by simp [ints_len, h1])⟩
  simpa using hc

def windedE (w : Wind) (l : List Station) : Int := if (checkS l).1 ≠ 0 then (checkS l).1 else windE w
theorem windedE_zero {w : Wind} {l : List Station} (h : windedE w l = 0) : (checkS l).1 = 0 ∧ windE w = 0 := by
  unfold windedE at h; split at h
  · rename_i h1; exact absurd h h1
  · rename_i h1; exact ⟨Decidable.of_not_not h1, h⟩
def boundM (w : Wind) (l : List Station) (a b : Nat) : Int := if a < l.length ∧ b < l.length then boundS w (gt l a) (gt l b) else 0
def tightM (w : Wind) (l : List Station) : Nat → Nat → Int := allS l.length (boundM w l) l.length
def regB (w : Wind) (l : List Station) : List Int := (List.range 1024).map fun p => tightM w l (p / 32) (p % 32)
def regS (w : Wind) (l : List Station) : Reg := ⟨regB w l, w, l⟩
theorem checkS_placed {l : List Station} (h : (checkS l).1 = 0) {k : Nat} (hk : k < l.length) : placedOk (gt l k) ∧ highOk (gt l k).Heights :=
  ⟨(badAt_zero ((checkS_zero h).2 k hk)).1, (badAt_zero ((checkS_zero h).2 k hk)).2.2⟩
theorem boundS_bd {w : Wind} {a b : Station} (hw : windE w = 0) (ha : placedOk a) (hb : placedOk b) : 0 ≤ boundS w a b ∧ boundS w a b ≤ 1000000000 := by
  have h1 := each_bd hw ha hb
  have h2 := windE_zero hw
  unfold boundS; split <;> omega
theorem boundM_bd {w : Wind} {l : List Station} (h : windedE w l = 0) : InB l.length 1000000000 (boundM w l) := by
  intro a b ha hb
  have hz := windedE_zero h
  rw [boundM, if_pos ⟨ha, hb⟩]
  exact boundS_bd hz.2 (checkS_placed hz.1 ha).1 (checkS_placed hz.1 hb).1
theorem tightM_bd {w : Wind} {l : List Station} (h : windedE w l = 0) : InB l.length 1000000000 (tightM w l) := (boundM_bd h).all _ (Nat.le_refl _)
theorem regB_mat (w : Wind) (l : List Station) : Mat (regB w l) (tightM w l) := by
  refine ⟨by simp [regB], fun a b ha hb => ?_⟩
  have h1 : a * 32 + b < 1024 := by omega
  have h2 : (a * 32 + b) / 32 = a := by omega
  have h3 : (a * 32 + b) % 32 = b := by omega
  simp [regB, gt, h1, h2, h3]
attribute [irreducible] regB
theorem Mat.eq_reg {L : List Int} {w : Wind} {l : List Station} (h : Mat L (tightM w l)) : L = regB w l := by
  apply ext_gt (by rw [h.1, (regB_mat w l).1])
  intro j hj
  rw [h.1] at hj
  have h1 := h.2 (j / 32) (j % 32) (by omega) (by omega)
  have h2 := (regB_mat w l).2 (j / 32) (j % 32) (by omega) (by omega)
  rw [show j / 32 * 32 + j % 32 = j by omega] at h1 h2
  rw [h1, h2]
def sqL (n : Nat) (f : Nat → Nat → Int) : List (List Int) := (List.range n).map fun i => (List.range n).map fun k => f i k
def boundsL (w : Wind) (l : List Station) : List (List Int) := sqL l.length (boundM w l)
def tightL (w : Wind) (l : List Station) : List (List Int) := sqL l.length (tightM w l)
def tightR (w : Wind) (l : List Station) : List (List Int) := if windedE w l = 0 then tightL w l else []
theorem gt_map {α : Type} [Inhabited α] {n i : Nat} (f : Nat → α) (h : i < n) : gt ((List.range n).map f) i = f i := by simp [gt, h]
theorem map_succ {α : Type} (k : Nat) (f : Nat → α) : (List.range k).map f ++ [f k] = (List.range (k + 1)).map f := by rw [List.range_succ, List.map_append]; rfl

/-! ### for the walks of spread and tighten -/
theorem Mat.bd {L : List Int} {f : Nat → Nat → Int} {n : Nat} {C : Int} (h : Mat L f) (hn : n ≤ 32) (hB : InB n C f) {a b : Nat} (ha : a < n) (hb : b < n) : 0 ≤ Kx.gt L (0 + a * 32 + b * 1) ∧ Kx.gt L (0 + a * 32 + b * 1) ≤ C := by
  have := hB a b ha hb
  rw [show 0 + a * 32 + b * 1 = a * 32 + b by omega, h.2 a b (by omega) (by omega)]; exact this
theorem tight_step {L : List Int} {f : Nat → Nat → Int} {k i j : Nat} (h : Mat L f) (hk : k < 32) (hi : i < 32) (hj : j < 32) :
    Mat (L.set (0 + i * 32 + j * 1) (min (gt L (0 + i * 32 + j * 1)) (gt L (0 + i * 32 + k * 1) + gt L (0 + k * 32 + j * 1)))) (stepM k i j f) := by
  have e : ∀ a b, 0 + a * 32 + b * 1 = a * 32 + b := fun a b => by omega
  rw [e, e, e, h.2 i j hi hj, h.2 i k hi hk, h.2 k j hk hj]
  exact h.set hi hj _
def partM (w : Wind) (l : List Station) (i k : Nat) (a b : Nat) : Int := if (a < i ∨ (a = i ∧ b < k)) ∧ b < l.length then boundS w (gt l a) (gt l b) else 0
theorem gt_rep (n k : Nat) : gt (List.replicate n (0 : Int)) k = 0 := by
  unfold gt
  rw [List.getD_eq_getElem?_getD, List.getElem?_replicate]
  split <;> rfl
theorem part_zero (w : Wind) (l : List Station) : Mat (List.replicate 1024 0) (partM w l 0 0) := by
  refine ⟨List.length_replicate, fun a b ha hb => ?_⟩
  rw [partM, if_neg (by omega), gt_rep]
theorem part_next {L : List Int} {w : Wind} {l : List Station} {i k : Nat} (h : Mat L (partM w l i k)) (hi : i < 32) (hk : k < 32) (hkl : k < l.length) :
    Mat (L.set (0 + i * 32 + k * 1) (boundS w (gt l i) (gt l k))) (partM w l i (k + 1)) := by
  rw [show 0 + i * 32 + k * 1 = i * 32 + k by omega]
  refine (h.set hi hk _).congr fun a b ha hb => ?_
  unfold partM
  by_cases e : a = i ∧ b = k
  · obtain ⟨rfl, rfl⟩ := e; rw [if_pos ⟨rfl, rfl⟩, if_pos (by omega)]
  · rw [if_neg e]
    by_cases e2 : (a < i ∨ (a = i ∧ b < k)) ∧ b < l.length
    · rw [if_pos e2, if_pos (by omega)]
    · rw [if_neg e2, if_neg (by omega)]
theorem part_row {L : List Int} {w : Wind} {l : List Station} {i k : Nat} (h : Mat L (partM w l i k)) (hk : l.length ≤ k) : Mat L (partM w l (i + 1) 0) :=
  h.congr fun a b _ _ => by
    unfold partM
    by_cases e2 : (a < i ∨ (a = i ∧ b < k)) ∧ b < l.length
    · rw [if_pos e2, if_pos (by omega)]
    · rw [if_neg e2, if_neg (by omega)]
theorem part_end {L : List Int} {w : Wind} {l : List Station} {i : Nat} (h : Mat L (partM w l i 0)) (hi : i = l.length) : Mat L (boundM w l) :=
  h.congr fun a b _ _ => by
    subst hi
    unfold partM boundM
    by_cases e2 : (a < l.length ∨ (a = l.length ∧ b < 0)) ∧ b < l.length
    · rw [if_pos e2, if_pos (by omega)]
    · rw [if_neg e2, if_neg (by omega)]
theorem winded_of {w : Wind} {l : List Station} (h1 : (checkS l).1 = 0) (h2 : windE w = 0) : windedE w l = 0 := by unfold windedE; rw [if_neg (by simp [h1])]; exact h2
theorem fill_two (A : List Int) (hA : A.length = 1024) (a b c f e v : Value) (hv : v.cells = #[v]) : Instr.fill (fun i => #[(0, 1024), (1024, 2), (1026, 1)][i]?) (ints A ++ [a, b, c]).toArray [(1, .agg #[f, e]), (2, v)] = some (ints A ++ [f, e, v]).toArray := by
  have hl := ints_len A
  simp only [Instr.fill, hv]
  simp [Value.cells, hl, hA]
theorem fill92 (f e v : Value) (hv : v.cells = #[v]) : Instr.fill (fun i => #[(0, 1024), (1024, 2), (1026, 1)][i]?) (Value.agg (ints (List.replicate 1024 0) ++ [Value.int .i64 0, Value.int .i64 0, Value.slice none 0 0]).toArray).cells [(1, .agg #[f, e]), (2, v)] = some (ints (List.replicate 1024 0) ++ [f, e, v]).toArray :=
  fill_two _ List.length_replicate _ _ _ f e v hv
/-- rows as a matrix -/
def MatL (n : Nat) (M : List (List Int)) (f : Nat → Nat → Int) : Prop := M.length = n ∧ (∀ i, i < n → (gt M i).length = n) ∧ ∀ i k, i < n → k < n → gt (gt M i) k = f i k
theorem MatL.set {n : Nat} {M : List (List Int)} {f : Nat → Nat → Int} (h : MatL n M f) {i j : Nat} (hi : i < n) (hj : j < n) (x : Int) : MatL n (M.set i ((gt M i).set j x)) (fun a b => if a = i ∧ b = j then x else f a b) := by
  refine ⟨by rw [List.length_set]; exact h.1, fun a ha => ?_, fun a b ha hb => ?_⟩
  · rw [gt_set (by rw [h.1]; exact hi)]
    split
    · rw [List.length_set]; exact h.2.1 i hi
    · exact h.2.1 a ha
  · rw [gt_set (by rw [h.1]; exact hi)]
    by_cases e : i = a
    · subst e
      rw [if_pos rfl, gt_set (by rw [h.2.1 i hi]; exact hj)]
      by_cases e2 : j = b
      · subst e2; simp
      · rw [if_neg e2]; dsimp only; rw [if_neg (by omega)]; exact h.2.2 i b ha hb
    · rw [if_neg e]; dsimp only; rw [if_neg (by omega)]; exact h.2.2 a b ha hb
theorem MatL.bd {n : Nat} {M : List (List Int)} {f : Nat → Nat → Int} {C : Int} (h : MatL n M f) (hB : InB n C f) {a b : Nat} (ha : a < n) (hb : b < n) : 0 ≤ gt (gt M a) b ∧ gt (gt M a) b ≤ C := by
  rw [h.2.2 a b ha hb]; exact hB a b ha hb
theorem reg_rd {m : Mem} {L : List Int} {w : Wind} {l : List Station} {v : Value} (h1 : L.length = 1024) (h2 : Sl m v l) : Enc.rd m (ints L ++ [.int .i64 w.Fixed, .int .i64 w.Each, v]) (⟨L, w, l⟩ : Reg) := ⟨v, h1, rfl, h2⟩
theorem at_reg {m : Mem} {p : Addr} {L : List Int} {w : Wind} {l : List Station} (h : At m p (⟨L, w, l⟩ : Reg)) (hM : Mat L (tightM w l)) : At m p (regS w l) := by
  rw [hM.eq_reg] at h; exact h
theorem zv92 (w : World) : (zeroValue 92).run Try.prog w = .ok (Value.agg (ints (List.replicate 1024 0) ++ [Value.int .i64 0, Value.int .i64 0, Value.slice none 0 0]).toArray) w :=
  (Try.zeroValue92 w).trans (by kernel_rfl)
end Go.Proofs.S5
