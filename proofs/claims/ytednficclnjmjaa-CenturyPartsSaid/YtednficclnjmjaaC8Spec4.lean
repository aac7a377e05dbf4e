import Derived.Test.YtednficclnjmjaaC8Spec3
/- Century: differences and adjustments, in plain Lean. -/
namespace Go.Proofs.C8
open Go Go.Kx

/-- the first number from a time on, among k that have been seen -/
def DifI (s t : Ser) (time : Int) (k : Nat) (f : Int) : Prop := (∀ j : Nat, j < k → time ≤ difT s t j → f ≤ j) ∧ (f = (comL s t).length ∨ (0 ≤ f ∧ f < k ∧ time ≤ difT s t f.toNat))
theorem dif_start (s t : Ser) (time : Int) : DifI s t time 0 ((comL s t).length : Int) := ⟨fun _ hj => absurd hj (Nat.not_lt_zero _), .inl rfl⟩
theorem dif_yes {s t : Ser} {time : Int} {k : Nat} {f : Int} (h : DifI s t time k f) (hk : k < (comL s t).length) (ht : time ≤ difT s t k) : DifI s t time (k + 1) (min f k) := by
  refine ⟨fun j hj h1 => ?_, ?_⟩
  · rcases Nat.lt_succ_iff_lt_or_eq.1 hj with h2 | h2
    · have := h.1 j h2 h1; omega
    · subst h2; omega
  · rcases h.2 with h1 | ⟨h1, h2, h3⟩
    · right
      have : min f (k : Int) = k := by omega
      rw [this]
      exact ⟨by omega, by omega, by simpa using ht⟩
    · right
      have : min f (k : Int) = f := by omega
      rw [this]
      exact ⟨h1, by omega, h3⟩
theorem dif_no {s t : Ser} {time : Int} {k : Nat} {f : Int} (h : DifI s t time k f) (ht : ¬ time ≤ difT s t k) : DifI s t time (k + 1) f := by
  refine ⟨fun j hj h1 => ?_, ?_⟩
  · rcases Nat.lt_succ_iff_lt_or_eq.1 hj with h2 | h2
    · exact h.1 j h2 h1
    · subst h2; exact absurd h1 ht
  · rcases h.2 with h1 | ⟨h1, h2, h3⟩
    · exact .inl h1
    · exact .inr ⟨h1, by omega, h3⟩
theorem dif_end {s t : Ser} {time : Int} {f : Int} (h : DifI s t time (comL s t).length f) : f = (difF s t time : Int) := by
  unfold difF
  rcases h.2 with h1 | ⟨h1, h2, h3⟩
  · rw [first_no (fun j hj h2 => by have := h.1 j hj h2; omega)]; exact h1
  · rw [first_eq (k := f.toNat) (by omega) (fun j hj h4 => by have := h.1 j (by omega) h4; omega) h3]; omega
theorem dif_len (s t : Ser) (time : Int) : difF s t time ≤ (comL s t).length := by
  rcases first_cases (fun n => time ≤ difT s t n) (comL s t).length with h | h <;> unfold difF <;> omega
theorem dif_snoc {s t : Ser} {k : Nat} (h : 0 < k) : (List.range (k - 1)).map (difX s t) ++ [Span.mk ((bt s.Shifts (difT s t (k - 1)) (difT s t k)).Lo - (bt t.Shifts (difT s t (k - 1)) (difT s t k)).Hi) ((bt s.Shifts (difT s t (k - 1)) (difT s t k)).Hi - (bt t.Shifts (difT s t (k - 1)) (difT s t k)).Lo)] = (List.range (k + 1 - 1)).map (difX s t) := by
  obtain ⟨e, rfl⟩ : ∃ e, k = e + 1 := ⟨k - 1, by omega⟩
  rw [show e + 1 + 1 - 1 = e + 1 by omega, ← map_succ]
  rfl
theorem btS_bd {s : Ser} (h : Ok s) (a b : Int) : -768000 ≤ (bt s.Shifts a b).Lo ∧ (bt s.Shifts a b).Lo ≤ (bt s.Shifts a b).Hi ∧ (bt s.Shifts a b).Hi ≤ 768000 := bt_bd h a b (Nat.le_refl _)
theorem dif_w {s t : Ser} (hs : Ok s) (ht : Ok t) : WinW (difW s t) := by
  have hl : (difW s t).levels.length = (comL s t).length := map_len _ _
  have hx : (difW s t).shifts.length = (comL s t).length - 1 := map_len _ _
  have hc := comL_len s t
  have hn := hs.nV
  refine ⟨by omega, by omega, fun i hi => ?_, fun i hi => ?_⟩
  · unfold difW
    dsimp only
    rw [gt_map (by omega)]
    have hb := com_bd (s := s) (t := t) (n := i) (by omega)
    have h1 := hs.vl (i := (gt (comL s t) i).a.toNat) (by omega)
    have h2 := ht.vl (i := (gt (comL s t) i).b.toNat) (by omega)
    unfold difV
    dsimp only
    omega
  · unfold difW
    dsimp only
    rw [gt_map (by omega)]
    have h1 := bt_bd hs (difT s t i) (difT s t (i + 1)) (Nat.le_refl _)
    have h2 := bt_bd ht (difT s t i) (difT s t (i + 1)) (Nat.le_refl _)
    unfold difX bt
    dsimp only
    omega
theorem gt_drop_take {α : Type} [Inhabited α] (L : List α) {a n i : Nat} (h : i < n) : gt ((L.drop a).take n) i = gt L (a + i) := by
  simp only [gt, List.getD]
  rw [List.getElem?_take, if_pos h, List.getElem?_drop]
theorem part_w {w : Win} (h : WinW w) {a b : Nat} (hb : b ≤ w.levels.length) (h0 : a < b) : WinW (winPart w a b) := by
  have hn := h.n
  have hl := h.l
  have e1 : (winPart w a b).levels.length = b - a := by simp [winPart]; omega
  have e2 : (winPart w a b).shifts.length = b - 1 - a := by simp [winPart]; omega
  refine ⟨by omega, by omega, fun i hi => ?_, fun i hi => ?_⟩
  · unfold winPart
    dsimp only
    rw [gt_drop_take _ (by omega)]
    exact h.lb _ (by omega)
  · unfold winPart
    dsimp only
    rw [gt_drop_take _ (by omega)]
    exact h.xb _ (by omega)
theorem gt_rev {α : Type} [Inhabited α] (L : List α) {i : Nat} (h : i < L.length) : gt L.reverse i = gt L (L.length - 1 - i) := by
  simp only [gt, List.getD]
  rw [List.getElem?_reverse h]
theorem gt_mapL {α β : Type} [Inhabited α] [Inhabited β] (f : α → β) (L : List α) {i : Nat} (h : i < L.length) : gt (L.map f) i = f (gt L i) := by
  simp [gt, List.getD, List.getElem?_eq_getElem h]
theorem turn_w {w : Win} (h : WinW w) : WinW (winTurn w) := by
  have e1 : (winTurn w).levels.length = w.levels.length := by simp [winTurn]
  have e2 : (winTurn w).shifts.length = w.shifts.length := by simp [winTurn]
  have hn := h.n
  have hl := h.l
  refine ⟨by omega, by omega, fun i hi => ?_, fun i hi => ?_⟩
  · unfold winTurn
    dsimp only
    rw [gt_rev _ (by omega)]
    exact h.lb _ (by omega)
  · unfold winTurn
    dsimp only
    rw [gt_mapL _ _ (by simp; omega), gt_rev _ (by omega)]
    have := h.xb (w.shifts.length - 1 - i) (by omega)
    dsimp only
    omega
/-- turning a slice round, when i pairs have been exchanged -/
def RevI (L : List Span) (i : Nat) (M : List Span) : Prop := M.length = L.length ∧ ∀ q, q < L.length → gt M q = if q < i ∨ L.length - 1 - i < q then gt L (L.length - 1 - q) else gt L q
theorem rev_start (L : List Span) : RevI L 0 L := ⟨rfl, fun q hq => by rw [if_neg (by omega)]⟩
theorem gt_set {α : Type} [Inhabited α] (L : List α) {a b : Nat} (x : α) (hb : b < L.length) : gt (L.set a x) b = if a = b then x else gt L b := by
  simp only [gt, List.getD, List.getElem?_set]
  split
  · subst_vars; simp [hb]
  · rfl
theorem rev_step {L M : List Span} {i j : Nat} (h : RevI L i M) (hj : j = L.length - 1 - i) (hij : i < j) (hl : i < L.length) : RevI L (i + 1) ((M.set i (gt M j)).set j (gt M i)) := by
  refine ⟨by simp [h.1], fun q hq => ?_⟩
  have h0 := h.1
  rw [gt_set _ _ (by simp; omega), gt_set _ _ (by omega)]
  by_cases h1 : j = q
  · rw [if_pos h1, if_pos (by omega), h.2 i hl, if_neg (by omega)]
    congr 1; omega
  · rw [if_neg h1]
    by_cases h2 : i = q
    · rw [if_pos h2, if_pos (by omega), h.2 j (by omega), if_neg (by omega)]
      congr 1; omega
    · rw [if_neg h2, h.2 q hq]
      by_cases h3 : q < i ∨ L.length - 1 - i < q
      · rw [if_pos h3, if_pos (by omega)]
      · rw [if_neg h3, if_neg (by omega)]
theorem rev_end {L M : List Span} {i : Nat} (h : RevI L i M) (hij : (L.length : Int) - 1 - i ≤ i) : M = L.reverse := by
  apply ext_gt
  · simp [h.1]
  · intro q hq
    rw [h.1] at hq
    rw [h.2 q hq, gt_rev L hq]
    split
    · rfl
    · congr 1; omega
/-- the opposite shifts, when k of them have been turned -/
def NegI (L : List Span) (k : Nat) (M : List Span) : Prop := M.length = L.length ∧ ∀ q, q < L.length → gt M q = if q < k then ⟨-(gt L q).Hi, -(gt L q).Lo⟩ else gt L q
theorem neg_start (L : List Span) : NegI L 0 L := ⟨rfl, fun q _ => by rw [if_neg (by omega)]⟩
theorem neg_at {L M : List Span} {k : Nat} (h : NegI L k M) (hk : k < L.length) : gt M k = gt L k := by rw [h.2 k hk, if_neg (by omega)]
theorem neg_step {L M : List Span} {k : Nat} (h : NegI L k M) (hk : k < L.length) : NegI L (k + 1) (M.set k ⟨-(gt M k).Hi, -(gt M k).Lo⟩) := by
  refine ⟨by simp [h.1], fun q hq => ?_⟩
  rw [gt_set _ _ (by rw [h.1]; exact hq)]
  by_cases h1 : k = q
  · subst h1; rw [if_pos rfl, if_pos (by omega), neg_at h hk]
  · rw [if_neg h1, h.2 q hq]
    by_cases h2 : q < k
    · rw [if_pos h2, if_pos (by omega)]
    · rw [if_neg h2, if_neg (by omega)]
theorem neg_end {L M : List Span} (h : NegI L L.length M) : M = L.map fun x => ⟨-x.Hi, -x.Lo⟩ := by
  apply ext_gt
  · simp [h.1]
  · intro q hq
    rw [h.1] at hq
    rw [h.2 q hq, if_pos hq, gt_mapL _ _ hq]
theorem adj_err {s t : Ser} {time most : Int} (h : twoE s t ≠ 0) : adjR s t time most = (⟨0, 0⟩, twoE s t) := by rw [adjR, if_pos h]
theorem adj_arg {s t : Ser} {time most : Int} (h : twoE s t = 0) (h1 : ¬ ((0 ≤ time ∧ time ≤ 10000) ∧ (0 ≤ most ∧ most ≤ 24000))) : adjR s t time most = (⟨0, 0⟩, 1) := by rw [adjR, if_neg (by omega), if_pos h1]
theorem adj_none {s t : Ser} {time most : Int} (h : twoE s t = 0) (h1 : (0 ≤ time ∧ time ≤ 10000) ∧ (0 ≤ most ∧ most ≤ 24000)) (h2 : difF s t time = 0 ∨ difF s t time = (comL s t).length) : adjR s t time most = (⟨0, 0⟩, 3) := by
  rw [adjR, if_neg (by omega), if_neg (by omega), if_pos h2]
theorem adj_bad {s t : Ser} {time most : Int} (h : twoE s t = 0) (h1 : (0 ≤ time ∧ time ≤ 10000) ∧ (0 ≤ most ∧ most ≤ 24000)) (h2 : ¬ (difF s t time = 0 ∨ difF s t time = (comL s t).length))
    (h3 : (adjA s t time most).2 = false ∨ (adjB s t time most).2 = false) : adjR s t time most = (⟨0, 0⟩, 3) := by
  rw [adjR, if_neg (by omega), if_neg (by omega), if_neg h2, if_pos h3]
theorem adj_ok {s t : Ser} {time most : Int} (h : twoE s t = 0) (h1 : (0 ≤ time ∧ time ≤ 10000) ∧ (0 ≤ most ∧ most ≤ 24000)) (h2 : ¬ (difF s t time = 0 ∨ difF s t time = (comL s t).length))
    (h3 : (adjA s t time most).2 = true) (h4 : (adjB s t time most).2 = true) : adjR s t time most = (⟨(adjB s t time most).1.Lo - (adjA s t time most).1.Hi - (gt (difW s t).shifts (difF s t time - 1)).Hi, (adjB s t time most).1.Hi - (adjA s t time most).1.Lo - (gt (difW s t).shifts (difF s t time - 1)).Lo⟩, 0) := by
  rw [adjR, if_neg (by omega), if_neg (by omega), if_neg h2, if_neg (by rw [h3, h4]; simp)]
theorem lastR_bd {w : Win} (h : WinW w) {most : Int} (hm : 0 ≤ most ∧ most ≤ 24000) :
    (-500000000 ≤ (lastR w most).1.Lo ∧ (lastR w most).1.Lo ≤ 500000000) ∧ (-500000000 ≤ (lastR w most).1.Hi ∧ (lastR w most).1.Hi ≤ 500000000) := by
  have hn := h.n
  unfold lastR
  split
  · rename_i h1
    have := lastAt_bd h hm _ h1
    dsimp only; omega
  · split
    · dsimp only; omega
    · have := lastAt_bd h hm (w.levels.length - 1) (by omega)
      dsimp only; omega
end Go.Proofs.C8
/- Century: extremes, in plain Lean. -/
namespace Go.Proofs.C8
open Go Go.Kx
theorem evsL_at {s : Ser} {k : Nat} (hk : k < s.Values.length) : gt (evsL s) k = evS s k := gt_map hk
theorem ext_one' {s : Ser} {x : Span} {k : Nat} (hk : k < s.Values.length) (h : inT x (gt s.Values k).Time) (hf : (extN s x k).2.2 = false) : extN s x (k + 1) =
    (⟨min (gt (evsL s) k).Lo (gt (evsL s) k).Lo, min (gt (evsL s) k).Hi (gt (evsL s) k).Hi⟩, ⟨max (gt (evsL s) k).Lo (gt (evsL s) k).Lo, max (gt (evsL s) k).Hi (gt (evsL s) k).Hi⟩, true) := by
  rw [ext_one h hf, evsL_at hk]
  simp [Int.min_self, Int.max_self]
theorem ext_more' {s : Ser} {x : Span} {k : Nat} (hk : k < s.Values.length) (h : inT x (gt s.Values k).Time) (hf : (extN s x k).2.2 = true) : extN s x (k + 1) =
    (⟨min (extN s x k).1.Lo (gt (evsL s) k).Lo, min (extN s x k).1.Hi (gt (evsL s) k).Hi⟩, ⟨max (extN s x k).2.1.Lo (gt (evsL s) k).Lo, max (extN s x k).2.1.Hi (gt (evsL s) k).Hi⟩, true) := by
  rw [ext_more h hf, evsL_at hk]
theorem len1 {vs : List Value} (h : vs.length = 1) : ∃ x, vs = [x] := by
  match vs, h with
  | [x], _ => exact ⟨x, rfl⟩
theorem extR_err {s : Ser} {x : Span} (h : chkE s ≠ 0) : extR s x = (⟨0, 0⟩, ⟨0, 0⟩, chkE s) := by rw [extR, if_pos h]
theorem extR_arg {s : Ser} {x : Span} (h : chkE s = 0) (h1 : ¬ spOk x 0 10000) : extR s x = (⟨0, 0⟩, ⟨0, 0⟩, 1) := by rw [extR, if_neg (by omega), if_pos h1]
theorem extR_ok {s : Ser} {x : Span} (h : chkE s = 0) (h1 : spOk x 0 10000) (h2 : (extN s x s.Values.length).2.2 = true) : extR s x = ((extN s x s.Values.length).1, (extN s x s.Values.length).2.1, 0) := by
  rw [extR, if_neg (by omega), if_neg (fun hn => hn h1), if_pos h2]
theorem extR_none {s : Ser} {x : Span} (h : chkE s = 0) (h1 : spOk x 0 10000) (h2 : (extN s x s.Values.length).2.2 = false) : extR s x = (⟨0, 0⟩, ⟨0, 0⟩, 3) := by
  rw [extR, if_neg (by omega), if_neg (fun hn => hn h1), if_neg (by simp [h2])]
end Go.Proofs.C8
/- Century: rising levels, in plain Lean. -/
namespace Go.Proofs.C8
open Go Go.Kx
/-- a number of a list is raised -/
def rz (L : List Int) (i : Nat) (v : Int) : List Int := if gt L i < v then L.set i v else L
theorem rz_len (L : List Int) (i : Nat) (v : Int) : (rz L i v).length = L.length := by unfold rz; split <;> simp
theorem rz_at {L : List Int} {i j : Nat} {v : Int} (hj : j < L.length) : gt (rz L i v) j = if i = j then max (gt L j) v else gt L j := by
  unfold rz
  by_cases h : gt L i < v
  · rw [if_pos h, gt_set _ _ hj]
    by_cases hij : i = j
    · subst hij; rw [if_pos rfl, if_pos rfl]; omega
    · rw [if_neg hij, if_neg hij]
  · rw [if_neg h]
    by_cases hij : i = j
    · subst hij; rw [if_pos rfl]; omega
    · rw [if_neg hij]
def tot (L : List Int) : Int := sumN (gt L) L.length
theorem sumN_set (L : List Int) (i : Nat) (v : Int) : ∀ n : Nat, n ≤ L.length → sumN (gt (L.set i v)) n = sumN (gt L) n + (if i < n then v - gt L i else 0)
  | 0, _ => by simp [sumN]
  | n + 1, h => by
    simp only [sumN]
    rw [sumN_set L i v n (by omega), gt_set _ _ (show n < L.length by omega)]
    by_cases h1 : i = n
    · subst h1; rw [if_pos rfl, if_neg (by omega), if_pos (by omega)]; omega
    · rw [if_neg h1]
      by_cases h2 : i < n
      · rw [if_pos h2, if_pos (by omega)]; omega
      · rw [if_neg h2, if_neg (by omega)]; omega
theorem tot_rz {L : List Int} {i : Nat} {v : Int} (hi : i < L.length) : tot (rz L i v) = tot L + (if gt L i < v then v - gt L i else 0) := by
  unfold rz tot
  by_cases h : gt L i < v
  · rw [if_pos h, if_pos h, List.length_set, sumN_set L i v _ (Nat.le_refl _), if_pos hi]
  · rw [if_neg h, if_neg h]; omega
abbrev MS := List Int × List Int
/-- one value in a pass: e are adjusted levels, u the opposite sums of shifts -/
def mStep (s : Ser) (k : Nat) (st : MS) : MS :=
  let b := bt s.Shifts (gt s.Values (k - 1)).Time (gt s.Values k).Time
  let e1 := if 0 < k then rz st.1 k (gt st.1 (k - 1)) else st.1
  let u1 := if 0 < k then rz st.2 k (gt st.2 (k - 1) - b.Hi) else st.2
  let u2 := if 0 < k then rz u1 (k - 1) (gt u1 k + b.Lo) else u1
  let e2 := rz e1 k (gt u2 k + (gt s.Values k).Levels.Lo)
  (e2, rz u2 k (gt e2 k - (gt s.Values k).Levels.Hi))
def mPass (s : Ser) : Nat → MS → MS
  | 0, st => st
  | k + 1, st => mStep s k (mPass s k st)
def mMost (s : Ser) (i : Nat) : Int := - (bt s.Shifts (-1) (gt s.Values i).Time).Lo
def mOver (s : Ser) (u : List Int) : Prop := ∃ i, i < s.Values.length ∧ mMost s i < gt u i
instance (s : Ser) (u : List Int) : Decidable (mOver s u) := by unfold mOver; exact inferInstance
def mStart (s : Ser) : MS := ((List.range s.Values.length).map (fun i => (gt s.Values i).Levels.Lo - (bt s.Shifts (-1) (gt s.Values i).Time).Hi), (List.range s.Values.length).map (fun i => - (bt s.Shifts (-1) (gt s.Values i).Time).Hi))
/-- passes until nothing changes; the outer none: no fuel -/
def mF (s : Ser) : Nat → MS → Option (Option (List Int))
  | 0, _ => none
  | f + 1, st => if mOver s (mPass s s.Values.length st).2 then some none else if mPass s s.Values.length st = st then some (some st.1) else mF s f (mPass s s.Values.length st)
theorem mF_more {s : Ser} : ∀ {f : Nat} {st : MS} {r : Option (List Int)} (g : Nat), mF s f st = some r → mF s (f + g) st = some r
  | 0, _, _, _, h => by cases h
  | f + 1, st, r, g, h => by
    rw [show f + 1 + g = (f + g) + 1 by omega]
    unfold mF at h ⊢
    by_cases h1 : mOver s (mPass s s.Values.length st).2
    · rw [if_pos h1] at h ⊢; exact h
    · rw [if_neg h1] at h ⊢
      by_cases h2 : mPass s s.Values.length st = st
      · rw [if_pos h2] at h ⊢; exact h
      · rw [if_neg h2] at h ⊢; exact mF_more g h
def fuelM : Nat := 2000000000
def monoR (s : Ser) : List Int × Int := if chkE s ≠ 0 then ([], chkE s) else match mF s fuelM (mStart s) with
  | some (some L) => (L, 0)
  | _ => ([], 3)

def mu (st : MS) : Int := tot st.1 + tot st.2
/-- what has changed since a pass began -/
def RInv (st cur : MS) (c : Bool) : Prop := (c = true → mu st < mu cur) ∧ (c = false → cur = st) ∧ mu st ≤ mu cur
theorem rinv_start (st : MS) : RInv st st false := ⟨fun h => (by cases h), fun _ => rfl, Int.le_refl _⟩
theorem rinv_e {st : MS} {e u : List Int} {c : Bool} {i : Nat} {v : Int} (h : RInv st (e, u) c) (hi : i < e.length) : RInv st (rz e i v, u) (c || decide (gt e i < v)) := by
  have ht := tot_rz (L := e) (v := v) hi
  obtain ⟨h1, h2, h3⟩ := h
  have hm : mu (rz e i v, u) = mu (e, u) + (if gt e i < v then v - gt e i else 0) := by unfold mu; dsimp only; omega
  by_cases hf : gt e i < v
  · rw [if_pos hf] at hm
    exact ⟨fun _ => by omega, fun hc => by simp [hf] at hc, by omega⟩
  · rw [if_neg hf] at hm
    refine ⟨fun hc => ?_, fun hc => ?_, by omega⟩
    · have := h1 (by simpa [hf] using hc); omega
    · have := h2 (by simpa [hf] using hc)
      rw [← this]
      unfold rz
      rw [if_neg hf]
theorem rinv_u {st : MS} {e u : List Int} {c : Bool} {i : Nat} {v : Int} (h : RInv st (e, u) c) (hi : i < u.length) : RInv st (e, rz u i v) (c || decide (gt u i < v)) := by
  have ht := tot_rz (L := u) (v := v) hi
  obtain ⟨h1, h2, h3⟩ := h
  have hm : mu (e, rz u i v) = mu (e, u) + (if gt u i < v then v - gt u i else 0) := by unfold mu; dsimp only; omega
  by_cases hf : gt u i < v
  · rw [if_pos hf] at hm
    exact ⟨fun _ => by omega, fun hc => by simp [hf] at hc, by omega⟩
  · rw [if_neg hf] at hm
    refine ⟨fun hc => ?_, fun hc => ?_, by omega⟩
    · have := h1 (by simpa [hf] using hc); omega
    · have := h2 (by simpa [hf] using hc)
      rw [← this]
      unfold rz
      rw [if_neg hf]
/-- lengths and bounds of a state -/
structure MB (s : Ser) (st : MS) (c : Int) : Prop where
  le : st.1.length = s.Values.length
  lu : st.2.length = s.Values.length
  be : ∀ j, j < s.Values.length → -2000000 ≤ gt st.1 j ∧ gt st.1 j ≤ c
  bu : ∀ j, j < s.Values.length → -2000000 ≤ gt st.2 j ∧ gt st.2 j ≤ c
theorem mb_e {s : Ser} {e u : List Int} {c v : Int} {i : Nat} (h : MB s (e, u) c) (hv : v ≤ c) : MB s (rz e i v, u) c :=
  ⟨by rw [rz_len]; exact h.le, h.lu, fun j hj => by
    have h1 := h.be j hj
    dsimp only at h1 ⊢
    rw [rz_at (by rw [show e.length = s.Values.length from h.le]; exact hj)]
    split <;> omega, h.bu⟩
theorem mb_u {s : Ser} {e u : List Int} {c v : Int} {i : Nat} (h : MB s (e, u) c) (hv : v ≤ c) : MB s (e, rz u i v) c :=
  ⟨h.le, by rw [rz_len]; exact h.lu, h.be, fun j hj => by
    have h1 := h.bu j hj
    dsimp only at h1 ⊢
    rw [rz_at (by rw [show u.length = s.Values.length from h.lu]; exact hj)]
    split <;> omega⟩
theorem MB.up {s : Ser} {st : MS} {c d : Int} (h : MB s st c) (hd : c ≤ d) : MB s st d :=
  ⟨h.le, h.lu, fun j hj => by have := h.be j hj; omega, fun j hj => by have := h.bu j hj; omega⟩
theorem mb_start {s : Ser} (h : Ok s) : MB s (mStart s) 800000 := by
  refine ⟨map_len _ _, map_len _ _, fun j hj => ?_, fun j hj => ?_⟩
  · unfold mStart
    dsimp only
    rw [gt_map hj]
    have h1 := btS_bd h (-1) (gt s.Values j).Time
    have h2 := h.vl hj
    omega
  · unfold mStart
    dsimp only
    rw [gt_map hj]
    have h1 := btS_bd h (-1) (gt s.Values j).Time
    omega

theorem mb_step {s : Ser} (h : Ok s) {st : MS} {c : Int} {k : Nat} (hb : MB s st c) (hk : k < s.Values.length) : MB s (mStep s k st) (c + 4000000) := by
  obtain ⟨e, u⟩ := st
  have hv := h.vl hk
  unfold mStep
  dsimp only
  by_cases hk0 : 0 < k
  · simp only [if_pos hk0]
    have hbt := btS_bd h (gt s.Values (k - 1)).Time (gt s.Values k).Time
    have h1 := mb_e (i := k) (v := gt e (k - 1)) hb (hb.be (k - 1) (by omega)).2
    have h2 := mb_u (i := k) (v := gt u (k - 1) - (bt s.Shifts (gt s.Values (k - 1)).Time (gt s.Values k).Time).Hi) (h1.up (d := c + 1000000) (by omega)) (by have := (hb.bu (k - 1) (by omega)).2; dsimp only at this; omega)
    have h3 := mb_u (i := k - 1) (v := gt (rz u k (gt u (k - 1) - (bt s.Shifts (gt s.Values (k - 1)).Time (gt s.Values k).Time).Hi)) k + (bt s.Shifts (gt s.Values (k - 1)).Time (gt s.Values k).Time).Lo) (h2.up (d := c + 2000000) (by omega)) (by have := (h2.bu k hk).2; dsimp only at this; omega)
    have h4 := mb_e (i := k) (v := gt (rz (rz u k (gt u (k - 1) - (bt s.Shifts (gt s.Values (k - 1)).Time (gt s.Values k).Time).Hi)) (k - 1) (gt (rz u k (gt u (k - 1) - (bt s.Shifts (gt s.Values (k - 1)).Time (gt s.Values k).Time).Hi)) k + (bt s.Shifts (gt s.Values (k - 1)).Time (gt s.Values k).Time).Lo)) k + (gt s.Values k).Levels.Lo) (h3.up (d := c + 3000000) (by omega)) (by have := (h3.bu k hk).2; dsimp only at this; omega)
    exact mb_u (h4.up (d := c + 4000000) (by omega)) (by have := (h4.be k hk).2; dsimp only at this; omega)
  · simp only [if_neg hk0]
    have h4 := mb_e (i := k) (v := gt u k + (gt s.Values k).Levels.Lo) (hb.up (d := c + 3000000) (by omega)) (by have := (hb.bu k hk).2; dsimp only at this; omega)
    exact mb_u (h4.up (d := c + 4000000) (by omega)) (by have := (h4.be k hk).2; dsimp only at this; omega)
theorem mb_pass {s : Ser} (h : Ok s) {st : MS} {c : Int} (hb : MB s st c) : ∀ k : Nat, k ≤ s.Values.length → MB s (mPass s k st) (c + k * 4000000)
  | 0, _ => by simpa [mPass] using hb
  | k + 1, hk => by
    have h1 := mb_step h (mb_pass h hb k (by omega)) (k := k) (by omega)
    have he : c + (k : Int) * 4000000 + 4000000 = c + ((k + 1 : Nat) : Int) * 4000000 := by omega
    rw [he] at h1
    exact h1
theorem rz_ge (L : List Int) (i : Nat) (v : Int) {j : Nat} (hj : j < L.length) : gt L j ≤ gt (rz L i v) j := by
  rw [rz_at hj]; split <;> omega
/-- behind a step each level is within its bound of the shifts -/
theorem mu_step {s : Ser} {st : MS} {c : Int} {k : Nat} (hb : MB s st c) (hk : k < s.Values.length) (h : ∀ j, j < k → gt st.1 j - (gt s.Values j).Levels.Hi ≤ gt st.2 j) :
    ∀ j, j < k + 1 → gt (mStep s k st).1 j - (gt s.Values j).Levels.Hi ≤ gt (mStep s k st).2 j := by
  obtain ⟨e, u⟩ := st
  have hle : e.length = s.Values.length := hb.le
  have hlu : u.length = s.Values.length := hb.lu
  intro j hj
  unfold mStep
  dsimp only
  generalize bt s.Shifts (gt s.Values (k - 1)).Time (gt s.Values k).Time = b
  generalize he1 : (if 0 < k then rz e k (gt e (k - 1)) else e) = e1
  generalize hu1 : (if 0 < k then rz u k (gt u (k - 1) - b.Hi) else u) = u1
  generalize hu2 : (if 0 < k then rz u1 (k - 1) (gt u1 k + b.Lo) else u1) = u2
  have l1 : e1.length = s.Values.length := by rw [← he1]; split <;> simp [rz_len, hle]
  have l2 : u1.length = s.Values.length := by rw [← hu1]; split <;> simp [rz_len, hlu]
  have l3 : u2.length = s.Values.length := by rw [← hu2]; split <;> simp [rz_len, l2]
  by_cases hjk : j = k
  · subst hjk
    rw [rz_at (L := u2) (by omega), if_pos rfl]
    omega
  · have hjk' : j < k := by omega
    have e2 : gt (rz e1 k (gt u2 k + (gt s.Values k).Levels.Lo)) j = gt e j := by
      rw [rz_at (by omega), if_neg (by omega), ← he1]
      split
      · rw [rz_at (by omega), if_neg (by omega)]
      · rfl
    have g1 := rz_ge u2 k (gt (rz e1 k (gt u2 k + (gt s.Values k).Levels.Lo)) k - (gt s.Values k).Levels.Hi) (j := j) (by omega)
    have g2 : gt u1 j ≤ gt u2 j := by rw [← hu2]; split; exact rz_ge _ _ _ (by omega); exact Int.le_refl _
    have g3 : gt u j ≤ gt u1 j := by rw [← hu1]; split; exact rz_ge _ _ _ (by omega); exact Int.le_refl _
    have h0 := h j hjk'
    dsimp only at h0
    rw [e2]
    omega
theorem mu_pass {s : Ser} (h : Ok s) {st : MS} {c : Int} (hb : MB s st c) : ∀ k : Nat, k ≤ s.Values.length → ∀ j, j < k → gt (mPass s k st).1 j - (gt s.Values j).Levels.Hi ≤ gt (mPass s k st).2 j
  | 0, _ => fun j hj => absurd hj (Nat.not_lt_zero _)
  | k + 1, hk => mu_step (mb_pass h hb k (by omega)) (by omega) (mu_pass h hb k (by omega))
theorem mb_next {s : Ser} (h : Ok s) {st : MS} (hb : MB s st 800000) (ho : ¬ mOver s (mPass s s.Values.length st).2) : MB s (mPass s s.Values.length st) 800000 := by
  have h1 := mb_pass h hb _ (Nat.le_refl _)
  have h2 := mu_pass h hb _ (Nat.le_refl _)
  have h3 : ∀ j, j < s.Values.length → gt (mPass s s.Values.length st).2 j ≤ 768000 := fun j hj => by
    have hm : ¬ mMost s j < gt (mPass s s.Values.length st).2 j := fun hn => ho ⟨j, hj, hn⟩
    have := btS_bd h (-1) (gt s.Values j).Time
    unfold mMost at hm
    omega
  exact ⟨h1.le, h1.lu, fun j hj => ⟨(h1.be j hj).1, by have := h2 j hj; have := h3 j hj; have := h.vl hj; omega⟩, fun j hj => ⟨(h1.bu j hj).1, by have := h3 j hj; omega⟩⟩
theorem mu_le {s : Ser} (h : Ok s) {st : MS} (hb : MB s st 800000) : mu st ≤ 320000000 := by
  have hn := h.nV
  have h1 := sumN_bd (f := gt st.1) (n := st.1.length) (lo := -2000000) (hi := 800000) (fun i hi => hb.be i (by rw [← hb.le]; exact hi))
  have h2 := sumN_bd (f := gt st.2) (n := st.2.length) (lo := -2000000) (hi := 800000) (fun i hi => hb.bu i (by rw [← hb.lu]; exact hi))
  have := hb.le
  have := hb.lu
  unfold mu tot
  omega
theorem mu_ge {s : Ser} (h : Ok s) {st : MS} {c : Int} (hb : MB s st c) : -800000000 ≤ mu st := by
  have hn := h.nV
  have h1 : (st.1.length : Int) * -2000000 ≤ sumN (gt st.1) st.1.length := by rw [← sumN_const]; exact sumN_le fun i hi => (hb.be i (by rw [← hb.le]; exact hi)).1
  have h2 : (st.2.length : Int) * -2000000 ≤ sumN (gt st.2) st.2.length := by rw [← sumN_const]; exact sumN_le fun i hi => (hb.bu i (by rw [← hb.lu]; exact hi)).1
  have := hb.le
  have := hb.lu
  unfold mu tot
  omega

/-- the state of the passes -/
def MInv (s : Ser) (c : Bool) (st : MS) (F : Nat) : Prop := MB s st 800000 ∧ (c = true → mF s F st = mF s fuelM (mStart s) ∧ 320000000 - mu st < F) ∧ (c = false → mF s fuelM (mStart s) = some (some st.1))
theorem minv_start {s : Ser} (h : Ok s) : MInv s true (mStart s) fuelM := ⟨mb_start h, fun _ => ⟨rfl, by have := mu_ge h (mb_start h); unfold fuelM; omega⟩, fun hc => by cases hc⟩
theorem minv_next {s : Ser} (h : Ok s) {st : MS} {F : Nat} {c : Bool} (hi : MInv s true st F) (ho : ¬ mOver s (mPass s s.Values.length st).2) (hr : RInv st (mPass s s.Values.length st) c) : MInv s c (mPass s s.Values.length st) (F - 1) := by
  obtain ⟨hb, h1, _⟩ := hi
  obtain ⟨h2, h3⟩ := h1 rfl
  have hmu := mu_le h hb
  obtain ⟨G, rfl⟩ : ∃ G, F = G + 1 := ⟨F - 1, by omega⟩
  have hn := mb_next h hb ho
  refine ⟨hn, fun hc => ?_, fun hc => ?_⟩
  · have h4 := hr.1 hc
    have hne : mPass s s.Values.length st ≠ st := fun e => by rw [e] at h4; omega
    rw [← h2, mF, if_neg ho, if_neg hne]
    exact ⟨rfl, by rw [Nat.add_sub_cancel]; omega⟩
  · have h4 := hr.2.1 hc
    rw [← h2, mF, if_neg ho, if_pos h4, h4]
theorem minv_over {s : Ser} (h : Ok s) {st : MS} {F : Nat} (hi : MInv s true st F) (ho : mOver s (mPass s s.Values.length st).2) : monoR s = ([], 3) := by
  obtain ⟨hb, h1, _⟩ := hi
  obtain ⟨h2, h3⟩ := h1 rfl
  have hmu := mu_le h hb
  obtain ⟨G, rfl⟩ : ∃ G, F = G + 1 := ⟨F - 1, by omega⟩
  have : mF s fuelM (mStart s) = some none := by rw [← h2, mF, if_pos ho]
  rw [monoR, if_neg (by rw [h.e]; omega), this]
theorem minv_end {s : Ser} (h : Ok s) {st : MS} {F : Nat} (hi : MInv s false st F) : monoR s = (st.1, 0) := by
  rw [monoR, if_neg (by rw [h.e]; omega), hi.2.2 rfl]
theorem monoR_err {s : Ser} (h : chkE s ≠ 0) : monoR s = ([], chkE s) := by rw [monoR, if_pos h]
end Go.Proofs.C8
/- Century: the examples of the document, reckoned. -/
namespace Go.Proofs.C8
open Go Go.Kx
def wideS : Ser := ⟨[⟨0, ⟨100, 102⟩⟩, ⟨1, ⟨101, 101⟩⟩, ⟨3, ⟨90, 95⟩⟩], [⟨2, ⟨-6, 0⟩⟩]⟩
theorem aw_even : evenR sampleS [100, 101, 90] [-5] = ([100, 101, 95], 0) := by decide +kernel
theorem aw_ext : extR sampleS ⟨0, 3⟩ = (⟨90, 100⟩, ⟨101, 102⟩, 0) := by decide +kernel
theorem aw_rank : rankR sampleS 0 = (⟨0, 2⟩, 0) := by decide +kernel
theorem aw_slope : slopeR sampleS = (⟨-59, 14⟩, ⟨-1, 14⟩, 0) := by decide +kernel
theorem aw_brk : brkR sampleS levelS 1 = ([3], 0) := by decide +kernel
theorem aw_adj : adjR sampleS levelS 3 0 = (⟨-11, -1⟩, 0) := by decide +kernel
theorem aw_stp : stpR sampleS 0 = ([3], 0) := by decide +kernel
theorem aw_fall : fallR sampleS = ([1, 3], 0) := by decide +kernel
theorem aw_chk : chkE sampleS = 0 := by decide +kernel
theorem aw_chkw : chkE wideS = 0 := by decide +kernel
theorem aw_m1 : mF sampleS 9 (mStart sampleS) = some none := by decide +kernel
theorem aw_m2 : mF wideS 9 (mStart wideS) = some (some [100, 101, 101]) := by decide +kernel
theorem fuel9 : fuelM = 9 + 1999999991 := rfl
theorem aw_mono : monoR sampleS = ([], 3) := by
  rw [monoR, if_neg (by rw [aw_chk]; omega), fuel9, mF_more _ aw_m1]
theorem aw_wide : monoR wideS = ([100, 101, 101], 0) := by
  rw [monoR, if_neg (by rw [aw_chkw]; omega), fuel9, mF_more _ aw_m2]
theorem aw_even1 : (evenR sampleS [100, 101, 90] [-5]).1 = [100, 101, 95] := by rw [aw_even]
theorem aw_even2 : (evenR sampleS [100, 101, 90] [-5]).2 = 0 := by rw [aw_even]
theorem aw_ext1 : (extR sampleS ⟨0, 3⟩).1.Lo = 90 := by rw [aw_ext]
theorem aw_ext2 : (extR sampleS ⟨0, 3⟩).1.Hi = 100 := by rw [aw_ext]
theorem aw_ext3 : (extR sampleS ⟨0, 3⟩).2.1.Lo = 101 := by rw [aw_ext]
theorem aw_ext4 : (extR sampleS ⟨0, 3⟩).2.1.Hi = 102 := by rw [aw_ext]
theorem aw_ext5 : (extR sampleS ⟨0, 3⟩).2.2 = 0 := by rw [aw_ext]
theorem aw_rank1 : (rankR sampleS 0).1.Lo = 0 := by rw [aw_rank]
theorem aw_rank2 : (rankR sampleS 0).1.Hi = 2 := by rw [aw_rank]
theorem aw_rank3 : (rankR sampleS 0).2 = 0 := by rw [aw_rank]
theorem aw_slope1 : (slopeR sampleS).1.Num = -59 := by rw [aw_slope]
theorem aw_slope2 : (slopeR sampleS).1.Den = 14 := by rw [aw_slope]
theorem aw_slope3 : (slopeR sampleS).2.1.Num = -1 := by rw [aw_slope]
theorem aw_slope4 : (slopeR sampleS).2.1.Den = 14 := by rw [aw_slope]
theorem aw_slope5 : (slopeR sampleS).2.2 = 0 := by rw [aw_slope]
theorem aw_brk1 : (brkR sampleS levelS 1).1 = [3] := by rw [aw_brk]
theorem aw_brk2 : (brkR sampleS levelS 1).2 = 0 := by rw [aw_brk]
theorem aw_adj1 : (adjR sampleS levelS 3 0).1.Lo = -11 := by rw [aw_adj]
theorem aw_adj2 : (adjR sampleS levelS 3 0).1.Hi = -1 := by rw [aw_adj]
theorem aw_adj3 : (adjR sampleS levelS 3 0).2 = 0 := by rw [aw_adj]
theorem aw_stp1 : (stpR sampleS 0).1 = [3] := by rw [aw_stp]
theorem aw_stp2 : (stpR sampleS 0).2 = 0 := by rw [aw_stp]
theorem aw_stp3 : ((stpR sampleS 0).1.length : Int) = 1 := by rw [aw_stp]; rfl
theorem aw_fall1 : (fallR sampleS).1 = [1, 3] := by rw [aw_fall]
theorem aw_fall2 : (fallR sampleS).2 = 0 := by rw [aw_fall]
theorem aw_mono1 : (monoR sampleS).1 = [] := by rw [aw_mono]
theorem aw_mono2 : (monoR sampleS).2 = 3 := by rw [aw_mono]
theorem aw_wide1 : (monoR wideS).1 = [100, 101, 101] := by rw [aw_wide]
theorem aw_wide2 : (monoR wideS).2 = 0 := by rw [aw_wide]
end Go.Proofs.C8
/- Century: what the statements' own functions compute, in plain Lean. -/
namespace Go.Proofs.C8
open Go Go.Kx

def fewP (s : Ser) : Prop := (s.Values.length ≤ 60 ∨ (200 < s.Values.length ∧ s.Values.length ≤ 400)) ∧ (s.Shifts.length ≤ 20 ∨ (64 < s.Shifts.length ∧ s.Shifts.length ≤ 128))
instance (s : Ser) : Decidable (fewP s) := by unfold fewP; exact inferInstance
def lightP (x : Rl) : Prop := x.Levels.length ≤ 500 ∧ x.Shifts.length ≤ 500
instance (x : Rl) : Decidable (lightP x) := by unfold lightP; exact inferInstance
/-- the ends of all levels and shifts together -/
def endsR (s : Ser) (b : Bool) : Rl := ⟨(List.range s.Values.length).map fun i => if b = true then (gt s.Values i).Levels.Hi else (gt s.Values i).Levels.Lo, (List.range s.Shifts.length).map fun i => if b = true then (gt s.Shifts i).Levels.Lo else (gt s.Shifts i).Levels.Hi⟩
def bestR (s : Ser) (w : Int) (b : Bool) : Rl := ⟨(List.range s.Values.length).map fun (k : Nat) => if decide ((k : Int) = w) = b then (gt s.Values k).Levels.Hi else (gt s.Values k).Levels.Lo,
  (List.range s.Shifts.length).map fun k => if decide ((gt s.Shifts k).Time ≤ (gt s.Values w.toNat).Time) = b then (gt s.Shifts k).Levels.Lo else (gt s.Shifts k).Levels.Hi⟩
def lowerN (l : List Int) (i : Nat) : Nat → Int
  | 0 => 0
  | n + 1 => lowerN l i n + if gt l n < gt l i then 1 else 0
def risesP (l : List Int) : Prop := ∀ i, i < l.length → 0 < i → gt l (i - 1) ≤ gt l i
instance (l : List Int) : Decidable (risesP l) := by unfold risesP; exact inferInstance

/-! ### means -/
def mnN (s : Ser) (l : List Int) (x : Span) (n : Nat) : Int := sumN (fun i => if inT x (gt s.Values i).Time then gt l i else 0) n
def mnD (s : Ser) (x : Span) : Nat → Int
  | 0 => 0
  | n + 1 => mnD s x n + if inT x (gt s.Values n).Time then 1 else 0
def mnE (s : Ser) (l : List Int) (x : Span) : Nat → Span
  | 0 => ⟨1099511627776, -1099511627776⟩
  | n + 1 => if inT x (gt s.Values n).Time then ⟨min (mnE s l x n).Lo (gt l n), max (mnE s l x n).Hi (gt l n)⟩ else mnE s l x n
def mnC (s : Ser) (l : List Int) : Nat := min l.length s.Values.length
def meanR (s : Ser) (l : List Int) (x : Span) : Ratio × Span × Bool := (⟨mnN s l x (mnC s l), mnD s x (mnC s l)⟩, mnE s l x (mnC s l), decide (0 < mnD s x (mnC s l)))
/-! ### parts, greedily -/
def mxL (l : List Int) (a : Nat) : Nat → Int
  | 0 => gt l a
  | n + 1 => max (mxL l a n) (gt l (a + n))
def miL (l : List Int) (a : Nat) : Nat → Int
  | 0 => gt l a
  | n + 1 => min (miL l a n) (gt l (a + n))
/-- the part that begins with a does not reach further than to a + j -/
def ptP (l : List Int) (most : Int) (a j : Nat) : Prop := ¬ (max (mxL l a j) (gt l (a + j)) - min (miL l a j) (gt l (a + j)) ≤ most)
instance (l : List Int) (most : Int) (a : Nat) : DecidablePred (ptP l most a) := fun j => by unfold ptP; exact inferInstance
def ptE (l : List Int) (most : Int) (a : Nat) : Nat := a + first (ptP l most a) (l.length - a)
def ptF (l : List Int) (most : Int) : Nat → Nat → Int
  | 0, _ => 0
  | f + 1, a => if a < l.length then 1 + ptF l most f (ptE l most a) else 0
def ptN (l : List Int) (most : Int) : Int := ptF l most l.length 0
/-! ### told exactly; turned round -/
def toldS (s : Ser) (x : Rl) : Ser := ⟨(List.range s.Values.length).map fun i => ⟨(gt s.Values i).Time, ⟨gt x.Levels i, gt x.Levels i⟩⟩, (List.range s.Shifts.length).map fun i => ⟨(gt s.Shifts i).Time, ⟨gt x.Shifts i, gt x.Shifts i⟩⟩⟩
def toldR (s : Ser) (x : Rl) : Ser × Bool := if keepsE s x.Levels x.Shifts ≠ 0 then (⟨[], []⟩, false) else (toldS s x, true)
def turnS (s : Ser) : Ser := ⟨(List.range s.Values.length).map fun i => ⟨(gt s.Values i).Time, ⟨24000 - (gt s.Values i).Levels.Hi, 24000 - (gt s.Values i).Levels.Lo⟩⟩, (List.range s.Shifts.length).map fun i => ⟨(gt s.Shifts i).Time, ⟨-(gt s.Shifts i).Levels.Hi, -(gt s.Shifts i).Levels.Lo⟩⟩⟩

/-! ### differences -/
def tmL (s : Ser) (c : List A2) : List Int := c.map fun p => (gt s.Values p.a.toNat).Time
def dfL (l m : List Int) (c : List A2) : List Int := c.map fun p => gt l p.a.toNat - gt m p.b.toNat
/-- the common times, when value i of the first series has been held against k values of the second one -/
def comK (s t : Ser) (i k : Nat) : List A2 := if 0 ≤ idxR t (gt s.Values i).Time ∧ idxR t (gt s.Values i).Time < k then comN s t i ++ [⟨(i : Int), idxR t (gt s.Values i).Time⟩] else comN s t i
end Go.Proofs.C8
