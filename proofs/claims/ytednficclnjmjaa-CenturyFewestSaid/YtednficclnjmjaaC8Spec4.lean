import Derived.Test.YtednficclnjmjaaC8Spec3
/- Century: differences and adjustments, in plain Lean. -/
namespace Go.Proofs.C8
open Go Go.Kx

/-- the first number from a time on, among k that have been seen -/
def DifI (s t : Ser) (time : Int) (k : Nat) (f : Int) : Prop := (∀ j : Nat, j < k → time ≤ difT s t j → f ≤ j) ∧ (f = (comL s t).length ∨ (0 ≤ f ∧ f < k ∧ time ≤ difT s t f.toNat))
theorem dif_start (s t : Ser) (time : Int) : DifI s t time 0 ((comL s t).length : Int) := ⟨fun _ hj => absurd hj (Nat.not_lt_zero _), .inl rfl⟩
theorem dif_yes {s t : Ser} {time : Int} {k : Nat} {f : Int} (h : DifI s t time k f) (hk : k < (comL s t).length) (ht : time ≤ difT s t k) : DifI s t time (k + 1) (min f k) := by
  refine ⟨fun j hj h1 => ?_, ?_⟩
  · rcases Nat.lt_succ_iff_lt_or_eq.1 hj with h2 | h2
    · have := h.1 j h2 h1; omega
    · subst h2; omega
  · rcases h.2 with h1 | ⟨h1, h2, h3⟩
    · right
      have : min f (k : Int) = k := by omega
      rw [this]
      exact ⟨by omega, by omega, by simpa using ht⟩
    · right
      have : min f (k : Int) = f := by omega
      rw [this]
      exact ⟨h1, by omega, h3⟩
theorem dif_no {s t : Ser} {time : Int} {k : Nat} {f : Int} (h : DifI s t time k f) (ht : ¬ time ≤ difT s t k) : DifI s t time (k + 1) f := by
  refine ⟨fun j hj h1 => ?_, ?_⟩
  · rcases Nat.lt_succ_iff_lt_or_eq.1 hj with h2 | h2
    · exact h.1 j h2 h1
    · subst h2; exact absurd h1 ht
  · rcases h.2 with h1 | ⟨h1, h2, h3⟩
    · exact .inl h1
    · exact .inr ⟨h1, by omega, h3⟩
theorem dif_end {s t : Ser} {time : Int} {f : Int} (h : DifI s t time (comL s t).length f) : f = (difF s t time : Int) := by
  unfold difF
  rcases h.2 with h1 | ⟨h1, h2, h3⟩
  · rw [first_no (fun j hj h2 => by have := h.1 j hj h2; omega)]; exact h1
  · rw [first_eq (k := f.toNat) (by omega) (fun j hj h4 => by have := h.1 j (by omega) h4; omega) h3]; omega
theorem dif_len (s t : Ser) (time : Int) : difF s t time ≤ (comL s t).length := by
  rcases first_cases (fun n => time ≤ difT s t n) (comL s t).length with h | h <;> unfold difF <;> omega
theorem dif_snoc {s t : Ser} {k : Nat} (h : 0 < k) : (List.range (k - 1)).map (difX s t) ++ [Span.mk ((bt s.Shifts (difT s t (k - 1)) (difT s t k)).Lo - (bt t.Shifts (difT s t (k - 1)) (difT s t k)).Hi) ((bt s.Shifts (difT s t (k - 1)) (difT s t k)).Hi - (bt t.Shifts (difT s t (k - 1)) (difT s t k)).Lo)] = (List.range (k + 1 - 1)).map (difX s t) := by
  obtain ⟨e, rfl⟩ : ∃ e, k = e + 1 := ⟨k - 1, by omega⟩
  rw [show e + 1 + 1 - 1 = e + 1 by omega, ← map_succ]
  rfl
theorem btS_bd {s : Ser} (h : Ok s) (a b : Int) : -768000 ≤ (bt s.Shifts a b).Lo ∧ (bt s.Shifts a b).Lo ≤ (bt s.Shifts a b).Hi ∧ (bt s.Shifts a b).Hi ≤ 768000 := bt_bd h a b (Nat.le_refl _)
theorem dif_w {s t : Ser} (hs : Ok s) (ht : Ok t) : WinW (difW s t) := by
  have hl : (difW s t).levels.length = (comL s t).length := map_len _ _
  have hx : (difW s t).shifts.length = (comL s t).length - 1 := map_len _ _
  have hc := comL_len s t
  have hn := hs.nV
  refine ⟨by omega, by omega, fun i hi => ?_, fun i hi => ?_⟩
  · unfold difW
    dsimp only
    rw [gt_map (by omega)]
    have hb := com_bd (s := s) (t := t) (n := i) (by omega)
    have h1 := hs.vl (i := (gt (comL s t) i).a.toNat) (by omega)
    have h2 := ht.vl (i := (gt (comL s t) i).b.toNat) (by omega)
    unfold difV
    dsimp only
    omega
  · unfold difW
    dsimp only
    rw [gt_map (by omega)]
    have h1 := bt_bd hs (difT s t i) (difT s t (i + 1)) (Nat.le_refl _)
    have h2 := bt_bd ht (difT s t i) (difT s t (i + 1)) (Nat.le_refl _)
    unfold difX bt
    dsimp only
    omega
theorem gt_drop_take {α : Type} [Inhabited α] (L : List α) {a n i : Nat} (h : i < n) : gt ((L.drop a).take n) i = gt L (a + i) := by
  simp only [gt, List.getD]
  rw [List.getElem?_take, if_pos h, List.getElem?_drop]
theorem part_w {w : Win} (h : WinW w) {a b : Nat} (hb : b ≤ w.levels.length) (h0 : a < b) : WinW (winPart w a b) := by
  have hn := h.n
  have hl := h.l
  have e1 : (winPart w a b).levels.length = b - a := by simp [winPart]; omega
  have e2 : (winPart w a b).shifts.length = b - 1 - a := by simp [winPart]; omega
  refine ⟨by omega, by omega, fun i hi => ?_, fun i hi => ?_⟩
  · unfold winPart
    dsimp only
    rw [gt_drop_take _ (by omega)]
    exact h.lb _ (by omega)
  · unfold winPart
    dsimp only
    rw [gt_drop_take _ (by omega)]
    exact h.xb _ (by omega)
theorem gt_rev {α : Type} [Inhabited α] (L : List α) {i : Nat} (h : i < L.length) : gt L.reverse i = gt L (L.length - 1 - i) := by
  simp only [gt, List.getD]
  rw [List.getElem?_reverse h]
theorem gt_mapL {α β : Type} [Inhabited α] [Inhabited β] (f : α → β) (L : List α) {i : Nat} (h : i < L.length) : gt (L.map f) i = f (gt L i) := by
  simp [gt, List.getD, List.getElem?_eq_getElem h]
theorem turn_w {w : Win} (h : WinW w) : WinW (winTurn w) := by
  have e1 : (winTurn w).levels.length = w.levels.length := by simp [winTurn]
  have e2 : (winTurn w).shifts.length = w.shifts.length := by simp [winTurn]
  have hn := h.n
  have hl := h.l
  refine ⟨by omega, by omega, fun i hi => ?_, fun i hi => ?_⟩
  · unfold winTurn
    dsimp only
    rw [gt_rev _ (by omega)]
    exact h.lb _ (by omega)
  · unfold winTurn
    dsimp only
    rw [gt_mapL _ _ (by simp; omega), gt_rev _ (by omega)]
    have := h.xb (w.shifts.length - 1 - i) (by omega)
    dsimp only
    omega
/-- turning a slice round, when i pairs have been exchanged -/
def RevI (L : List Span) (i : Nat) (M : List Span) : Prop := M.length = L.length ∧ ∀ q, q < L.length → gt M q = if q < i ∨ L.length - 1 - i < q then gt L (L.length - 1 - q) else gt L q
theorem rev_start (L : List Span) : RevI L 0 L := ⟨rfl, fun q hq => by rw [if_neg (by omega)]⟩
theorem gt_set {α : Type} [Inhabited α] (L : List α) {a b : Nat} (x : α) (hb : b < L.length) : gt (L.set a x) b = if a = b then x else gt L b := by
  simp only [gt, List.getD, List.getElem?_set]
  split
  · subst_vars; simp [hb]
  · rfl
theorem rev_step {L M : List Span} {i j : Nat} (h : RevI L i M) (hj : j = L.length - 1 - i) (hij : i < j) (hl : i < L.length) : RevI L (i + 1) ((M.set i (gt M j)).set j (gt M i)) := by
  refine ⟨by simp [h.1], fun q hq => ?_⟩
  have h0 := h.1
  rw [gt_set _ _ (by simp; omega), gt_set _ _ (by omega)]
  by_cases h1 : j = q
  · rw [if_pos h1, if_pos (by omega), h.2 i hl, if_neg (by omega)]
    congr 1; omega
  · rw [if_neg h1]
    by_cases h2 : i = q
    · rw [if_pos h2, if_pos (by omega), h.2 j (by omega), if_neg (by omega)]
      congr 1; omega
    · rw [if_neg h2, h.2 q hq]
      by_cases h3 : q < i ∨ L.length - 1 - i < q
      · rw [if_pos h3, if_pos (by omega)]
      · rw [if_neg h3, if_neg (by omega)]
theorem rev_end {L M : List Span} {i : Nat} (h : RevI L i M) (hij : (L.length : Int) - 1 - i ≤ i) : M = L.reverse := by
  apply ext_gt
  · simp [h.1]
  · intro q hq
    rw [h.1] at hq
    rw [h.2 q hq, gt_rev L hq]
    split
    · rfl
    · congr 1; omega
/-- the opposite shifts, when k of them have been turned -/
def NegI (L : List Span) (k : Nat) (M : List Span) : Prop := M.length = L.length ∧ ∀ q, q < L.length → gt M q = if q < k then ⟨-(gt L q).Hi, -(gt L q).Lo⟩ else gt L q
theorem neg_start (L : List Span) : NegI L 0 L := ⟨rfl, fun q _ => by rw [if_neg (by omega)]⟩
theorem neg_at {L M : List Span} {k : Nat} (h : NegI L k M) (hk : k < L.length) : gt M k = gt L k := by rw [h.2 k hk, if_neg (by omega)]
theorem neg_step {L M : List Span} {k : Nat} (h : NegI L k M) (hk : k < L.length) : NegI L (k + 1) (M.set k ⟨-(gt M k).Hi, -(gt M k).Lo⟩) := by
  refine ⟨by simp [h.1], fun q hq => ?_⟩
  rw [gt_set _ _ (by rw [h.1]; exact hq)]
  by_cases h1 : k = q
  · subst h1; rw [if_pos rfl, if_pos (by omega), neg_at h hk]
  · rw [if_neg h1, h.2 q hq]
    by_cases h2 : q < k
    · rw [if_pos h2, if_pos (by omega)]
    · rw [if_neg h2, if_neg (by omega)]
theorem neg_end {L M : List Span} (h : NegI L L.length M) : M = L.map fun x => ⟨-x.Hi, -x.Lo⟩ := by
  apply ext_gt
  · simp [h.1]
  · intro q hq
    rw [h.1] at hq
    rw [h.2 q hq, if_pos hq, gt_mapL _ _ hq]
theorem adj_err {s t : Ser} {time most : Int} (h : twoE s t ≠ 0) : adjR s t time most = (⟨0, 0⟩, twoE s t) := by rw [adjR, if_pos h]
theorem adj_arg {s t : Ser} {time most : Int} (h : twoE s t = 0) (h1 : ¬ ((0 ≤ time ∧ time ≤ 10000) ∧ (0 ≤ most ∧ most ≤ 24000))) : adjR s t time most = (⟨0, 0⟩, 1) := by rw [adjR, if_neg (by omega), if_pos h1]
theorem adj_none {s t : Ser} {time most : Int} (h : twoE s t = 0) (h1 : (0 ≤ time ∧ time ≤ 10000) ∧ (0 ≤ most ∧ most ≤ 24000)) (h2 : difF s t time = 0 ∨ difF s t time = (comL s t).length) : adjR s t time most = (⟨0, 0⟩, 3) := by
  rw [adjR, if_neg (by omega), if_neg (by omega), if_pos h2]
theorem adj_bad {s t : Ser} {time most : Int} (h : twoE s t = 0) (h1 : (0 ≤ time ∧ time ≤ 10000) ∧ (0 ≤ most ∧ most ≤ 24000)) (h2 : ¬ (difF s t time = 0 ∨ difF s t time = (comL s t).length))
    (h3 : (adjA s t time most).2 = false ∨ (adjB s t time most).2 = false) : adjR s t time most = (⟨0, 0⟩, 3) := by
  rw [adjR, if_neg (by omega), if_neg (by omega), if_neg h2, if_pos h3]
theorem adj_ok {s t : Ser} {time most : Int} (h : twoE s t = 0) (h1 : (0 ≤ time ∧ time ≤ 10000) ∧ (0 ≤ most ∧ most ≤ 24000)) (h2 : ¬ (difF s t time = 0 ∨ difF s t time = (comL s t).length))
    (h3 : (adjA s t time most).2 = true) (h4 : (adjB s t time most).2 = true) : adjR s t time most = (⟨(adjB s t time most).1.Lo - (adjA s t time most).1.Hi - (gt (difW s t).shifts (difF s t time - 1)).Hi, (adjB s t time most).1.Hi - (adjA s t time most).1.Lo - (gt (difW s t).shifts (difF s t time - 1)).Lo⟩, 0) := by
  rw [adjR, if_neg (by omega), if_neg (by omega), if_neg h2, if_neg (by rw [h3, h4]; simp)]
theorem lastR_bd {w : Win} (h : WinW w) {most : Int} (hm : 0 ≤ most ∧ most ≤ 24000) :
    (-500000000 ≤ (lastR w most).1.Lo ∧ (lastR w most).1.Lo ≤ 500000000) ∧ (-500000000 ≤ (lastR w most).1.Hi ∧ (lastR w most).1.Hi ≤ 500000000) := by
  have hn := h.n
  unfold lastR
  split
  · rename_i h1
    have := lastAt_bd h hm _ h1
    dsimp only; omega
  · split
    · dsimp only; omega
    · have := lastAt_bd h hm (w.levels.length - 1) (by omega)
      dsimp only; omega
end Go.Proofs.C8
/- Century: extremes, in plain Lean. -/
namespace Go.Proofs.C8
open Go Go.Kx
theorem evsL_at {s : Ser} {k : Nat} (hk : k < s.Values.length) : gt (evsL s) k = evS s k := gt_map hk
theorem ext_one' {s : Ser} {x : Span} {k : Nat} (hk : k < s.Values.length) (h : inT x (gt s.Values k).Time) (hf : (extN s x k).2.2 = false) : extN s x (k + 1) =
    (⟨min (gt (evsL s) k).Lo (gt (evsL s) k).Lo, min (gt (evsL s) k).Hi (gt (evsL s) k).Hi⟩, ⟨max (gt (evsL s) k).Lo (gt (evsL s) k).Lo, max (gt (evsL s) k).Hi (gt (evsL s) k).Hi⟩, true) := by
  rw [ext_one h hf, evsL_at hk]
  simp [Int.min_self, Int.max_self]
theorem ext_more' {s : Ser} {x : Span} {k : Nat} (hk : k < s.Values.length) (h : inT x (gt s.Values k).Time) (hf : (extN s x k).2.2 = true) : extN s x (k + 1) =
    (⟨min (extN s x k).1.Lo (gt (evsL s) k).Lo, min (extN s x k).1.Hi (gt (evsL s) k).Hi⟩, ⟨max (extN s x k).2.1.Lo (gt (evsL s) k).Lo, max (extN s x k).2.1.Hi (gt (evsL s) k).Hi⟩, true) := by
  rw [ext_more h hf, evsL_at hk]
theorem len1 {vs : List Value} (h : vs.length = 1) : ∃ x, vs = [x] := by
  match vs, h with
  | [x], _ => exact ⟨x, rfl⟩
theorem extR_err {s : Ser} {x : Span} (h : chkE s ≠ 0) : extR s x = (⟨0, 0⟩, ⟨0, 0⟩, chkE s) := by rw [extR, if_pos h]
theorem extR_arg {s : Ser} {x : Span} (h : chkE s = 0) (h1 : ¬ spOk x 0 10000) : extR s x = (⟨0, 0⟩, ⟨0, 0⟩, 1) := by rw [extR, if_neg (by omega), if_pos h1]
theorem extR_ok {s : Ser} {x : Span} (h : chkE s = 0) (h1 : spOk x 0 10000) (h2 : (extN s x s.Values.length).2.2 = true) : extR s x = ((extN s x s.Values.length).1, (extN s x s.Values.length).2.1, 0) := by
  rw [extR, if_neg (by omega), if_neg (fun hn => hn h1), if_pos h2]
theorem extR_none {s : Ser} {x : Span} (h : chkE s = 0) (h1 : spOk x 0 10000) (h2 : (extN s x s.Values.length).2.2 = false) : extR s x = (⟨0, 0⟩, ⟨0, 0⟩, 3) := by
  rw [extR, if_neg (by omega), if_neg (fun hn => hn h1), if_neg (by simp [h2])]
end Go.Proofs.C8
