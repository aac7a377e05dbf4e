/- Century: windows: what lies within them, and how they look backwards and upside down; in plain Lean. -/
import Derived.Test.YtednficclnjmjaaC8LBreak
namespace Go.Proofs.C8
open Go Go.Kx

/-! ### numbers within a window -/
theorem last_in {w : Win} {most : Int} {a : Nat → Int} {n : Nat} (h1 : ∀ i, i < n → (gt w.levels i).Lo - most ≤ a i ∧ a i ≤ (gt w.levels i).Hi) (h2 : ∀ i, i + 1 < n → (gt w.shifts i).Lo ≤ a (i + 1) - a i ∧ a (i + 1) - a i ≤ (gt w.shifts i).Hi) :
    ∀ i, i < n → (lastAt w most i).Lo ≤ a i ∧ a i ≤ (lastAt w most i).Hi
  | 0, hi => by have := h1 0 hi; simp only [lastAt]; exact this
  | i + 1, hi => by
    have h3 := last_in h1 h2 i (by omega)
    have h4 := h1 (i + 1) hi
    have h5 := h2 i hi
    simp only [lastAt]
    omega
theorem lastR_in {w : Win} {most : Int} {a : Nat → Int} (h0 : 0 < w.levels.length) (h1 : ∀ i, i < w.levels.length → (gt w.levels i).Lo - most ≤ a i ∧ a i ≤ (gt w.levels i).Hi) (h2 : ∀ i, i + 1 < w.levels.length → (gt w.shifts i).Lo ≤ a (i + 1) - a i ∧ a (i + 1) - a i ≤ (gt w.shifts i).Hi) :
    (lastR w most).2 = true ∧ (lastR w most).1.Lo ≤ a (w.levels.length - 1) ∧ a (w.levels.length - 1) ≤ (lastR w most).1.Hi := by
  have hl := last_in (most := most) h1 h2
  have hr : lastR w most = (lastO w most w.levels.length, true) := lastR_ok fun j hj hb => by have := hl j hj; unfold lastBad at hb; omega
  rw [hr, lastO, if_neg (by omega)]
  exact ⟨rfl, hl _ (by omega)⟩
/-- a window that is not empty has bounds in order -/
theorem lastR_order {w : Win} {most : Int} (h0 : 0 < w.levels.length) (hm : 0 ≤ most) (hl : (gt w.levels 0).Lo ≤ (gt w.levels 0).Hi) (h : (lastR w most).2 = true) : (lastR w most).1.Lo ≤ (lastR w most).1.Hi := by
  rcases first_cases (lastBad w most) w.levels.length with ⟨h1, h2⟩ | ⟨h1, h2, h3⟩
  · rw [lastR_ok h2, lastO, if_neg (by omega)]
    rcases Nat.eq_zero_or_pos (w.levels.length - 1) with h4 | h4
    · rw [h4]; simp only [lastAt]; omega
    · have := h2 (w.levels.length - 1) (by omega)
      unfold lastBad at this
      dsimp only
      omega
  · rw [lastR_bad h1 h3 h2] at h; cases h

/-! ### upside down -/
def mirS (c : Int) (x : Span) : Span := ⟨c - x.Hi, c - x.Lo⟩
theorem lastAt_mir {w w' : Win} (c most : Int) (n : Nat) (h1 : ∀ i, i < n → gt w'.levels i = mirS c (gt w.levels i)) (h2 : ∀ i, i + 1 < n → gt w'.shifts i = mirS 0 (gt w.shifts i)) : ∀ i, i < n → lastAt w' most i = mirS (c - most) (lastAt w most i)
  | 0, hi => by simp only [lastAt]; rw [h1 0 hi]; simp only [mirS, Span.mk.injEq]; omega
  | i + 1, hi => by
    have h3 := lastAt_mir c most n h1 h2 i (by omega)
    simp only [lastAt]
    rw [h1 _ hi, h2 i hi, h3]
    simp only [mirS, Span.mk.injEq]
    omega
theorem lastR_mir {w w' : Win} (c most : Int) (hl : w'.levels.length = w.levels.length) (h0 : 0 < w.levels.length) (h1 : ∀ i, i < w.levels.length → gt w'.levels i = mirS c (gt w.levels i)) (h2 : ∀ i, i + 1 < w.levels.length → gt w'.shifts i = mirS 0 (gt w.shifts i)) :
    lastR w' most = (mirS (c - most) (lastR w most).1, (lastR w most).2) := by
  have h3 := lastAt_mir c most _ h1 h2
  have hb : ∀ j, j < w.levels.length → (lastBad w' most j ↔ lastBad w most j) := fun j hj => by
    unfold lastBad
    rw [h3 j hj]
    simp only [mirS]
    omega
  rcases first_cases (lastBad w most) w.levels.length with ⟨_, h5⟩ | ⟨h4, h5, h6⟩
  · rw [lastR_ok h5, lastR_ok (fun j hj hn => h5 j (by omega) ((hb j (by omega)).1 hn)), lastO, lastO, hl, if_neg (by omega), if_neg (by omega), h3 _ (by omega)]
  · rw [lastR_bad h4 h6 h5, lastR_bad (k := first (lastBad w most) w.levels.length) (by omega) (fun j hj hn => h6 j hj ((hb j (by omega)).1 hn)) ((hb _ h4).2 h5), h3 _ h4]

/-! ### lists that rise -/
def incL (A : List Int) : Prop := ∀ i j, i < j → j < A.length → gt A i < gt A j
theorem inc_tail {x : Int} {A : List Int} (h : incL (x :: A)) : incL A := fun i j hij hj => by
  have := h (i + 1) (j + 1) (by omega) (by simpa using hj)
  simpa [gt_succ] using this
theorem mem_gt {α : Type} [Inhabited α] {A : List α} {x : α} (h : x ∈ A) : ∃ i, i < A.length ∧ gt A i = x := by
  obtain ⟨i, hi, rfl⟩ := List.getElem_of_mem h
  exact ⟨i, hi, by have := gt_eq hi; rw [List.getElem?_eq_getElem hi] at this; exact (Option.some.inj this).symm⟩
theorem inc_head {x y : Int} {A : List Int} (h : incL (x :: A)) (hy : y ∈ A) : x < y := by
  obtain ⟨i, hi, rfl⟩ := mem_gt hy
  have := h 0 (i + 1) (by omega) (by simpa using hi)
  simpa [gt_succ, gt_zero] using this
theorem inc_eq : ∀ {A B : List Int}, incL A → incL B → (∀ x, x ∈ A ↔ x ∈ B) → A = B
  | [], [], _, _, _ => rfl
  | [], y :: B, _, _, h => by have := (h y).2 (by simp); cases this
  | x :: A, [], _, _, h => by have := (h x).1 (by simp); cases this
  | x :: A, y :: B, ha, hb, h => by
    have hxy : x = y := by
      rcases List.mem_cons.1 ((h x).1 (by simp)) with h1 | h1
      · exact h1
      · rcases List.mem_cons.1 ((h y).2 (by simp)) with h2 | h2
        · exact h2.symm
        · have := inc_head ha h2; have := inc_head hb h1; omega
    subst hxy
    congr 1
    refine inc_eq (inc_tail ha) (inc_tail hb) fun z => ⟨fun hz => ?_, fun hz => ?_⟩
    · rcases List.mem_cons.1 ((h z).1 (List.mem_cons_of_mem _ hz)) with h1 | h1
      · subst h1; have := inc_head ha hz; omega
      · exact h1
    · rcases List.mem_cons.1 ((h z).2 (List.mem_cons_of_mem _ hz)) with h1 | h1
      · subst h1; have := inc_head hb hz; omega
      · exact h1

/-! ### common times, either way round -/
theorem tmL_inc {s t : Ser} (hs : Ok s) : incL (tmL s (comL s t)) := fun i j hij hj => by
  rw [tm_len] at hj
  rw [tm_at _ (by omega), tm_at _ hj]
  exact difT_up (t := t) hs hij hj
theorem com_at {s t : Ser} {n : Nat} (h : n < (comL s t).length) : comP s t (gt (comL s t) n) s.Values.length := comN_at s t _ n h
theorem comN_has {s t : Ser} : ∀ (n : Nat) {i k : Nat}, i < n → idxR t (gt s.Values i).Time = (k : Int) → (⟨(i : Int), (k : Int)⟩ : A2) ∈ comN s t n
  | 0, i, k, hi, _ => by omega
  | n + 1, i, k, hi, hk => by
    rcases Nat.lt_succ_iff_lt_or_eq.1 hi with h1 | h1
    · have := comN_has n h1 hk
      simp only [comN]
      split
      · exact List.mem_append_left _ this
      · exact this
    · subst h1
      rw [comN, if_pos (by omega), hk]
      simp
theorem tmL_mem {s t : Ser} (ht : Ok t) {x : Int} : x ∈ tmL s (comL s t) ↔ ∃ i k, i < s.Values.length ∧ k < t.Values.length ∧ (gt s.Values i).Time = x ∧ (gt t.Values k).Time = x := by
  constructor
  · intro h
    obtain ⟨n, hn, rfl⟩ := mem_gt h
    rw [tm_len] at hn
    rw [tm_at _ hn]
    obtain ⟨i, k, h1, h2, h3, h4, h5⟩ := com_at hn
    exact ⟨i, k, h3, h4, by rw [h1]; simp, by rw [h1, ← h5]; simp⟩
  · rintro ⟨i, k, hi, hk, h1, h2⟩
    have h3 := comN_has (s := s) (t := t) s.Values.length hi (idx_uniq ht hk (by omega))
    exact List.mem_map.2 ⟨_, h3, by simpa using h1⟩
theorem tmL_swap {s t : Ser} (hs : Ok s) (ht : Ok t) : tmL t (comL t s) = tmL s (comL s t) :=
  inc_eq (tmL_inc ht) (tmL_inc hs) fun x => by
    rw [tmL_mem hs, tmL_mem ht]
    exact ⟨fun ⟨i, k, h1, h2, h3, h4⟩ => ⟨k, i, h2, h1, h4, h3⟩, fun ⟨i, k, h1, h2, h3, h4⟩ => ⟨k, i, h2, h1, h4, h3⟩⟩
theorem com_swap {s t : Ser} (hs : Ok s) (ht : Ok t) : (comL t s).length = (comL s t).length ∧ ∀ n, n < (comL s t).length → (gt (comL t s) n).a = (gt (comL s t) n).b ∧ (gt (comL t s) n).b = (gt (comL s t) n).a := by
  have h := tmL_swap hs ht
  have hl : (comL t s).length = (comL s t).length := by rw [← tm_len t, ← tm_len s, h]
  refine ⟨hl, fun n hn => ?_⟩
  obtain ⟨i, k, h1, h2, h3, h4, h5⟩ := com_at hn
  obtain ⟨i', k', g1, g2, g3, g4, g5⟩ := com_at (s := t) (t := s) (n := n) (by omega)
  have e1 := tm_at t (c := comL t s) (i := n) (by omega)
  have e2 := tm_at s (c := comL s t) (i := n) hn
  rw [h, e2, h1, g1] at e1
  simp only [Int.toNat_natCast] at e1
  have e3 := idx_uniq hs h3 (x := (gt s.Values i).Time) rfl
  have e4 := idx_uniq hs g4 (x := (gt s.Values i).Time) (by omega)
  have e5 := idx_uniq ht h4 (x := (gt s.Values i).Time) h5.symm
  have e6 := idx_uniq ht g3 (x := (gt s.Values i).Time) (by omega)
  omega
end Go.Proofs.C8
