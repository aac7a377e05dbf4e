import Derived.Test.YtednficclnjmjaaC8Ref3
/- Century: what the reference computes: common times, breaks. -/
namespace Go.Proofs.C8
open Go Go.Kx

theorem time_up {s : Ser} (h : Ok s) {i : Nat} : ∀ {j : Nat}, i < j → j < s.Values.length → (gt s.Values i).Time < (gt s.Values j).Time
  | 0, h1, _ => absurd h1 (Nat.not_lt_zero _)
  | j + 1, h1, h2 => by
    have h3 := h.vs (i := j + 1) h2 (by omega)
    rw [Nat.add_sub_cancel] at h3
    rcases Nat.lt_succ_iff_lt_or_eq.1 h1 with h4 | h4
    · have := time_up h h4 (by omega); omega
    · subst h4; exact h3
theorem idx_is {t : Ser} (h : Ok t) {k : Nat} (hk : k < t.Values.length) : idxR t (gt t.Values k).Time = (k : Int) :=
  idxR_yes hk (fun j hj => by have := time_up h hj hk; omega) rfl
theorem idx_not {t : Ser} {k : Nat} {x : Int} (hx : ¬ x = (gt t.Values k).Time) : idxR t x ≠ (k : Int) := by
  rcases idxR_cases t x with ⟨h1, _⟩ | ⟨j, h1, h2, h3⟩
  · omega
  · intro h4
    obtain rfl : j = k := by omega
    exact hx h3.symm
def prOf (p : A2) : Pr := ⟨p.a, p.b⟩
def prN (s t : Ser) (n : Nat) : List Pr := (comN s t n).map prOf
def prL (s t : Ser) : List Pr := (comL s t).map prOf
def prI (s t : Ser) (i k : Nat) : List Pr := prN s t i ++ (if 0 ≤ idxR t (gt s.Values i).Time ∧ idxR t (gt s.Values i).Time < k then [⟨i, idxR t (gt s.Values i).Time⟩] else [])
theorem prI_zero (s t : Ser) (i : Nat) : prI s t i 0 = prN s t i := by
  unfold prI
  rw [if_neg (by omega), List.append_nil]
theorem prI_yes {s t : Ser} (h : Ok t) {i k : Nat} (hk : k < t.Values.length) (he : (gt s.Values i).Time = (gt t.Values k).Time) : prI s t i k ++ [⟨i, k⟩] = prI s t i (k + 1) := by
  have hi : idxR t (gt s.Values i).Time = (k : Int) := by rw [he]; exact idx_is h hk
  unfold prI
  rw [hi, if_neg (by omega), if_pos (by omega), List.append_nil]
theorem prI_no {s t : Ser} {i k : Nat} (he : ¬ (gt s.Values i).Time = (gt t.Values k).Time) : prI s t i k = prI s t i (k + 1) := by
  have hi := idx_not he
  unfold prI
  by_cases h : 0 ≤ idxR t (gt s.Values i).Time ∧ idxR t (gt s.Values i).Time < k
  · rw [if_pos h, if_pos (by omega)]
  · rw [if_neg h, if_neg (by omega)]
theorem prI_end {s t : Ser} {i n : Nat} (hn : n = t.Values.length) : prI s t i n = prN s t (i + 1) := by
  have hb := idxR_bd t (gt s.Values i).Time
  unfold prI prN
  rw [comN]
  by_cases h : 0 ≤ idxR t (gt s.Values i).Time
  · rw [if_pos (by omega), if_pos h, List.map_append]; rfl
  · rw [if_neg (by omega), if_neg h, List.append_nil]
theorem prI_len (s t : Ser) (i k : Nat) : (prI s t i k).length ≤ i + 1 := by
  unfold prI prN
  have := comN_len s t i
  split <;> simp <;> omega
theorem prN_len (s t : Ser) (i : Nat) : (prN s t i).length ≤ i := by
  unfold prN
  have := comN_len s t i
  simp
  omega
theorem prL_len (s t : Ser) : (prL s t).length = (comL s t).length := by simp [prL]
theorem prL_at {s t : Ser} {i : Nat} (h : i < (comL s t).length) : gt (prL s t) i = ⟨(gt (comL s t) i).a, (gt (comL s t) i).b⟩ := by
  unfold prL
  simp [gt, List.getD, h, prOf]
end Go.Proofs.C8
/- Century: what the reference computes: differences, chains of common times. -/
namespace Go.Proofs.C8
open Go Go.Kx

def plnS (s t : Ser) (x : Pr) : Span := ⟨(gt s.Values x.s.toNat).Levels.Lo - (gt t.Values x.t.toNat).Levels.Hi, (gt s.Values x.s.toNat).Levels.Hi - (gt t.Values x.t.toNat).Levels.Lo⟩
def shfS (s t : Ser) (a b : Int) : Span := ⟨(bt s.Shifts a b).Lo - (bt t.Shifts a b).Hi, (bt s.Shifts a b).Hi - (bt t.Shifts a b).Lo⟩
def prOk (s t : Ser) (x : Pr) : Prop := (0 ≤ x.s ∧ x.s < s.Values.length) ∧ (0 ≤ x.t ∧ x.t < t.Values.length)
/-- the shifts between two times, whichever is the later one -/
def hopS (s t : Ser) (a b : Int) : Span := if b < a then ⟨0 - (shfS s t (min a b) (max a b)).Hi, 0 - (shfS s t (min a b) (max a b)).Lo⟩ else shfS s t (min a b) (max a b)
def prT (s : Ser) (x : Pr) : Int := (gt s.Values x.s.toNat).Time
def chN (s t : Ser) (l : List Pr) (most : Int) : Nat → Span
  | 0 => ⟨(plnS s t (gt l 0)).Lo - most, (plnS s t (gt l 0)).Hi⟩
  | k + 1 => ⟨max ((chN s t l most k).Lo + (hopS s t (prT s (gt l k)) (prT s (gt l (k + 1)))).Lo) ((plnS s t (gt l (k + 1))).Lo - most), min ((chN s t l most k).Hi + (hopS s t (prT s (gt l k)) (prT s (gt l (k + 1)))).Hi) (plnS s t (gt l (k + 1))).Hi⟩
def chBad (s t : Ser) (l : List Pr) (most : Int) (k : Nat) : Prop := (chN s t l most k).Hi < (chN s t l most k).Lo
instance (s t : Ser) (l : List Pr) (most : Int) : DecidablePred (chBad s t l most) := fun k => by unfold chBad; exact inferInstance
def chR (s t : Ser) (l : List Pr) (most : Int) : Span := chN s t l most (first (chBad s t l most) (l.length - 1))
theorem chN_step {s t : Ser} {l : List Pr} {most : Int} {k : Nat} (h : 0 < k) : chN s t l most k = ⟨max ((chN s t l most (k - 1)).Lo + (hopS s t (prT s (gt l (k - 1))) (prT s (gt l k))).Lo) ((plnS s t (gt l k)).Lo - most), min ((chN s t l most (k - 1)).Hi + (hopS s t (prT s (gt l (k - 1))) (prT s (gt l k))).Hi) (plnS s t (gt l k)).Hi⟩ := by
  obtain ⟨j, rfl⟩ : ∃ j, k = j + 1 := ⟨k - 1, by omega⟩
  rfl
theorem chR_end {s t : Ser} {l : List Pr} {most : Int} {k : Nat} (hk : 1 ≤ k ∧ k ≤ l.length) (h : ∀ j, j + 1 < k → ¬ chBad s t l most j) (he : k < l.length → chBad s t l most (k - 1)) : chR s t l most = chN s t l most (k - 1) := by
  unfold chR
  rcases Nat.lt_or_ge k l.length with h1 | h1
  · rw [first_eq (k := k - 1) (by omega) (fun j hj => h j (by omega)) (he h1)]
  · rw [first_no (fun j hj => h j (by omega)), show l.length = k by omega]
theorem pln_bd {s t : Ser} (hs : Ok s) (ht : Ok t) {x : Pr} (h : prOk s t x) : -24000 ≤ (plnS s t x).Lo ∧ (plnS s t x).Lo ≤ (plnS s t x).Hi ∧ (plnS s t x).Hi ≤ 24000 := by
  have h1 := hs.vl (i := x.s.toNat) (by unfold prOk at h; omega)
  have h2 := ht.vl (i := x.t.toNat) (by unfold prOk at h; omega)
  unfold plnS
  dsimp only
  omega
theorem shf_bd {s t : Ser} (hs : Ok s) (ht : Ok t) (a b : Int) : -1536000 ≤ (shfS s t a b).Lo ∧ (shfS s t a b).Lo ≤ (shfS s t a b).Hi ∧ (shfS s t a b).Hi ≤ 1536000 := by
  have h1 := bt_bd hs a b (Nat.le_refl _)
  have h2 := bt_bd ht a b (Nat.le_refl _)
  unfold shfS bt
  dsimp only
  omega
theorem chN_bd {s t : Ser} (hs : Ok s) (ht : Ok t) {l : List Pr} {most : Int} (hm : 0 ≤ most ∧ most ≤ 24000) {k : Nat} (hk : k < l.length) (h : ∀ j, j < l.length → prOk s t (gt l j)) : -48000 ≤ (chN s t l most k).Lo ∧ (chN s t l most k).Hi ≤ 24000 := by
  have h1 := pln_bd hs ht (h k hk)
  cases k with
  | zero => unfold chN; dsimp only; omega
  | succ k => unfold chN; dsimp only; omega
end Go.Proofs.C8
