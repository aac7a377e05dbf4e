import Derived.Test.YtednficclnjmjaaC8LFall
import Derived.Test.YtednficclnjmjaaC8Ref6
/- Century: how the reference finds the least rising levels, in plain Lean: its rounds come to rest in time. -/
namespace Go.Proofs.C8
open Go Go.Kx

/-! ### what the program finds is the least solution of all -/
theorem rz_grow {L : List Int} {i j : Nat} {v : Int} (hj : j < L.length) : gt L j ≤ gt (rz L i v) j := by
  rw [rz_at hj]; split <;> omega
theorem rz_got {L : List Int} {i : Nat} {v : Int} (hi : i < L.length) : v ≤ gt (rz L i v) i := by
  rw [rz_at hi, if_pos rfl]; omega
theorem mStep_grow {s : Ser} {st : MS} {k : Nat} (h1 : st.1.length = s.Values.length) (h2 : st.2.length = s.Values.length) :
    ((mStep s k st).1.length = s.Values.length ∧ (mStep s k st).2.length = s.Values.length) ∧ ∀ j, j < s.Values.length → gt st.2 j ≤ gt (mStep s k st).2 j := by
  obtain ⟨e, u⟩ := st
  dsimp only at h1 h2
  by_cases h0 : 0 < k
  · unfold mStep
    dsimp only
    simp only [if_pos h0]
    generalize bt s.Shifts (gt s.Values (k - 1)).Time (gt s.Values k).Time = b
    refine ⟨⟨by simp only [rz_len]; exact h1, by simp only [rz_len]; exact h2⟩, fun j hj => ?_⟩
    refine Int.le_trans ?_ (rz_grow (by simp only [rz_len]; omega))
    refine Int.le_trans ?_ (rz_grow (by simp only [rz_len]; omega))
    exact rz_grow (by omega)
  · unfold mStep
    dsimp only
    simp only [if_neg h0]
    refine ⟨⟨by simp only [rz_len]; exact h1, by simp only [rz_len]; exact h2⟩, fun j hj => ?_⟩
    exact rz_grow (by omega)
theorem mPass_grow {s : Ser} {st : MS} (h1 : st.1.length = s.Values.length) (h2 : st.2.length = s.Values.length) : ∀ k : Nat,
    ((mPass s k st).1.length = s.Values.length ∧ (mPass s k st).2.length = s.Values.length) ∧ ∀ j, j < s.Values.length → gt st.2 j ≤ gt (mPass s k st).2 j
  | 0 => ⟨⟨h1, h2⟩, fun _ _ => Int.le_refl _⟩
  | k + 1 => by
    obtain ⟨⟨a1, a2⟩, a3⟩ := mPass_grow h1 h2 k
    obtain ⟨b1, b2⟩ := mStep_grow (k := k) a1 a2
    exact ⟨b1, fun j hj => Int.le_trans (a3 j hj) (b2 j hj)⟩
theorem mF_cases2 {s : Ser} (h : Ok s) : ∀ (f : Nat) {st : MS}, MB s st 800000 → 320000000 - mu st < f →
    (mF s f st = some none ∧ ∀ e u, Sol s e u → ¬ belowS s st e u) ∨
    (∃ e u, mF s f st = some (some e) ∧ MB s (e, u) 800000 ∧ ¬ mOver s u ∧ (∀ j, j < s.Values.length → fixAt s j (e, u)) ∧ (∀ j, j < s.Values.length → gt st.2 j ≤ gt u j) ∧ ∀ e' u', Sol s e' u' → belowS s st e' u' → belowS s (e, u) e' u')
  | 0, st, hb, hf => by have := mu_le h hb; omega
  | f + 1, st, hb, hf => by
    have hmu := mu_le h hb
    have hp := pass_mu hb.le hb.lu _ (Nat.le_refl _)
    have hg := mPass_grow hb.le hb.lu s.Values.length
    rw [mF]
    by_cases ho : mOver s (mPass s s.Values.length st).2
    · rw [if_pos ho]
      refine .inl ⟨rfl, fun e u hs hbl => ?_⟩
      obtain ⟨i, hi, hov⟩ := ho
      have h1 := (pass_below hs hbl _ (Nat.le_refl _)).2.2 i hi
      have h2 := hs.mo i hi
      omega
    · rw [if_neg ho]
      by_cases he : mPass s s.Values.length st = st
      · rw [if_pos he]
        have h1 := (hp.2.2 (by rw [he]; exact Int.le_refl _)).2
        rw [he] at ho
        exact .inr ⟨st.1, st.2, rfl, hb, ho, h1, fun _ _ => Int.le_refl _, fun _ _ _ hbl => hbl⟩
      · rw [if_neg he]
        have hn := mb_next h hb ho
        have hlt : mu st < mu (mPass s s.Values.length st) := by
          apply Classical.byContradiction
          intro hc
          exact he (hp.2.2 (by omega)).1
        rcases mF_cases2 h f hn (by omega) with ⟨h1, h2⟩ | ⟨e, u, h1, h3, h4, h5, h7, h6⟩
        · exact .inl ⟨h1, fun e u hs hbl => h2 e u hs (pass_below hs hbl _ (Nat.le_refl _))⟩
        · exact .inr ⟨e, u, h1, h3, h4, h5, fun j hj => Int.le_trans (hg.2 j hj) (h7 j hj), fun e' u' hs hbl => h6 e' u' hs (pass_below hs hbl _ (Nat.le_refl _))⟩
/-- either there is none, or the least one -/
theorem mono_best {s : Ser} (h : Ok s) : (monoR s = ([], 3) ∧ ∀ e u, ¬ Sol s e u) ∨ (∃ e u, monoR s = (e, 0) ∧ e.length = s.Values.length ∧ u.length = s.Values.length ∧ Sol s (gt e) (gt u) ∧ ∀ e' u', Sol s e' u' → ∀ i, i < s.Values.length → gt e i ≤ e' i ∧ gt u i ≤ u' i) := by
  have hb := mb_start h
  have hm := mu_ge h hb
  rcases mF_cases2 h fuelM hb (by unfold fuelM; omega) with ⟨h1, h2⟩ | ⟨e, u, h1, h3, h4, h5, h7, h6⟩
  · left
    exact ⟨by rw [monoR, if_neg (by rw [h.e]; omega), h1], fun e u hs => h2 e u hs (start_below hs)⟩
  · right
    refine ⟨e, u, by rw [monoR, if_neg (by rw [h.e]; omega), h1], h3.le, h3.lu, ?_, fun e' u' hs i hi => (h6 e' u' hs (start_below hs)).2.2 i hi⟩
    refine ⟨fun i hi => (h5 i hi).2.1, fun i hi => (h5 i hi).2.2, fun i hi h0 => ((h5 i hi).1 h0).1, fun i hi h0 => ((h5 i hi).1 h0).2.1, fun i hi h0 => ((h5 i hi).1 h0).2.2, fun i hi => ?_, fun i hi => ?_⟩
    · have : ¬ mMost s i < gt u i := fun hn => h4 ⟨i, hi, hn⟩
      omega
    · have h8 := h7 i hi
      unfold mStart at h8
      dsimp only at h8
      rw [gt_map hi] at h8
      exact h8
/-- what is asked of the first sum, and of each pair, makes a solution -/
theorem mk_sol {s : Ser} (h : Ok s) {e u : Nat → Int} (lo : ∀ i, i < s.Values.length → u i + (gt s.Values i).Levels.Lo ≤ e i) (hi : ∀ i, i < s.Values.length → e i - (gt s.Values i).Levels.Hi ≤ u i)
    (up : ∀ i, i < s.Values.length → 0 < i → e (i - 1) ≤ e i) (x1 : ∀ i, i < s.Values.length → 0 < i → u (i - 1) - (bt s.Shifts (gt s.Values (i - 1)).Time (gt s.Values i).Time).Hi ≤ u i)
    (x2 : ∀ i, i < s.Values.length → 0 < i → u i + (bt s.Shifts (gt s.Values (i - 1)).Time (gt s.Values i).Time).Lo ≤ u (i - 1))
    (f0 : 0 < s.Values.length → u 0 ≤ - (bt s.Shifts (-1) (gt s.Values 0).Time).Lo) (f1 : 0 < s.Values.length → - (bt s.Shifts (-1) (gt s.Values 0).Time).Hi ≤ u 0) : Sol s e u := by
  have bs : ∀ i, i < s.Values.length → 0 < i → (bt s.Shifts (-1) (gt s.Values i).Time).Lo = (bt s.Shifts (-1) (gt s.Values (i - 1)).Time).Lo + (bt s.Shifts (gt s.Values (i - 1)).Time (gt s.Values i).Time).Lo ∧
      (bt s.Shifts (-1) (gt s.Values i).Time).Hi = (bt s.Shifts (-1) (gt s.Values (i - 1)).Time).Hi + (bt s.Shifts (gt s.Values (i - 1)).Time (gt s.Values i).Time).Hi := fun i hi h0 => by
    have h1 := h.vs hi h0
    have h2 := (h.vt (i := i - 1) (by omega)).1
    exact bt_split s (by omega) (by omega)
  have key : ∀ i, i < s.Values.length → u i ≤ - (bt s.Shifts (-1) (gt s.Values i).Time).Lo ∧ - (bt s.Shifts (-1) (gt s.Values i).Time).Hi ≤ u i := by
    intro i
    induction i with
    | zero => exact fun h0 => ⟨f0 h0, f1 h0⟩
    | succ i ih =>
      intro hk
      have h1 := ih (by omega)
      have h2 := bs (i + 1) hk (by omega)
      have h3 := x1 (i + 1) hk (by omega)
      have h4 := x2 (i + 1) hk (by omega)
      rw [Nat.add_sub_cancel] at h2 h3 h4
      omega
  exact ⟨lo, hi, up, x1, x2, fun i hi => (key i hi).1, fun i hi => (key i hi).2⟩

/-! ### the reference's rounds -/
def rLst (s : Ser) (i : Nat) (st : MS) : Int := if 0 < i then max ((gt s.Values i).Levels.Lo + gt st.2 i) (gt st.1 (i - 1)) else (gt s.Values i).Levels.Lo + gt st.2 i
def rBk0 (s : Ser) (i : Nat) (st : MS) : Int := max (gt st.2 i) (gt st.1 i - (gt s.Values i).Levels.Hi)
def rBk1 (s : Ser) (i : Nat) (st : MS) : Int := if 0 < i then max (rBk0 s i st) (gt st.2 (i - 1) - (bt s.Shifts (gt s.Values (i - 1)).Time (gt s.Values i).Time).Hi) else rBk0 s i st
def rBk (s : Ser) (i : Nat) (st : MS) : Int := if i + 1 < s.Values.length then max (rBk1 s i st) (gt st.2 (i + 1) + (bt s.Shifts (gt s.Values i).Time (gt s.Values (i + 1)).Time).Lo) else rBk1 s i st
def rStep (s : Ser) (i : Nat) (st : MS) : MS := (rz st.1 i (rLst s i st), rz st.2 i (rBk s i st))
def rPass (s : Ser) : Nat → MS → MS
  | 0, st => st
  | k + 1, st => rStep s k (rPass s k st)
def fillR (n k : Nat) : List Int := (List.range n).map fun j => if j < k then -1099511627776 else 0
def rStart (s : Ser) : MS := (fillR s.Values.length s.Values.length, (fillR s.Values.length s.Values.length).set 0 (0 - (bt s.Shifts (-1) (gt s.Values 0).Time).Hi))
def rX (s : Ser) : Nat → MS
  | 0 => rStart s
  | r + 1 => rPass s s.Values.length (rX s r)
theorem fillR_zero (n : Nat) : List.replicate n (0 : Int) = fillR n 0 := by
  unfold fillR
  refine ext_gt (by simp) fun j hj => ?_
  rw [List.length_replicate] at hj
  rw [gt_map hj, if_neg (by omega)]
  simp [gt, List.getD, hj]
theorem fillR_len (n k : Nat) : (fillR n k).length = n := map_len _ _
theorem fillR_set {n k : Nat} (_hk : k < n) : (fillR n k).set k (-1099511627776) = fillR n (k + 1) := by
  refine ext_gt (by rw [List.length_set, fillR_len, fillR_len]) fun j hj => ?_
  rw [List.length_set, fillR_len] at hj
  rw [gt_set _ _ (by rw [fillR_len]; exact hj)]
  unfold fillR
  rw [gt_map hj, gt_map hj]
  by_cases h1 : k = j
  · rw [if_pos h1, if_pos (by omega)]
  · rw [if_neg h1]
    by_cases h2 : j < k
    · rw [if_pos h2, if_pos (by omega)]
    · rw [if_neg h2, if_neg (by omega)]
theorem fillR_at {n k j : Nat} (hj : j < n) : gt (fillR n k) j = if j < k then -1099511627776 else 0 := gt_map hj
/-- lengths and bounds -/
structure RB (s : Ser) (st : MS) (c : Int) : Prop where
  le : st.1.length = s.Values.length
  lu : st.2.length = s.Values.length
  be : ∀ j, j < s.Values.length → -1099511627776 ≤ gt st.1 j ∧ gt st.1 j ≤ c
  bu : ∀ j, j < s.Values.length → -1099511627776 ≤ gt st.2 j ∧ gt st.2 j ≤ c
theorem bt_small {s : Ser} (h : Ok s) (a b : Int) : -768000 ≤ (bt s.Shifts a b).Lo ∧ (bt s.Shifts a b).Lo ≤ (bt s.Shifts a b).Hi ∧ (bt s.Shifts a b).Hi ≤ 768000 := by
  have h1 := bt_bd h a b (Nat.le_refl _)
  unfold bt
  dsimp only
  omega
theorem rStart_bd {s : Ser} (h : Ok s) : RB s (rStart s) 1000000 := by
  have hb := bt_small h (-1) (gt s.Values 0).Time
  refine ⟨fillR_len _ _, by unfold rStart; dsimp only; rw [List.length_set]; exact fillR_len _ _, fun j hj => ?_, fun j hj => ?_⟩
  · unfold rStart; dsimp only; rw [fillR_at hj, if_pos hj]; omega
  · unfold rStart
    dsimp only
    rw [gt_set _ _ (by rw [fillR_len]; exact hj), fillR_at hj, if_pos hj]
    split <;> omega
theorem rLst_bd {s : Ser} (h : Ok s) {st : MS} {c : Int} (hb : RB s st c) {i : Nat} (hi : i < s.Values.length) : rLst s i st ≤ c + 800000 := by
  have h1 := h.vl hi
  have h2 := hb.bu i hi
  unfold rLst
  split
  · have h3 := hb.be (i - 1) (by omega); omega
  · omega
theorem rBk_bd {s : Ser} (h : Ok s) {st : MS} {c : Int} (hb : RB s st c) {i : Nat} (hi : i < s.Values.length) : rBk s i st ≤ c + 800000 := by
  have h1 := h.vl hi
  have h2 := hb.bu i hi
  have h3 := hb.be i hi
  have h4 := bt_small h (gt s.Values (i - 1)).Time (gt s.Values i).Time
  have h5 := bt_small h (gt s.Values i).Time (gt s.Values (i + 1)).Time
  have h6 : rBk1 s i st ≤ c + 800000 := by
    unfold rBk1 rBk0
    split
    · have h7 := hb.bu (i - 1) (by omega); omega
    · omega
  unfold rBk
  split
  · have h7 := hb.bu (i + 1) (by omega); omega
  · exact h6
theorem rStep_bd {s : Ser} (h : Ok s) {st : MS} {c : Int} (hb : RB s st c) {i : Nat} (hi : i < s.Values.length) : RB s (rStep s i st) (c + 800000) := by
  have h1 := rLst_bd h hb hi
  have h2 := rBk_bd h hb hi
  refine ⟨by unfold rStep; dsimp only; rw [rz_len]; exact hb.le, by unfold rStep; dsimp only; rw [rz_len]; exact hb.lu, fun j hj => ?_, fun j hj => ?_⟩
  · have h3 := hb.be j hj
    unfold rStep; dsimp only
    rw [rz_at (by rw [hb.le]; exact hj)]
    split <;> omega
  · have h3 := hb.bu j hj
    unfold rStep; dsimp only
    rw [rz_at (by rw [hb.lu]; exact hj)]
    split <;> omega
theorem RB.more {s : Ser} {st : MS} {c d : Int} (hb : RB s st c) (h : c ≤ d) : RB s st d := ⟨hb.le, hb.lu, fun j hj => by have := hb.be j hj; omega, fun j hj => by have := hb.bu j hj; omega⟩
theorem rPass_bd {s : Ser} (h : Ok s) {st : MS} {c : Int} (hb : RB s st c) : ∀ k : Nat, k ≤ s.Values.length → RB s (rPass s k st) (c + k * 800000)
  | 0, _ => hb.more (by omega)
  | k + 1, hk => (rStep_bd h (rPass_bd h hb k (by omega)) (by omega)).more (by omega)
theorem rX_bd {s : Ser} (h : Ok s) : ∀ r : Nat, RB s (rX s r) (1000000 + r * 160000000)
  | 0 => (rStart_bd h).more (by omega)
  | r + 1 => (rPass_bd h (rX_bd h r) _ (Nat.le_refl _)).more (by have := h.nV; omega)
/-- one state at or below another one -/
def leS (s : Ser) (a b : MS) : Prop := ∀ j, j < s.Values.length → gt a.1 j ≤ gt b.1 j ∧ gt a.2 j ≤ gt b.2 j
theorem leS.trans {s : Ser} {a b c : MS} (h : leS s a b) (h' : leS s b c) : leS s a c := fun j hj => ⟨Int.le_trans (h j hj).1 (h' j hj).1, Int.le_trans (h j hj).2 (h' j hj).2⟩
section
variable {s : Ser} {st : MS} (h1 : st.1.length = s.Values.length) (h2 : st.2.length = s.Values.length)
include h1 h2
theorem rStep_up (i : Nat) : ((rStep s i st).1.length = s.Values.length ∧ (rStep s i st).2.length = s.Values.length) ∧ leS s st (rStep s i st) :=
  ⟨⟨by unfold rStep; dsimp only; rw [rz_len]; exact h1, by unfold rStep; dsimp only; rw [rz_len]; exact h2⟩, fun j hj => ⟨rz_grow (by omega), rz_grow (by omega)⟩⟩
theorem rPass_up : ∀ k : Nat, ((rPass s k st).1.length = s.Values.length ∧ (rPass s k st).2.length = s.Values.length) ∧ leS s st (rPass s k st)
  | 0 => ⟨⟨h1, h2⟩, fun _ _ => ⟨Int.le_refl _, Int.le_refl _⟩⟩
  | k + 1 => by
    obtain ⟨⟨a1, a2⟩, a3⟩ := rPass_up k
    obtain ⟨b1, b2⟩ := rStep_up a1 a2 k
    exact ⟨b1, a3.trans b2⟩
/-- what a pass raises its places to, by what they were before it -/
theorem rPass_ge : ∀ k : Nat, k ≤ s.Values.length → ∀ i, i < k →
    (gt s.Values i).Levels.Lo + gt st.2 i ≤ gt (rPass s k st).1 i ∧ gt st.1 i - (gt s.Values i).Levels.Hi ≤ gt (rPass s k st).2 i ∧
    (0 < i → gt st.1 (i - 1) ≤ gt (rPass s k st).1 i ∧ gt st.2 (i - 1) - (bt s.Shifts (gt s.Values (i - 1)).Time (gt s.Values i).Time).Hi ≤ gt (rPass s k st).2 i) ∧
    (i + 1 < s.Values.length → gt st.2 (i + 1) + (bt s.Shifts (gt s.Values i).Time (gt s.Values (i + 1)).Time).Lo ≤ gt (rPass s k st).2 i)
  | 0, _ => fun i hi => absurd hi (Nat.not_lt_zero _)
  | k + 1, hk => fun i hi => by
    obtain ⟨⟨a1, a2⟩, a3⟩ := rPass_up h1 h2 k
    obtain ⟨_, b2⟩ := rStep_up a1 a2 k
    have c1 := b2 i (by omega)
    show (gt s.Values i).Levels.Lo + gt st.2 i ≤ gt (rStep s k (rPass s k st)).1 i ∧ gt st.1 i - (gt s.Values i).Levels.Hi ≤ gt (rStep s k (rPass s k st)).2 i ∧ (0 < i → gt st.1 (i - 1) ≤ gt (rStep s k (rPass s k st)).1 i ∧ gt st.2 (i - 1) - (bt s.Shifts (gt s.Values (i - 1)).Time (gt s.Values i).Time).Hi ≤ gt (rStep s k (rPass s k st)).2 i) ∧
      (i + 1 < s.Values.length → gt st.2 (i + 1) + (bt s.Shifts (gt s.Values i).Time (gt s.Values (i + 1)).Time).Lo ≤ gt (rStep s k (rPass s k st)).2 i)
    rcases Nat.lt_or_ge i k with h3 | h3
    · obtain ⟨d1, d2, d3, d4⟩ := rPass_ge k (by omega) i h3
      exact ⟨by omega, by omega, fun h0 => by have := d3 h0; omega, fun h0 => by have := d4 h0; omega⟩
    · obtain rfl : i = k := by omega
      obtain ⟨W, hW⟩ : ∃ W, W = rPass s i st := ⟨_, rfl⟩
      rw [← hW] at a1 a2 a3 ⊢
      have e1 : rLst s i W ≤ gt (rStep s i W).1 i := rz_got (by omega)
      have e2 : rBk s i W ≤ gt (rStep s i W).2 i := rz_got (by omega)
      have g0 := a3 i (by omega)
      have l1 : (gt s.Values i).Levels.Lo + gt W.2 i ≤ rLst s i W := by unfold rLst; split <;> omega
      have q0 : gt W.1 i - (gt s.Values i).Levels.Hi ≤ rBk0 s i W := by unfold rBk0; omega
      have q1 : rBk0 s i W ≤ rBk1 s i W := by unfold rBk1; split <;> omega
      have q2 : rBk1 s i W ≤ rBk s i W := by unfold rBk; split <;> omega
      refine ⟨by omega, by omega, fun h0 => ?_, fun h0 => ?_⟩
      · have g1 := a3 (i - 1) (by omega)
        have l2 : gt W.1 (i - 1) ≤ rLst s i W := by unfold rLst; rw [if_pos h0]; omega
        have q3 : gt W.2 (i - 1) - (bt s.Shifts (gt s.Values (i - 1)).Time (gt s.Values i).Time).Hi ≤ rBk1 s i W := by unfold rBk1; rw [if_pos h0]; omega
        exact ⟨by omega, by omega⟩
      · have g1 := a3 (i + 1) h0
        have q3 : gt W.2 (i + 1) + (bt s.Shifts (gt s.Values i).Time (gt s.Values (i + 1)).Time).Lo ≤ rBk s i W := by unfold rBk; rw [if_pos h0]; omega
        omega
end
theorem rStep_below {s : Ser} {st : MS} {e u : Nat → Int} (hs : Sol s e u) (h : belowS s st e u) {k : Nat} (hk : k < s.Values.length) : belowS s (rStep s k st) e u := by
  obtain ⟨h1, h2, h3⟩ := h
  have g0 := h3 k hk
  have a1 := hs.lo k hk
  have a2 := hs.hi k hk
  have l1 : rLst s k st ≤ e k := by
    unfold rLst
    split
    · rename_i h0; have g1 := h3 (k - 1) (by omega); have := hs.up k hk h0; omega
    · omega
  have q1 : rBk1 s k st ≤ u k := by
    unfold rBk1 rBk0
    split
    · rename_i h0; have g1 := h3 (k - 1) (by omega); have := hs.x1 k hk h0; omega
    · omega
  have q2 : rBk s k st ≤ u k := by
    unfold rBk
    split
    · rename_i h0
      have g1 := h3 (k + 1) h0
      have := hs.x2 (k + 1) h0 (by omega)
      rw [Nat.add_sub_cancel] at this
      omega
    · exact q1
  exact ⟨by unfold rStep; dsimp only; rw [rz_len]; exact h1, by unfold rStep; dsimp only; rw [rz_len]; exact h2, fun i hi => ⟨rz_le h1 (fun j hj => (h3 j hj).1) (fun _ => l1) i hi, rz_le h2 (fun j hj => (h3 j hj).2) (fun _ => q2) i hi⟩⟩
theorem rPass_below {s : Ser} {st : MS} {e u : Nat → Int} (hs : Sol s e u) (h : belowS s st e u) : ∀ k : Nat, k ≤ s.Values.length → belowS s (rPass s k st) e u
  | 0, _ => h
  | k + 1, hk => rStep_below hs (rPass_below hs h k (by omega)) hk
theorem rStart_below {s : Ser} (h : Ok s) {e u : Nat → Int} (hs : Sol s e u) : belowS s (rStart s) e u := by
  have hb := rStart_bd h
  refine ⟨hb.le, hb.lu, fun i hi => ?_⟩
  have h1 := hs.lo i hi
  have h2 := hs.st i hi
  have h3 := h.vl hi
  have h4 := bt_small h (-1) (gt s.Values i).Time
  unfold rStart
  dsimp only
  rw [gt_set _ _ (by rw [fillR_len]; exact hi), fillR_at hi, if_pos hi]
  refine ⟨by omega, ?_⟩
  split
  · rename_i h5; subst h5; omega
  · omega
theorem rX_below {s : Ser} (h : Ok s) {e u : Nat → Int} (hs : Sol s e u) : ∀ r : Nat, belowS s (rX s r) e u
  | 0 => rStart_below h hs
  | r + 1 => rPass_below hs (rX_below h hs r) _ (Nat.le_refl _)
theorem rX_up {s : Ser} (h : Ok s) (r : Nat) : leS s (rX s r) (rX s (r + 1)) := (rPass_up (rX_bd h r).le (rX_bd h r).lu _).2
theorem rX_first {s : Ser} (h : Ok s) (h0 : 0 < s.Values.length) : ∀ r : Nat, - (bt s.Shifts (-1) (gt s.Values 0).Time).Hi ≤ gt (rX s r).2 0
  | 0 => by
    show _ ≤ gt (rStart s).2 0
    unfold rStart
    dsimp only
    rw [gt_set _ _ (by rw [fillR_len]; exact h0), if_pos rfl]; omega
  | r + 1 => Int.le_trans (rX_first h h0 r) (rX_up h r 0 h0).2
/-! ### the rounds come to rest -/
def hit (a b : Int) : Int := if a = b then 1 else 0
def cntS (s : Ser) (st : MS) (e u : Nat → Int) : Int := sumN (fun j => hit (gt st.1 j) (e j)) s.Values.length + sumN (fun j => hit (gt st.2 j) (u j)) s.Values.length
theorem hit_bd (a b : Int) : 0 ≤ hit a b ∧ hit a b ≤ 1 := by unfold hit; split <;> omega
theorem cnt_le (s : Ser) (st : MS) (e u : Nat → Int) : cntS s st e u ≤ 2 * s.Values.length := by
  have h1 := (sumN_bd (f := fun j => hit (gt st.1 j) (e j)) (n := s.Values.length) (lo := 0) (hi := 1) (fun i _ => hit_bd _ _)).2
  have h2 := (sumN_bd (f := fun j => hit (gt st.2 j) (u j)) (n := s.Values.length) (lo := 0) (hi := 1) (fun i _ => hit_bd _ _)).2
  unfold cntS; omega
theorem sumN_lt {f g : Nat → Int} {q : Nat} (hq : f q + 1 ≤ g q) : ∀ {n : Nat}, q < n → (∀ i, i < n → f i ≤ g i) → sumN f n + 1 ≤ sumN g n
  | 0, h, _ => absurd h (Nat.not_lt_zero _)
  | n + 1, h, ha => by
    simp only [sumN]
    rcases Nat.lt_or_ge q n with h1 | h1
    · have := sumN_lt hq h1 (fun i hi => ha i (by omega)); have := ha n (by omega); omega
    · obtain rfl : q = n := by omega
      have := sumN_le (f := f) (g := g) (n := q) (fun i hi => ha i (by omega)); omega
theorem hit_up {a b c : Int} (h1 : a ≤ b) (h2 : b ≤ c) : hit a c ≤ hit b c := by unfold hit; split <;> split <;> omega
/-- where a pass hits no further place, all are hit -/
theorem all_hit {s : Ser} (h : Ok s) {e u : Nat → Int} (hs : Sol s e u) (hl : ∀ e' u', Sol s e' u' → ∀ i, i < s.Values.length → e i ≤ e' i ∧ u i ≤ u' i) {X Y : MS} (hXY : leS s X Y) (hY : belowS s Y e u)
    (hp : ∀ i, i < s.Values.length → (gt s.Values i).Levels.Lo + gt X.2 i ≤ gt Y.1 i ∧ gt X.1 i - (gt s.Values i).Levels.Hi ≤ gt Y.2 i ∧
      (0 < i → gt X.1 (i - 1) ≤ gt Y.1 i ∧ gt X.2 (i - 1) - (bt s.Shifts (gt s.Values (i - 1)).Time (gt s.Values i).Time).Hi ≤ gt Y.2 i) ∧
      (i + 1 < s.Values.length → gt X.2 (i + 1) + (bt s.Shifts (gt s.Values i).Time (gt s.Values (i + 1)).Time).Lo ≤ gt Y.2 i))
    (h0 : 0 < s.Values.length → gt X.2 0 = u 0) (hn1 : ∀ q, q < s.Values.length → gt X.1 q ≠ e q → gt Y.1 q ≠ e q) (hn2 : ∀ q, q < s.Values.length → gt X.2 q ≠ u q → gt Y.2 q ≠ u q) :
    ∀ q, q < s.Values.length → gt X.1 q = e q ∧ gt X.2 q = u q := by
  have key : Sol s (fun i => if gt X.1 i = e i then e i else e i - 1) (fun i => if gt X.2 i = u i then u i else u i - 1) := by
    have hb : ∀ i, i < s.Values.length → gt X.1 i ≤ gt Y.1 i ∧ gt Y.1 i ≤ e i ∧ gt X.2 i ≤ gt Y.2 i ∧ gt Y.2 i ≤ u i := fun i hi => ⟨(hXY i hi).1, (hY.2.2 i hi).1, (hXY i hi).2, (hY.2.2 i hi).2⟩
    refine mk_sol h (fun i hi => ?_) (fun i hi => ?_) (fun i hi h1 => ?_) (fun i hi h1 => ?_) (fun i hi h1 => ?_) (fun h1 => ?_) (fun h1 => ?_)
    · have a1 := hs.lo i hi; have a2 := (hp i hi).1; have a3 := hb i hi; have a4 := hn1 i hi
      split <;> split <;> omega
    · have a1 := hs.hi i hi; have a2 := (hp i hi).2.1; have a3 := hb i hi; have a4 := hn2 i hi
      split <;> split <;> omega
    · have a1 := hs.up i hi h1; have a2 := ((hp i hi).2.2.1 h1).1; have a3 := hb i hi; have a4 := hn1 i hi
      split <;> split <;> omega
    · have a1 := hs.x1 i hi h1; have a2 := ((hp i hi).2.2.1 h1).2; have a3 := hb i hi; have a4 := hn2 i hi
      split <;> split <;> omega
    · obtain ⟨j, rfl⟩ : ∃ j, i = j + 1 := ⟨i - 1, by omega⟩
      have a1 := hs.x2 (j + 1) hi h1; have a2 := (hp j (by omega)).2.2.2 hi; have a3 := hb j (by omega); have a4 := hn2 j (by omega)
      rw [Nat.add_sub_cancel] at a1 ⊢
      split <;> split <;> omega
    · have a1 := hs.mo 0 h1
      unfold mMost at a1
      rw [if_pos (h0 h1)]; exact a1
    · have a1 := hs.st 0 h1
      rw [if_pos (h0 h1)]; exact a1
  intro q hq
  have h3 := hl _ _ key q hq
  refine ⟨?_, ?_⟩
  · have h4 := h3.1
    split at h4
    · assumption
    · omega
  · have h4 := h3.2
    split at h4
    · assumption
    · omega
/-- the first sum of the least solution is as low as it may be -/
theorem least_first {s : Ser} (h : Ok s) {e u : Nat → Int} (hs : Sol s e u) (hl : ∀ e' u', Sol s e' u' → ∀ i, i < s.Values.length → e i ≤ e' i ∧ u i ≤ u' i) (h0 : 0 < s.Values.length) : u 0 = - (bt s.Shifts (-1) (gt s.Values 0).Time).Hi := by
  have h1 := hs.st 0 h0
  rcases Int.lt_or_eq_of_le h1 with h2 | h2
  · have h3 := hs.mo 0 h0
    unfold mMost at h3
    have key : Sol s (fun i => e i - 1) (fun i => u i - 1) := by
      refine mk_sol h (fun i hi => ?_) (fun i hi => ?_) (fun i hi h1 => ?_) (fun i hi h1 => ?_) (fun i hi h1 => ?_) (fun h1 => ?_) (fun h1 => ?_)
      · have := hs.lo i hi; omega
      · have := hs.hi i hi; omega
      · have := hs.up i hi h1; omega
      · have := hs.x1 i hi h1; omega
      · have := hs.x2 i hi h1; omega
      · omega
      · omega
    have := (hl _ _ key 0 h0).2
    omega
  · exact h2.symm
theorem rX_rest {s : Ser} (h : Ok s) {e u : Nat → Int} (hs : Sol s e u) (hl : ∀ e' u', Sol s e' u' → ∀ i, i < s.Values.length → e i ≤ e' i ∧ u i ≤ u' i) (h0 : 0 < s.Values.length) : ∀ r : Nat,
    (∀ q, q < s.Values.length → gt (rX s r).1 q = e q ∧ gt (rX s r).2 q = u q) ∨ (r : Int) ≤ cntS s (rX s r) e u
  | 0 => by
    right
    have h1 := (sumN_bd (f := fun j => hit (gt (rX s 0).1 j) (e j)) (n := s.Values.length) (lo := 0) (hi := 1) (fun i _ => hit_bd _ _)).1
    have h2 := (sumN_bd (f := fun j => hit (gt (rX s 0).2 j) (u j)) (n := s.Values.length) (lo := 0) (hi := 1) (fun i _ => hit_bd _ _)).1
    unfold cntS; omega
  | r + 1 => by
    have hX := rX_below h hs r
    have hY := rX_below h hs (r + 1)
    have hup := rX_up h r
    rcases rX_rest h hs hl h0 r with h1 | h1
    · left
      intro q hq
      have a1 := h1 q hq
      have a2 := hup q hq
      have a3 := hY.2.2 q hq
      omega
    · by_cases hc : (∀ q, q < s.Values.length → gt (rX s r).1 q ≠ e q → gt (rX s (r + 1)).1 q ≠ e q) ∧ (∀ q, q < s.Values.length → gt (rX s r).2 q ≠ u q → gt (rX s (r + 1)).2 q ≠ u q)
      · left
        have hf : gt (rX s r).2 0 = u 0 := by
          have a1 := rX_first h h0 r
          have a2 := (hX.2.2 0 h0).2
          have a3 := least_first h hs hl h0
          omega
        have h2 := all_hit h hs hl hup hY (rPass_ge (rX_bd h r).le (rX_bd h r).lu _ (Nat.le_refl _)) (fun _ => hf) hc.1 hc.2
        intro q hq
        have a1 := h2 q hq
        have a2 := hup q hq
        have a3 := hY.2.2 q hq
        omega
      · right
        have b1 : ∀ i, i < s.Values.length → hit (gt (rX s r).1 i) (e i) ≤ hit (gt (rX s (r + 1)).1 i) (e i) := fun i hi => hit_up (hup i hi).1 (hY.2.2 i hi).1
        have b2 : ∀ i, i < s.Values.length → hit (gt (rX s r).2 i) (u i) ≤ hit (gt (rX s (r + 1)).2 i) (u i) := fun i hi => hit_up (hup i hi).2 (hY.2.2 i hi).2
        have c1 := sumN_le b1
        have c2 := sumN_le b2
        have hor : (∃ q, q < s.Values.length ∧ gt (rX s r).1 q ≠ e q ∧ gt (rX s (r + 1)).1 q = e q) ∨ (∃ q, q < s.Values.length ∧ gt (rX s r).2 q ≠ u q ∧ gt (rX s (r + 1)).2 q = u q) := by
          apply Classical.byContradiction
          intro hno
          exact hc ⟨fun q hq h3 h4 => hno (.inl ⟨q, hq, h3, h4⟩), fun q hq h3 h4 => hno (.inr ⟨q, hq, h3, h4⟩)⟩
        unfold cntS at h1 ⊢
        rcases hor with ⟨q, hq, h3, h4⟩ | ⟨q, hq, h3, h4⟩
        · have d1 := sumN_lt (f := fun j => hit (gt (rX s r).1 j) (e j)) (g := fun j => hit (gt (rX s (r + 1)).1 j) (e j)) (q := q) (by unfold hit; rw [if_neg h3, if_pos h4]; omega) hq b1
          omega
        · have d1 := sumN_lt (f := fun j => hit (gt (rX s r).2 j) (u j)) (g := fun j => hit (gt (rX s (r + 1)).2 j) (u j)) (q := q) (by unfold hit; rw [if_neg h3, if_pos h4]; omega) hq b2
          omega
theorem ms_ext {s : Ser} {a b : MS} (ha1 : a.1.length = s.Values.length) (ha2 : a.2.length = s.Values.length) (hb1 : b.1.length = s.Values.length) (hb2 : b.2.length = s.Values.length) (h : ∀ q, q < s.Values.length → gt a.1 q = gt b.1 q ∧ gt a.2 q = gt b.2 q) : a = b := by
  obtain ⟨a1, a2⟩ := a
  obtain ⟨b1, b2⟩ := b
  dsimp only at *
  rw [ext_gt (a := a1) (b := b1) (by omega) (fun j hj => (h j (by omega)).1), ext_gt (a := a2) (b := b2) (by omega) (fun j hj => (h j (by omega)).2)]
/-! ### what the reference answers -/
def risR (s : Ser) : List Int × Bool := if (monoR s).2 = 0 then ((monoR s).1, true) else ([], false)
theorem mono_nil {s : Ser} (h : Ok s) (h0 : s.Values.length = 0) : monoR s = ([], 0) := by
  rcases mono_best h with ⟨_, h2⟩ | ⟨e, u, h1, h2, _⟩
  · exact absurd (⟨fun i hi => by omega, fun i hi => by omega, fun i hi => by omega, fun i hi => by omega, fun i hi => by omega, fun i hi => by omega, fun i hi => by omega⟩ : Sol s (fun _ => 0) (fun _ => 0)) (h2 _ _)
  · rw [h1, List.eq_nil_of_length_eq_zero (show e.length = 0 by omega)]
theorem ris_nil {s : Ser} (h : Ok s) (h0 : s.Values.length = 0) : risR s = ([], true) := by
  have := mono_nil h h0
  rw [risR, this]; rfl
theorem ris_no {s : Ser} (h : Ok s) (h0 : 0 < s.Values.length) {r : Nat} (hc : r = 0 ∨ rX s r ≠ rX s (r - 1)) (hor : 2 * s.Values.length + 2 < r ∨ - (bt s.Shifts (-1) (gt s.Values 0).Time).Lo < gt (rX s r).2 0) : risR s = ([], false) := by
  rcases mono_best h with ⟨h1, _⟩ | ⟨e, u, h1, h2, h3, hs, hl⟩
  · rw [risR, h1]; rfl
  · exfalso
    rcases hor with h4 | h4
    · have key : ∀ q, 2 * s.Values.length < q → ∀ j, j < s.Values.length → gt (rX s q).1 j = gt e j ∧ gt (rX s q).2 j = gt u j := fun q hq => by
        rcases rX_rest h hs hl h0 q with h5 | h5
        · exact h5
        · have := cnt_le s (rX s q) (gt e) (gt u); omega
      have k1 := key r (by omega)
      have k2 := key (r - 1) (by omega)
      rcases hc with hc | hc
      · omega
      · exact hc (ms_ext (rX_bd h r).le (rX_bd h r).lu (rX_bd h (r - 1)).le (rX_bd h (r - 1)).lu fun j hj => by have a := k1 j hj; have b := k2 j hj; exact ⟨by omega, by omega⟩)
    · have h5 := ((rX_below h hs r).2.2 0 h0).2
      have h6 := hs.mo 0 h0
      unfold mMost at h6
      omega
theorem ris_yes {s : Ser} (h : Ok s) (h0 : 0 < s.Values.length) {r : Nat} (hr : 0 < r) (hc : rX s r = rX s (r - 1)) (hf : ¬ - (bt s.Shifts (-1) (gt s.Values 0).Time).Lo < gt (rX s (r - 1)).2 0) : risR s = ((rX s r).1, true) := by
  obtain ⟨q, rfl⟩ : ∃ q, r = q + 1 := ⟨r - 1, by omega⟩
  rw [Nat.add_sub_cancel] at hc hf
  have hp := rPass_ge (rX_bd h q).le (rX_bd h q).lu _ (Nat.le_refl _)
  have hp2 : rPass s s.Values.length (rX s q) = rX s q := hc
  rw [hp2] at hp
  have hfi := rX_first h h0 q
  have hs : Sol s (gt (rX s q).1) (gt (rX s q).2) := by
    refine mk_sol h (fun i hi => ?_) (fun i hi => (hp i hi).2.1) (fun i hi h1 => ((hp i hi).2.2.1 h1).1) (fun i hi h1 => ((hp i hi).2.2.1 h1).2) (fun i hi h1 => ?_) (fun _ => by omega) (fun _ => hfi)
    · have := (hp i hi).1; omega
    · obtain ⟨j, rfl⟩ : ∃ j, i = j + 1 := ⟨i - 1, by omega⟩
      have := (hp j (by omega)).2.2.2 hi
      rw [Nat.add_sub_cancel]; exact this
  rw [hc]
  rcases mono_best h with ⟨_, h2⟩ | ⟨e, u, h1, h2, h3, hs2, hl⟩
  · exact absurd hs (h2 _ _)
  · have h5 := hl _ _ hs
    have h6 := rX_below h hs2 q
    rw [risR, h1]
    show (if (0 : Int) = 0 then (e, true) else ([], false)) = _
    rw [if_pos rfl, ext_gt (a := e) (b := (rX s q).1) (by rw [h2, (rX_bd h q).le]) (fun j hj => by have a := h5 j (by omega); have b := h6.2.2 j (by omega); omega)]
/-- where a step raises nothing, and where it raises -/
theorem set_max {L : List Int} {i : Nat} {v : Int} (_hi : i < L.length) : L.set i (max (gt L i) v) = rz L i v := by
  unfold rz
  by_cases h : gt L i < v
  · rw [if_pos h, Int.max_eq_right (by omega)]
  · rw [if_neg h, Int.max_eq_left (by omega)]
    refine ext_gt (List.length_set ..) fun j hj => ?_
    rw [List.length_set] at hj
    rw [gt_set _ _ hj]
    split
    · rename_i he; rw [he]
    · rfl
theorem rz_same {L : List Int} {i : Nat} {v : Int} (h : ¬ gt L i < v) : rz L i v = L := if_neg h
/-- what has changed since a pass began -/
def RI (st cur : MS) (c : Bool) : Prop := (c = true → mu st < mu cur) ∧ (c = false → cur = st) ∧ mu st ≤ mu cur
theorem ri_start (st : MS) : RI st st false := ⟨fun h => (by cases h), fun _ => rfl, Int.le_refl _⟩
theorem ri_yes {s : Ser} {st cur : MS} {c : Bool} {i : Nat} (h : RI st cur c) (h1 : i < cur.1.length) (h2 : i < cur.2.length) (hc : gt cur.1 i < rLst s i cur ∨ gt cur.2 i < rBk s i cur) : RI st (rStep s i cur) true := by
  have e1 := tot_rz (v := rLst s i cur) h1
  have e2 := tot_rz (v := rBk s i cur) h2
  have hm : mu cur < mu (rStep s i cur) := by
    unfold mu rStep
    dsimp only
    split at e1 <;> split at e2 <;> omega
  have := h.2.2
  exact ⟨fun _ => by omega, fun hb => (by cases hb), by omega⟩
theorem ri_no {s : Ser} {st cur : MS} {c : Bool} {i : Nat} (h : RI st cur c) (hc1 : ¬ gt cur.1 i < rLst s i cur) (hc2 : ¬ gt cur.2 i < rBk s i cur) : rStep s i cur = cur ∧ RI st (rStep s i cur) c := by
  have e : rStep s i cur = cur := by unfold rStep; rw [rz_same hc1, rz_same hc2]
  rw [e]; exact ⟨rfl, h⟩
theorem ri_ne {st cur : MS} {c : Bool} (h : RI st cur c) : (c = true → cur ≠ st) ∧ (c = false → cur = st) := ⟨fun hc he => by have := h.1 hc; rw [he] at this; omega, h.2.1⟩
theorem ris_true {s : Ser} (h : (risR s).2 = true) : (monoR s).2 = 0 ∧ (risR s).1 = (monoR s).1 := by
  unfold risR at h ⊢
  split at h
  · rename_i h1; rw [if_pos h1]; exact ⟨h1, rfl⟩
  · cases h
theorem ris_false {s : Ser} (ho : Ok s) (h : (risR s).2 = false) : monoR s = ([], 3) := by
  rcases mono_best ho with ⟨h1, _⟩ | ⟨e, u, h1, _⟩
  · exact h1
  · unfold risR at h; rw [h1] at h; cases h
end Go.Proofs.C8
