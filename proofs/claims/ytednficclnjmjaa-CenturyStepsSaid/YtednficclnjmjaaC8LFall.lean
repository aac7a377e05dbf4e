import Derived.Test.YtednficclnjmjaaC8Lin
/- Century: two values prove a fall; the least rising levels; in plain Lean. -/
namespace Go.Proofs.C8
open Go Go.Kx

/-! ### a pass that changes nothing -/
theorem rz_fix {L : List Int} {i : Nat} {v : Int} (hi : i < L.length) (h : tot (rz L i v) ≤ tot L) : rz L i v = L ∧ v ≤ gt L i := by
  have := tot_rz (v := v) hi
  by_cases hv : gt L i < v
  · rw [if_pos hv] at this; omega
  · exact ⟨by unfold rz; rw [if_neg hv], by omega⟩
theorem rz_tot {L : List Int} {i : Nat} {v : Int} (hi : i < L.length) : tot L ≤ tot (rz L i v) := by
  have := tot_rz (v := v) hi
  split at this <;> omega
/-- what holds at a value when a step changes nothing -/
def fixAt (s : Ser) (k : Nat) (st : MS) : Prop := (0 < k → gt st.1 (k - 1) ≤ gt st.1 k ∧ gt st.2 (k - 1) - (bt s.Shifts (gt s.Values (k - 1)).Time (gt s.Values k).Time).Hi ≤ gt st.2 k ∧ gt st.2 k + (bt s.Shifts (gt s.Values (k - 1)).Time (gt s.Values k).Time).Lo ≤ gt st.2 (k - 1)) ∧
  gt st.2 k + (gt s.Values k).Levels.Lo ≤ gt st.1 k ∧ gt st.1 k - (gt s.Values k).Levels.Hi ≤ gt st.2 k
theorem step_mu {s : Ser} {st : MS} {k : Nat} (hk : k < s.Values.length) (h1 : st.1.length = s.Values.length) (h2 : st.2.length = s.Values.length) : mu st ≤ mu (mStep s k st) ∧ ((mStep s k st).1.length = s.Values.length ∧ (mStep s k st).2.length = s.Values.length) ∧ (mu (mStep s k st) ≤ mu st → mStep s k st = st ∧ fixAt s k st) := by
  obtain ⟨e, u⟩ := st
  dsimp only at h1 h2
  by_cases h0 : 0 < k
  · unfold mStep fixAt
    dsimp only
    simp only [if_pos h0]
    generalize bt s.Shifts (gt s.Values (k - 1)).Time (gt s.Values k).Time = b
    have l1 : (rz e k (gt e (k - 1))).length = s.Values.length := by rw [rz_len]; exact h1
    have l2 : (rz u k (gt u (k - 1) - b.Hi)).length = s.Values.length := by rw [rz_len]; exact h2
    generalize hv1 : gt e (k - 1) = v1 at *
    generalize hv2 : gt u (k - 1) - b.Hi = v2 at *
    generalize hu1 : rz u k v2 = u1 at *
    generalize he1 : rz e k v1 = e1 at *
    generalize hv3 : gt u1 k + b.Lo = v3
    have l3 : (rz u1 (k - 1) v3).length = s.Values.length := by rw [rz_len]; exact l2
    generalize hu2 : rz u1 (k - 1) v3 = u2 at *
    generalize hv4 : gt u2 k + (gt s.Values k).Levels.Lo = v4
    have l4 : (rz e1 k v4).length = s.Values.length := by rw [rz_len]; exact l1
    generalize he2 : rz e1 k v4 = e2 at *
    generalize hv5 : gt e2 k - (gt s.Values k).Levels.Hi = v5
    have t1 := rz_tot (L := e) (i := k) (v := v1) (by omega)
    have t2 := rz_tot (L := u) (i := k) (v := v2) (by omega)
    have t3 := rz_tot (L := u1) (i := k - 1) (v := v3) (by omega)
    have t4 := rz_tot (L := e1) (i := k) (v := v4) (by omega)
    have t5 := rz_tot (L := u2) (i := k) (v := v5) (by omega)
    rw [he1] at t1; rw [hu1] at t2; rw [hu2] at t3; rw [he2] at t4
    refine ⟨by unfold mu; dsimp only; omega, ⟨l4, by rw [rz_len]; exact l3⟩, fun hm => ?_⟩
    unfold mu at hm
    dsimp only at hm
    have f1 := rz_fix (L := e) (i := k) (v := v1) (by omega) (by rw [he1]; omega)
    have f2 := rz_fix (L := u) (i := k) (v := v2) (by omega) (by rw [hu1]; omega)
    have f3 := rz_fix (L := u1) (i := k - 1) (v := v3) (by omega) (by rw [hu2]; omega)
    have f4 := rz_fix (L := e1) (i := k) (v := v4) (by omega) (by rw [he2]; omega)
    have f5 := rz_fix (L := u2) (i := k) (v := v5) (by omega) (by omega)
    rw [he1] at f1; rw [hu1] at f2; rw [hu2] at f3; rw [he2] at f4
    obtain ⟨q1, f1⟩ := f1; obtain ⟨q2, f2⟩ := f2; obtain ⟨q3, f3⟩ := f3; obtain ⟨q4, f4⟩ := f4; obtain ⟨q5, f5⟩ := f5
    subst q1; subst q2
    subst q3
    subst q4
    rw [q5]
    exact ⟨rfl, fun _ => ⟨f1, f2, by omega⟩, by omega, by omega⟩
  · unfold mStep fixAt
    dsimp only
    simp only [if_neg h0]
    generalize hv4 : gt u k + (gt s.Values k).Levels.Lo = v4
    have l4 : (rz e k v4).length = s.Values.length := by rw [rz_len]; exact h1
    generalize he2 : rz e k v4 = e2 at *
    generalize hv5 : gt e2 k - (gt s.Values k).Levels.Hi = v5
    have t4 := rz_tot (L := e) (i := k) (v := v4) (by omega)
    have t5 := rz_tot (L := u) (i := k) (v := v5) (by omega)
    rw [he2] at t4
    refine ⟨by unfold mu; dsimp only; omega, ⟨l4, by rw [rz_len]; exact h2⟩, fun hm => ?_⟩
    unfold mu at hm
    dsimp only at hm
    have f4 := rz_fix (L := e) (i := k) (v := v4) (by omega) (by rw [he2]; omega)
    have f5 := rz_fix (L := u) (i := k) (v := v5) (by omega) (by omega)
    rw [he2] at f4
    obtain ⟨q4, f4⟩ := f4; obtain ⟨q5, f5⟩ := f5
    subst q4
    rw [q5]
    exact ⟨rfl, fun h => absurd h h0, by omega, by omega⟩
theorem pass_mu {s : Ser} {st : MS} (h1 : st.1.length = s.Values.length) (h2 : st.2.length = s.Values.length) : ∀ k : Nat, k ≤ s.Values.length → mu st ≤ mu (mPass s k st) ∧ ((mPass s k st).1.length = s.Values.length ∧ (mPass s k st).2.length = s.Values.length) ∧ (mu (mPass s k st) ≤ mu st → mPass s k st = st ∧ ∀ j, j < k → fixAt s j st)
  | 0, _ => ⟨Int.le_refl _, ⟨h1, h2⟩, fun _ => ⟨rfl, fun j hj => absurd hj (Nat.not_lt_zero _)⟩⟩
  | k + 1, hk => by
    obtain ⟨a1, ⟨a2, a3⟩, a4⟩ := pass_mu h1 h2 k (by omega)
    obtain ⟨b1, b2, b3⟩ := step_mu (s := s) (st := mPass s k st) (k := k) (by omega) a2 a3
    refine ⟨Int.le_trans a1 b1, b2, fun hm => ?_⟩
    have hm' : mu (mStep s k (mPass s k st)) ≤ mu st := hm
    obtain ⟨c1, c2⟩ := a4 (by omega)
    obtain ⟨d1, d2⟩ := b3 (by omega)
    rw [c1] at d1 d2
    refine ⟨by show mStep s k (mPass s k st) = st; rw [c1, d1], fun j hj => ?_⟩
    rcases Nat.lt_succ_iff_lt_or_eq.1 hj with h | h
    · exact c2 j h
    · subst h; exact d2

/-! ### solutions -/
/-- levels that rise, with shifts that agree, as the passes see them -/
structure Sol (s : Ser) (e u : Nat → Int) : Prop where
  lo : ∀ i, i < s.Values.length → u i + (gt s.Values i).Levels.Lo ≤ e i
  hi : ∀ i, i < s.Values.length → e i - (gt s.Values i).Levels.Hi ≤ u i
  up : ∀ i, i < s.Values.length → 0 < i → e (i - 1) ≤ e i
  x1 : ∀ i, i < s.Values.length → 0 < i → u (i - 1) - (bt s.Shifts (gt s.Values (i - 1)).Time (gt s.Values i).Time).Hi ≤ u i
  x2 : ∀ i, i < s.Values.length → 0 < i → u i + (bt s.Shifts (gt s.Values (i - 1)).Time (gt s.Values i).Time).Lo ≤ u (i - 1)
  mo : ∀ i, i < s.Values.length → u i ≤ mMost s i
  st : ∀ i, i < s.Values.length → - (bt s.Shifts (-1) (gt s.Values i).Time).Hi ≤ u i
def belowS (s : Ser) (st : MS) (e u : Nat → Int) : Prop := st.1.length = s.Values.length ∧ st.2.length = s.Values.length ∧ ∀ i, i < s.Values.length → gt st.1 i ≤ e i ∧ gt st.2 i ≤ u i
theorem rz_le {L : List Int} {i n : Nat} {v : Int} {f : Nat → Int} (hl : L.length = n) (h : ∀ j, j < n → gt L j ≤ f j) (hv : i < n → v ≤ f i) : ∀ j, j < n → gt (rz L i v) j ≤ f j := fun j hj => by
  rw [rz_at (by omega)]
  have := h j hj
  split
  · rename_i hij; subst hij; have := hv hj; omega
  · exact this
theorem step_below {s : Ser} {st : MS} {e u : Nat → Int} (hs : Sol s e u) (h : belowS s st e u) {k : Nat} (hk : k < s.Values.length) : belowS s (mStep s k st) e u := by
  obtain ⟨e0, u0⟩ := st
  obtain ⟨h1, h2, h3⟩ := h
  dsimp only at h1 h2 h3
  have he0 : ∀ j, j < s.Values.length → gt e0 j ≤ e j := fun j hj => (h3 j hj).1
  have hu0 : ∀ j, j < s.Values.length → gt u0 j ≤ u j := fun j hj => (h3 j hj).2
  have hlo := hs.lo k hk
  have hhi := hs.hi k hk
  by_cases h0 : 0 < k
  · unfold mStep
    dsimp only
    simp only [if_pos h0]
    have hup := hs.up k hk h0
    have hx1 := hs.x1 k hk h0
    have hx2 := hs.x2 k hk h0
    generalize bt s.Shifts (gt s.Values (k - 1)).Time (gt s.Values k).Time = b at *
    have g1 := rz_le (i := k) (v := gt e0 (k - 1)) h1 he0 (fun _ => by have := he0 (k - 1) (by omega); omega)
    have g2 := rz_le (i := k) (v := gt u0 (k - 1) - b.Hi) h2 hu0 (fun _ => by have := hu0 (k - 1) (by omega); omega)
    have l1 : (rz e0 k (gt e0 (k - 1))).length = s.Values.length := by rw [rz_len]; exact h1
    have l2 : (rz u0 k (gt u0 (k - 1) - b.Hi)).length = s.Values.length := by rw [rz_len]; exact h2
    generalize rz e0 k (gt e0 (k - 1)) = e1 at *
    generalize rz u0 k (gt u0 (k - 1) - b.Hi) = u1 at *
    have g3 := rz_le (i := k - 1) (v := gt u1 k + b.Lo) l2 g2 (fun _ => by have := g2 k hk; omega)
    have l3 : (rz u1 (k - 1) (gt u1 k + b.Lo)).length = s.Values.length := by rw [rz_len]; exact l2
    generalize rz u1 (k - 1) (gt u1 k + b.Lo) = u2 at *
    have g4 := rz_le (i := k) (v := gt u2 k + (gt s.Values k).Levels.Lo) l1 g1 (fun _ => by have := g3 k hk; omega)
    have l4 : (rz e1 k (gt u2 k + (gt s.Values k).Levels.Lo)).length = s.Values.length := by rw [rz_len]; exact l1
    generalize rz e1 k (gt u2 k + (gt s.Values k).Levels.Lo) = e2 at *
    have g5 := rz_le (i := k) (v := gt e2 k - (gt s.Values k).Levels.Hi) l3 g3 (fun _ => by have := g4 k hk; omega)
    exact ⟨l4, by rw [rz_len]; exact l3, fun i hi => ⟨g4 i hi, g5 i hi⟩⟩
  · unfold mStep
    dsimp only
    simp only [if_neg h0]
    have g4 := rz_le (i := k) (v := gt u0 k + (gt s.Values k).Levels.Lo) h1 he0 (fun _ => by have := hu0 k hk; omega)
    have l4 : (rz e0 k (gt u0 k + (gt s.Values k).Levels.Lo)).length = s.Values.length := by rw [rz_len]; exact h1
    generalize rz e0 k (gt u0 k + (gt s.Values k).Levels.Lo) = e2 at *
    have g5 := rz_le (i := k) (v := gt e2 k - (gt s.Values k).Levels.Hi) h2 hu0 (fun _ => by have := g4 k hk; omega)
    exact ⟨l4, by rw [rz_len]; exact h2, fun i hi => ⟨g4 i hi, g5 i hi⟩⟩
theorem pass_below {s : Ser} {st : MS} {e u : Nat → Int} (hs : Sol s e u) (h : belowS s st e u) : ∀ k : Nat, k ≤ s.Values.length → belowS s (mPass s k st) e u
  | 0, _ => h
  | k + 1, hk => step_below hs (pass_below hs h k (by omega)) hk
theorem start_below {s : Ser} {e u : Nat → Int} (hs : Sol s e u) : belowS s (mStart s) e u := by
  refine ⟨map_len _ _, map_len _ _, fun i hi => ?_⟩
  unfold mStart
  dsimp only
  rw [gt_map hi, gt_map hi]
  have h1 := hs.lo i hi
  have h2 := hs.st i hi
  omega
/-! ### falls -/
theorem bt_split (s : Ser) {a b c : Int} (hab : a ≤ b) (hbc : b ≤ c) : (bt s.Shifts a c).Lo = (bt s.Shifts a b).Lo + (bt s.Shifts b c).Lo ∧ (bt s.Shifts a c).Hi = (bt s.Shifts a b).Hi + (bt s.Shifts b c).Hi := by
  unfold bt btLo btHi
  dsimp only
  rw [← sumN_add, ← sumN_add]
  constructor <;> exact sumN_congr fun k _ => by (repeat' split) <;> omega
/-- the greatest least level so far, with the least shifts -/
def bestE (s : Ser) : Nat → Int
  | 0 => (gt s.Values 0).Levels.Lo - (bt s.Shifts (-1) (gt s.Values 0).Time).Lo
  | k + 1 => max (bestE s k) ((gt s.Values (k + 1)).Levels.Lo - (bt s.Shifts (-1) (gt s.Values (k + 1)).Time).Lo)
end Go.Proofs.C8
