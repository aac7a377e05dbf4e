/- Century: two values prove a fall; the least rising levels; in plain Lean. -/
import Derived.Test.YtednficclnjmjaaC8Lin
namespace Go.Proofs.C8
open Go Go.Kx

/-! ### a pass that changes nothing -/
theorem rz_fix {L : List Int} {i : Nat} {v : Int} (hi : i < L.length) (h : tot (rz L i v) ≤ tot L) : rz L i v = L ∧ v ≤ gt L i := by
  have := tot_rz (v := v) hi
  by_cases hv : gt L i < v
  · rw [if_pos hv] at this; omega
  · exact ⟨by unfold rz; rw [if_neg hv], by omega⟩
theorem rz_tot {L : List Int} {i : Nat} {v : Int} (hi : i < L.length) : tot L ≤ tot (rz L i v) := by
  have := tot_rz (v := v) hi
  split at this <;> omega
/-- what holds at a value when a step changes nothing -/
def fixAt (s : Ser) (k : Nat) (st : MS) : Prop := (0 < k → gt st.1 (k - 1) ≤ gt st.1 k ∧ gt st.2 (k - 1) - (bt s.Shifts (gt s.Values (k - 1)).Time (gt s.Values k).Time).Hi ≤ gt st.2 k ∧ gt st.2 k + (bt s.Shifts (gt s.Values (k - 1)).Time (gt s.Values k).Time).Lo ≤ gt st.2 (k - 1)) ∧
  gt st.2 k + (gt s.Values k).Levels.Lo ≤ gt st.1 k ∧ gt st.1 k - (gt s.Values k).Levels.Hi ≤ gt st.2 k
theorem step_mu {s : Ser} {st : MS} {k : Nat} (hk : k < s.Values.length) (h1 : st.1.length = s.Values.length) (h2 : st.2.length = s.Values.length) : mu st ≤ mu (mStep s k st) ∧ ((mStep s k st).1.length = s.Values.length ∧ (mStep s k st).2.length = s.Values.length) ∧ (mu (mStep s k st) ≤ mu st → mStep s k st = st ∧ fixAt s k st) := by
  obtain ⟨e, u⟩ := st
  dsimp only at h1 h2
  by_cases h0 : 0 < k
  · unfold mStep fixAt
    dsimp only
    simp only [if_pos h0]
    generalize bt s.Shifts (gt s.Values (k - 1)).Time (gt s.Values k).Time = b
    have l1 : (rz e k (gt e (k - 1))).length = s.Values.length := by rw [rz_len]; exact h1
    have l2 : (rz u k (gt u (k - 1) - b.Hi)).length = s.Values.length := by rw [rz_len]; exact h2
    generalize hv1 : gt e (k - 1) = v1 at *
    generalize hv2 : gt u (k - 1) - b.Hi = v2 at *
    generalize hu1 : rz u k v2 = u1 at *
    generalize he1 : rz e k v1 = e1 at *
    generalize hv3 : gt u1 k + b.Lo = v3
    have l3 : (rz u1 (k - 1) v3).length = s.Values.length := by rw [rz_len]; exact l2
    generalize hu2 : rz u1 (k - 1) v3 = u2 at *
    generalize hv4 : gt u2 k + (gt s.Values k).Levels.Lo = v4
    have l4 : (rz e1 k v4).length = s.Values.length := by rw [rz_len]; exact l1
    generalize he2 : rz e1 k v4 = e2 at *
    generalize hv5 : gt e2 k - (gt s.Values k).Levels.Hi = v5
    have t1 := rz_tot (L := e) (i := k) (v := v1) (by omega)
    have t2 := rz_tot (L := u) (i := k) (v := v2) (by omega)
    have t3 := rz_tot (L := u1) (i := k - 1) (v := v3) (by omega)
    have t4 := rz_tot (L := e1) (i := k) (v := v4) (by omega)
    have t5 := rz_tot (L := u2) (i := k) (v := v5) (by omega)
    rw [he1] at t1; rw [hu1] at t2; rw [hu2] at t3; rw [he2] at t4
    refine ⟨by unfold mu; dsimp only; omega, ⟨l4, by rw [rz_len]; exact l3⟩, fun hm => ?_⟩
    unfold mu at hm
    dsimp only at hm
    have f1 := rz_fix (L := e) (i := k) (v := v1) (by omega) (by rw [he1]; omega)
    have f2 := rz_fix (L := u) (i := k) (v := v2) (by omega) (by rw [hu1]; omega)
    have f3 := rz_fix (L := u1) (i := k - 1) (v := v3) (by omega) (by rw [hu2]; omega)
    have f4 := rz_fix (L := e1) (i := k) (v := v4) (by omega) (by rw [he2]; omega)
    have f5 := rz_fix (L := u2) (i := k) (v := v5) (by omega) (by omega)
    rw [he1] at f1; rw [hu1] at f2; rw [hu2] at f3; rw [he2] at f4
    obtain ⟨q1, f1⟩ := f1; obtain ⟨q2, f2⟩ := f2; obtain ⟨q3, f3⟩ := f3; obtain ⟨q4, f4⟩ := f4; obtain ⟨q5, f5⟩ := f5
    subst q1; subst q2
    subst q3
    subst q4
    rw [q5]
    exact ⟨rfl, fun _ => ⟨f1, f2, by omega⟩, by omega, by omega⟩
  · unfold mStep fixAt
    dsimp only
    simp only [if_neg h0]
    generalize hv4 : gt u k + (gt s.Values k).Levels.Lo = v4
    have l4 : (rz e k v4).length = s.Values.length := by rw [rz_len]; exact h1
    generalize he2 : rz e k v4 = e2 at *
    generalize hv5 : gt e2 k - (gt s.Values k).Levels.Hi = v5
    have t4 := rz_tot (L := e) (i := k) (v := v4) (by omega)
    have t5 := rz_tot (L := u) (i := k) (v := v5) (by omega)
    rw [he2] at t4
    refine ⟨by unfold mu; dsimp only; omega, ⟨l4, by rw [rz_len]; exact h2⟩, fun hm => ?_⟩
    unfold mu at hm
    dsimp only at hm
    have f4 := rz_fix (L := e) (i := k) (v := v4) (by omega) (by rw [he2]; omega)
    have f5 := rz_fix (L := u) (i := k) (v := v5) (by omega) (by omega)
    rw [he2] at f4
    obtain ⟨q4, f4⟩ := f4; obtain ⟨q5, f5⟩ := f5
    subst q4
    rw [q5]
    exact ⟨rfl, fun h => absurd h h0, by omega, by omega⟩
theorem pass_mu {s : Ser} {st : MS} (h1 : st.1.length = s.Values.length) (h2 : st.2.length = s.Values.length) : ∀ k : Nat, k ≤ s.Values.length → mu st ≤ mu (mPass s k st) ∧ ((mPass s k st).1.length = s.Values.length ∧ (mPass s k st).2.length = s.Values.length) ∧ (mu (mPass s k st) ≤ mu st → mPass s k st = st ∧ ∀ j, j < k → fixAt s j st)
  | 0, _ => ⟨Int.le_refl _, ⟨h1, h2⟩, fun _ => ⟨rfl, fun j hj => absurd hj (Nat.not_lt_zero _)⟩⟩
  | k + 1, hk => by
    obtain ⟨a1, ⟨a2, a3⟩, a4⟩ := pass_mu h1 h2 k (by omega)
    obtain ⟨b1, b2, b3⟩ := step_mu (s := s) (st := mPass s k st) (k := k) (by omega) a2 a3
    refine ⟨Int.le_trans a1 b1, b2, fun hm => ?_⟩
    have hm' : mu (mStep s k (mPass s k st)) ≤ mu st := hm
    obtain ⟨c1, c2⟩ := a4 (by omega)
    obtain ⟨d1, d2⟩ := b3 (by omega)
    rw [c1] at d1 d2
    refine ⟨by show mStep s k (mPass s k st) = st; rw [c1, d1], fun j hj => ?_⟩
    rcases Nat.lt_succ_iff_lt_or_eq.1 hj with h | h
    · exact c2 j h
    · subst h; exact d2

/-! ### solutions -/
/-- levels that rise, with shifts that agree, as the passes see them -/
structure Sol (s : Ser) (e u : Nat → Int) : Prop where
  lo : ∀ i, i < s.Values.length → u i + (gt s.Values i).Levels.Lo ≤ e i
  hi : ∀ i, i < s.Values.length → e i - (gt s.Values i).Levels.Hi ≤ u i
  up : ∀ i, i < s.Values.length → 0 < i → e (i - 1) ≤ e i
  x1 : ∀ i, i < s.Values.length → 0 < i → u (i - 1) - (bt s.Shifts (gt s.Values (i - 1)).Time (gt s.Values i).Time).Hi ≤ u i
  x2 : ∀ i, i < s.Values.length → 0 < i → u i + (bt s.Shifts (gt s.Values (i - 1)).Time (gt s.Values i).Time).Lo ≤ u (i - 1)
  mo : ∀ i, i < s.Values.length → u i ≤ mMost s i
  st : ∀ i, i < s.Values.length → - (bt s.Shifts (-1) (gt s.Values i).Time).Hi ≤ u i
def belowS (s : Ser) (st : MS) (e u : Nat → Int) : Prop := st.1.length = s.Values.length ∧ st.2.length = s.Values.length ∧ ∀ i, i < s.Values.length → gt st.1 i ≤ e i ∧ gt st.2 i ≤ u i
theorem rz_le {L : List Int} {i n : Nat} {v : Int} {f : Nat → Int} (hl : L.length = n) (h : ∀ j, j < n → gt L j ≤ f j) (hv : i < n → v ≤ f i) : ∀ j, j < n → gt (rz L i v) j ≤ f j := fun j hj => by
  rw [rz_at (by omega)]
  have := h j hj
  split
  · rename_i hij; subst hij; have := hv hj; omega
  · exact this
theorem step_below {s : Ser} {st : MS} {e u : Nat → Int} (hs : Sol s e u) (h : belowS s st e u) {k : Nat} (hk : k < s.Values.length) : belowS s (mStep s k st) e u := by
  obtain ⟨e0, u0⟩ := st
  obtain ⟨h1, h2, h3⟩ := h
  dsimp only at h1 h2 h3
  have he0 : ∀ j, j < s.Values.length → gt e0 j ≤ e j := fun j hj => (h3 j hj).1
  have hu0 : ∀ j, j < s.Values.length → gt u0 j ≤ u j := fun j hj => (h3 j hj).2
  have hlo := hs.lo k hk
  have hhi := hs.hi k hk
  by_cases h0 : 0 < k
  · unfold mStep
    dsimp only
    simp only [if_pos h0]
    have hup := hs.up k hk h0
    have hx1 := hs.x1 k hk h0
    have hx2 := hs.x2 k hk h0
    generalize bt s.Shifts (gt s.Values (k - 1)).Time (gt s.Values k).Time = b at *
    have g1 := rz_le (i := k) (v := gt e0 (k - 1)) h1 he0 (fun _ => by have := he0 (k - 1) (by omega); omega)
    have g2 := rz_le (i := k) (v := gt u0 (k - 1) - b.Hi) h2 hu0 (fun _ => by have := hu0 (k - 1) (by omega); omega)
    have l1 : (rz e0 k (gt e0 (k - 1))).length = s.Values.length := by rw [rz_len]; exact h1
    have l2 : (rz u0 k (gt u0 (k - 1) - b.Hi)).length = s.Values.length := by rw [rz_len]; exact h2
    generalize rz e0 k (gt e0 (k - 1)) = e1 at *
    generalize rz u0 k (gt u0 (k - 1) - b.Hi) = u1 at *
    have g3 := rz_le (i := k - 1) (v := gt u1 k + b.Lo) l2 g2 (fun _ => by have := g2 k hk; omega)
    have l3 : (rz u1 (k - 1) (gt u1 k + b.Lo)).length = s.Values.length := by rw [rz_len]; exact l2
    generalize rz u1 (k - 1) (gt u1 k + b.Lo) = u2 at *
    have g4 := rz_le (i := k) (v := gt u2 k + (gt s.Values k).Levels.Lo) l1 g1 (fun _ => by have := g3 k hk; omega)
    have l4 : (rz e1 k (gt u2 k + (gt s.Values k).Levels.Lo)).length = s.Values.length := by rw [rz_len]; exact l1
    generalize rz e1 k (gt u2 k + (gt s.Values k).Levels.Lo) = e2 at *
    have g5 := rz_le (i := k) (v := gt e2 k - (gt s.Values k).Levels.Hi) l3 g3 (fun _ => by have := g4 k hk; omega)
    exact ⟨l4, by rw [rz_len]; exact l3, fun i hi => ⟨g4 i hi, g5 i hi⟩⟩
  · unfold mStep
    dsimp only
    simp only [if_neg h0]
    have g4 := rz_le (i := k) (v := gt u0 k + (gt s.Values k).Levels.Lo) h1 he0 (fun _ => by have := hu0 k hk; omega)
    have l4 : (rz e0 k (gt u0 k + (gt s.Values k).Levels.Lo)).length = s.Values.length := by rw [rz_len]; exact h1
    generalize rz e0 k (gt u0 k + (gt s.Values k).Levels.Lo) = e2 at *
    have g5 := rz_le (i := k) (v := gt e2 k - (gt s.Values k).Levels.Hi) h2 hu0 (fun _ => by have := g4 k hk; omega)
    exact ⟨l4, by rw [rz_len]; exact h2, fun i hi => ⟨g4 i hi, g5 i hi⟩⟩
theorem pass_below {s : Ser} {st : MS} {e u : Nat → Int} (hs : Sol s e u) (h : belowS s st e u) : ∀ k : Nat, k ≤ s.Values.length → belowS s (mPass s k st) e u
  | 0, _ => h
  | k + 1, hk => step_below hs (pass_below hs h k (by omega)) hk
theorem start_below {s : Ser} {e u : Nat → Int} (hs : Sol s e u) : belowS s (mStart s) e u := by
  refine ⟨map_len _ _, map_len _ _, fun i hi => ?_⟩
  unfold mStart
  dsimp only
  rw [gt_map hi, gt_map hi]
  have h1 := hs.lo i hi
  have h2 := hs.st i hi
  omega
/-- passes end: a fixed state, or one that is over -/
theorem mF_cases {s : Ser} (h : Ok s) : ∀ (f : Nat) {st : MS}, MB s st 800000 → 320000000 - mu st < f →
    (mF s f st = some none ∧ ∀ e u, Sol s e u → ¬ belowS s st e u) ∨
    (∃ e u, mF s f st = some (some e) ∧ mu st ≤ mu (e, u) ∧ MB s (e, u) 800000 ∧ ¬ mOver s u ∧ (∀ j, j < s.Values.length → fixAt s j (e, u)) ∧ ∀ e' u', Sol s e' u' → belowS s st e' u' → belowS s (e, u) e' u')
  | 0, st, hb, hf => by have := mu_le h hb; omega
  | f + 1, st, hb, hf => by
    have hmu := mu_le h hb
    have hp := pass_mu hb.le hb.lu _ (Nat.le_refl _)
    rw [mF]
    by_cases ho : mOver s (mPass s s.Values.length st).2
    · rw [if_pos ho]
      refine .inl ⟨rfl, fun e u hs hbl => ?_⟩
      obtain ⟨i, hi, hov⟩ := ho
      have h1 := (pass_below hs hbl _ (Nat.le_refl _)).2.2 i hi
      have h2 := hs.mo i hi
      omega
    · rw [if_neg ho]
      by_cases he : mPass s s.Values.length st = st
      · rw [if_pos he]
        have h1 := (hp.2.2 (by rw [he]; exact Int.le_refl _)).2
        rw [he] at ho
        exact .inr ⟨st.1, st.2, rfl, Int.le_refl _, hb, ho, h1, fun _ _ _ hbl => hbl⟩
      · rw [if_neg he]
        have hn := mb_next h hb ho
        have hlt : mu st < mu (mPass s s.Values.length st) := by
          apply Classical.byContradiction
          intro hc
          exact he (hp.2.2 (by omega)).1
        rcases mF_cases h f hn (by omega) with ⟨h1, h2⟩ | ⟨e, u, h1, h2, h3, h4, h5, h6⟩
        · exact .inl ⟨h1, fun e u hs hbl => h2 e u hs (pass_below hs hbl _ (Nat.le_refl _))⟩
        · exact .inr ⟨e, u, h1, by omega, h3, h4, h5, fun e' u' hs hbl => h6 e' u' hs (pass_below hs hbl _ (Nat.le_refl _))⟩
theorem mono_cases {s : Ser} (h : Ok s) : (monoR s = ([], 3) ∧ ∀ e u, ¬ Sol s e u) ∨ (∃ e u, monoR s = (e, 0) ∧ e.length = s.Values.length ∧ (∀ j, j < s.Values.length → fixAt s j (e, u)) ∧ ∀ e' u', Sol s e' u' → ∀ i, i < s.Values.length → gt e i ≤ e' i) := by
  have hb := mb_start h
  have hm := mu_ge h hb
  rcases mF_cases h fuelM hb (by unfold fuelM; omega) with ⟨h1, h2⟩ | ⟨e, u, h1, _, h3, _, h5, h6⟩
  · left
    exact ⟨by rw [monoR, if_neg (by rw [h.e]; omega), h1], fun e u hs => h2 e u hs (start_below hs)⟩
  · right
    exact ⟨e, u, by rw [monoR, if_neg (by rw [h.e]; omega), h1], h3.le, h5, fun e' u' hs i hi => ((h6 e' u' hs (start_below hs)).2.2 i hi).1⟩

/-! ### falls -/
theorem bt_split (s : Ser) {a b c : Int} (hab : a ≤ b) (hbc : b ≤ c) : (bt s.Shifts a c).Lo = (bt s.Shifts a b).Lo + (bt s.Shifts b c).Lo ∧ (bt s.Shifts a c).Hi = (bt s.Shifts a b).Hi + (bt s.Shifts b c).Hi := by
  unfold bt btLo btHi
  dsimp only
  rw [← sumN_add, ← sumN_add]
  constructor <;> exact sumN_congr fun k _ => by (repeat' split) <;> omega
/-- the greatest rise of one value over an earlier one -/
theorem gap_hi {s : Ser} (h : Ok s) {i k : Nat} (hik : i < k) (hk : k < s.Values.length) : (gap s k i).Hi = (gt s.Values k).Levels.Hi - (gt s.Values i).Levels.Lo - (bt s.Shifts (gt s.Values i).Time (gt s.Values k).Time).Lo := by
  have ht := h.mono hk hik
  have hg := gap_at (s := s) (lv := (List.range s.Values.length).map fun j => if j = k then (gt s.Values j).Levels.Hi else (gt s.Values j).Levels.Lo) (sh := (List.range s.Shifts.length).map fun j => (gt s.Shifts j).Levels.Lo)
    hk (show i < s.Values.length by omega) (by omega) true (by rw [gt_map hk]; simp) (by rw [gt_map (by omega), if_neg (by omega)]; simp) (fun j hj _ _ => by rw [gt_map hj]; simp) (fun j hj h1 h2 => by omega)
  simp only [if_true] at hg
  rw [← hg]
  unfold evenAt
  rw [gt_map hk, gt_map (by omega), if_pos rfl, if_neg (by omega)]
  have h2 : offN s.Shifts ((List.range s.Shifts.length).map fun j => (gt s.Shifts j).Levels.Lo) (gt s.Values k).Time s.Shifts.length - offN s.Shifts ((List.range s.Shifts.length).map fun j => (gt s.Shifts j).Levels.Lo) (gt s.Values i).Time s.Shifts.length = (bt s.Shifts (gt s.Values i).Time (gt s.Values k).Time).Lo := by
    unfold offN bt btLo
    dsimp only
    rw [← sumN_sub]
    exact sumN_congr fun j hj => by rw [gt_map hj]; (repeat' split) <;> omega
  omega
theorem fall_cases {s : Ser} (h : Ok s) : (∃ i k, i < k ∧ k < s.Values.length ∧ (gap s k i).Hi < 0 ∧ fallR s = ([(gt s.Values i).Time, (gt s.Values k).Time], 0)) ∨ ((∀ i k, i < k → k < s.Values.length → 0 ≤ (gap s k i).Hi) ∧ fallR s = ([], 3)) := by
  have row : ∀ i, i < s.Values.length → (fallK s i = s.Values.length ∧ ∀ k, i < k → k < s.Values.length → 0 ≤ (gap s k i).Hi) ∨ (fallK s i < s.Values.length ∧ i < fallK s i ∧ (gap s (fallK s i) i).Hi < 0) := fun i hi => by
    unfold fallK
    rcases first_cases (fallP s i) (s.Values.length - (i + 1)) with ⟨h1, h2⟩ | ⟨h1, h2, _⟩
    · left
      rw [h1]
      refine ⟨by omega, fun k hik hk => ?_⟩
      have := h2 (k - (i + 1)) (by omega)
      unfold fallP at this
      rw [show i + 1 + (k - (i + 1)) = k by omega] at this
      omega
    · exact .inr ⟨by omega, by omega, h2⟩
  rcases first_cases (fun i => fallK s i < s.Values.length) s.Values.length with ⟨h1, h2⟩ | ⟨h1, h2, _⟩
  · right
    refine ⟨fun i k hik hk => ?_, by unfold fallR fallI; rw [if_neg (by rw [h.e]; omega), h1, if_neg (by omega)]⟩
    rcases row i (by omega) with ⟨_, h3⟩ | ⟨h3, _⟩
    · exact h3 k hik hk
    · exact absurd h3 (h2 i (by omega))
  · left
    rcases row _ h1 with ⟨h3, _⟩ | ⟨h3, h4, h5⟩
    · omega
    · exact ⟨_, _, h4, h3, h5, by unfold fallR fallI; rw [if_neg (by rw [h.e]; omega), if_pos h1]⟩
/-- the greatest least level so far, with the least shifts -/
def bestE (s : Ser) : Nat → Int
  | 0 => (gt s.Values 0).Levels.Lo - (bt s.Shifts (-1) (gt s.Values 0).Time).Lo
  | k + 1 => max (bestE s k) ((gt s.Values (k + 1)).Levels.Lo - (bt s.Shifts (-1) (gt s.Values (k + 1)).Time).Lo)
theorem bestE_ge (s : Ser) : ∀ k : Nat, (gt s.Values k).Levels.Lo - (bt s.Shifts (-1) (gt s.Values k).Time).Lo ≤ bestE s k
  | 0 => Int.le_refl _
  | k + 1 => by simp only [bestE]; omega
theorem bestE_is (s : Ser) : ∀ k : Nat, ∃ i, i ≤ k ∧ bestE s k = (gt s.Values i).Levels.Lo - (bt s.Shifts (-1) (gt s.Values i).Time).Lo
  | 0 => ⟨0, Nat.le_refl _, rfl⟩
  | k + 1 => by
    obtain ⟨i, h1, h2⟩ := bestE_is s k
    by_cases hm : bestE s k ≤ (gt s.Values (k + 1)).Levels.Lo - (bt s.Shifts (-1) (gt s.Values (k + 1)).Time).Lo
    · exact ⟨k + 1, Nat.le_refl _, by simp only [bestE]; omega⟩
    · exact ⟨i, by omega, by simp only [bestE]; omega⟩
theorem no_fall_sol {s : Ser} (h : Ok s) (hg : ∀ i k, i < k → k < s.Values.length → 0 ≤ (gap s k i).Hi) : Sol s (bestE s) (mMost s) := by
  have bs : ∀ i, i < s.Values.length → 0 < i → (bt s.Shifts (-1) (gt s.Values i).Time).Lo = (bt s.Shifts (-1) (gt s.Values (i - 1)).Time).Lo + (bt s.Shifts (gt s.Values (i - 1)).Time (gt s.Values i).Time).Lo := fun i hi h0 => by
    have h1 := h.vs hi h0
    have h2 := (h.vt (i := i - 1) (by omega)).1
    exact (bt_split s (by omega) (by omega)).1
  refine ⟨fun i _ => by have := bestE_ge s i; unfold mMost; omega, fun i hi => ?_, fun i hi h0 => ?_, fun i hi h0 => ?_, fun i hi h0 => ?_, fun i _ => Int.le_refl _, fun i hi => ?_⟩
  · obtain ⟨j, hj, he⟩ := bestE_is s i
    rw [he]
    unfold mMost
    rcases Nat.lt_or_ge j i with h1 | h1
    · have h2 := hg j i h1 hi
      rw [gap_hi h h1 hi] at h2
      have h3 := h.mono hi h1
      have h4 := (h.vt (i := j) (by omega)).1
      have h5 := (bt_split s (a := -1) (b := (gt s.Values j).Time) (c := (gt s.Values i).Time) (by omega) (by omega)).1
      omega
    · obtain rfl : j = i := by omega
      have := h.vl hi; omega
  · obtain ⟨j, rfl⟩ : ∃ j, i = j + 1 := ⟨i - 1, by omega⟩
    simp only [bestE, Nat.add_sub_cancel]; omega
  · have h1 := bs i hi h0
    have h2 := btS_bd h (gt s.Values (i - 1)).Time (gt s.Values i).Time
    unfold mMost; omega
  · have h1 := bs i hi h0
    unfold mMost; omega
  · have h2 := btS_bd h (-1) (gt s.Values i).Time
    unfold mMost; omega
/-- where the passes end there is no fall -/
theorem fix_no_fall {s : Ser} (h : Ok s) {e u : List Int} (hf : ∀ j, j < s.Values.length → fixAt s j (e, u)) {i : Nat} : ∀ {k : Nat}, i < k → k < s.Values.length → gt e i ≤ gt e k ∧ gt u k + (bt s.Shifts (gt s.Values i).Time (gt s.Values k).Time).Lo ≤ gt u i
  | 0, h1, _ => absurd h1 (Nat.not_lt_zero _)
  | k + 1, h1, hk => by
    have h2 := (hf (k + 1) hk).1 (by omega)
    simp only [Nat.add_sub_cancel] at h2
    rcases Nat.lt_or_ge i k with h3 | h3
    · have h4 := fix_no_fall h hf (k := k) h3 (by omega)
      have t1 := h.mono (i := i) (k := k) (by omega) h3
      have t2 := h.mono (i := k) (k := k + 1) hk (by omega)
      have h5 := (bt_split s (a := (gt s.Values i).Time) (b := (gt s.Values k).Time) (c := (gt s.Values (k + 1)).Time) (by omega) (by omega)).1
      omega
    · obtain rfl : i = k := by omega
      exact ⟨h2.1, h2.2.2⟩
theorem fix_gap {s : Ser} (h : Ok s) {e u : List Int} (hf : ∀ j, j < s.Values.length → fixAt s j (e, u)) {i k : Nat} (hik : i < k) (hk : k < s.Values.length) : 0 ≤ (gap s k i).Hi := by
  have h1 := fix_no_fall h hf hik hk
  have h2 := (hf i (by omega)).2
  have h3 := (hf k hk).2
  rw [gap_hi h hik hk]
  dsimp only at h2 h3
  omega
/-- whatever agrees and rises is a solution -/
theorem agree_sol {s : Ser} (h : Ok s) {lv sh : List Int} (ha : agreeP s lv sh) (hr : risesP (evenL s lv sh)) : Sol s (evenAt s lv sh) (fun i => - offN s.Shifts sh (gt s.Values i).Time s.Shifts.length) := by
  have bo : ∀ a b : Int, a ≤ b → (bt s.Shifts a b).Lo ≤ offN s.Shifts sh b s.Shifts.length - offN s.Shifts sh a s.Shifts.length ∧ offN s.Shifts sh b s.Shifts.length - offN s.Shifts sh a s.Shifts.length ≤ (bt s.Shifts a b).Hi := fun a b hab => by
    unfold offN bt btLo btHi
    dsimp only
    rw [← sumN_sub]
    constructor <;> refine sumN_le fun k hk => ?_ <;> have := ha.2.2 k hk <;> (repeat' split) <;> omega
  have z0 : ∀ i, i < s.Values.length → offN s.Shifts sh (-1) s.Shifts.length = 0 := fun i _ => by
    unfold offN
    rw [sumN_congr (g := fun _ => 0) (fun k hk => by have := (h.xt hk).1; rw [if_neg (by omega)]), sumN_zero]
  refine ⟨fun i hi => by have := ha.2.1 i hi; unfold evenAt; omega, fun i hi => by have := ha.2.1 i hi; unfold evenAt; omega, fun i hi h0 => ?_, fun i hi h0 => ?_, fun i hi h0 => ?_, fun i hi => ?_, fun i hi => ?_⟩
  · have := hr i (by rw [evenL_len]; exact hi) h0
    rw [evenL_at hi, evenL_at (by omega)] at this
    exact this
  · have h1 := h.vs hi h0
    have := bo (gt s.Values (i - 1)).Time (gt s.Values i).Time (by omega)
    omega
  · have h1 := h.vs hi h0
    have := bo (gt s.Values (i - 1)).Time (gt s.Values i).Time (by omega)
    omega
  · have h1 := (h.vt hi).1
    have := bo (-1) (gt s.Values i).Time (by omega)
    rw [z0 i hi] at this
    unfold mMost; omega
  · have h1 := (h.vt hi).1
    have := bo (-1) (gt s.Values i).Time (by omega)
    rw [z0 i hi] at this
    omega
theorem mono_fall {s : Ser} (h : Ok s) : ((monoR s).2 = 0 ∧ (fallR s).2 = 3) ∨ ((monoR s).2 = 3 ∧ (fallR s).2 = 0) := by
  rcases mono_cases h with ⟨h1, h2⟩ | ⟨e, u, h1, _, h3, _⟩
  · right
    rcases fall_cases h with ⟨i, k, _, _, _, h5⟩ | ⟨h4, _⟩
    · rw [h1, h5]; exact ⟨rfl, rfl⟩
    · exact absurd (no_fall_sol h h4) (h2 _ _)
  · left
    rcases fall_cases h with ⟨i, k, h4, h5, h6, _⟩ | ⟨_, h5⟩
    · have := fix_gap h h3 h4 h5; omega
    · rw [h1, h5]; exact ⟨rfl, rfl⟩
theorem mono_least {s : Ser} (h : Ok s) (h0 : (monoR s).2 = 0) : (monoR s).1.length = s.Values.length ∧ risesP (monoR s).1 ∧ ∀ lv sh, agreeP s lv sh → risesP (evenL s lv sh) → ∀ i, i < s.Values.length → gt (monoR s).1 i ≤ gt (evenL s lv sh) i := by
  rcases mono_cases h with ⟨h1, _⟩ | ⟨e, u, h1, h2, h3, h4⟩
  · rw [h1] at h0; cases h0
  · rw [h1]
    refine ⟨h2, fun i hi hp => ?_, fun lv sh ha hr i hi => ?_⟩
    · have hi' : i < s.Values.length := by dsimp only at hi; omega
      exact ((h3 i hi').1 hp).1
    · rw [evenL_at hi]; exact h4 _ _ (agree_sol h ha hr) i hi
theorem rises_le {l : List Int} (h : risesP l) {i : Nat} : ∀ {k : Nat}, i ≤ k → k < l.length → gt l i ≤ gt l k
  | 0, h1, _ => by obtain rfl : i = 0 := by omega
                   exact Int.le_refl _
  | k + 1, h1, hk => by
    rcases Nat.lt_or_ge i (k + 1) with h2 | h2
    · have h3 := rises_le h (i := i) (k := k) (by omega) (by omega)
      have h4 := h (k + 1) hk (by omega)
      rw [Nat.add_sub_cancel] at h4; omega
    · obtain rfl : i = k + 1 := by omega
      exact Int.le_refl _
/-- the mean at one time -/
theorem mean_one {s : Ser} (h : Ok s) {l : List Int} (hl : l.length = s.Values.length) {i : Nat} (hi : i < s.Values.length) : (meanR s l ⟨(gt s.Values i).Time, (gt s.Values i).Time⟩).1.Num = gt l i ∧ (meanR s l ⟨(gt s.Values i).Time, (gt s.Values i).Time⟩).1.Den = 1 := by
  have key : ∀ j, j < s.Values.length → (inT ⟨(gt s.Values i).Time, (gt s.Values i).Time⟩ (gt s.Values j).Time ↔ j = i) := fun j hj => by
    unfold inT
    dsimp only
    constructor
    · intro he
      rcases Nat.lt_trichotomy j i with h1 | h1 | h1
      · have := h.mono hi h1; omega
      · exact h1
      · have := h.mono hj h1; omega
    · intro he; subst he; omega
  have hc : mnC s l = s.Values.length := by unfold mnC; omega
  unfold meanR
  dsimp only
  rw [hc]
  constructor
  · unfold mnN
    rw [sumN_congr (g := fun j => if j = i then gt l j else 0) (fun j hj => by
      by_cases hji : j = i
      · rw [if_pos hji, if_pos ((key j hj).2 hji)]
      · rw [if_neg hji, if_neg (fun hh => hji ((key j hj).1 hh))]), sumN_one hi]
  · have hd : ∀ n, n ≤ s.Values.length → mnD s ⟨(gt s.Values i).Time, (gt s.Values i).Time⟩ n = sumN (fun j => if j = i then 1 else 0) n := by
      intro n
      induction n with
      | zero => intro _; rfl
      | succ n ih =>
        intro hn
        simp only [mnD, sumN]
        rw [ih (by omega)]
        congr 1
        by_cases hji : n = i
        · rw [if_pos hji, if_pos ((key n (by omega)).2 hji)]
        · rw [if_neg hji, if_neg (fun hh => hji ((key n (by omega)).1 hh))]
    rw [hd _ (Nat.le_refl _), sumN_one (g := fun _ => 1) hi]
/-- what surely falls falls -/
theorem fall_real {s : Ser} (h : Ok s) (h0 : (fallR s).2 = 0) : (fallR s).1.length = 2 ∧ gt (fallR s).1 0 < gt (fallR s).1 1 ∧ ∀ lv sh, agreeP s lv sh →
    (meanR s (evenL s lv sh) ⟨gt (fallR s).1 0, gt (fallR s).1 0⟩).1.Den = 1 ∧ (meanR s (evenL s lv sh) ⟨gt (fallR s).1 1, gt (fallR s).1 1⟩).1.Den = 1 ∧
    (meanR s (evenL s lv sh) ⟨gt (fallR s).1 1, gt (fallR s).1 1⟩).1.Num < (meanR s (evenL s lv sh) ⟨gt (fallR s).1 0, gt (fallR s).1 0⟩).1.Num ∧ ¬ risesP (evenL s lv sh) := by
  rcases fall_cases h with ⟨i, k, h1, h2, h3, h4⟩ | ⟨_, h4⟩
  · rw [h4]
    have g0 : gt [(gt s.Values i).Time, (gt s.Values k).Time] 0 = (gt s.Values i).Time := rfl
    have g1 : gt [(gt s.Values i).Time, (gt s.Values k).Time] 1 = (gt s.Values k).Time := rfl
    dsimp only
    rw [g0, g1]
    refine ⟨rfl, h.mono h2 h1, fun lv sh ha => ?_⟩
    have m1 := mean_one h (evenL_len s lv sh) (i := i) (by omega)
    have m2 := mean_one h (evenL_len s lv sh) (i := k) h2
    have hg := gap_in ha (i := k) (k := i) h2 (by omega)
    rw [m1.1, m1.2, m2.1, m2.2, evenL_at (i := i) (by omega), evenL_at (i := k) h2]
    refine ⟨rfl, rfl, by omega, fun hr => ?_⟩
    have := rises_le hr (i := i) (k := k) (by omega) (by rw [evenL_len]; exact h2)
    rw [evenL_at (by omega), evenL_at h2] at this
    omega
  · rw [h4] at h0; cases h0
theorem even_small (s : Ser) (a b : List Int) : (evenR s a b).1.length ≤ 1000 ∧ ∀ i, i < (evenR s a b).1.length → -1000000 ≤ gt (evenR s a b).1 i ∧ gt (evenR s a b).1 i ≤ 1000000 := by
  by_cases h : (evenR s a b).2 = 0
  · obtain ⟨h1, h2, h3⟩ := evenR_ok h
    have := h1.nV
    rw [h3]
    exact ⟨by rw [evenL_len]; omega, evenL_bd h1 h2⟩
  · have : (evenR s a b).1 = [] := by
      unfold evenR at h ⊢
      split
      · rfl
      · rename_i h1; rw [if_neg h1] at h; exact absurd rfl h
    rw [this]
    exact ⟨by simp, fun i hi => by simp at hi⟩
end Go.Proofs.C8
