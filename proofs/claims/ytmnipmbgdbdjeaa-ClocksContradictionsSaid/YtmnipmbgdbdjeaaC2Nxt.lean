import Derived.Test.YtmnipmbgdbdjeaaC2Ref
import Derived.Test.YtmnipmbgdbdjeaaKxR
/- Clocks: the reference's sets, one after another; in plain Lean. -/
namespace Go.Proofs.C2
open Go Go.Kx

/-! ### some marks -/
def selL (m : List Mark) (l : List Int) : List Mark := (List.range l.length).map fun j => gt m (gt l j).toNat
theorem selL_len (m : List Mark) (l : List Int) : (selL m l).length = l.length := map_len _ _
theorem mem_sel {m : List Mark} {l : List Int} {x : Mark} : x ∈ selL m l ↔ ∃ i, i ∈ l ∧ x = gt m i.toNat := by
  unfold selL
  rw [List.mem_map]
  constructor
  · rintro ⟨j, hj, rfl⟩
    rw [List.mem_range] at hj
    exact ⟨_, gt_mem hj, rfl⟩
  · rintro ⟨i, hi, rfl⟩
    obtain ⟨j, hj, he⟩ := mem_gt hi
    exact ⟨j, List.mem_range.2 hj, by rw [he]⟩
def rngP (n : Nat) (l : List Int) : Prop := ∀ j, j < l.length → 0 ≤ gt l j ∧ gt l j < (n : Int)
theorem sel_Ok {d : Drum} {m : List Mark} (h : Ok d m) {l : List Int} (hl : l.length ≤ 64) (hr : rngP m.length l) : Ok d (selL m l) :=
  ok_sub h (fun x hx => by
    obtain ⟨i, hi, rfl⟩ := mem_sel.1 hx
    obtain ⟨j, hj, he⟩ := mem_gt hi
    have := hr j hj; exact gt_mem (by omega)) (by rw [selL_len]; exact hl)
theorem sp_ok (d : Drum) (m : List Mark) : (spR d m).2 = decide (okD d m) := by
  unfold spR; by_cases h : okD d m
  · rw [if_pos h, decide_eq_true h]
  · rw [if_neg h, decide_eq_false h]
/-! ### the rest -/
def rstN (l : List Int) : Nat → List Int
  | 0 => []
  | n + 1 => if (n : Int) ∈ l then rstN l n else rstN l n ++ [(n : Int)]
theorem rst_yes {l : List Int} {n : Nat} (h : ¬ (n : Int) ∈ l) : rstN l n ++ [(n : Int)] = rstN l (n + 1) := by rw [rstN, if_neg h]
theorem rst_no {l : List Int} {n : Nat} (h : (n : Int) ∈ l) : rstN l n = rstN l (n + 1) := by rw [rstN, if_pos h]
theorem rst_len (l : List Int) : ∀ n, (rstN l n).length ≤ n
  | 0 => Nat.le_refl _
  | n + 1 => by have := rst_len l n; rw [rstN]; split <;> simp <;> omega
theorem mem_rst {l : List Int} {i : Int} : ∀ {n : Nat}, i ∈ rstN l n ↔ (0 ≤ i ∧ i < (n : Int)) ∧ ¬ i ∈ l
  | 0 => by simp [rstN]; omega
  | n + 1 => by
    have ih := mem_rst (l := l) (i := i) (n := n)
    rw [rstN]; split
    · rename_i h
      rw [ih]
      refine ⟨fun h1 => ⟨by omega, h1.2⟩, fun h1 => ⟨⟨h1.1.1, ?_⟩, h1.2⟩⟩
      rcases Int.lt_or_le i n with h2 | h2
      · exact h2
      · obtain rfl : i = (n : Int) := by omega
        exact absurd h h1.2
    · rename_i h
      rw [List.mem_append, ih, List.mem_singleton]
      constructor
      · rintro (h1 | rfl)
        · exact ⟨by omega, h1.2⟩
        · exact ⟨by omega, h⟩
      · intro h1
        rcases Int.lt_or_le i n with h2 | h2
        · exact .inl ⟨⟨h1.1.1, h2⟩, h1.2⟩
        · exact .inr (by omega)
theorem rst_rng (l : List Int) (n : Nat) : rngP n (rstN l n) := fun _ hj => (mem_rst.1 (gt_mem hj)).1
/-- the marks outside of a set can be kept together if and only if the set hits each minimal contradiction -/
theorem rst_hit {d : Drum} {m : List Mark} {l : List Int} : okD d (selL m (rstN l m.length)) ↔ hitB (pairL d m) l = true := by
  rw [sel_ok (m := m) (P := fun i => ¬ i ∈ l) (fun x => ?_), hit_iff]
  · exact ⟨fun h p hp => by obtain ⟨i, h1, h2⟩ := h p hp; exact ⟨i, h1, Decidable.of_not_not h2⟩, fun h p hp => by obtain ⟨i, h1, h2⟩ := h p hp; exact ⟨i, h1, fun h3 => h3 h2⟩⟩
  · rw [mem_sel]
    constructor
    · rintro ⟨i, hi, rfl⟩
      have h1 := mem_rst.1 hi
      exact ⟨i.toNat, by omega, by rw [show ((i.toNat : Nat) : Int) = i by omega]; exact h1.2, rfl⟩
    · rintro ⟨i, hi, hn, rfl⟩
      exact ⟨(i : Int), mem_rst.2 ⟨by omega, hn⟩, by simp⟩
/-! ### one set after another -/
def bump (l : List Int) (i : Nat) : List Int := (List.range l.length).map fun (j : Nat) => if j < i then gt l j else gt l i + 1 + ((j : Int) - i)
def nxF (n : Nat) (l : List Int) : Nat → List Int
  | 0 => []
  | k + 1 => if gt l k < (n : Int) - l.length + k then bump l k else nxF n l k
def nextL (n : Nat) (l : List Int) : List Int := nxF n l l.length
theorem bump_len (l : List Int) (i : Nat) : (bump l i).length = l.length := map_len _ _
theorem nxF_yes {n : Nat} {l : List Int} {i : Nat} : ∀ {k : Nat}, i < k → gt l i < (n : Int) - l.length + i → (∀ j, i < j → j < k → ¬ gt l j < (n : Int) - l.length + j) → nxF n l k = bump l i
  | 0, h, _, _ => absurd h (Nat.not_lt_zero _)
  | k + 1, h, h1, h2 => by
    rw [nxF]
    rcases Nat.lt_succ_iff_lt_or_eq.1 h with h3 | h3
    · rw [if_neg (h2 k h3 (by omega))]; exact nxF_yes h3 h1 (fun j hj hk => h2 j hj (by omega))
    · subst h3; rw [if_pos h1]
theorem nxF_no {n : Nat} {l : List Int} : ∀ {k : Nat}, (∀ j, j < k → ¬ gt l j < (n : Int) - l.length + j) → nxF n l k = []
  | 0, _ => rfl
  | k + 1, h => by rw [nxF, if_neg (h k (by omega))]; exact nxF_no (fun j hj => h j (by omega))
/-- numbers that follow one another -/
def runI (v : Int) (t : Nat) : List Int := (List.range t).map fun (j : Nat) => v + j
theorem runI_len (v : Int) (t : Nat) : (runI v t).length = t := map_len _ _
theorem runI_at {v : Int} {t j : Nat} (h : j < t) : gt (runI v t) j = v + j := gt_map h
theorem runI_succ (v : Int) (t : Nat) : runI v (t + 1) = v :: runI (v + 1) t := by
  refine ext_gt (by simp [runI_len]) fun j hj => ?_
  rw [runI_len] at hj
  rw [runI_at hj]
  cases j with
  | zero => simp [gt]
  | succ j =>
    have : gt (v :: runI (v + 1) t) (j + 1) = gt (runI (v + 1) t) j := by simp [gt]
    rw [this, runI_at (by omega)]; omega
/-- b comes right behind a: a ends with the last numbers below n -/
def nextP (n : Nat) (a b : List Int) : Prop := ∃ (p : List Int) (v : Int) (t : Nat), a = p ++ v :: runI ((n : Int) - t) t ∧ b = p ++ runI (v + 1) (t + 1) ∧ v + 1 + t < (n : Int)
theorem next_of {n : Nat} {a b : List Int} (h : nextP n a b) : nextL n a = b := by
  obtain ⟨p, v, t, rfl, rfl, hv⟩ := h
  have hl : (p ++ v :: runI ((n : Int) - t) t).length = p.length + t + 1 := by simp [runI_len]; omega
  have g0 : gt (p ++ v :: runI ((n : Int) - t) t) p.length = v := by
    have := gt_app_r p (v :: runI ((n : Int) - t) t) 0; rw [Nat.add_zero] at this; rw [this]; simp [gt]
  have gs : ∀ j, j < t → gt (p ++ v :: runI ((n : Int) - t) t) (p.length + (j + 1)) = (n : Int) - t + j := fun j hj => by
    rw [gt_app_r]
    have : gt (v :: runI ((n : Int) - t) t) (j + 1) = gt (runI ((n : Int) - t) t) j := by simp [gt]
    rw [this, runI_at hj]
  unfold nextL
  rw [nxF_yes (i := p.length) (by omega) (by rw [g0, hl]; omega) (fun j h1 h2 => ?_)]
  · refine ext_gt (by rw [bump_len, hl]; simp [runI_len]; omega) fun j hj => ?_
    rw [bump_len] at hj
    unfold bump
    rw [gt_map hj]
    by_cases hc : j < p.length
    · rw [if_pos hc, gt_app_l _ _ hc, gt_app_l _ _ hc]
    · rw [if_neg hc, g0]
      have e : gt (p ++ runI (v + 1) (t + 1)) j = v + 1 + ((j - p.length : Nat) : Int) := by
        have := gt_app_r p (runI (v + 1) (t + 1)) (j - p.length)
        rw [show p.length + (j - p.length) = j by omega] at this
        rw [this, runI_at (by omega)]
      rw [e]; omega
  · have := gs (j - p.length - 1) (by omega)
    rw [show p.length + (j - p.length - 1 + 1) = j by omega] at this
    rw [this, hl]; omega
theorem next_last (n s : Nat) : nextL n (runI ((n : Int) - s) s) = [] := by
  unfold nextL
  exact nxF_no (fun j hj => by rw [runI_len] at hj; rw [runI_at hj, runI_len]; omega)
/-- a list in which each one is followed by the next one -/
def chainP (n : Nat) : List (List Int) → Prop
  | [] => True
  | [_] => True
  | a :: b :: L => nextP n a b ∧ chainP n (b :: L)
theorem chain_app {n : Nat} {a b : List Int} {L M : List (List Int)} (h1 : chainP n (L ++ [a])) (h2 : nextP n a b) (h3 : chainP n (b :: M)) : chainP n (L ++ [a] ++ (b :: M)) := by
  induction L with
  | nil => exact ⟨h2, h3⟩
  | cons x L ih =>
    cases L with
    | nil => exact ⟨h1.1, ih h1.2⟩
    | cons y L => exact ⟨h1.1, ih h1.2⟩
theorem sets_cons {n s k : Nat} {l : List Int} (h : k < n) : setsF n (s + 1) l k = setsF n s (l ++ [(k : Int)]) (k + 1) ++ setsF n (s + 1) l (k + 1) := by
  rw [setsF, setsF, show n - k = (n - (k + 1)) + 1 by omega, List.range_succ_eq_map, List.flatMap_cons, Nat.add_zero, List.flatMap_map]
  congr 1
  refine congrArg (fun f => (List.range (n - (k + 1))).flatMap f) (funext fun j => ?_)
  rw [show k + Nat.succ j = k + 1 + j by omega]
theorem sets_nil {n : Nat} : ∀ {s : Nat} {l : List Int} {k : Nat}, n < k + s → setsF n s l k = [] ∨ s = 0
  | 0, _, _, _ => .inr rfl
  | s + 1, l, k, h => by
    refine .inl ?_
    rw [setsF]
    apply List.flatMap_eq_nil_iff.2
    intro j hj
    rw [List.mem_range] at hj
    rcases sets_nil (n := n) (s := s) (l := l ++ [((k + j : Nat) : Int)]) (k := k + j + 1) (by omega) with h1 | h1
    · exact h1
    · omega
/-- the sets of a size begin with the first numbers, end with the last ones, and each is followed by the next one -/
theorem sets_chain (n : Nat) : ∀ (s : Nat) (l : List Int) (nx : Nat), nx + s ≤ n →
    (∃ M, setsF n s l nx = (l ++ runI nx s) :: M) ∧ (∃ M, setsF n s l nx = M ++ [l ++ runI ((n : Int) - s) s]) ∧ chainP n (setsF n s l nx)
  | 0, l, nx, _ => by
    have e : ∀ v : Int, l ++ runI v 0 = l := fun v => by simp [runI]
    rw [setsF, e, e]
    exact ⟨⟨[], rfl⟩, ⟨[], rfl⟩, trivial⟩
  | s + 1, l, nx, h => by
    have key : ∀ t k : Nat, k + t + s + 1 = n → nx ≤ k →
        (∃ M, setsF n (s + 1) l k = (l ++ runI k (s + 1)) :: M) ∧ (∃ M, setsF n (s + 1) l k = M ++ [l ++ runI ((n : Int) - (s + 1 : Nat)) (s + 1)]) ∧ chainP n (setsF n (s + 1) l k) := by
      intro t
      induction t with
      | zero =>
        intro k hk _
        obtain ⟨⟨M1, e1⟩, ⟨M2, e2⟩, hc⟩ := sets_chain n s (l ++ [(k : Int)]) (k + 1) (by omega)
        have hB : setsF n (s + 1) l (k + 1) = [] := by
          rcases sets_nil (n := n) (s := s + 1) (l := l) (k := k + 1) (by omega) with h1 | h1
          · exact h1
          · cases h1
        rw [sets_cons (by omega), hB, List.append_nil]
        refine ⟨⟨M1, ?_⟩, ⟨M2, ?_⟩, hc⟩
        · rw [e1, runI_succ, List.append_assoc]; rfl
        · rw [e2, runI_succ, List.append_assoc, show (n : Int) - ((s + 1 : Nat) : Int) = (k : Int) by omega, show (n : Int) - (s : Int) = (k : Int) + 1 by omega]; rfl
      | succ t ih =>
        intro k hk hx
        obtain ⟨⟨M1, e1⟩, ⟨M2, e2⟩, hc⟩ := sets_chain n s (l ++ [(k : Int)]) (k + 1) (by omega)
        obtain ⟨⟨N1, f1⟩, ⟨N2, f2⟩, hd⟩ := ih (k + 1) (by omega) (by omega)
        rw [sets_cons (by omega)]
        refine ⟨⟨M1 ++ setsF n (s + 1) l (k + 1), ?_⟩, ⟨setsF n s (l ++ [(k : Int)]) (k + 1) ++ N2, ?_⟩, ?_⟩
        · rw [e1, runI_succ, List.append_assoc]; rfl
        · rw [f2, List.append_assoc]
        · rw [e2] at hc ⊢
          rw [f1] at hd ⊢
          refine chain_app hc ⟨l, (k : Int), s, ?_, ?_, by omega⟩ hd
          · rw [List.append_assoc]; rfl
          · rw [show ((k : Int) + 1) = ((k + 1 : Nat) : Int) by omega]
    exact key (n - nx - s - 1) nx (by omega) (Nat.le_refl _)
theorem chain_at {n : Nat} : ∀ {L : List (List Int)}, chainP n L → ∀ i, i + 1 < L.length → nextL n (gt L i) = gt L (i + 1)
  | [], _, i, h => absurd h (by simp)
  | [a], _, i, h => absurd h (by simp)
  | a :: b :: L, hc, 0, _ => next_of hc.1
  | a :: b :: L, hc, i + 1, h => by
    have := chain_at hc.2 i (by simpa using h)
    simpa [gt] using this
/-- the reference's round over all sets of a size -/
theorem nx_start {n s : Nat} (h : s ≤ n) : 0 < (setsF n s [] 0).length ∧ gt (setsF n s [] 0) 0 = runI 0 s := by
  obtain ⟨⟨M, e⟩, _, _⟩ := sets_chain n s [] 0 (by omega)
  rw [e]; exact ⟨by simp, by simp [gt]⟩
theorem nx_step {n s : Nat} (h : s ≤ n) {i : Nat} (hi : i < (setsF n s [] 0).length) : if i + 1 < (setsF n s [] 0).length then nextL n (gt (setsF n s [] 0) i) = gt (setsF n s [] 0) (i + 1) else nextL n (gt (setsF n s [] 0) i) = [] := by
  obtain ⟨_, ⟨M, e⟩, hc⟩ := sets_chain n s [] 0 (by omega)
  split
  · exact chain_at hc i (by assumption)
  · have hl : i = M.length := by rw [e] at hi; rw [e] at *; simp at *; omega
    rw [e, hl]
    have := gt_app_r M [[] ++ runI ((n : Int) - s) s] 0
    rw [Nat.add_zero] at this
    rw [this]
    simpa [gt] using next_last n s
theorem nx_mem {n s i : Nat} (hi : i < (setsF n s [] 0).length) : (gt (setsF n s [] 0) i).length = s ∧ rngP n (gt (setsF n s [] 0) i) := by
  have h := sets_iff.1 (gt_mem hi)
  exact ⟨h.1, fun j hj => h.2.2 _ (gt_mem hj)⟩
/-- a set of size 0 has no next one; another one is empty only behind the last one -/
theorem nx_nil {n s i : Nat} (h : s ≤ n) (hi : i < (setsF n s [] 0).length) : nextL n (gt (setsF n s [] 0) i) = [] ↔ i + 1 = (setsF n s [] 0).length := by
  have h1 := nx_step h hi
  by_cases hc : i + 1 < (setsF n s [] 0).length
  · rw [if_pos hc] at h1
    rw [h1]
    refine ⟨fun h2 => ?_, fun h2 => by omega⟩
    have h3 := (nx_mem (n := n) (s := s) hc).1
    rw [h2] at h3
    obtain rfl : s = 0 := h3.symm
    rw [setsF] at hc; simp at hc
  · rw [if_neg hc] at h1; exact ⟨fun _ => by omega, fun _ => h1⟩
def fltL (bad : List (List Int)) (n s q : Nat) : List (List Int) := ((setsF n s [] 0).take q).filter (hitB bad)
theorem flt_step {bad : List (List Int)} {n s q : Nat} (hq : q < (setsF n s [] 0).length) : fltL bad n s (q + 1) = if hitB bad (gt (setsF n s [] 0) q) = true then fltL bad n s q ++ [gt (setsF n s [] 0) q] else fltL bad n s q := by
  unfold fltL
  rw [List.take_add_one, gt_eq hq, List.filter_append]
  by_cases h : hitB bad (gt (setsF n s [] 0) q) = true
  · rw [if_pos h]; simp [h]
  · rw [if_neg h]; simp [h]
theorem flt_all (bad : List (List Int)) (n s : Nat) : fltL bad n s (setsF n s [] 0).length = drpN bad n s := by unfold fltL drpN; rw [List.take_length]
theorem flt_len (bad : List (List Int)) {n : Nat} (hn : n ≤ 12) (s q : Nat) : (fltL bad n s q).length ≤ 4096 := by
  have h1 := sets_len n s [] 0
  have h2 := fil_le (hitB bad) ((setsF n s [] 0).take q)
  have h3 : 2 ^ (n - 0) ≤ 2 ^ 12 := Nat.pow_le_pow_right (by omega) (by omega)
  have h4 := List.length_take_le q (setsF n s [] 0)
  have h5 : ((setsF n s [] 0).take q).length ≤ (setsF n s [] 0).length := by rw [List.length_take]; omega
  unfold fltL; omega
/-- numbers that go up one by one, as far as k -/
def bmpK (l : List Int) (i k : Nat) : List Int := (List.range l.length).map fun (j : Nat) => if j < i then gt l j else if j < k then gt l i + 1 + ((j : Int) - i) else gt l j
theorem bmpK_len (l : List Int) (i k : Nat) : (bmpK l i k).length = l.length := map_len _ _
theorem bmpK_at {l : List Int} {i k j : Nat} (h : j < l.length) : gt (bmpK l i k) j = if j < i then gt l j else if j < k then gt l i + 1 + ((j : Int) - i) else gt l j := gt_map h
theorem bmpK_start {l : List Int} {i : Nat} : l.set i (gt l i + 1) = bmpK l i (i + 1) := by
  refine eq_map (by simp) fun j hj => ?_
  rw [gt_set _ _ hj]
  by_cases hc : i = j
  · subst hc; rw [if_pos rfl, if_neg (by omega), if_pos (by omega)]; omega
  · rw [if_neg hc]
    by_cases h2 : j < i
    · rw [if_pos h2]
    · rw [if_neg h2, if_neg (by omega)]
theorem bmpK_step {l : List Int} {i k : Nat} (hi : i < k) (hk : k < l.length) : (bmpK l i k).set k (gt (bmpK l i k) (k - 1) + 1) = bmpK l i (k + 1) := by
  refine eq_map (by simp [bmpK_len]) fun j hj => ?_
  have e : gt (bmpK l i k) (k - 1) = gt l i + 1 + (((k - 1 : Nat) : Int) - i) := by rw [bmpK_at (by omega), if_neg (by omega), if_pos (by omega)]
  rw [gt_set _ _ (by rw [bmpK_len]; omega), e, bmpK_at hj]
  by_cases hc : k = j
  · subst hc; rw [if_pos rfl, if_neg (by omega), if_pos (by omega)]; omega
  · rw [if_neg hc]
    by_cases h2 : j < i
    · rw [if_pos h2, if_pos h2]
    · rw [if_neg h2, if_neg h2]
      by_cases h3 : j < k
      · rw [if_pos h3, if_pos (by omega)]
      · rw [if_neg h3, if_neg (by omega)]
theorem bmpK_last (l : List Int) (i : Nat) : bmpK l i l.length = bump l i := map_congr fun j hj => by
  by_cases h : j < i
  · rw [if_pos h, if_pos h]
  · rw [if_neg h, if_neg h, if_pos hj]
theorem rng0 (n : Nat) : rngP n [] := fun _ hj => absurd hj (Nat.not_lt_zero _)
theorem rng1 {n i : Nat} (h : i < n) : rngP n [(i : Int)] := fun j hj => by
  obtain rfl : j = 0 := by simpa using hj
  show 0 ≤ (i : Int) ∧ (i : Int) < n
  omega
theorem rng2 {n i k : Nat} (h : i < n) (hk : k < n) : rngP n [(i : Int), (k : Int)] := fun j hj => by
  rcases (show j = 0 ∨ j = 1 by simp at hj; omega) with rfl | rfl
  · show 0 ≤ (i : Int) ∧ (i : Int) < n; omega
  · show 0 ≤ (k : Int) ∧ (k : Int) < n; omega
theorem has_a {l : List Int} {hb : Bool} {k : Nat} {i : Int} (h : hb = true) (hhb : hb = true ↔ ∃ j, j < k ∧ gt l j = i) : true = true ↔ ∃ j, j < k + 1 ∧ gt l j = i :=
  ⟨fun _ => by obtain ⟨j, h1, h2⟩ := hhb.1 h; exact ⟨j, by omega, h2⟩, fun _ => rfl⟩
theorem has_d {l : List Int} {hb : Bool} {k : Nat} {i : Int} (h : hb = false) (hhb : hb = true ↔ ∃ j, j < k ∧ gt l j = i) : decide (gt l k = i) = true ↔ ∃ j, j < k + 1 ∧ gt l j = i := by
  rw [decide_eq_true_iff]
  refine ⟨fun h1 => ⟨k, by omega, h1⟩, fun ⟨j, h1, h2⟩ => ?_⟩
  rcases Nat.lt_succ_iff_lt_or_eq.1 h1 with h3 | h3
  · rw [hhb.2 ⟨j, h3, h2⟩] at h; cases h
  · subst h3; exact h2
theorem has_b {l : List Int} {hb : Bool} {k : Nat} {i : Int} (h : hb = false) (hk : ¬ gt l k = i) (hhb : hb = true ↔ ∃ j, j < k ∧ gt l j = i) : false = true ↔ ∃ j, j < k + 1 ∧ gt l j = i := by
  rw [← has_d h hhb, decide_eq_false hk]
theorem has_c {l : List Int} {hb : Bool} {k : Nat} {i : Int} (hk : gt l k = i) (_hhb : hb = true ↔ ∃ j, j < k ∧ gt l j = i) : true = true ↔ ∃ j, j < k + 1 ∧ gt l j = i := ⟨fun _ => ⟨k, by omega, hk⟩, fun _ => rfl⟩
theorem has_in {l : List Int} {hb : Bool} {i : Int} (hhb : hb = true ↔ ∃ j, j < l.length ∧ gt l j = i) : hb = true ↔ i ∈ l := hhb.trans ⟨fun ⟨j, h1, h2⟩ => by rw [← h2]; exact gt_mem h1, fun h => mem_gt h⟩
/-! ### medians, pairs -/
theorem med3 (a b c : Int) : max (max (min a b) (min b c)) (min a c) = med a b c := by unfold med; omega
theorem prs_f {d : Drum} {m : List Mark} (h : (feasR d m).2 = 0) : chkE d m = 0 ∧ ((feasR d m).1 = true ↔ okD d m) := by
  by_cases hc : chkE d m = 0
  · rw [feasR_ok hc]; exact ⟨hc, by simp⟩
  · rw [feasR_err hc] at h; exact absurd h hc
theorem prs_b1 {d : Drum} {m : List Mark} (h : (feasR d m).2 ≠ 0) : prsR d m = ([], (feasR d m).2) := by
  have hc : chkE d m ≠ 0 := fun hc => h (by rw [feasR_ok hc])
  rw [feasR_err hc, prsR_bad hc]
theorem prs_b2 {d : Drum} {m : List Mark} (h : (feasR d m).2 = 0) (h1 : (feasR d m).1 = true) : prsR d m = ([], 3) := by
  have hf := prs_f h
  exact prsR_none hf.1 (by rw [pair_nil.2 (hf.2.1 h1)]; rfl)
theorem prs_ne {d : Drum} {m : List Mark} (h : (feasR d m).2 = 0) (h1 : (feasR d m).1 = false) : prsR d m = (pairL d m, 0) := by
  have hf := prs_f h
  exact prsR_ok hf.1 (fun hn => by rw [hf.2.2 (pair_nil.1 (List.length_eq_zero_iff.1 hn))] at h1; cases h1)
theorem prs_b3 {d : Drum} {m : List Mark} (h : (feasR d m).2 = 0) (h1 : (feasR d m).1 = false) (h2 : ¬ okD d []) : prsR d m = ([[]], 0) := by rw [prs_ne h h1, pair_none h2]
theorem prs_b4 {d : Drum} {m : List Mark} (h : (feasR d m).2 = 0) (h1 : (feasR d m).1 = false) (h2 : okD d []) : prsR d m = (snglN d m m.length ++ dblN d m m.length, 0) := by rw [prs_ne h h1, pair_some h2]
theorem sn_yes {d : Drum} {m : List Mark} {i : Nat} (h : ¬ okD d (selL m [(i : Int)])) : snglN d m i ++ [[(i : Int)]] = snglN d m (i + 1) := sngl_yes h
theorem sn_no {d : Drum} {m : List Mark} {i : Nat} (h : okD d (selL m [(i : Int)])) : snglN d m i = snglN d m (i + 1) := sngl_no h
theorem pr_yes {d : Drum} {m : List Mark} {i k : Nat} (hk : i < k) (h1 : okD d (selL m [(i : Int)])) (h2 : okD d (selL m [(k : Int)])) (h3 : ¬ okD d (selL m [(i : Int), (k : Int)])) : prsL d m i k ++ [[(i : Int), (k : Int)]] = prsL d m i (k + 1) := prs_yes hk ⟨h1, h2, h3⟩
theorem pr_no1 {d : Drum} {m : List Mark} {i k : Nat} (h : ¬ okD d (selL m [(i : Int)])) : prsL d m i k = prsL d m i (k + 1) := prs_no (fun hp => h hp.1)
theorem pr_no2 {d : Drum} {m : List Mark} {i k : Nat} (h : ¬ okD d (selL m [(k : Int)])) : prsL d m i k = prsL d m i (k + 1) := prs_no (fun hp => h hp.2.1)
theorem pr_no3 {d : Drum} {m : List Mark} {i k : Nat} (h : okD d (selL m [(i : Int), (k : Int)])) : prsL d m i k = prsL d m i (k + 1) := prs_no (fun hp => hp.2.2 h)
/-! ### the reference's round over the sets of a size -/
theorem nx_more {n s i N : Nat} {v : Value} {l : List Int} (hN : N = n) (h : s ≤ n) (hi : i < (setsF n s [] 0).length) (hl : l = gt (setsF n s [] 0) i) (hn : nilSl v = decide (nextL N l = [])) : (!nilSl v) = true ↔ i + 1 < (setsF n s [] 0).length := by
  subst hN hl
  have h1 := nx_nil h hi
  rw [hn]
  by_cases hc : nextL N (gt (setsF N s [] 0) i) = []
  · rw [decide_eq_true hc]; have := h1.1 hc; exact ⟨fun h2 => (by cases h2), fun h2 => by omega⟩
  · rw [decide_eq_false hc]
    refine ⟨fun _ => ?_, fun _ => rfl⟩
    have : ¬ i + 1 = (setsF N s [] 0).length := fun h2 => hc (h1.2 h2)
    omega
theorem nx_val {n s i N : Nat} {l : List Int} (hN : N = n) (h : s ≤ n) (hi : i < (setsF n s [] 0).length) (hl : l = gt (setsF n s [] 0) i) (h1 : i + 1 < (setsF n s [] 0).length) : nextL N l = gt (setsF n s [] 0) (i + 1) := by
  subst hN hl
  have := nx_step h hi
  rw [if_pos h1] at this; exact this
theorem rst_hitN {d : Drum} {m : List Mark} {l : List Int} {N : Nat} (hN : N = m.length) : okD d (selL m (rstN l N)) ↔ hitB (pairL d m) l = true := by subst hN; exact rst_hit
theorem fl_yes {d : Drum} {m : List Mark} {l : List Int} {N s q : Nat} (hN : N = m.length) (hq : q < (setsF m.length s [] 0).length) (hl : l = gt (setsF m.length s [] 0) q) (h : okD d (selL m (rstN l N))) : fltL (pairL d m) m.length s q ++ [[] ++ l] = fltL (pairL d m) m.length s (q + 1) := by
  have h1 := (rst_hitN hN).1 h
  rw [flt_step hq, ← hl, if_pos h1, List.nil_append]
theorem fl_no {d : Drum} {m : List Mark} {l : List Int} {N s q : Nat} (hN : N = m.length) (hq : q < (setsF m.length s [] 0).length) (hl : l = gt (setsF m.length s [] 0) q) (h : ¬ okD d (selL m (rstN l N))) : fltL (pairL d m) m.length s q = fltL (pairL d m) m.length s (q + 1) := by
  rw [flt_step hq, ← hl, if_neg (fun h2 => h ((rst_hitN hN).2 h2))]
theorem fl_end {bad : List (List Int)} {n s q : Nat} (hq : q = (setsF n s [] 0).length) : fltL bad n s q = drpS bad n (s + 1) := by rw [hq, flt_all, drpS, if_neg (by omega), Nat.add_sub_cancel]
end Go.Proofs.C2
