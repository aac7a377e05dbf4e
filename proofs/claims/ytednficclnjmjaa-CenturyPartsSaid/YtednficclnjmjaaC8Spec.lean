import Derived.Test.YtednficclnjmjaaC8Data
/- Century: what the functions compute, in plain Lean. -/
namespace Go.Proofs.C8
open Go Go.Kx

/-! ### the first of some numbers; sums -/
def fstF (p : Nat → Prop) [DecidablePred p] : Nat → Nat → Nat
  | 0, k => k
  | f + 1, k => if p k then k else fstF p f (k + 1)
/-- the least k below n with p, or n -/
def first (p : Nat → Prop) [DecidablePred p] (n : Nat) : Nat := fstF p n 0
theorem fstF_eq {p : Nat → Prop} [DecidablePred p] : ∀ {f a k : Nat}, a ≤ k → k < a + f → (∀ j, a ≤ j → j < k → ¬ p j) → p k → fstF p f a = k
  | 0, a, k, h1, h2, _, _ => by omega
  | f + 1, a, k, h1, h2, h, hp => by
    unfold fstF
    rcases Nat.lt_or_ge a k with h3 | h3
    · rw [if_neg (h a (Nat.le_refl _) h3)]
      exact fstF_eq h3 (by omega) (fun j hj => h j (by omega)) hp
    · have : a = k := by omega
      subst this
      rw [if_pos hp]
theorem fstF_no {p : Nat → Prop} [DecidablePred p] : ∀ {f a : Nat}, (∀ j, a ≤ j → j < a + f → ¬ p j) → fstF p f a = a + f
  | 0, a, _ => rfl
  | f + 1, a, h => by
    unfold fstF
    rw [if_neg (h a (Nat.le_refl _) (by omega)), fstF_no (fun j h1 h2 => h j (by omega) (by omega))]
    omega
theorem first_eq {p : Nat → Prop} [DecidablePred p] {n k : Nat} (hk : k < n) (h : ∀ j, j < k → ¬ p j) (hp : p k) : first p n = k :=
  fstF_eq (Nat.zero_le _) (by omega) (fun j _ hj => h j hj) hp
theorem first_no {p : Nat → Prop} [DecidablePred p] {n : Nat} (h : ∀ j, j < n → ¬ p j) : first p n = n := by
  have := fstF_no (p := p) (f := n) (a := 0) (fun j _ hj => h j (by omega))
  simpa [first] using this
theorem first_cases (p : Nat → Prop) [DecidablePred p] (n : Nat) : (first p n = n ∧ ∀ j, j < n → ¬ p j) ∨ (first p n < n ∧ p (first p n) ∧ ∀ j, j < first p n → ¬ p j) := by
  by_cases h : ∀ j, j < n → ¬ p j
  · exact .inl ⟨first_no h, h⟩
  · right
    have : ∃ k, k < n ∧ p k ∧ ∀ j, j < k → ¬ p j := by
      have hex : ∃ j, j < n ∧ p j := by
        by_cases he : ∃ j, j < n ∧ p j
        · exact he
        · exact absurd (fun j hj hp => he ⟨j, hj, hp⟩) h
      obtain ⟨j0, hj0⟩ := hex
      have key : ∀ b, (∃ j, j ≤ b ∧ j < n ∧ p j) → ∃ k, k < n ∧ p k ∧ ∀ j, j < k → ¬ p j := by
        intro b
        induction b with
        | zero => rintro ⟨j, h1, h2, h3⟩; obtain rfl : j = 0 := by omega
                  exact ⟨0, h2, h3, fun i hi => absurd hi (Nat.not_lt_zero _)⟩
        | succ b ih =>
          rintro ⟨j, h1, h2, h3⟩
          by_cases hb : ∃ j, j ≤ b ∧ j < n ∧ p j
          · exact ih hb
          · have hj : j = b + 1 := by
              rcases Nat.lt_or_ge b j with h4 | h4
              · omega
              · exact absurd ⟨j, h4, h2, h3⟩ hb
            subst hj
            exact ⟨b + 1, h2, h3, fun i hi hp => hb ⟨i, by omega, by omega, hp⟩⟩
      exact key j0 ⟨j0, Nat.le_refl _, hj0⟩
    obtain ⟨k, hk, hp, hm⟩ := this
    have := first_eq hk hm hp
    exact ⟨by omega, by rw [this]; exact hp, by rw [this]; exact hm⟩

def sumN (f : Nat → Int) : Nat → Int
  | 0 => 0
  | n + 1 => sumN f n + f n
theorem sumN_le {f g : Nat → Int} : ∀ {n : Nat}, (∀ i, i < n → f i ≤ g i) → sumN f n ≤ sumN g n
  | 0, _ => Int.le_refl _
  | n + 1, h => by have h1 := sumN_le (n := n) (fun i hi => h i (by omega)); have h2 := h n (by omega); simp only [sumN]; omega
theorem sumN_congr {f g : Nat → Int} : ∀ {n : Nat}, (∀ i, i < n → f i = g i) → sumN f n = sumN g n
  | 0, _ => rfl
  | n + 1, h => by simp only [sumN]; rw [sumN_congr (n := n) (fun i hi => h i (by omega)), h n (by omega)]
theorem sumN_const (c : Int) : ∀ n : Nat, sumN (fun _ => c) n = n * c
  | 0 => by simp [sumN]
  | n + 1 => by simp only [sumN]; rw [sumN_const c n, Int.natCast_add, Int.add_mul]; simp
theorem sumN_bd {f : Nat → Int} {n : Nat} {lo hi : Int} (h : ∀ i, i < n → lo ≤ f i ∧ f i ≤ hi) : n * lo ≤ sumN f n ∧ sumN f n ≤ n * hi := by
  rw [← sumN_const lo n, ← sumN_const hi n]
  exact ⟨sumN_le fun i hi => (h i hi).1, sumN_le fun i hi => (h i hi).2⟩
theorem sumN_zero : ∀ n : Nat, sumN (fun _ => 0) n = 0
  | 0 => rfl
  | n + 1 => by simp only [sumN]; rw [sumN_zero n]; rfl
theorem map_succ {α : Type} (f : Nat → α) (n : Nat) : (List.range n).map f ++ [f n] = (List.range (n + 1)).map f := by rw [List.range_succ]; simp
theorem map_len {α : Type} (f : Nat → α) (n : Nat) : ((List.range n).map f).length = n := by simp
theorem gt_map {α : Type} [Inhabited α] {f : Nat → α} {n i : Nat} (h : i < n) : gt ((List.range n).map f) i = f i := by
  have : ((List.range n).map f)[i]? = some (f i) := by rw [List.getElem?_map, List.getElem?_range h]; rfl
  simp [gt, this]

/-! ### series -/
def badV (l : List Val) (i : Nat) : Prop := ¬ (0 ≤ (gt l i).Time ∧ (gt l i).Time ≤ 10000) ∨ (0 < i ∧ (gt l i).Time ≤ (gt l (i - 1)).Time) ∨ ¬ (0 ≤ (gt l i).Levels.Lo ∧ (gt l i).Levels.Lo ≤ (gt l i).Levels.Hi) ∨ 24000 < (gt l i).Levels.Hi
def badX (l : List Shf) (i : Nat) : Prop := ¬ (0 ≤ (gt l i).Time ∧ (gt l i).Time ≤ 10000) ∨ (0 < i ∧ (gt l i).Time < (gt l (i - 1)).Time) ∨ ¬ (-12000 ≤ (gt l i).Levels.Lo ∧ (gt l i).Levels.Lo ≤ (gt l i).Levels.Hi) ∨ 12000 < (gt l i).Levels.Hi
instance (l : List Val) : DecidablePred (badV l) := fun i => by unfold badV; exact inferInstance
instance (l : List Shf) : DecidablePred (badX l) := fun i => by unfold badX; exact inferInstance
def chk (s : Ser) : Int × Int :=
  if 200 < s.Values.length ∨ 64 < s.Shifts.length then (2, 0)
  else if first (badV s.Values) s.Values.length < s.Values.length then (80, first (badV s.Values) s.Values.length)
  else if first (badX s.Shifts) s.Shifts.length < s.Shifts.length then (81, first (badX s.Shifts) s.Shifts.length)
  else (0, 0)
def chkE (s : Ser) : Int := (chk s).1
theorem chk_big {s : Ser} (h : 200 < s.Values.length ∨ 64 < s.Shifts.length) : chk s = (2, 0) := by rw [chk, if_pos h]
theorem chk_v {s : Ser} {k : Nat} (h0 : ¬ (200 < s.Values.length ∨ 64 < s.Shifts.length)) (hk : k < s.Values.length) (h : ∀ j, j < k → ¬ badV s.Values j) (hb : badV s.Values k) : chk s = (80, (k : Int)) := by
  have := first_eq hk h hb
  rw [chk, if_neg h0, if_pos (by omega), this]
theorem chk_x {s : Ser} {k : Nat} (h0 : ¬ (200 < s.Values.length ∨ 64 < s.Shifts.length)) (hv : ∀ j, j < s.Values.length → ¬ badV s.Values j) (hk : k < s.Shifts.length) (h : ∀ j, j < k → ¬ badX s.Shifts j) (hb : badX s.Shifts k) : chk s = (81, (k : Int)) := by
  have h1 := first_no hv
  have := first_eq hk h hb
  rw [chk, if_neg h0, if_neg (by omega), if_pos (by omega), this]
theorem chk_ok {s : Ser} (h0 : ¬ (200 < s.Values.length ∨ 64 < s.Shifts.length)) (hv : ∀ j, j < s.Values.length → ¬ badV s.Values j) (hx : ∀ j, j < s.Shifts.length → ¬ badX s.Shifts j) : chk s = (0, 0) := by
  have h1 := first_no hv
  have h2 := first_no hx
  rw [chk, if_neg h0, if_neg (by omega), if_neg (by omega)]
structure Ok (s : Ser) : Prop where
  nV : s.Values.length ≤ 200
  nX : s.Shifts.length ≤ 64
  v : ∀ i, i < s.Values.length → ¬ badV s.Values i
  x : ∀ i, i < s.Shifts.length → ¬ badX s.Shifts i
theorem Ok.of {s : Ser} (h : chkE s = 0) : Ok s := by
  unfold chkE chk at h
  split at h
  · cases h
  · rename_i h0
    split at h
    · cases h
    · rename_i h1
      split at h
      · cases h
      · rename_i h2
        refine ⟨by omega, by omega, ?_, ?_⟩
        · rcases first_cases (badV s.Values) s.Values.length with h3 | h3
          · exact h3.2
          · exact absurd h3.1 h1
        · rcases first_cases (badX s.Shifts) s.Shifts.length with h3 | h3
          · exact h3.2
          · exact absurd h3.1 h2
theorem Ok.chk {s : Ser} (h : Ok s) : C8.chk s = (0, 0) := chk_ok (by have := h.nV; have := h.nX; omega) h.v h.x
theorem Ok.e {s : Ser} (h : Ok s) : chkE s = 0 := by rw [chkE, h.chk]
section
variable {s : Ser} (h : Ok s) {i : Nat}
include h
theorem Ok.vt (hi : i < s.Values.length) : 0 ≤ (gt s.Values i).Time ∧ (gt s.Values i).Time ≤ 10000 := by have := h.v i hi; unfold badV at this; omega
theorem Ok.vl (hi : i < s.Values.length) : 0 ≤ (gt s.Values i).Levels.Lo ∧ (gt s.Values i).Levels.Lo ≤ (gt s.Values i).Levels.Hi ∧ (gt s.Values i).Levels.Hi ≤ 24000 := by have := h.v i hi; unfold badV at this; omega
theorem Ok.vs (hi : i < s.Values.length) (h0 : 0 < i) : (gt s.Values (i - 1)).Time < (gt s.Values i).Time := by have := h.v i hi; unfold badV at this; omega
theorem Ok.xt (hi : i < s.Shifts.length) : 0 ≤ (gt s.Shifts i).Time ∧ (gt s.Shifts i).Time ≤ 10000 := by have := h.x i hi; unfold badX at this; omega
theorem Ok.xl (hi : i < s.Shifts.length) : -12000 ≤ (gt s.Shifts i).Levels.Lo ∧ (gt s.Shifts i).Levels.Lo ≤ (gt s.Shifts i).Levels.Hi ∧ (gt s.Shifts i).Levels.Hi ≤ 12000 := by have := h.x i hi; unfold badX at this; omega
theorem Ok.xs (hi : i < s.Shifts.length) (h0 : 0 < i) : (gt s.Shifts (i - 1)).Time ≤ (gt s.Shifts i).Time := by have := h.x i hi; unfold badX at this; omega
theorem Ok.mono : ∀ {k : Nat}, k < s.Values.length → i < k → (gt s.Values i).Time < (gt s.Values k).Time
  | 0, _, h1 => absurd h1 (Nat.not_lt_zero _)
  | k + 1, hk, h1 => by
    have h2 := h.vs hk (by omega)
    rw [Nat.add_sub_cancel] at h2
    rcases Nat.lt_or_ge i k with h3 | h3
    · have := Ok.mono (k := k) (by omega) h3; omega
    · obtain rfl : i = k := by omega
      exact h2
end
def seq0 : List Ser → Int
  | [] => 0
  | s :: l => if chkE s ≠ 0 then chkE s else seq0 l
theorem seq0_bad : ∀ {l : List Ser} {k : Nat}, k < l.length → (∀ j, j < k → chkE (gt l j) = 0) → chkE (gt l k) ≠ 0 → seq0 l = chkE (gt l k)
  | s :: l, 0, _, _, hb => by rw [seq0, if_pos (by simpa [gt] using hb)]; simp [gt]
  | s :: l, k + 1, hk, h, hb => by
    have h0 : chkE s = 0 := by simpa [gt] using h 0 (by omega)
    rw [seq0, if_neg (by simp [h0])]
    have hs : ∀ j, gt (s :: l) (j + 1) = gt l j := fun j => by simp [gt]
    rw [hs] at hb ⊢
    exact seq0_bad (by simpa using hk) (fun j hj => by have := h (j + 1) (by omega); rwa [hs] at this) hb
theorem seq0_ok : ∀ {l : List Ser}, (∀ j, j < l.length → chkE (gt l j) = 0) → seq0 l = 0
  | [], _ => rfl
  | s :: l, h => by
    have h0 : chkE s = 0 := by simpa [gt] using h 0 (by simp)
    rw [seq0, if_neg (by simp [h0])]
    exact seq0_ok (fun j hj => by have := h (j + 1) (by simpa using hj); simpa [gt] using this)
theorem seq0_one (s : Ser) : seq0 [s] = chkE s := by unfold seq0; split; rfl; simp [seq0]; omega
def twoE (s t : Ser) : Int := if chkE s ≠ 0 then chkE s else chkE t
theorem seq0_two (s t : Ser) : seq0 [s, t] = twoE s t := by unfold seq0 twoE; split; rfl; exact seq0_one t
theorem twoE_zero {s t : Ser} (h : twoE s t = 0) : chkE s = 0 ∧ chkE t = 0 := by unfold twoE at h; split at h; contradiction; constructor <;> omega

/-! ### numbers that agree; adjusted levels -/
def agreeP (s : Ser) (lv sh : List Int) : Prop := (lv.length = s.Values.length ∧ sh.length = s.Shifts.length) ∧
  (∀ i, i < s.Values.length → (gt s.Values i).Levels.Lo ≤ gt lv i ∧ gt lv i ≤ (gt s.Values i).Levels.Hi) ∧ (∀ i, i < s.Shifts.length → (gt s.Shifts i).Levels.Lo ≤ gt sh i ∧ gt sh i ≤ (gt s.Shifts i).Levels.Hi)
instance (s : Ser) (lv sh : List Int) : Decidable (agreeP s lv sh) := by unfold agreeP; exact inferInstance
def keepsE (s : Ser) (lv sh : List Int) : Int := if chkE s ≠ 0 then chkE s else if agreeP s lv sh then 0 else 1
theorem keepsE_zero {s : Ser} {lv sh : List Int} (h : keepsE s lv sh = 0) : Ok s ∧ agreeP s lv sh := by
  unfold keepsE at h
  split at h
  · contradiction
  · split at h
    · rename_i h1 h2; exact ⟨Ok.of (by omega), h2⟩
    · cases h
def offN (xs : List Shf) (sh : List Int) (t : Int) (n : Nat) : Int := sumN (fun k => if (gt xs k).Time ≤ t then gt sh k else 0) n
def evenAt (s : Ser) (lv sh : List Int) (i : Nat) : Int := gt lv i - offN s.Shifts sh (gt s.Values i).Time s.Shifts.length
def evenL (s : Ser) (lv sh : List Int) : List Int := (List.range s.Values.length).map (evenAt s lv sh)
def evenR (s : Ser) (lv sh : List Int) : List Int × Int := if keepsE s lv sh ≠ 0 then ([], keepsE s lv sh) else (evenL s lv sh, 0)
theorem offN_bd {xs : List Shf} {sh : List Int} {t : Int} {n : Nat} (h : ∀ i, i < n → -12000 ≤ gt sh i ∧ gt sh i ≤ 12000) : n * (-12000) ≤ offN xs sh t n ∧ offN xs sh t n ≤ n * 12000 := by
  apply sumN_bd
  intro i hi
  have := h i hi
  split <;> omega
/-- the shifts behind a time up to another one -/
def btLo (xs : List Shf) (a b : Int) (n : Nat) : Int := sumN (fun k => if a < (gt xs k).Time ∧ (gt xs k).Time ≤ b then (gt xs k).Levels.Lo else 0) n
def btHi (xs : List Shf) (a b : Int) (n : Nat) : Int := sumN (fun k => if a < (gt xs k).Time ∧ (gt xs k).Time ≤ b then (gt xs k).Levels.Hi else 0) n
def bt (xs : List Shf) (a b : Int) : Span := ⟨btLo xs a b xs.length, btHi xs a b xs.length⟩
theorem bt_bd {s : Ser} (h : Ok s) (a b : Int) {n : Nat} (hn : n ≤ s.Shifts.length) : -768000 ≤ btLo s.Shifts a b n ∧ btLo s.Shifts a b n ≤ btHi s.Shifts a b n ∧ btHi s.Shifts a b n ≤ 768000 := by
  have hx := h.nX
  have h1 : n * (-12000) ≤ btLo s.Shifts a b n ∧ btLo s.Shifts a b n ≤ n * 12000 := sumN_bd (fun i hi => by have := h.xl (i := i) (by omega); split <;> omega)
  have h2 : n * (-12000) ≤ btHi s.Shifts a b n ∧ btHi s.Shifts a b n ≤ n * 12000 := sumN_bd (fun i hi => by have := h.xl (i := i) (by omega); split <;> omega)
  have h3 : btLo s.Shifts a b n ≤ btHi s.Shifts a b n := sumN_le (fun i hi => by have := h.xl (i := i) (by omega); split <;> omega)
  omega
def lowP (s : Ser) : Pick := ⟨(List.range s.Values.length).map (fun i => (gt s.Values i).Levels.Lo), (List.range s.Shifts.length).map (fun i => (gt s.Shifts i).Levels.Hi)⟩
def highP (s : Ser) : Pick := ⟨(List.range s.Values.length).map (fun i => (gt s.Values i).Levels.Hi), (List.range s.Shifts.length).map (fun i => (gt s.Shifts i).Levels.Lo)⟩
/-- the bounds of an adjusted level -/
def evS (s : Ser) (i : Nat) : Span := ⟨(gt s.Values i).Levels.Lo - btHi s.Shifts (-1) (gt s.Values i).Time s.Shifts.length, (gt s.Values i).Levels.Hi - btLo s.Shifts (-1) (gt s.Values i).Time s.Shifts.length⟩
def evsL (s : Ser) : List Span := (List.range s.Values.length).map (evS s)
def evsR (s : Ser) : List Span × Int := if chkE s ≠ 0 then ([], chkE s) else (evsL s, 0)
theorem even_low {s : Ser} (h : Ok s) {i : Nat} (hi : i < s.Values.length) : evenAt s (lowP s).levels (lowP s).shifts i = (evS s i).Lo := by
  unfold evenAt evS offN btHi lowP
  dsimp only
  rw [gt_map hi]
  congr 1
  exact sumN_congr fun k hk => by
    rw [gt_map hk]; have := (h.xt hk).1
    by_cases h1 : (gt s.Shifts k).Time ≤ (gt s.Values i).Time
    · rw [if_pos h1, if_pos ⟨by omega, h1⟩]
    · rw [if_neg h1, if_neg (fun h2 => h1 h2.2)]
theorem even_high {s : Ser} (h : Ok s) {i : Nat} (hi : i < s.Values.length) : evenAt s (highP s).levels (highP s).shifts i = (evS s i).Hi := by
  unfold evenAt evS offN btLo highP
  dsimp only
  rw [gt_map hi]
  congr 1
  exact sumN_congr fun k hk => by
    rw [gt_map hk]; have := (h.xt hk).1
    by_cases h1 : (gt s.Shifts k).Time ≤ (gt s.Values i).Time
    · rw [if_pos h1, if_pos ⟨by omega, h1⟩]
    · rw [if_neg h1, if_neg (fun h2 => h1 h2.2)]

/-! ### sums of adjusted levels with factors -/
def sumX (s : Ser) (f : List Int) (k : Nat) : Int := - sumN (fun i => if (gt s.Shifts k).Time ≤ (gt s.Values i).Time then gt f i else 0) s.Values.length
def sumXL (s : Ser) (f : List Int) : List Int := (List.range s.Shifts.length).map (sumX s f)
def endS (x : Span) (f : Int) (most : Bool) : Int := if decide (0 < f) = most then x.Hi else x.Lo
def endV (s : Ser) (f : List Int) (most : Bool) : List Int := (List.range s.Values.length).map fun i => endS (gt s.Values i).Levels (gt f i) most
def endX (s : Ser) (g : List Int) (most : Bool) : List Int := (List.range s.Shifts.length).map fun i => endS (gt s.Shifts i).Levels (gt g i) most
def totN (f p : List Int) (n : Nat) : Int := sumN (fun i => gt f i * gt p i) n
def totS (s : Ser) (f g : List Int) (most : Bool) : Int := totN f (endV s f most) s.Values.length + totN g (endX s g most) s.Shifts.length
def bdS (s : Ser) (f g : List Int) : Span := ⟨totS s f g false, totS s f g true⟩
/-- the bounds of a sum of adjusted levels -/
def bd (s : Ser) (f : List Int) : Span := bdS s f (sumXL s f)

/-- a fraction in lowest terms -/
def lowR (num den : Int) : Ratio := ⟨num.tdiv (Int.gcd num den), den.tdiv (Int.gcd num den)⟩

/-! ### values in a span of times -/
def inT (x : Span) (t : Int) : Prop := x.Lo ≤ t ∧ t ≤ x.Hi
instance (x : Span) (t : Int) : Decidable (inT x t) := by unfold inT; exact inferInstance
def spOk (x : Span) (lo hi : Int) : Prop := (lo ≤ x.Lo ∧ x.Lo ≤ x.Hi) ∧ x.Hi ≤ hi
instance (x : Span) (lo hi : Int) : Decidable (spOk x lo hi) := by unfold spOk; exact inferInstance
def wtL (s : Ser) (x : Span) (c : Int) : List Int := (List.range s.Values.length).map fun i => if inT x (gt s.Values i).Time then c else 0
def wtN (s : Ser) (x : Span) : Nat → Nat
  | 0 => 0
  | n + 1 => wtN s x n + if inT x (gt s.Values n).Time then 1 else 0
def wtC (s : Ser) (x : Span) : Nat := wtN s x s.Values.length
end Go.Proofs.C8
/- Century: breaks, adjustments, steps, falls, in plain Lean. -/
namespace Go.Proofs.C8
open Go Go.Kx

def idxT (s : Ser) (t : Int) : Nat := first (fun i => (gt s.Values i).Time = t) s.Values.length
def idxR (s : Ser) (t : Int) : Int := if idxT s t < s.Values.length then (idxT s t : Int) else -1
theorem idxR_yes {s : Ser} {t : Int} {k : Nat} (hk : k < s.Values.length) (h : ∀ j, j < k → (gt s.Values j).Time ≠ t) (ht : (gt s.Values k).Time = t) : idxR s t = (k : Int) := by
  have := first_eq (p := fun i => (gt s.Values i).Time = t) hk h ht
  unfold idxR idxT
  rw [this, if_pos hk]
theorem idxR_no {s : Ser} {t : Int} (h : ∀ j, j < s.Values.length → (gt s.Values j).Time ≠ t) : idxR s t = -1 := by
  have := first_no (p := fun i => (gt s.Values i).Time = t) h
  unfold idxR idxT
  rw [this, if_neg (Nat.lt_irrefl _)]
theorem idxR_cases (s : Ser) (t : Int) : (idxR s t = -1 ∧ ∀ j, j < s.Values.length → (gt s.Values j).Time ≠ t) ∨ (∃ k : Nat, idxR s t = (k : Int) ∧ k < s.Values.length ∧ (gt s.Values k).Time = t) := by
  rcases first_cases (fun i => (gt s.Values i).Time = t) s.Values.length with ⟨h1, h2⟩ | ⟨h1, h2, h3⟩
  · exact .inl ⟨idxR_no h2, h2⟩
  · exact .inr ⟨_, idxR_yes h1 h3 h2, h1, h2⟩
theorem idxR_bd (s : Ser) (t : Int) : -1 ≤ idxR s t ∧ idxR s t < s.Values.length := by
  rcases idxR_cases s t with h | ⟨k, h, hk, _⟩ <;> omega

/-- the factors of a difference of two values -/
def gapL (n i k : Nat) : List Int := (List.range n).map fun j => (if j = i then 1 else 0) - (if j = k then 1 else 0)
def gap (s : Ser) (i k : Nat) : Span := bd s (gapL s.Values.length i k)

/-! ### ranks -/
def rankN (s : Ser) (at' : Nat) : Nat → Span
  | 0 => ⟨0, 0⟩
  | n + 1 => if n = at' then rankN s at' n else
    ⟨(rankN s at' n).Lo + (if (gap s n at').Hi < 0 then 1 else 0), (rankN s at' n).Hi + (if (gap s n at').Lo < 0 then 1 else 0)⟩
def rankR (s : Ser) (t : Int) : Span × Int := if chkE s ≠ 0 then (⟨0, 0⟩, chkE s) else if idxR s t < 0 then (⟨0, 0⟩, 3) else (rankN s (idxR s t).toNat s.Values.length, 0)

/-! ### extremes -/
/-- least and greatest, and whether there is any -/
def extN (s : Ser) (x : Span) : Nat → Span × Span × Bool
  | 0 => (⟨0, 0⟩, ⟨0, 0⟩, false)
  | n + 1 => if inT x (gt s.Values n).Time then
      (if (extN s x n).2.2 then (⟨min (extN s x n).1.Lo (evS s n).Lo, min (extN s x n).1.Hi (evS s n).Hi⟩, ⟨max (extN s x n).2.1.Lo (evS s n).Lo, max (extN s x n).2.1.Hi (evS s n).Hi⟩, true)
       else (evS s n, evS s n, true))
    else extN s x n
def extR (s : Ser) (x : Span) : Span × Span × Int := if chkE s ≠ 0 then (⟨0, 0⟩, ⟨0, 0⟩, chkE s) else if ¬ spOk x 0 10000 then (⟨0, 0⟩, ⟨0, 0⟩, 1)
  else if (extN s x s.Values.length).2.2 then ((extN s x s.Values.length).1, (extN s x s.Values.length).2.1, 0) else (⟨0, 0⟩, ⟨0, 0⟩, 3)

/-! ### slopes -/
def timN (s : Ser) (n : Nat) : Int := sumN (fun i => (gt s.Values i).Time) n
def sqN (s : Ser) (n : Nat) : Int := sumN (fun i => (gt s.Values i).Time * (gt s.Values i).Time) n
def momL (s : Ser) : List Int := (List.range s.Values.length).map fun i => (s.Values.length : Int) * (gt s.Values i).Time - timN s s.Values.length
def momD (s : Ser) : Int := (s.Values.length : Int) * sqN s s.Values.length - timN s s.Values.length * timN s s.Values.length
def twoVE (s : Ser) : Int := if chkE s ≠ 0 then chkE s else if s.Values.length < 2 then 3 else 0
def slpS (s : Ser) : Sum := if twoVE s ≠ 0 then ⟨⟨[], []⟩, [], []⟩ else ⟨s, momL s, sumXL s (momL s)⟩
def slpD (s : Ser) : Int := if twoVE s ≠ 0 then 0 else momD s
def bdX (x : Sum) : Span := bdS x.run x.levels x.shifts
def slopeR (s : Ser) : Ratio × Ratio × Int := if twoVE s ≠ 0 then (⟨0, 0⟩, ⟨0, 0⟩, twoVE s) else (lowR (bdX (slpS s)).Lo (slpD s), lowR (bdX (slpS s)).Hi (slpD s), 0)

/-! ### common times; breaks -/
def comN (s t : Ser) : Nat → List A2
  | 0 => []
  | n + 1 => if 0 ≤ idxR t (gt s.Values n).Time then comN s t n ++ [⟨(n : Int), idxR t (gt s.Values n).Time⟩] else comN s t n
def comL (s t : Ser) : List A2 := comN s t s.Values.length
def brkP (s t : Ser) (least : Int) (n : Nat) : Prop :=
  (gap s (gt (comL s t) n).a.toNat (gt (comL s t) (n - 1)).a.toNat).Lo - (gap t (gt (comL s t) n).b.toNat (gt (comL s t) (n - 1)).b.toNat).Hi ≥ least ∨
  (gap t (gt (comL s t) n).b.toNat (gt (comL s t) (n - 1)).b.toNat).Lo - (gap s (gt (comL s t) n).a.toNat (gt (comL s t) (n - 1)).a.toNat).Hi ≥ least
instance (s t : Ser) (least : Int) (n : Nat) : Decidable (brkP s t least n) := by unfold brkP; exact inferInstance
def brkN (s t : Ser) (least : Int) : Nat → List Int
  | 0 => []
  | n + 1 => if 0 < n ∧ brkP s t least n then brkN s t least n ++ [(gt s.Values (gt (comL s t) n).a.toNat).Time] else brkN s t least n
def brkR (s t : Ser) (least : Int) : List Int × Int := if twoE s t ≠ 0 then ([], twoE s t) else if ¬ (1 ≤ least ∧ least ≤ 24000) then ([], 1) else (brkN s t least (comL s t).length, 0)

/-! ### windows -/
def lastAt (w : Win) (most : Int) : Nat → Span
  | 0 => ⟨(gt w.levels 0).Lo - most, (gt w.levels 0).Hi⟩
  | i + 1 => ⟨max ((gt w.levels (i + 1)).Lo - most) ((lastAt w most i).Lo + (gt w.shifts i).Lo), min (gt w.levels (i + 1)).Hi ((lastAt w most i).Hi + (gt w.shifts i).Hi)⟩
def lastBad (w : Win) (most : Int) (i : Nat) : Prop := 0 < i ∧ (lastAt w most i).Hi < (lastAt w most i).Lo
instance (w : Win) (most : Int) : DecidablePred (lastBad w most) := fun i => by unfold lastBad; exact inferInstance
def lastR (w : Win) (most : Int) : Span × Bool :=
  if first (lastBad w most) w.levels.length < w.levels.length then (lastAt w most (first (lastBad w most) w.levels.length), false)
  else if w.levels.length = 0 then (⟨0, 0⟩, true) else (lastAt w most (w.levels.length - 1), true)
theorem lastR_bad {w : Win} {most : Int} {k : Nat} (hk : k < w.levels.length) (h : ∀ j, j < k → ¬ lastBad w most j) (hb : lastBad w most k) : lastR w most = (lastAt w most k, false) := by
  have := first_eq hk h hb
  rw [lastR, if_pos (by omega), this]
def lastO (w : Win) (most : Int) (k : Nat) : Span := if k = 0 then ⟨0, 0⟩ else lastAt w most (k - 1)
theorem lastR_ok {w : Win} {most : Int} (h : ∀ j, j < w.levels.length → ¬ lastBad w most j) : lastR w most = (lastO w most w.levels.length, true) := by
  have := first_no h
  rw [lastR, if_neg (by omega), lastO]
  split <;> rfl
def winOf (s : Ser) (a b : Nat) : Win := ⟨(List.range (b + 1 - a)).map fun j => (gt s.Values (a + j)).Levels, (List.range (b + 1 - a - 1)).map fun j => bt s.Shifts (gt s.Values (a + j)).Time (gt s.Values (a + j + 1)).Time⟩

/-! ### steps -/
def nxtP (s : Ser) (most : Int) (a : Nat) (j : Nat) : Prop := (lastR (winOf s a (a + 1 + j)) most).2 = false
instance (s : Ser) (most : Int) (a : Nat) : DecidablePred (nxtP s most a) := fun i => by unfold nxtP; exact inferInstance
def nxt (s : Ser) (most : Int) (a : Nat) : Nat := a + 1 + first (nxtP s most a) (s.Values.length - (a + 1))
def stpF (s : Ser) (most : Int) : Nat → Nat → List Int
  | 0, _ => []
  | f + 1, a => if nxt s most a < s.Values.length then (gt s.Values (nxt s most a)).Time :: stpF s most f (nxt s most a) else []
def stpL (s : Ser) (most : Int) : List Int := stpF s most s.Values.length 0
def stpE (s : Ser) (most : Int) : Int := if chkE s ≠ 0 then chkE s else if ¬ (0 ≤ most ∧ most ≤ 24000) then 1 else 0
def stpR (s : Ser) (most : Int) : List Int × Int := if stpE s most ≠ 0 then ([], stpE s most) else (stpL s most, 0)

/-! ### differences; adjustments -/
def difV (s t : Ser) (n : Nat) : Span := ⟨(gt s.Values (gt (comL s t) n).a.toNat).Levels.Lo - (gt t.Values (gt (comL s t) n).b.toNat).Levels.Hi, (gt s.Values (gt (comL s t) n).a.toNat).Levels.Hi - (gt t.Values (gt (comL s t) n).b.toNat).Levels.Lo⟩
def difT (s t : Ser) (n : Nat) : Int := (gt s.Values (gt (comL s t) n).a.toNat).Time
def difX (s t : Ser) (n : Nat) : Span := ⟨(bt s.Shifts (difT s t n) (difT s t (n + 1))).Lo - (bt t.Shifts (difT s t n) (difT s t (n + 1))).Hi, (bt s.Shifts (difT s t n) (difT s t (n + 1))).Hi - (bt t.Shifts (difT s t n) (difT s t (n + 1))).Lo⟩
def difW (s t : Ser) : Win := ⟨(List.range (comL s t).length).map (difV s t), (List.range ((comL s t).length - 1)).map (difX s t)⟩
def difF (s t : Ser) (time : Int) : Nat := first (fun n => time ≤ difT s t n) (comL s t).length
def winPart (w : Win) (a b : Nat) : Win := ⟨(w.levels.drop a).take (b - a), (w.shifts.drop a).take (max a (b - 1) - a)⟩
def winTurn (w : Win) : Win := ⟨w.levels.reverse, w.shifts.reverse.map fun x => ⟨-x.Hi, -x.Lo⟩⟩
def adjA (s t : Ser) (time most : Int) : Span × Bool := lastR (winPart (difW s t) 0 (difF s t time)) most
def adjB (s t : Ser) (time most : Int) : Span × Bool := lastR (winTurn (winPart (difW s t) (difF s t time) (comL s t).length)) most
def adjR (s t : Ser) (time most : Int) : Span × Int := if twoE s t ≠ 0 then (⟨0, 0⟩, twoE s t) else if ¬ ((0 ≤ time ∧ time ≤ 10000) ∧ (0 ≤ most ∧ most ≤ 24000)) then (⟨0, 0⟩, 1)
  else if difF s t time = 0 ∨ difF s t time = (comL s t).length then (⟨0, 0⟩, 3)
  else if (adjA s t time most).2 = false ∨ (adjB s t time most).2 = false then (⟨0, 0⟩, 3)
  else (⟨(adjB s t time most).1.Lo - (adjA s t time most).1.Hi - (gt (difW s t).shifts (difF s t time - 1)).Hi, (adjB s t time most).1.Hi - (adjA s t time most).1.Lo - (gt (difW s t).shifts (difF s t time - 1)).Lo⟩, 0)

/-! ### falls -/
def fallP (s : Ser) (i : Nat) (j : Nat) : Prop := (gap s (i + 1 + j) i).Hi < 0
instance (s : Ser) (i : Nat) : DecidablePred (fallP s i) := fun j => by unfold fallP; exact inferInstance
def fallK (s : Ser) (i : Nat) : Nat := i + 1 + first (fallP s i) (s.Values.length - (i + 1))
def fallI (s : Ser) : Nat := first (fun i => fallK s i < s.Values.length) s.Values.length
def fallR (s : Ser) : List Int × Int := if chkE s ≠ 0 then ([], chkE s) else if fallI s < s.Values.length then ([(gt s.Values (fallI s)).Time, (gt s.Values (fallK s (fallI s))).Time], 0) else ([], 3)
theorem fallK_yes {s : Ser} {i k : Nat} (hi : i < k) (hk : k < s.Values.length) (h : ∀ j, i + 1 + j < k → ¬ fallP s i j) (hp : fallP s i (k - (i + 1))) : fallK s i = k := by
  have := first_eq (p := fallP s i) (n := s.Values.length - (i + 1)) (k := k - (i + 1)) (by omega) (fun j hj => h j (by omega)) hp
  unfold fallK
  omega
theorem fallK_no {s : Ser} {i : Nat} (hi : i < s.Values.length) (h : ∀ j, i + 1 + j < s.Values.length → ¬ fallP s i j) : fallK s i = s.Values.length := by
  have := first_no (p := fallP s i) (n := s.Values.length - (i + 1)) (fun j hj => h j (by omega))
  unfold fallK
  omega
theorem fallR_err {s : Ser} (h : chkE s ≠ 0) : fallR s = ([], chkE s) := by rw [fallR, if_pos h]
theorem fallR_yes {s : Ser} {i k : Nat} (h0 : chkE s = 0) (hi : i < k) (hk : k < s.Values.length) (hall : ∀ j, j < i → fallK s j = s.Values.length) (h : ∀ j, i + 1 + j < k → ¬ fallP s i j) (hp : fallP s i (k - (i + 1))) :
    fallR s = ([(gt s.Values i).Time, (gt s.Values k).Time], 0) := by
  have h1 := fallK_yes hi hk h hp
  have h2 : fallI s = i := first_eq (by omega) (fun j hj => by have := hall j hj; omega) (by omega)
  rw [fallR, if_neg (by omega), h2, if_pos (by omega), h1]
theorem fallR_no {s : Ser} (h0 : chkE s = 0) (hall : ∀ j, j < s.Values.length → fallK s j = s.Values.length) : fallR s = ([], 3) := by
  have h2 : fallI s = s.Values.length := first_no (fun j hj => by have := hall j hj; omega)
  rw [fallR, if_neg (by omega), if_neg (by omega)]
end Go.Proofs.C8
