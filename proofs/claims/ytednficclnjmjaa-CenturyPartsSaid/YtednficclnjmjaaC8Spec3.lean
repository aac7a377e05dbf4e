import Derived.Test.YtednficclnjmjaaC8Spec
/- Century: facts that the walks need. -/
namespace Go.Proofs.C8
open Go Go.Kx

theorem agree_low {s : Ser} (h : Ok s) : agreeP s (lowP s).levels (lowP s).shifts :=
  ⟨⟨map_len _ _, map_len _ _⟩, fun i hi => by unfold lowP; dsimp only; rw [gt_map hi]; have := h.vl hi; omega, fun i hi => by unfold lowP; dsimp only; rw [gt_map hi]; have := h.xl hi; omega⟩
theorem agree_high {s : Ser} (h : Ok s) : agreeP s (highP s).levels (highP s).shifts :=
  ⟨⟨map_len _ _, map_len _ _⟩, fun i hi => by unfold highP; dsimp only; rw [gt_map hi]; have := h.vl hi; omega, fun i hi => by unfold highP; dsimp only; rw [gt_map hi]; have := h.xl hi; omega⟩
theorem evenL_len (s : Ser) (a b : List Int) : (evenL s a b).length = s.Values.length := map_len _ _
theorem evenL_at {s : Ser} {a b : List Int} {i : Nat} (h : i < s.Values.length) : gt (evenL s a b) i = evenAt s a b i := gt_map h
theorem ev_snoc {s : Ser} (h : Ok s) {k : Nat} (hk : k < s.Values.length) :
    (List.range k).map (evS s) ++ [Span.mk (gt (evenL s (lowP s).levels (lowP s).shifts) k) (gt (evenL s (highP s).levels (highP s).shifts) k)] = (List.range (k + 1)).map (evS s) := by
  rw [evenL_at hk, evenL_at hk, even_low h hk, even_high h hk]
  exact map_succ _ _
theorem gapL_eq {n i k : Nat} (hi : i < n) (hk : k < n) :
    ((List.replicate n (0 : Int)).set i (gt (List.replicate n 0) i + 1)).set k (gt ((List.replicate n (0 : Int)).set i (gt (List.replicate n 0) i + 1)) k - 1) = gapL n i k := by
  have hr : ∀ j, j < n → gt (List.replicate n (0 : Int)) j = 0 := fun j hj => by simp [gt, List.getD, hj]
  have hg : ∀ (L : List Int) (a b : Nat) (x : Int), b < L.length → gt (L.set a x) b = if a = b then x else gt L b := fun L a b x hb => by
    simp only [gt, List.getD, List.getElem?_set]
    split
    · subst_vars; simp [hb]
    · rfl
  apply ext_gt
  · simp [gapL]
  · intro j hj
    have hj' : j < n := by simpa using hj
    rw [hg _ _ _ _ (by simpa using hj'), hg _ _ _ _ (by simpa using hk), hg _ _ _ _ (by simpa using hj'), hr j hj', hr i hi, hr k hk]
    rw [gapL, gt_map hj']
    by_cases h1 : i = j <;> by_cases h2 : k = j <;> by_cases h3 : i = k <;> simp_all <;> omega

theorem gt_rep {n j : Nat} (hj : j < n) : gt (List.replicate n (0 : Int)) j = 0 := by simp [gt, List.getD, hj]
theorem gap_mid {n i k : Nat} (hi : i < n) (hk : k < n) : 0 ≤ gt ((List.replicate n (0 : Int)).set i (gt (List.replicate n 0) i + 1)) k ∧ gt ((List.replicate n (0 : Int)).set i (gt (List.replicate n 0) i + 1)) k ≤ 1 := by
  rw [gt_rep hi]
  simp only [gt, List.getD, List.getElem?_set, List.length_replicate]
  split
  · simp
  · simp [hk]
theorem mul_bd {a b A B : Int} (ha : -A ≤ a ∧ a ≤ A) (hb : -B ≤ b ∧ b ≤ B) : -(A * B) ≤ a * b ∧ a * b ≤ A * B := by
  have hA : 0 ≤ A := by omega
  have hB : 0 ≤ B := by omega
  have h1 : 0 ≤ (A - a) * (B + b) := Int.mul_nonneg (by omega) (by omega)
  have h2 : 0 ≤ (A + a) * (B - b) := Int.mul_nonneg (by omega) (by omega)
  have h3 : 0 ≤ (A - a) * (B - b) := Int.mul_nonneg (by omega) (by omega)
  have h4 : 0 ≤ (A + a) * (B + b) := Int.mul_nonneg (by omega) (by omega)
  simp only [Int.sub_mul, Int.add_mul, Int.mul_sub, Int.mul_add] at h1 h2 h3 h4
  omega

/-- sums that are walked: everything is small -/
structure SumW (x : Sum) : Prop where
  ok : Ok x.run
  l1 : x.levels.length = x.run.Values.length
  l2 : x.shifts.length = x.run.Shifts.length
  f : ∀ i, i < x.run.Values.length → -10000000 ≤ gt x.levels i ∧ gt x.levels i ≤ 10000000
  g : ∀ i, i < x.run.Shifts.length → -2000000000 ≤ gt x.shifts i ∧ gt x.shifts i ≤ 2000000000
structure PickW (x : Sum) (p : Pick) : Prop where
  l1 : p.levels.length = x.run.Values.length
  l2 : p.shifts.length = x.run.Shifts.length
  f : ∀ i, i < x.run.Values.length → -24000 ≤ gt p.levels i ∧ gt p.levels i ≤ 24000
  g : ∀ i, i < x.run.Shifts.length → -12000 ≤ gt p.shifts i ∧ gt p.shifts i ≤ 12000
theorem totN_bd {f p : List Int} {n : Nat} {A B : Int} (hf : ∀ i, i < n → -A ≤ gt f i ∧ gt f i ≤ A) (hp : ∀ i, i < n → -B ≤ gt p i ∧ gt p i ≤ B) : n * -(A * B) ≤ totN f p n ∧ totN f p n ≤ n * (A * B) :=
  sumN_bd fun i hi => mul_bd (hf i hi) (hp i hi)
theorem endS_bd {x : Span} {f : Int} {b : Bool} {lo hi : Int} (h : lo ≤ x.Lo ∧ x.Lo ≤ x.Hi ∧ x.Hi ≤ hi) : lo ≤ endS x f b ∧ endS x f b ≤ hi := by
  unfold endS
  split <;> omega
theorem end_pick {x : Sum} (h : SumW x) (b : Bool) : PickW x ⟨endV x.run x.levels b, endX x.run x.shifts b⟩ :=
  ⟨map_len _ _, map_len _ _, fun i hi => by
    show _ ≤ gt (endV x.run x.levels b) i ∧ _
    rw [endV, gt_map hi]
    have h1 := h.ok.vl hi
    have := endS_bd (f := gt x.levels i) (b := b) (lo := 0) (hi := 24000) h1
    omega, fun i hi => by
    show _ ≤ gt (endX x.run x.shifts b) i ∧ _
    rw [endX, gt_map hi]
    exact endS_bd (h.ok.xl hi)⟩
/-- factors of levels that are walked -/
def facW (s : Ser) (f : List Int) : Prop := f.length = s.Values.length ∧ ∀ i, i < s.Values.length → -10000000 ≤ gt f i ∧ gt f i ≤ 10000000
theorem sumP_bd {s : Ser} {f : List Int} (h : ∀ i, i < s.Values.length → -10000000 ≤ gt f i ∧ gt f i ≤ 10000000) (t : Int) {n : Nat} (hn : n ≤ s.Values.length) :
    n * -10000000 ≤ sumN (fun i => if t ≤ (gt s.Values i).Time then gt f i else 0) n ∧ sumN (fun i => if t ≤ (gt s.Values i).Time then gt f i else 0) n ≤ n * 10000000 :=
  sumN_bd fun i hi => by have := h i (by omega); split <;> omega
theorem sum_w {s : Ser} {f : List Int} (hs : Ok s) (hf : facW s f) : SumW ⟨s, f, sumXL s f⟩ :=
  ⟨hs, hf.1, map_len _ _, hf.2, fun i hi => by
    show _ ≤ gt (sumXL s f) i ∧ _
    rw [sumXL, gt_map hi]
    have h1 := sumP_bd hf.2 (gt s.Shifts i).Time (Nat.le_refl _)
    have h2 := hs.nV
    unfold sumX
    omega⟩
theorem gap_fac {s : Ser} {i k : Nat} : facW s (gapL s.Values.length i k) := ⟨map_len _ _, fun j hj => by rw [gapL, gt_map hj]; split <;> split <;> omega⟩
theorem agg2i {a b c d : Int} (h1 : a = c) (h2 : b = d) : Value.agg #[.int .i64 a, .int .i64 b] = .agg #[.int .i64 c, .int .i64 d] := by rw [h1, h2]
theorem tdiv_bd {a b B : Int} (h : -B ≤ a ∧ a ≤ B) : -B ≤ a.tdiv b ∧ a.tdiv b ≤ B := by
  have := Int.natAbs_tdiv_le_natAbs a b
  omega
theorem gcd_zero {a : Int} (ha : 0 ≤ a) : (Int.gcd a 0 : Int) = a := by rw [Int.gcd_zero_right]; omega
theorem gcd_rem {a b : Int} : Int.gcd b (a % b) = Int.gcd a b := by
  rw [Int.gcd_comm a b]
  have : a % b = a - b * (a / b) := by have := Int.mul_ediv_add_emod a b; omega
  rw [this, Int.gcd_sub_mul_left_right]
theorem emod_bd {x y : Int} (hy : 0 < y) : 0 ≤ x % y ∧ x % y < y := ⟨Int.emod_nonneg _ (by omega), Int.emod_lt_of_pos _ hy⟩
theorem gcd_max (a b : Int) : Int.gcd (max a (-a)) b = Int.gcd a b := by
  rcases Int.le_total 0 a with h | h
  · rw [Int.max_eq_left (by omega)]
  · rw [Int.max_eq_right (by omega), Int.neg_gcd]

/-! ### slopes -/
theorem sq_diff (f : Nat → Int) (t : Int) : ∀ n : Nat, sumN (fun i => (f i - t) * (f i - t)) n = sumN (fun i => f i * f i) n - 2 * t * sumN f n + n * (t * t)
  | 0 => by simp [sumN]
  | n + 1 => by
    simp only [sumN]
    rw [sq_diff f t n]
    have h1 : (f n - t) * (f n - t) = f n * f n - 2 * t * f n + t * t := by
      rw [Int.sub_mul, Int.mul_sub, Int.mul_sub, Int.mul_assoc, Int.mul_comm t (f n)]; omega
    have h2 : 2 * t * (sumN f n + f n) = 2 * t * sumN f n + 2 * t * f n := Int.mul_add _ _ _
    have h3 : ((n + 1 : Nat) : Int) * (t * t) = n * (t * t) + t * t := by rw [Int.natCast_add, Int.add_mul]; simp
    rw [h1, h2, h3]
    omega
theorem mom_succ (f : Nat → Int) (n : Nat) : ((n + 1 : Nat) : Int) * sumN (fun i => f i * f i) (n + 1) - sumN f (n + 1) * sumN f (n + 1) =
    ((n : Int) * sumN (fun i => f i * f i) n - sumN f n * sumN f n) + sumN (fun i => (f i - f n) * (f i - f n)) n := by
  rw [sq_diff]
  simp only [sumN]
  have h1 : ((n + 1 : Nat) : Int) * (sumN (fun i => f i * f i) n + f n * f n) = n * sumN (fun i => f i * f i) n + sumN (fun i => f i * f i) n + n * (f n * f n) + f n * f n := by
    rw [Int.natCast_add, Int.add_mul, Int.mul_add, Int.mul_add]; simp; omega
  have h2 : (sumN f n + f n) * (sumN f n + f n) = sumN f n * sumN f n + 2 * f n * sumN f n + f n * f n := by
    rw [Int.add_mul, Int.mul_add, Int.mul_add, Int.mul_assoc, Int.mul_comm (sumN f n) (f n)]; omega
  rw [h1, h2]
  omega
theorem mom_nonneg (f : Nat → Int) : ∀ n : Nat, 0 ≤ (n : Int) * sumN (fun i => f i * f i) n - sumN f n * sumN f n
  | 0 => by simp [sumN]
  | n + 1 => by
    rw [mom_succ]
    have h1 := mom_nonneg f n
    have h2 : sumN (fun _ => 0) n ≤ sumN (fun i => (f i - f n) * (f i - f n)) n := sumN_le fun i _ => by
      rcases Int.le_total 0 (f i - f n) with h | h
      · exact Int.mul_nonneg h h
      · have := Int.mul_nonneg (show 0 ≤ -(f i - f n) by omega) (show 0 ≤ -(f i - f n) by omega); rwa [Int.neg_mul_neg] at this
    rw [sumN_zero] at h2
    omega
theorem mom_pos (f : Nat → Int) : ∀ n : Nat, 2 ≤ n → f 0 ≠ f 1 → 0 < (n : Int) * sumN (fun i => f i * f i) n - sumN f n * sumN f n
  | 0, h, _ => by omega
  | 1, h, _ => by omega
  | 2, _, h => by
    rw [mom_succ]
    have h1 := mom_nonneg f 1
    have h2 : sumN (fun i => (f i - f 1) * (f i - f 1)) 1 = (f 0 - f 1) * (f 0 - f 1) := by simp [sumN]
    have h3 : 0 < (f 0 - f 1) * (f 0 - f 1) := by
      rcases Int.lt_or_gt_of_ne h with h4 | h4
      · have := Int.mul_pos (show 0 < -(f 0 - f 1) by omega) (show 0 < -(f 0 - f 1) by omega); rwa [Int.neg_mul_neg] at this
      · exact Int.mul_pos (by omega) (by omega)
    rw [h2]
    omega
  | n + 3, _, h => by
    rw [mom_succ]
    have h1 := mom_pos f (n + 2) (by omega) h
    have h2 : sumN (fun _ => 0) (n + 2) ≤ sumN (fun i => (f i - f (n + 2)) * (f i - f (n + 2))) (n + 2) := sumN_le fun i _ => by
      rcases Int.le_total 0 (f i - f (n + 2)) with h | h
      · exact Int.mul_nonneg h h
      · have := Int.mul_nonneg (show 0 ≤ -(f i - f (n + 2)) by omega) (show 0 ≤ -(f i - f (n + 2)) by omega); rwa [Int.neg_mul_neg] at this
    rw [sumN_zero] at h2
    omega
theorem tim_bd {s : Ser} (h : Ok s) {n : Nat} (hn : n ≤ s.Values.length) : 0 ≤ timN s n ∧ timN s n ≤ n * 10000 := by
  have := sumN_bd (f := fun i => (gt s.Values i).Time) (n := n) (lo := 0) (hi := 10000) (fun i hi => h.vt (by omega))
  unfold timN
  omega
theorem sq_bd {x : Int} (h : 0 ≤ x ∧ x ≤ 10000) : 0 ≤ x * x ∧ x * x ≤ 100000000 := by
  have h1 := Int.mul_nonneg h.1 h.1
  have h2 : x * x ≤ 10000 * 10000 := Int.mul_le_mul h.2 h.2 h.1 (by omega)
  omega
theorem sqN_bd {s : Ser} (h : Ok s) {n : Nat} (hn : n ≤ s.Values.length) : 0 ≤ sqN s n ∧ sqN s n ≤ n * 100000000 := by
  have := sumN_bd (f := fun i => (gt s.Values i).Time * (gt s.Values i).Time) (n := n) (lo := 0) (hi := 100000000) (fun i hi => sq_bd (h.vt (by omega)))
  unfold sqN
  omega
theorem nt_bd {s : Ser} (h : Ok s) {i : Nat} (hi : i < s.Values.length) : 0 ≤ (s.Values.length : Int) * (gt s.Values i).Time ∧ (s.Values.length : Int) * (gt s.Values i).Time ≤ 2000000 := by
  have h0 := h.nV
  have h3 := h.vt hi
  have h4 : (s.Values.length : Int) * (gt s.Values i).Time ≤ 200 * 10000 := Int.mul_le_mul (by omega) h3.2 h3.1 (by omega)
  have h5 := Int.mul_nonneg (show (0 : Int) ≤ s.Values.length by omega) h3.1
  omega
theorem mom_bds {s : Ser} (h : Ok s) : (0 ≤ (s.Values.length : Int) * sqN s s.Values.length ∧ (s.Values.length : Int) * sqN s s.Values.length ≤ 4000000000000) ∧ (0 ≤ timN s s.Values.length * timN s s.Values.length ∧ timN s s.Values.length * timN s s.Values.length ≤ 4000000000000) := by
  have h0 := h.nV
  have h1 := sqN_bd h (Nat.le_refl _)
  have h2 := tim_bd h (Nat.le_refl _)
  have h3 := Int.mul_nonneg h2.1 h2.1
  have h4 : (s.Values.length : Int) * sqN s s.Values.length ≤ 200 * 20000000000 := Int.mul_le_mul (by omega) (by omega) h1.1 (by omega)
  have h5 := Int.mul_nonneg (show (0 : Int) ≤ s.Values.length by omega) h1.1
  have h6 : timN s s.Values.length * timN s s.Values.length ≤ 2000000 * 2000000 := Int.mul_le_mul (by omega) (by omega) h2.1 (by omega)
  omega
theorem twoVE_zero {s : Ser} (h : twoVE s = 0) : Ok s ∧ 2 ≤ s.Values.length := by
  unfold twoVE at h
  split at h
  · contradiction
  · split at h
    · cases h
    · exact ⟨Ok.of (by omega), by omega⟩
theorem momD_pos {s : Ser} (h : Ok s) (h2 : 2 ≤ s.Values.length) : 0 < momD s := by
  have h1 := h.mono (i := 0) (k := 1) (by omega) (by omega)
  exact mom_pos (fun i => (gt s.Values i).Time) _ h2 (by omega)
theorem momD_le {s : Ser} (h : Ok s) : momD s ≤ 4000000000000 := by
  have h0 := h.nV
  have h1 := sqN_bd h (Nat.le_refl _)
  have h2 := tim_bd h (Nat.le_refl _)
  have h3 := Int.mul_nonneg h2.1 h2.1
  have h4 : (s.Values.length : Int) * sqN s s.Values.length ≤ 200 * 20000000000 := Int.mul_le_mul (by omega) (by omega) h1.1 (by omega)
  unfold momD
  omega
theorem momL_fac {s : Ser} (h : Ok s) : facW s (momL s) := ⟨map_len _ _, fun i hi => by
  rw [momL, gt_map hi]
  have h0 := h.nV
  have h2 := tim_bd h (Nat.le_refl _)
  have h3 := h.vt hi
  have h4 : (s.Values.length : Int) * (gt s.Values i).Time ≤ 200 * 10000 := Int.mul_le_mul (by omega) h3.2 h3.1 (by omega)
  have h5 := Int.mul_nonneg (show (0 : Int) ≤ s.Values.length by omega) h3.1
  omega⟩
theorem slpS_ok {s : Ser} (h : twoVE s = 0) : slpS s = ⟨s, momL s, sumXL s (momL s)⟩ := by rw [slpS, if_neg (by omega)]
theorem slpS_w {s : Ser} (h : twoVE s = 0) : SumW (slpS s) := by rw [slpS_ok h]; exact sum_w (twoVE_zero h).1 (momL_fac (twoVE_zero h).1)
theorem slpD_bd {s : Ser} (h : twoVE s = 0) : 0 < slpD s ∧ slpD s ≤ 4000000000000 := by
  rw [slpD, if_neg (by omega)]
  exact ⟨momD_pos (twoVE_zero h).1 (twoVE_zero h).2, momD_le (twoVE_zero h).1⟩
theorem bdX_bd {x : Sum} (h : SumW x) : (-4000000000000000000 ≤ (bdX x).Lo ∧ (bdX x).Lo ≤ 4000000000000000000) ∧ (-4000000000000000000 ≤ (bdX x).Hi ∧ (bdX x).Hi ≤ 4000000000000000000) := by
  have key : ∀ b, -4000000000000000000 ≤ totS x.run x.levels x.shifts b ∧ totS x.run x.levels x.shifts b ≤ 4000000000000000000 := fun b => by
    have h1 := end_pick h b
    have h2 := totN_bd (n := x.run.Values.length) h.f h1.f
    have h3 := totN_bd (n := x.run.Shifts.length) h.g h1.g
    have h4 := h.ok.nV
    have h5 := h.ok.nX
    unfold totS
    dsimp only at h2 h3
    omega
  exact ⟨key false, key true⟩

/-! ### extremes -/
theorem wtN_le (s : Ser) (x : Span) : ∀ {a b : Nat}, a ≤ b → wtN s x a ≤ wtN s x b
  | a, 0, h => by obtain rfl : a = 0 := by omega
                  exact Nat.le_refl _
  | a, b + 1, h => by
    rcases Nat.lt_or_ge a (b + 1) with h1 | h1
    · have := wtN_le s x (a := a) (b := b) (by omega)
      simp only [wtN]; omega
    · obtain rfl : a = b + 1 := by omega
      exact Nat.le_refl _
theorem wtN_yes {s : Ser} {x : Span} {k : Nat} (h : inT x (gt s.Values k).Time) : wtN s x (k + 1) = wtN s x k + 1 := by rw [wtN, if_pos h]
theorem wtN_no {s : Ser} {x : Span} {k : Nat} (h : ¬ inT x (gt s.Values k).Time) : wtN s x (k + 1) = wtN s x k := by rw [wtN, if_neg h, Nat.add_zero]
theorem wtN_lt {s : Ser} {x : Span} {k n : Nat} (hk : k < n) (h : inT x (gt s.Values k).Time) : wtN s x k < wtN s x n := by
  have := wtN_le s x (a := k + 1) (b := n) hk
  rw [wtN_yes h] at this; omega
theorem wtN_len (s : Ser) (x : Span) : ∀ k : Nat, wtN s x k ≤ k
  | 0 => Nat.le_refl _
  | k + 1 => by have := wtN_len s x k; simp only [wtN]; split <;> omega
theorem ext_same {s : Ser} {x : Span} : ∀ {a b : Nat}, a ≤ b → wtN s x a = wtN s x b → extN s x a = extN s x b
  | a, 0, h, _ => by obtain rfl : a = 0 := by omega
                     rfl
  | a, b + 1, h, he => by
    rcases Nat.lt_or_ge a (b + 1) with h1 | h1
    · have h2 := wtN_le s x (a := a) (b := b) (by omega)
      by_cases h3 : inT x (gt s.Values b).Time
      · rw [wtN_yes h3] at he; omega
      · rw [wtN_no h3] at he
        rw [ext_same (a := a) (b := b) (by omega) he, extN, if_neg h3]
    · obtain rfl : a = b + 1 := by omega
      rfl
theorem ext_eq {s : Ser} {x : Span} {a b : Nat} (he : wtN s x a = wtN s x b) : extN s x a = extN s x b := by
  rcases Nat.le_total a b with h | h
  · exact ext_same h he
  · exact (ext_same h he.symm).symm
theorem ext_one {s : Ser} {x : Span} {k : Nat} (h : inT x (gt s.Values k).Time) (hf : (extN s x k).2.2 = false) : extN s x (k + 1) = (evS s k, evS s k, true) := by rw [extN, if_pos h, hf]; rfl
theorem ext_more {s : Ser} {x : Span} {k : Nat} (h : inT x (gt s.Values k).Time) (hf : (extN s x k).2.2 = true) : extN s x (k + 1) =
    (⟨min (extN s x k).1.Lo (evS s k).Lo, min (extN s x k).1.Hi (evS s k).Hi⟩, ⟨max (extN s x k).2.1.Lo (evS s k).Lo, max (extN s x k).2.1.Hi (evS s k).Hi⟩, true) := by rw [extN, if_pos h, hf]; rfl
/-! ### common times -/
theorem comN_len (s t : Ser) : ∀ n : Nat, (comN s t n).length ≤ n
  | 0 => Nat.le_refl _
  | n + 1 => by have := comN_len s t n; simp only [comN]; split <;> simp <;> omega
theorem comL_len (s t : Ser) : (comL s t).length ≤ s.Values.length := comN_len s t _
theorem gt_snoc {α : Type} [Inhabited α] (L : List α) (x : α) {i : Nat} (h : i < (L ++ [x]).length) : gt (L ++ [x]) i = if i < L.length then gt L i else x := by
  simp only [gt, List.getD]
  split
  · rename_i h1; rw [List.getElem?_append_left h1]
  · rename_i h1
    have : i = L.length := by simp at h; omega
    subst this
    simp
/-- what a pair of common times says -/
def comP (s t : Ser) (p : A2) (n : Nat) : Prop := ∃ i k : Nat, p.a = (i : Int) ∧ p.b = (k : Int) ∧ i < n ∧ k < t.Values.length ∧ (gt s.Values i).Time = (gt t.Values k).Time
theorem comN_at (s t : Ser) : ∀ (n j : Nat), j < (comN s t n).length → comP s t (gt (comN s t n) j) n
  | 0, j, h => by simp [comN] at h
  | n + 1, j, h => by
    have up : ∀ j, j < (comN s t n).length → comP s t (gt (comN s t n) j) (n + 1) := fun j hj => by
      obtain ⟨i, k, h1, h2, h3, h4, h5⟩ := comN_at s t n j hj
      exact ⟨i, k, h1, h2, by omega, h4, h5⟩
    by_cases hc : 0 ≤ idxR t (gt s.Values n).Time
    · have he : comN s t (n + 1) = comN s t n ++ [⟨(n : Int), idxR t (gt s.Values n).Time⟩] := by rw [comN, if_pos hc]
      rw [he] at h ⊢
      rw [gt_snoc _ _ h]
      split
      · rename_i h1; exact up j h1
      · rcases idxR_cases t (gt s.Values n).Time with ⟨h1, _⟩ | ⟨k, h1, h2, h3⟩
        · omega
        · exact ⟨n, k, rfl, h1, by omega, h2, h3.symm⟩
    · have he : comN s t (n + 1) = comN s t n := by rw [comN, if_neg hc]
      rw [he] at h ⊢
      exact up j h
theorem com_bd {s t : Ser} {n : Nat} (h : n < (comL s t).length) : (0 ≤ (gt (comL s t) n).a ∧ (gt (comL s t) n).a < s.Values.length) ∧ (0 ≤ (gt (comL s t) n).b ∧ (gt (comL s t) n).b < t.Values.length) := by
  obtain ⟨i, k, h1, h2, h3, h4, _⟩ := comN_at s t _ n h
  have h1' : (gt (comL s t) n).a = (i : Int) := h1
  have h2' : (gt (comL s t) n).b = (k : Int) := h2
  omega
theorem brk_end {s t : Ser} {least : Int} {n : Nat} (h : 1 ≤ n ∧ (n ≤ (comL s t).length ∨ n = 1)) (h2 : ¬ n < (comL s t).length) : brkN s t least n = brkN s t least (comL s t).length := by
  by_cases h3 : n = (comL s t).length
  · rw [h3]
  · have h4 : n = 1 := by omega
    have h5 : (comL s t).length = 0 := by omega
    rw [h4, h5]; rfl
theorem brkN_len (s t : Ser) (least : Int) : ∀ n : Nat, (brkN s t least n).length ≤ n
  | 0 => Nat.le_refl _
  | n + 1 => by have := brkN_len s t least n; simp only [brkN]; split <;> simp <;> omega
theorem gap_w {s : Ser} (h : Ok s) (i k : Nat) : SumW ⟨s, gapL s.Values.length i k, sumXL s (gapL s.Values.length i k)⟩ := sum_w h gap_fac
theorem gap_bd {s : Ser} (h : Ok s) (i k : Nat) : (-4000000000000000000 ≤ (gap s i k).Lo ∧ (gap s i k).Lo ≤ 4000000000000000000) ∧ (-4000000000000000000 ≤ (gap s i k).Hi ∧ (gap s i k).Hi ≤ 4000000000000000000) := bdX_bd (gap_w h i k)
theorem end_order {x : Span} (h : x.Lo ≤ x.Hi) (f : Int) : f * endS x f false ≤ f * endS x f true := by
  unfold endS
  by_cases hf : 0 < f
  · rw [if_neg (by simp [hf]), if_pos (by simp [hf])]
    exact Int.mul_le_mul_of_nonneg_left h (by omega)
  · rw [if_pos (by simp [hf]), if_neg (by simp [hf])]
    exact Int.mul_le_mul_of_nonpos_left (by omega) h
theorem bdX_order {x : Sum} (h : SumW x) : (bdX x).Lo ≤ (bdX x).Hi := by
  have h1 : totN x.levels (endV x.run x.levels false) x.run.Values.length ≤ totN x.levels (endV x.run x.levels true) x.run.Values.length := sumN_le fun i hi => by
    rw [endV, endV, gt_map hi, gt_map hi]
    exact end_order (h.ok.vl hi).2.1 _
  have h2 : totN x.shifts (endX x.run x.shifts false) x.run.Shifts.length ≤ totN x.shifts (endX x.run x.shifts true) x.run.Shifts.length := sumN_le fun i hi => by
    rw [endX, endX, gt_map hi, gt_map hi]
    exact end_order (h.ok.xl hi).2.1 _
  show totS _ _ _ _ ≤ totS _ _ _ _
  unfold totS
  omega
theorem gap_order {s : Ser} (h : Ok s) (i k : Nat) : (gap s i k).Lo ≤ (gap s i k).Hi := bdX_order (gap_w h i k)

/-! ### windows -/
structure WinW (w : Win) : Prop where
  n : w.levels.length ≤ 200
  l : w.levels.length ≤ w.shifts.length + 1
  lb : ∀ i, i < w.levels.length → -24000 ≤ (gt w.levels i).Lo ∧ (gt w.levels i).Lo ≤ (gt w.levels i).Hi ∧ (gt w.levels i).Hi ≤ 24000
  xb : ∀ i, i < w.shifts.length → -1536000 ≤ (gt w.shifts i).Lo ∧ (gt w.shifts i).Lo ≤ (gt w.shifts i).Hi ∧ (gt w.shifts i).Hi ≤ 1536000
theorem lastAt_bd {w : Win} (h : WinW w) {most : Int} (hm : 0 ≤ most ∧ most ≤ 24000) : ∀ k : Nat, k < w.levels.length →
    (-(100000 + k * 2000000) ≤ (lastAt w most k).Lo ∧ (lastAt w most k).Lo ≤ 100000 + k * 2000000) ∧ (-(100000 + k * 2000000) ≤ (lastAt w most k).Hi ∧ (lastAt w most k).Hi ≤ 100000 + k * 2000000)
  | 0, hk => by have := h.lb 0 hk; simp only [lastAt]; omega
  | k + 1, hk => by
    have h1 := lastAt_bd h hm k (by omega)
    have h2 := h.lb (k + 1) hk
    have h3 := h.xb k (by have := h.l; omega)
    simp only [lastAt]
    omega
theorem lastO_succ {w : Win} {most : Int} {k : Nat} (hk : 0 < k) : lastO w most (k + 1) = ⟨max ((gt w.levels k).Lo - most) ((lastO w most k).Lo + (gt w.shifts (k - 1)).Lo), min (gt w.levels k).Hi ((lastO w most k).Hi + (gt w.shifts (k - 1)).Hi)⟩ := by
  obtain ⟨j, rfl⟩ : ∃ j, k = j + 1 := ⟨k - 1, by omega⟩
  simp [lastO, lastAt]
theorem lastO_one (w : Win) (most : Int) : lastO w most 1 = ⟨(gt w.levels 0).Lo - most, (gt w.levels 0).Hi⟩ := by simp [lastO, lastAt]
theorem lastO_bd {w : Win} (h : WinW w) {most : Int} (hm : 0 ≤ most ∧ most ≤ 24000) {k : Nat} (hk : k ≤ w.levels.length) :
    (-500000000 ≤ (lastO w most k).Lo ∧ (lastO w most k).Lo ≤ 500000000) ∧ (-500000000 ≤ (lastO w most k).Hi ∧ (lastO w most k).Hi ≤ 500000000) := by
  have hn := h.n
  unfold lastO
  split
  · dsimp only; omega
  · have := lastAt_bd h hm (k - 1) (by omega); omega
theorem win_w {s : Ser} (h : Ok s) {a b : Nat} (hab : a ≤ b) (hb : b < s.Values.length) : WinW (winOf s a b) := by
  have hn := h.nV
  have hl : (winOf s a b).levels.length = b + 1 - a := map_len _ _
  have hx : (winOf s a b).shifts.length = b + 1 - a - 1 := map_len _ _
  refine ⟨by omega, by omega, fun i hi => ?_, fun i hi => ?_⟩
  · unfold winOf
    dsimp only
    rw [gt_map (by omega)]
    have := h.vl (i := a + i) (by omega)
    omega
  · unfold winOf
    dsimp only
    rw [gt_map (by omega)]
    have := bt_bd h (gt s.Values (a + i)).Time (gt s.Values (a + i + 1)).Time (Nat.le_refl _)
    unfold bt
    dsimp only
    omega
theorem win_snoc1 {s : Ser} {a d : Nat} (h : 0 < d) : ((List.range (d - 1)).map fun j => bt s.Shifts (gt s.Values (a + j)).Time (gt s.Values (a + j + 1)).Time) ++ [bt s.Shifts (gt s.Values (a + d - 1)).Time (gt s.Values (a + d)).Time] = (List.range (d + 1 - 1)).map fun j => bt s.Shifts (gt s.Values (a + j)).Time (gt s.Values (a + j + 1)).Time := by
  obtain ⟨e, rfl⟩ : ∃ e, d = e + 1 := ⟨d - 1, by omega⟩
  rw [show e + 1 + 1 - 1 = e + 1 by omega, ← map_succ]
  rw [show a + (e + 1) - 1 = a + e by omega, show a + (e + 1) = a + e + 1 by omega]
  rfl
theorem win_none {α : Type} {f : Nat → α} {d : Nat} (h : d = 0) : (List.range (d - 1)).map f = (List.range (d + 1 - 1)).map f := by
  subst h
  rfl
/-! ### steps -/
theorem nxt_yes {s : Ser} {most : Int} {a b : Nat} (hab : a < b) (hb : b < s.Values.length) (h : ∀ j, a + 1 + j < b → ¬ nxtP s most a j) (hp : nxtP s most a (b - (a + 1))) : nxt s most a = b := by
  have := first_eq (p := nxtP s most a) (n := s.Values.length - (a + 1)) (k := b - (a + 1)) (by omega) (fun j hj => h j (by omega)) hp
  unfold nxt
  omega
theorem nxt_no {s : Ser} {most : Int} {a : Nat} (ha : a < s.Values.length) (h : ∀ j, a + 1 + j < s.Values.length → ¬ nxtP s most a j) : nxt s most a = s.Values.length := by
  have := first_no (p := nxtP s most a) (n := s.Values.length - (a + 1)) (fun j hj => h j (by omega))
  unfold nxt
  omega
theorem stpF_fuel (s : Ser) (most : Int) : ∀ (f a : Nat), s.Values.length - a ≤ f → stpF s most f a = stpF s most (s.Values.length - a) a
  | 0, a, h => by rw [show s.Values.length - a = 0 by omega]
  | f + 1, a, h => by
    by_cases ha : s.Values.length - a = 0
    · rw [ha]
      have hn : ¬ nxt s most a < s.Values.length := by unfold nxt; omega
      have e0 : stpF s most 0 a = [] := rfl
      rw [e0, stpF, if_neg hn]
    · obtain ⟨g, hg⟩ : ∃ g, s.Values.length - a = g + 1 := ⟨s.Values.length - a - 1, by omega⟩
      rw [hg, stpF, stpF]
      split
      · have h1 : a < nxt s most a := by unfold nxt; omega
        rw [stpF_fuel s most f _ (by omega), stpF_fuel s most g _ (by omega)]
      · rfl
theorem stp_yes {s : Ser} {most : Int} {a b : Nat} (hab : a < b) (hb : b < s.Values.length) (h : ∀ j, a + 1 + j < b → ¬ nxtP s most a j) (hp : nxtP s most a (b - (a + 1))) :
    stpF s most (s.Values.length - a) a = (gt s.Values b).Time :: stpF s most (s.Values.length - b) b := by
  have h1 := nxt_yes hab hb h hp
  obtain ⟨g, hg⟩ : ∃ g, s.Values.length - a = g + 1 := ⟨s.Values.length - a - 1, by omega⟩
  rw [hg, stpF, h1, if_pos hb, stpF_fuel s most g b (by omega)]
theorem stp_no {s : Ser} {most : Int} {a : Nat} (ha : a < s.Values.length) (h : ∀ j, a + 1 + j < s.Values.length → ¬ nxtP s most a j) : stpF s most (s.Values.length - a) a = [] := by
  have h1 := nxt_no ha h
  obtain ⟨g, hg⟩ : ∃ g, s.Values.length - a = g + 1 := ⟨s.Values.length - a - 1, by omega⟩
  rw [hg, stpF, h1, if_neg (Nat.lt_irrefl _)]
theorem stpE_0 {s : Ser} {most : Int} (h : chkE s = 0) (hm : 0 ≤ most ∧ most ≤ 24000) : stpE s most = 0 := by rw [stpE, if_neg (by omega), if_neg (by omega)]
theorem stpR_err {s : Ser} {most : Int} (h : chkE s ≠ 0) : stpR s most = ([], chkE s) := by
  have he : stpE s most = chkE s := by rw [stpE, if_pos h]
  rw [stpR, he, if_pos h]
theorem stpR_arg {s : Ser} {most : Int} (h : chkE s = 0) (hm : ¬ (0 ≤ most ∧ most ≤ 24000)) : stpR s most = ([], 1) := by
  have he : stpE s most = 1 := by rw [stpE, if_neg (by omega), if_pos hm]
  rw [stpR, he, if_pos (by omega)]
theorem stpR_ok {s : Ser} {most : Int} {L : List Int} (h : chkE s = 0) (hm : 0 ≤ most ∧ most ≤ 24000) (hL : L = stpL s most) : stpR s most = (L, 0) := by
  rw [stpR, stpE_0 h hm, if_neg (by omega), hL]
def sampleS : Ser := ⟨[⟨0, ⟨100, 102⟩⟩, ⟨1, ⟨101, 101⟩⟩, ⟨3, ⟨90, 95⟩⟩], [⟨2, ⟨-5, 0⟩⟩]⟩
def levelS : Ser := ⟨[⟨0, ⟨100, 100⟩⟩, ⟨1, ⟨100, 100⟩⟩, ⟨3, ⟨100, 100⟩⟩], []⟩
end Go.Proofs.C8
