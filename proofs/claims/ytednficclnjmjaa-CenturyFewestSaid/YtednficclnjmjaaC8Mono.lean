import Derived.Test.YtednficclnjmjaaC8Spec4
/- Century: rising levels, in plain Lean. -/
namespace Go.Proofs.C8
open Go Go.Kx
/-- a number of a list is raised -/
def rz (L : List Int) (i : Nat) (v : Int) : List Int := if gt L i < v then L.set i v else L
theorem rz_len (L : List Int) (i : Nat) (v : Int) : (rz L i v).length = L.length := by unfold rz; split <;> simp
theorem rz_at {L : List Int} {i j : Nat} {v : Int} (hj : j < L.length) : gt (rz L i v) j = if i = j then max (gt L j) v else gt L j := by
  unfold rz
  by_cases h : gt L i < v
  · rw [if_pos h, gt_set _ _ hj]
    by_cases hij : i = j
    · subst hij; rw [if_pos rfl, if_pos rfl]; omega
    · rw [if_neg hij, if_neg hij]
  · rw [if_neg h]
    by_cases hij : i = j
    · subst hij; rw [if_pos rfl]; omega
    · rw [if_neg hij]
def tot (L : List Int) : Int := sumN (gt L) L.length
theorem sumN_set (L : List Int) (i : Nat) (v : Int) : ∀ n : Nat, n ≤ L.length → sumN (gt (L.set i v)) n = sumN (gt L) n + (if i < n then v - gt L i else 0)
  | 0, _ => by simp [sumN]
  | n + 1, h => by
    simp only [sumN]
    rw [sumN_set L i v n (by omega), gt_set _ _ (show n < L.length by omega)]
    by_cases h1 : i = n
    · subst h1; rw [if_pos rfl, if_neg (by omega), if_pos (by omega)]; omega
    · rw [if_neg h1]
      by_cases h2 : i < n
      · rw [if_pos h2, if_pos (by omega)]; omega
      · rw [if_neg h2, if_neg (by omega)]; omega
theorem tot_rz {L : List Int} {i : Nat} {v : Int} (hi : i < L.length) : tot (rz L i v) = tot L + (if gt L i < v then v - gt L i else 0) := by
  unfold rz tot
  by_cases h : gt L i < v
  · rw [if_pos h, if_pos h, List.length_set, sumN_set L i v _ (Nat.le_refl _), if_pos hi]
  · rw [if_neg h, if_neg h]; omega
abbrev MS := List Int × List Int
/-- one value in a pass: e are adjusted levels, u the opposite sums of shifts -/
def mStep (s : Ser) (k : Nat) (st : MS) : MS :=
  let b := bt s.Shifts (gt s.Values (k - 1)).Time (gt s.Values k).Time
  let e1 := if 0 < k then rz st.1 k (gt st.1 (k - 1)) else st.1
  let u1 := if 0 < k then rz st.2 k (gt st.2 (k - 1) - b.Hi) else st.2
  let u2 := if 0 < k then rz u1 (k - 1) (gt u1 k + b.Lo) else u1
  let e2 := rz e1 k (gt u2 k + (gt s.Values k).Levels.Lo)
  (e2, rz u2 k (gt e2 k - (gt s.Values k).Levels.Hi))
def mPass (s : Ser) : Nat → MS → MS
  | 0, st => st
  | k + 1, st => mStep s k (mPass s k st)
def mMost (s : Ser) (i : Nat) : Int := - (bt s.Shifts (-1) (gt s.Values i).Time).Lo
def mOver (s : Ser) (u : List Int) : Prop := ∃ i, i < s.Values.length ∧ mMost s i < gt u i
instance (s : Ser) (u : List Int) : Decidable (mOver s u) := by unfold mOver; exact inferInstance
def mStart (s : Ser) : MS := ((List.range s.Values.length).map (fun i => (gt s.Values i).Levels.Lo - (bt s.Shifts (-1) (gt s.Values i).Time).Hi), (List.range s.Values.length).map (fun i => - (bt s.Shifts (-1) (gt s.Values i).Time).Hi))
/-- passes until nothing changes; the outer none: no fuel -/
def mF (s : Ser) : Nat → MS → Option (Option (List Int))
  | 0, _ => none
  | f + 1, st => if mOver s (mPass s s.Values.length st).2 then some none else if mPass s s.Values.length st = st then some (some st.1) else mF s f (mPass s s.Values.length st)
theorem mF_more {s : Ser} : ∀ {f : Nat} {st : MS} {r : Option (List Int)} (g : Nat), mF s f st = some r → mF s (f + g) st = some r
  | 0, _, _, _, h => by cases h
  | f + 1, st, r, g, h => by
    rw [show f + 1 + g = (f + g) + 1 by omega]
    unfold mF at h ⊢
    by_cases h1 : mOver s (mPass s s.Values.length st).2
    · rw [if_pos h1] at h ⊢; exact h
    · rw [if_neg h1] at h ⊢
      by_cases h2 : mPass s s.Values.length st = st
      · rw [if_pos h2] at h ⊢; exact h
      · rw [if_neg h2] at h ⊢; exact mF_more g h
def fuelM : Nat := 2000000000
def monoR (s : Ser) : List Int × Int := if chkE s ≠ 0 then ([], chkE s) else match mF s fuelM (mStart s) with
  | some (some L) => (L, 0)
  | _ => ([], 3)

def mu (st : MS) : Int := tot st.1 + tot st.2
/-- what has changed since a pass began -/
def RInv (st cur : MS) (c : Bool) : Prop := (c = true → mu st < mu cur) ∧ (c = false → cur = st) ∧ mu st ≤ mu cur
theorem rinv_start (st : MS) : RInv st st false := ⟨fun h => (by cases h), fun _ => rfl, Int.le_refl _⟩
theorem rinv_e {st : MS} {e u : List Int} {c : Bool} {i : Nat} {v : Int} (h : RInv st (e, u) c) (hi : i < e.length) : RInv st (rz e i v, u) (c || decide (gt e i < v)) := by
  have ht := tot_rz (L := e) (v := v) hi
  obtain ⟨h1, h2, h3⟩ := h
  have hm : mu (rz e i v, u) = mu (e, u) + (if gt e i < v then v - gt e i else 0) := by unfold mu; dsimp only; omega
  by_cases hf : gt e i < v
  · rw [if_pos hf] at hm
    exact ⟨fun _ => by omega, fun hc => by simp [hf] at hc, by omega⟩
  · rw [if_neg hf] at hm
    refine ⟨fun hc => ?_, fun hc => ?_, by omega⟩
    · have := h1 (by simpa [hf] using hc); omega
    · have := h2 (by simpa [hf] using hc)
      rw [← this]
      unfold rz
      rw [if_neg hf]
theorem rinv_u {st : MS} {e u : List Int} {c : Bool} {i : Nat} {v : Int} (h : RInv st (e, u) c) (hi : i < u.length) : RInv st (e, rz u i v) (c || decide (gt u i < v)) := by
  have ht := tot_rz (L := u) (v := v) hi
  obtain ⟨h1, h2, h3⟩ := h
  have hm : mu (e, rz u i v) = mu (e, u) + (if gt u i < v then v - gt u i else 0) := by unfold mu; dsimp only; omega
  by_cases hf : gt u i < v
  · rw [if_pos hf] at hm
    exact ⟨fun _ => by omega, fun hc => by simp [hf] at hc, by omega⟩
  · rw [if_neg hf] at hm
    refine ⟨fun hc => ?_, fun hc => ?_, by omega⟩
    · have := h1 (by simpa [hf] using hc); omega
    · have := h2 (by simpa [hf] using hc)
      rw [← this]
      unfold rz
      rw [if_neg hf]
/-- lengths and bounds of a state -/
structure MB (s : Ser) (st : MS) (c : Int) : Prop where
  le : st.1.length = s.Values.length
  lu : st.2.length = s.Values.length
  be : ∀ j, j < s.Values.length → -2000000 ≤ gt st.1 j ∧ gt st.1 j ≤ c
  bu : ∀ j, j < s.Values.length → -2000000 ≤ gt st.2 j ∧ gt st.2 j ≤ c
theorem mb_e {s : Ser} {e u : List Int} {c v : Int} {i : Nat} (h : MB s (e, u) c) (hv : v ≤ c) : MB s (rz e i v, u) c :=
  ⟨by rw [rz_len]; exact h.le, h.lu, fun j hj => by
    have h1 := h.be j hj
    dsimp only at h1 ⊢
    rw [rz_at (by rw [show e.length = s.Values.length from h.le]; exact hj)]
    split <;> omega, h.bu⟩
theorem mb_u {s : Ser} {e u : List Int} {c v : Int} {i : Nat} (h : MB s (e, u) c) (hv : v ≤ c) : MB s (e, rz u i v) c :=
  ⟨h.le, by rw [rz_len]; exact h.lu, h.be, fun j hj => by
    have h1 := h.bu j hj
    dsimp only at h1 ⊢
    rw [rz_at (by rw [show u.length = s.Values.length from h.lu]; exact hj)]
    split <;> omega⟩
theorem MB.up {s : Ser} {st : MS} {c d : Int} (h : MB s st c) (hd : c ≤ d) : MB s st d :=
  ⟨h.le, h.lu, fun j hj => by have := h.be j hj; omega, fun j hj => by have := h.bu j hj; omega⟩
theorem mb_start {s : Ser} (h : Ok s) : MB s (mStart s) 800000 := by
  refine ⟨map_len _ _, map_len _ _, fun j hj => ?_, fun j hj => ?_⟩
  · unfold mStart
    dsimp only
    rw [gt_map hj]
    have h1 := btS_bd h (-1) (gt s.Values j).Time
    have h2 := h.vl hj
    omega
  · unfold mStart
    dsimp only
    rw [gt_map hj]
    have h1 := btS_bd h (-1) (gt s.Values j).Time
    omega

theorem mb_step {s : Ser} (h : Ok s) {st : MS} {c : Int} {k : Nat} (hb : MB s st c) (hk : k < s.Values.length) : MB s (mStep s k st) (c + 4000000) := by
  obtain ⟨e, u⟩ := st
  have hv := h.vl hk
  unfold mStep
  dsimp only
  by_cases hk0 : 0 < k
  · simp only [if_pos hk0]
    have hbt := btS_bd h (gt s.Values (k - 1)).Time (gt s.Values k).Time
    have h1 := mb_e (i := k) (v := gt e (k - 1)) hb (hb.be (k - 1) (by omega)).2
    have h2 := mb_u (i := k) (v := gt u (k - 1) - (bt s.Shifts (gt s.Values (k - 1)).Time (gt s.Values k).Time).Hi) (h1.up (d := c + 1000000) (by omega)) (by have := (hb.bu (k - 1) (by omega)).2; dsimp only at this; omega)
    have h3 := mb_u (i := k - 1) (v := gt (rz u k (gt u (k - 1) - (bt s.Shifts (gt s.Values (k - 1)).Time (gt s.Values k).Time).Hi)) k + (bt s.Shifts (gt s.Values (k - 1)).Time (gt s.Values k).Time).Lo) (h2.up (d := c + 2000000) (by omega)) (by have := (h2.bu k hk).2; dsimp only at this; omega)
    have h4 := mb_e (i := k) (v := gt (rz (rz u k (gt u (k - 1) - (bt s.Shifts (gt s.Values (k - 1)).Time (gt s.Values k).Time).Hi)) (k - 1) (gt (rz u k (gt u (k - 1) - (bt s.Shifts (gt s.Values (k - 1)).Time (gt s.Values k).Time).Hi)) k + (bt s.Shifts (gt s.Values (k - 1)).Time (gt s.Values k).Time).Lo)) k + (gt s.Values k).Levels.Lo) (h3.up (d := c + 3000000) (by omega)) (by have := (h3.bu k hk).2; dsimp only at this; omega)
    exact mb_u (h4.up (d := c + 4000000) (by omega)) (by have := (h4.be k hk).2; dsimp only at this; omega)
  · simp only [if_neg hk0]
    have h4 := mb_e (i := k) (v := gt u k + (gt s.Values k).Levels.Lo) (hb.up (d := c + 3000000) (by omega)) (by have := (hb.bu k hk).2; dsimp only at this; omega)
    exact mb_u (h4.up (d := c + 4000000) (by omega)) (by have := (h4.be k hk).2; dsimp only at this; omega)
theorem mb_pass {s : Ser} (h : Ok s) {st : MS} {c : Int} (hb : MB s st c) : ∀ k : Nat, k ≤ s.Values.length → MB s (mPass s k st) (c + k * 4000000)
  | 0, _ => by simpa [mPass] using hb
  | k + 1, hk => by
    have h1 := mb_step h (mb_pass h hb k (by omega)) (k := k) (by omega)
    have he : c + (k : Int) * 4000000 + 4000000 = c + ((k + 1 : Nat) : Int) * 4000000 := by omega
    rw [he] at h1
    exact h1
theorem rz_ge (L : List Int) (i : Nat) (v : Int) {j : Nat} (hj : j < L.length) : gt L j ≤ gt (rz L i v) j := by
  rw [rz_at hj]; split <;> omega
/-- behind a step each level is within its bound of the shifts -/
theorem mu_step {s : Ser} {st : MS} {c : Int} {k : Nat} (hb : MB s st c) (hk : k < s.Values.length) (h : ∀ j, j < k → gt st.1 j - (gt s.Values j).Levels.Hi ≤ gt st.2 j) :
    ∀ j, j < k + 1 → gt (mStep s k st).1 j - (gt s.Values j).Levels.Hi ≤ gt (mStep s k st).2 j := by
  obtain ⟨e, u⟩ := st
  have hle : e.length = s.Values.length := hb.le
  have hlu : u.length = s.Values.length := hb.lu
  intro j hj
  unfold mStep
  dsimp only
  generalize bt s.Shifts (gt s.Values (k - 1)).Time (gt s.Values k).Time = b
  generalize he1 : (if 0 < k then rz e k (gt e (k - 1)) else e) = e1
  generalize hu1 : (if 0 < k then rz u k (gt u (k - 1) - b.Hi) else u) = u1
  generalize hu2 : (if 0 < k then rz u1 (k - 1) (gt u1 k + b.Lo) else u1) = u2
  have l1 : e1.length = s.Values.length := by rw [← he1]; split <;> simp [rz_len, hle]
  have l2 : u1.length = s.Values.length := by rw [← hu1]; split <;> simp [rz_len, hlu]
  have l3 : u2.length = s.Values.length := by rw [← hu2]; split <;> simp [rz_len, l2]
  by_cases hjk : j = k
  · subst hjk
    rw [rz_at (L := u2) (by omega), if_pos rfl]
    omega
  · have hjk' : j < k := by omega
    have e2 : gt (rz e1 k (gt u2 k + (gt s.Values k).Levels.Lo)) j = gt e j := by
      rw [rz_at (by omega), if_neg (by omega), ← he1]
      split
      · rw [rz_at (by omega), if_neg (by omega)]
      · rfl
    have g1 := rz_ge u2 k (gt (rz e1 k (gt u2 k + (gt s.Values k).Levels.Lo)) k - (gt s.Values k).Levels.Hi) (j := j) (by omega)
    have g2 : gt u1 j ≤ gt u2 j := by rw [← hu2]; split; exact rz_ge _ _ _ (by omega); exact Int.le_refl _
    have g3 : gt u j ≤ gt u1 j := by rw [← hu1]; split; exact rz_ge _ _ _ (by omega); exact Int.le_refl _
    have h0 := h j hjk'
    dsimp only at h0
    rw [e2]
    omega
theorem mu_pass {s : Ser} (h : Ok s) {st : MS} {c : Int} (hb : MB s st c) : ∀ k : Nat, k ≤ s.Values.length → ∀ j, j < k → gt (mPass s k st).1 j - (gt s.Values j).Levels.Hi ≤ gt (mPass s k st).2 j
  | 0, _ => fun j hj => absurd hj (Nat.not_lt_zero _)
  | k + 1, hk => mu_step (mb_pass h hb k (by omega)) (by omega) (mu_pass h hb k (by omega))
theorem mb_next {s : Ser} (h : Ok s) {st : MS} (hb : MB s st 800000) (ho : ¬ mOver s (mPass s s.Values.length st).2) : MB s (mPass s s.Values.length st) 800000 := by
  have h1 := mb_pass h hb _ (Nat.le_refl _)
  have h2 := mu_pass h hb _ (Nat.le_refl _)
  have h3 : ∀ j, j < s.Values.length → gt (mPass s s.Values.length st).2 j ≤ 768000 := fun j hj => by
    have hm : ¬ mMost s j < gt (mPass s s.Values.length st).2 j := fun hn => ho ⟨j, hj, hn⟩
    have := btS_bd h (-1) (gt s.Values j).Time
    unfold mMost at hm
    omega
  exact ⟨h1.le, h1.lu, fun j hj => ⟨(h1.be j hj).1, by have := h2 j hj; have := h3 j hj; have := h.vl hj; omega⟩, fun j hj => ⟨(h1.bu j hj).1, by have := h3 j hj; omega⟩⟩
theorem mu_le {s : Ser} (h : Ok s) {st : MS} (hb : MB s st 800000) : mu st ≤ 320000000 := by
  have hn := h.nV
  have h1 := sumN_bd (f := gt st.1) (n := st.1.length) (lo := -2000000) (hi := 800000) (fun i hi => hb.be i (by rw [← hb.le]; exact hi))
  have h2 := sumN_bd (f := gt st.2) (n := st.2.length) (lo := -2000000) (hi := 800000) (fun i hi => hb.bu i (by rw [← hb.lu]; exact hi))
  have := hb.le
  have := hb.lu
  unfold mu tot
  omega
theorem mu_ge {s : Ser} (h : Ok s) {st : MS} {c : Int} (hb : MB s st c) : -800000000 ≤ mu st := by
  have hn := h.nV
  have h1 : (st.1.length : Int) * -2000000 ≤ sumN (gt st.1) st.1.length := by rw [← sumN_const]; exact sumN_le fun i hi => (hb.be i (by rw [← hb.le]; exact hi)).1
  have h2 : (st.2.length : Int) * -2000000 ≤ sumN (gt st.2) st.2.length := by rw [← sumN_const]; exact sumN_le fun i hi => (hb.bu i (by rw [← hb.lu]; exact hi)).1
  have := hb.le
  have := hb.lu
  unfold mu tot
  omega

/-- the state of the passes -/
def MInv (s : Ser) (c : Bool) (st : MS) (F : Nat) : Prop := MB s st 800000 ∧ (c = true → mF s F st = mF s fuelM (mStart s) ∧ 320000000 - mu st < F) ∧ (c = false → mF s fuelM (mStart s) = some (some st.1))
theorem minv_start {s : Ser} (h : Ok s) : MInv s true (mStart s) fuelM := ⟨mb_start h, fun _ => ⟨rfl, by have := mu_ge h (mb_start h); unfold fuelM; omega⟩, fun hc => by cases hc⟩
theorem minv_next {s : Ser} (h : Ok s) {st : MS} {F : Nat} {c : Bool} (hi : MInv s true st F) (ho : ¬ mOver s (mPass s s.Values.length st).2) (hr : RInv st (mPass s s.Values.length st) c) : MInv s c (mPass s s.Values.length st) (F - 1) := by
  obtain ⟨hb, h1, _⟩ := hi
  obtain ⟨h2, h3⟩ := h1 rfl
  have hmu := mu_le h hb
  obtain ⟨G, rfl⟩ : ∃ G, F = G + 1 := ⟨F - 1, by omega⟩
  have hn := mb_next h hb ho
  refine ⟨hn, fun hc => ?_, fun hc => ?_⟩
  · have h4 := hr.1 hc
    have hne : mPass s s.Values.length st ≠ st := fun e => by rw [e] at h4; omega
    rw [← h2, mF, if_neg ho, if_neg hne]
    exact ⟨rfl, by rw [Nat.add_sub_cancel]; omega⟩
  · have h4 := hr.2.1 hc
    rw [← h2, mF, if_neg ho, if_pos h4, h4]
theorem minv_over {s : Ser} (h : Ok s) {st : MS} {F : Nat} (hi : MInv s true st F) (ho : mOver s (mPass s s.Values.length st).2) : monoR s = ([], 3) := by
  obtain ⟨hb, h1, _⟩ := hi
  obtain ⟨h2, h3⟩ := h1 rfl
  have hmu := mu_le h hb
  obtain ⟨G, rfl⟩ : ∃ G, F = G + 1 := ⟨F - 1, by omega⟩
  have : mF s fuelM (mStart s) = some none := by rw [← h2, mF, if_pos ho]
  rw [monoR, if_neg (by rw [h.e]; omega), this]
theorem minv_end {s : Ser} (h : Ok s) {st : MS} {F : Nat} (hi : MInv s false st F) : monoR s = (st.1, 0) := by
  rw [monoR, if_neg (by rw [h.e]; omega), hi.2.2 rfl]
theorem monoR_err {s : Ser} (h : chkE s ≠ 0) : monoR s = ([], chkE s) := by rw [monoR, if_pos h]
end Go.Proofs.C8
