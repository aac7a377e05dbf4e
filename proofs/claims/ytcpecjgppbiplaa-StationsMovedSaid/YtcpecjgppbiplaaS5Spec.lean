/- Stations: what the functions compute, in plain Lean. -/
import Derived.Test.YtcpecjgppbiplaaS5Data
namespace Go.Proofs.S5
open Go Go.Kx

def windE (w : Wind) : Int := if (0 ≤ w.Fixed ∧ w.Fixed ≤ 12000) ∧ (0 ≤ w.Each ∧ w.Each ≤ 10000) then 0 else 1

def heightAt (l : List Height) (i : Nat) : Prop :=
  (i = 0 → (gt l i).Week = 0) ∧ (0 < i → (gt l (i - 1)).Week < (gt l i).Week) ∧ (gt l i).Week ≤ 10000 ∧ 0 ≤ (gt l i).Metres.Lo ∧ (gt l i).Metres.Lo ≤ (gt l i).Metres.Hi ∧ (gt l i).Metres.Hi ≤ 4000
instance (l : List Height) (i : Nat) : Decidable (heightAt l i) := by unfold heightAt; exact inferInstance
def highOk (l : List Height) : Prop := (1 ≤ l.length ∧ l.length ≤ 16) ∧ ∀ i, i < l.length → heightAt l i
instance (l : List Height) : Decidable (highOk l) := by unfold highOk; exact inferInstance

def placedOk (s : Station) : Prop := (1 ≤ s.ID ∧ s.ID ≤ 65535) ∧ (0 ≤ s.X ∧ s.X ≤ 2000) ∧ (0 ≤ s.Y ∧ s.Y ≤ 2000)
instance (s : Station) : Decidable (placedOk s) := by unfold placedOk; exact inferInstance
def badAt (l : List Station) (i : Nat) : Int :=
  if ¬ placedOk (gt l i) ∨ (0 < i ∧ (gt l i).ID ≤ (gt l (i - 1)).ID) then 50 else if ¬ highOk (gt l i).Heights then 51 else 0
def checkFrom (l : List Station) : Nat → Nat → Int × Int
  | 0, _ => (0, 0)
  | n + 1, i => if badAt l i ≠ 0 then (badAt l i, i) else checkFrom l n (i + 1)
def checkS (l : List Station) : Int × Int := if 32 < l.length then (2, 0) else checkFrom l l.length 0

theorem checkFrom_skip (l : List Station) : ∀ (k n i : Nat), (∀ j, i ≤ j → j < i + k → badAt l j = 0) → checkFrom l (n + k) i = checkFrom l n (i + k)
  | 0, n, i, _ => rfl
  | k + 1, n, i, h => by
    rw [show n + (k + 1) = (n + k) + 1 by omega, checkFrom, if_neg (by simp [h i (Nat.le_refl _) (by omega)])]
    rw [checkFrom_skip l k n (i + 1) (fun j h1 h2 => h j (by omega) (by omega)), show i + 1 + k = i + (k + 1) by omega]
theorem checkS_bad {l : List Station} {k : Nat} (h32 : ¬ 32 < l.length) (hk : k < l.length) (h : ∀ j, j < k → badAt l j = 0) (hb : badAt l k ≠ 0) : checkS l = (badAt l k, (k : Int)) := by
  rw [checkS, if_neg h32, show l.length = (l.length - k) + k by omega, checkFrom_skip l k _ 0 (fun j _ h2 => h j (by omega))]
  rw [show l.length - k = (l.length - k - 1) + 1 by omega, checkFrom, if_pos (by simpa using hb)]
  simp
theorem checkS_ok {l : List Station} (h32 : ¬ 32 < l.length) (h : ∀ j, j < l.length → badAt l j = 0) : checkS l = (0, 0) := by
  rw [checkS, if_neg h32]
  have := checkFrom_skip l l.length 0 0 (fun j _ h2 => h j (by omega))
  simpa [checkFrom] using this
theorem checkS_big {l : List Station} (h32 : 32 < l.length) : checkS l = (2, 0) := by rw [checkS, if_pos h32]

/-- the least number whose square is not less -/
def sqUp : Nat → Nat
  | 0 => 0
  | n + 1 => if n + 1 ≤ sqUp n * sqUp n then sqUp n else sqUp n + 1
theorem sqUp_ge (n : Nat) : n ≤ sqUp n * sqUp n := by
  induction n with
  | zero => exact Nat.le_refl _
  | succ n ih =>
    unfold sqUp
    split
    · assumption
    · rw [Nat.add_mul, Nat.mul_add]; omega
theorem sqUp_least (n : Nat) : ∀ d, d < sqUp n → d * d < n := by
  induction n with
  | zero => intro d h; simp [sqUp] at h
  | succ n ih =>
    intro d h
    unfold sqUp at h
    split at h
    · exact Nat.lt_succ_of_lt (ih d h)
    · rename_i hn
      have : d * d ≤ sqUp n * sqUp n := Nat.mul_le_mul (by omega) (by omega)
      omega
def dist2 (a b : Station) : Int := (a.X - b.X) * (a.X - b.X) + (a.Y - b.Y) * (a.Y - b.Y)
def distS (a b : Station) : Int := sqUp (dist2 a b).toNat
def boundS (w : Wind) (a b : Station) : Int := if a.ID = b.ID then 0 else w.Fixed + w.Each * distS a b / 100
def oneE (s : Station) : Int := (checkS [s]).1
def aloneE : List Station → Int
  | [] => 0
  | s :: l => if oneE s ≠ 0 then oneE s else aloneE l
def twoE (a b : Station) : Int := if oneE a ≠ 0 then oneE a else oneE b
theorem aloneE_two (a b : Station) : aloneE [a, b] = twoE a b := by unfold aloneE twoE; split; rfl; simp [aloneE]; omega
theorem aloneE_bad : ∀ {l : List Station} {k : Nat}, k < l.length → (∀ j, j < k → oneE (gt l j) = 0) → oneE (gt l k) ≠ 0 → aloneE l = oneE (gt l k)
  | s :: l, 0, _, _, hb => by rw [aloneE, if_pos (by simpa [gt] using hb)]; simp [gt]
  | s :: l, k + 1, hk, h, hb => by
    have h0 : oneE s = 0 := by simpa [gt] using h 0 (by omega)
    rw [aloneE, if_neg (by simp [h0])]
    have hs : ∀ j, gt (s :: l) (j + 1) = gt l j := fun j => by simp [gt]
    rw [hs] at hb ⊢
    exact aloneE_bad (by simpa using hk) (fun j hj => by have := h (j + 1) (by omega); rwa [hs] at this) hb
theorem aloneE_ok : ∀ {l : List Station}, (∀ j, j < l.length → oneE (gt l j) = 0) → aloneE l = 0
  | [], _ => rfl
  | s :: l, h => by
    have h0 : oneE s = 0 := by simpa [gt] using h 0 (by simp)
    rw [aloneE, if_neg (by simp [h0])]
    exact aloneE_ok fun j hj => by have := h (j + 1) (by simp; omega); simpa [gt] using this
theorem badAt_zero {l : List Station} {i : Nat} (h : badAt l i = 0) : placedOk (gt l i) ∧ (0 < i → (gt l (i - 1)).ID < (gt l i).ID) ∧ highOk (gt l i).Heights := by
  unfold badAt at h
  split at h
  · cases h
  · rename_i h1
    split at h
    · cases h
    · rename_i h2
      refine ⟨?_, ?_, Decidable.of_not_not h2⟩
      · exact Decidable.of_not_not fun hp => h1 (.inl hp)
      · intro hi; exact Int.lt_of_not_ge fun hge => h1 (.inr ⟨hi, hge⟩)
theorem checkFrom_zero (l : List Station) : ∀ (n i : Nat), (checkFrom l n i).1 = 0 → ∀ j, i ≤ j → j < i + n → badAt l j = 0
  | 0, i, _, j, h1, h2 => by omega
  | n + 1, i, h, j, h1, h2 => by
    rw [checkFrom] at h
    split at h
    · rename_i hb; simp at h; exact absurd h hb
    · rename_i hb
      by_cases e : j = i
      · subst e; exact Decidable.of_not_not hb
      · exact checkFrom_zero l n (i + 1) h j (by omega) (by omega)
theorem checkS_zero {l : List Station} (h : (checkS l).1 = 0) : l.length ≤ 32 ∧ ∀ j, j < l.length → badAt l j = 0 := by
  unfold checkS at h
  split at h
  · cases h
  · exact ⟨by omega, fun j hj => checkFrom_zero l l.length 0 h j (Nat.zero_le _) (by omega)⟩
theorem oneE_zero {s : Station} (h : oneE s = 0) : placedOk s ∧ highOk s.Heights := by
  have := badAt_zero ((checkS_zero h).2 0 (by simp))
  simpa [gt] using ⟨this.1, this.2.2⟩
theorem twoE_zero {a b : Station} (h : twoE a b = 0) : oneE a = 0 ∧ oneE b = 0 := by
  unfold twoE at h; split at h
  · rename_i h1; exact absurd h h1
  · rename_i h1; exact ⟨Decidable.of_not_not h1, h⟩
theorem windE_zero {w : Wind} (h : windE w = 0) : (0 ≤ w.Fixed ∧ w.Fixed ≤ 12000) ∧ (0 ≤ w.Each ∧ w.Each ≤ 10000) := by
  unfold windE at h; split at h
  · assumption
  · cases h

theorem sqUp_le (n : Nat) : sqUp n ≤ n := by
  induction n with
  | zero => exact Nat.le_refl _
  | succ n ih => unfold sqUp; split <;> omega
theorem mul_bd {x y A C : Int} (h1 : 0 ≤ x) (h2 : x ≤ A) (h3 : 0 ≤ y) (h4 : y ≤ C) : 0 ≤ x * y ∧ x * y ≤ A * C :=
  ⟨Int.mul_nonneg h1 h3, Int.mul_le_mul h2 h4 h3 (Int.le_trans h1 h2)⟩
theorem sq_bd {x : Int} (h1 : -2000 ≤ x) (h2 : x ≤ 2000) : 0 ≤ x * x ∧ x * x ≤ 4000000 := by
  rcases Int.le_total 0 x with h | h
  · have := mul_bd h h2 h h2; omega
  · have := mul_bd (x := -x) (y := -x) (by omega) (show -x ≤ 2000 by omega) (by omega) (show -x ≤ 2000 by omega)
    rw [Int.neg_mul_neg] at this; omega
theorem dist2_bd {a b : Station} (ha : placedOk a) (hb : placedOk b) : 0 ≤ dist2 a b ∧ dist2 a b ≤ 8000000 := by
  obtain ⟨_, h1, h2⟩ := ha
  obtain ⟨_, h3, h4⟩ := hb
  have := sq_bd (x := a.X - b.X) (by omega) (by omega)
  have := sq_bd (x := a.Y - b.Y) (by omega) (by omega)
  unfold dist2; omega
theorem distS_bd {a b : Station} (ha : placedOk a) (hb : placedOk b) : 0 ≤ distS a b ∧ distS a b ≤ 8000000 := by
  have := dist2_bd ha hb
  have := sqUp_le (dist2 a b).toNat
  unfold distS; omega
theorem each_bd {w : Wind} {a b : Station} (hw : windE w = 0) (ha : placedOk a) (hb : placedOk b) : 0 ≤ w.Each * distS a b ∧ w.Each * distS a b ≤ 80000000000 := by
  have h1 := windE_zero hw
  have h2 := distS_bd ha hb
  have := mul_bd h1.2.1 h1.2.2 h2.1 h2.2; omega
theorem sqUp_step {a b : Station} {k : Nat} (_h0 : 0 ≤ dist2 a b) (h : (k : Int) * k < dist2 a b) : k < sqUp (dist2 a b).toNat := by
  rcases Nat.lt_or_ge k (sqUp (dist2 a b).toNat) with h1 | h1
  · exact h1
  · have h2 := sqUp_ge (dist2 a b).toNat
    have h3 : sqUp (dist2 a b).toNat * sqUp (dist2 a b).toNat ≤ k * k := Nat.mul_le_mul h1 h1
    have h4 : ((k * k : Nat) : Int) = (k : Int) * k := Int.natCast_mul ..
    omega
theorem sqUp_end {a b : Station} {k : Nat} (_h0 : 0 ≤ dist2 a b) (hk : k ≤ sqUp (dist2 a b).toNat) (h : ¬ (k : Int) * k < dist2 a b) : (k : Int) = distS a b := by
  rcases Nat.lt_or_ge k (sqUp (dist2 a b).toNat) with h1 | h1
  · have h2 := sqUp_least (dist2 a b).toNat k h1
    have h4 : ((k * k : Nat) : Int) = (k : Int) * k := Int.natCast_mul ..
    omega
  · unfold distS; omega
theorem sqk_bd {a b : Station} {k : Nat} (ha : placedOk a) (hb : placedOk b) (hk : k ≤ sqUp (dist2 a b).toNat) : 0 ≤ (k : Int) * k ∧ (k : Int) * k ≤ 64000000000000 := by
  have h1 := dist2_bd ha hb
  have h2 := sqUp_le (dist2 a b).toNat
  have := mul_bd (x := (k : Int)) (y := (k : Int)) (by omega) (show (k : Int) ≤ 8000000 by omega) (by omega) (show (k : Int) ≤ 8000000 by omega)
  omega

def seaS (level height : Int) : Int := level + level * height / 8000
def seasS (level : Int) (h : Span) : Span := ⟨seaS level h.Lo, seaS level h.Hi⟩
theorem sea_mul {l h : Int} (h1 : 0 ≤ l ∧ l ≤ 12001) (h2 : 0 ≤ h ∧ h ≤ 4000) : 0 ≤ l * h ∧ l * h ≤ 48004000 := by
  have := mul_bd h1.1 h1.2 h2.1 h2.2; omega
def seaR (level height : Int) : Int × Int := if (0 ≤ level ∧ level ≤ 12000) ∧ (0 ≤ height ∧ height ≤ 4000) then (seaS level height, 0) else (0, 1)
def spanOk (s : Span) : Prop := (0 ≤ s.Lo ∧ s.Lo ≤ s.Hi) ∧ s.Hi ≤ 4000
instance (s : Span) : Decidable (spanOk s) := by unfold spanOk; exact inferInstance
def seasR (level : Int) (s : Span) : Span × Int := if (0 ≤ level ∧ level ≤ 12000) ∧ spanOk s then (seasS level s, 0) else (⟨0, 0⟩, 1)
def distR (a b : Station) : Int × Int := if twoE a b ≠ 0 then (0, twoE a b) else (distS a b, 0)
def withinR (w : Wind) (a b : Station) : Int × Int := if twoE a b ≠ 0 then (0, twoE a b) else if windE w ≠ 0 then (0, windE w) else (boundS w a b, 0)
def fewOk (l : List Station) : Prop := (l.length ≤ 10 ∨ 32 < l.length ∧ l.length ≤ 60) ∧ ∀ i, i < l.length → (gt l i).Heights.length ≤ 40
instance (l : List Station) : Decidable (fewOk l) := by unfold fewOk; exact inferInstance
end Go.Proofs.S5
