import Derived.Test.YtednficclnjmjaaC8LNar
import Derived.Test.YtednficclnjmjaaC8Ref7
/- Century: the order of corrections, in plain Lean. -/
namespace Go.Proofs.C8
open Go Go.Kx

/-- a linear sum over shifts: the factors hang on the time alone -/
def linS (xs : List Shf) (f g : Int → Int) : Int := sumN (fun k => f (gt xs k).Time * (gt xs k).Levels.Lo + g (gt xs k).Time * (gt xs k).Levels.Hi) xs.length
/-- two series that tell the same: all linear sums of their shifts are equal -/
structure Eqv (t s : Ser) : Prop where
  os : Ok s
  ot : Ok t
  v : t.Values = s.Values
  x : ∀ f g, linS t.Shifts f g = linS s.Shifts f g
theorem bt_lin (xs : List Shf) (a b : Int) : bt xs a b = ⟨linS xs (fun T => if a < T ∧ T ≤ b then 1 else 0) (fun _ => 0), linS xs (fun _ => 0) (fun T => if a < T ∧ T ≤ b then 1 else 0)⟩ := by
  have h1 : btLo xs a b xs.length = linS xs (fun T => if a < T ∧ T ≤ b then 1 else 0) (fun _ => 0) := sumN_congr fun i _ => by dsimp only; split <;> omega
  have h2 : btHi xs a b xs.length = linS xs (fun _ => 0) (fun T => if a < T ∧ T ≤ b then 1 else 0) := sumN_congr fun i _ => by dsimp only; split <;> omega
  rw [bt, h1, h2]
/-- the factor of a shift of a time -/
def facT (v : List Val) (f : List Int) (T : Int) : Int := - sumN (fun i => if T ≤ (gt v i).Time then gt f i else 0) v.length
theorem totX_lin (s : Ser) (f : List Int) (most : Bool) : totN (sumXL s f) (endX s (sumXL s f) most) s.Shifts.length =
    linS s.Shifts (fun T => if decide (0 < facT s.Values f T) = most then 0 else facT s.Values f T) (fun T => if decide (0 < facT s.Values f T) = most then facT s.Values f T else 0) := by
  refine sumN_congr fun i hi => ?_
  dsimp only
  have h1 : gt (sumXL s f) i = facT s.Values f (gt s.Shifts i).Time := gt_map hi
  have h2 : gt (endX s (sumXL s f) most) i = endS (gt s.Shifts i).Levels (gt (sumXL s f) i) most := gt_map hi
  rw [h2, h1, endS]
  split <;> omega
section
variable {t s : Ser}
theorem eqv_bt (h : Eqv t s) (a b : Int) : bt t.Shifts a b = bt s.Shifts a b := by rw [bt_lin, bt_lin, h.x, h.x]
theorem eqv_bd (h : Eqv t s) (f : List Int) : bd t f = bd s f := by
  have hv : ∀ most, endV t f most = endV s f most := fun most => by unfold endV; rw [h.v]
  have key : ∀ most, totS t f (sumXL t f) most = totS s f (sumXL s f) most := fun most => by
    unfold totS
    rw [totX_lin, totX_lin, hv, h.v, h.x]
  show (⟨totS t f (sumXL t f) false, totS t f (sumXL t f) true⟩ : Span) = ⟨totS s f (sumXL s f) false, totS s f (sumXL s f) true⟩
  rw [key, key]
theorem eqv_evS (h : Eqv t s) : evS t = evS s := funext fun i => by
  have e := eqv_bt h (-1) (gt s.Values i).Time
  have e1 : btHi t.Shifts (-1) (gt s.Values i).Time t.Shifts.length = btHi s.Shifts (-1) (gt s.Values i).Time s.Shifts.length := congrArg Span.Hi e
  have e2 : btLo t.Shifts (-1) (gt s.Values i).Time t.Shifts.length = btLo s.Shifts (-1) (gt s.Values i).Time s.Shifts.length := congrArg Span.Lo e
  rw [evS, evS, h.v, e1, e2]
theorem eqv_evs (h : Eqv t s) : evsR t = evsR s := by
  unfold evsR evsL
  rw [if_neg (by rw [h.ot.e]; omega), if_neg (by rw [h.os.e]; omega), eqv_evS h, h.v]
theorem eqv_slope (h : Eqv t s) : slopeR t = slopeR s := by
  have hm : momL t = momL s := by unfold momL timN; rw [h.v]
  have hd : momD t = momD s := by unfold momD sqN timN; rw [h.v]
  have h2 : twoVE t = twoVE s := by unfold twoVE; rw [h.ot.e, h.os.e, h.v]
  unfold slopeR slpD
  rw [h2, hd]
  by_cases h3 : twoVE s ≠ 0
  · rw [if_pos h3, if_pos h3]
  · have e1 : slpS t = ⟨t, momL t, sumXL t (momL t)⟩ := by rw [slpS, if_neg (by rw [h2]; exact h3)]
    have e2 : slpS s = ⟨s, momL s, sumXL s (momL s)⟩ := by rw [slpS, if_neg h3]
    have e3 : bdX (slpS t) = bdX (slpS s) := by
      rw [e1, e2]
      show bd t (momL t) = bd s (momL s)
      rw [hm, eqv_bd h]
    simp only [if_neg h3, e3]
theorem eqv_extN (h : Eqv t s) (x : Span) : ∀ n : Nat, extN t x n = extN s x n
  | 0 => rfl
  | n + 1 => by rw [extN, extN, eqv_extN h x n, eqv_evS h, h.v]
theorem eqv_ext (h : Eqv t s) (x : Span) : extR t x = extR s x := by
  unfold extR
  rw [h.ot.e, h.os.e, h.v, eqv_extN h]
theorem eqv_gap (h : Eqv t s) (i k : Nat) : gap t i k = gap s i k := by unfold gap; rw [h.v, eqv_bd h]
theorem eqv_idx (h : Eqv t s) (c : Int) : idxR t c = idxR s c := by unfold idxR idxT; rw [h.v]
theorem eqv_rankN (h : Eqv t s) (w : Nat) : ∀ n : Nat, rankN t w n = rankN s w n
  | 0 => rfl
  | n + 1 => by unfold rankN; rw [eqv_rankN h w n, eqv_gap h]
theorem eqv_rank (h : Eqv t s) (c : Int) : rankR t c = rankR s c := by
  unfold rankR
  rw [h.ot.e, h.os.e, h.v, eqv_idx h, eqv_rankN h]
theorem eqv_win (h : Eqv t s) (a b : Nat) : winOf t a b = winOf s a b := by
  unfold winOf
  rw [h.v]
  simp only [eqv_bt h]
theorem eqv_nxt (h : Eqv t s) (most : Int) (a : Nat) : nxt t most a = nxt s most a := by
  unfold nxt nxtP
  simp only [eqv_win h, h.v]
theorem eqv_stpF (h : Eqv t s) (most : Int) : ∀ (f a : Nat), stpF t most f a = stpF s most f a
  | 0, _ => rfl
  | f + 1, a => by rw [stpF, stpF, eqv_nxt h, h.v, eqv_stpF h most f]
theorem eqv_stp (h : Eqv t s) (most : Int) : stpR t most = stpR s most := by
  unfold stpR stpE stpL
  rw [h.ot.e, h.os.e, h.v, eqv_stpF h]
theorem eqv_mStep (h : Eqv t s) (k : Nat) (st : MS) : mStep t k st = mStep s k st := by
  unfold mStep
  rw [h.v]
  simp only [eqv_bt h]
theorem eqv_mPass (h : Eqv t s) : ∀ (k : Nat) (st : MS), mPass t k st = mPass s k st
  | 0, _ => rfl
  | k + 1, st => by rw [mPass, mPass, eqv_mPass h k, eqv_mStep h]
theorem eqv_mOver (h : Eqv t s) (u : List Int) : mOver t u ↔ mOver s u := by
  unfold mOver mMost
  rw [h.v]
  simp only [eqv_bt h]
theorem eqv_mStart (h : Eqv t s) : mStart t = mStart s := by
  unfold mStart
  rw [h.v]
  simp only [eqv_bt h]
theorem eqv_mF (h : Eqv t s) : ∀ (f : Nat) (st : MS), mF t f st = mF s f st
  | 0, _ => rfl
  | f + 1, st => by
    unfold mF
    rw [h.v, eqv_mPass h]
    by_cases h1 : mOver s (mPass s s.Values.length st).2
    · rw [if_pos h1, if_pos ((eqv_mOver h _).2 h1)]
    · rw [if_neg h1, if_neg (fun h2 => h1 ((eqv_mOver h _).1 h2)), eqv_mF h f]
theorem eqv_mono (h : Eqv t s) : monoR t = monoR s := by
  unfold monoR
  rw [h.ot.e, h.os.e, eqv_mStart h, eqv_mF h]
end
/-! ### two shifts of one time -/
theorem sumN_two {F G : Nat → Int} {w : Nat} (h2 : F w + F (w + 1) = G w + G (w + 1)) (h : ∀ k, k ≠ w → k ≠ w + 1 → F k = G k) : ∀ {n : Nat}, w + 1 < n → sumN F n = sumN G n
  | 0, hn => absurd hn (Nat.not_lt_zero _)
  | n + 1, hn => by
    by_cases he : n = w + 1
    · subst he
      simp only [sumN]
      have := sumN_congr (f := F) (g := G) (n := w) (fun i hi => h i (by omega) (by omega))
      omega
    · simp only [sumN]
      rw [sumN_two h2 h (n := n) (by omega), h n (by omega) he]
/-- two shifts behind each other are other ones -/
def twoX (xs : List Shf) (w : Nat) (x y : Shf) : List Shf := (xs.set w x).set (w + 1) y
theorem twoX_len (xs : List Shf) (w : Nat) (x y : Shf) : (twoX xs w x y).length = xs.length := by unfold twoX; simp
theorem twoX_at {xs : List Shf} {w : Nat} {x y : Shf} {k : Nat} (hk : k < xs.length) : gt (twoX xs w x y) k = if w + 1 = k then y else if w = k then x else gt xs k := by
  unfold twoX
  rw [gt_set _ _ (by rw [List.length_set]; exact hk), gt_set _ _ hk]
theorem twoX_two {xs : List Shf} {w : Nat} (x y x' y' : Shf) : twoX (twoX xs w x y) w x' y' = twoX xs w x' y' := by
  unfold twoX
  rw [List.set_comm (i := w) (j := w + 1) _ _ (by omega), List.set_set, List.set_comm (i := w + 1) (j := w) _ _ (by omega), List.set_set]
theorem two_eqv {s : Ser} (h : Ok s) {w : Nat} {x y : Shf} (hw : w + 1 < s.Shifts.length) (hx : x.Time = (gt s.Shifts w).Time) (hy : y.Time = (gt s.Shifts w).Time) (ht : (gt s.Shifts w).Time = (gt s.Shifts (w + 1)).Time)
    (hlo : x.Levels.Lo + y.Levels.Lo = (gt s.Shifts w).Levels.Lo + (gt s.Shifts (w + 1)).Levels.Lo) (hhi : x.Levels.Hi + y.Levels.Hi = (gt s.Shifts w).Levels.Hi + (gt s.Shifts (w + 1)).Levels.Hi) (ho : Ok ⟨s.Values, twoX s.Shifts w x y⟩) :
    Eqv ⟨s.Values, twoX s.Shifts w x y⟩ s := by
  refine ⟨h, ho, rfl, fun f g => ?_⟩
  show linS (twoX s.Shifts w x y) f g = linS s.Shifts f g
  unfold linS
  rw [twoX_len]
  obtain ⟨n, hn⟩ : ∃ n, n = s.Shifts.length := ⟨_, rfl⟩
  have hF : ∀ k, k < n → (fun k => f (gt (twoX s.Shifts w x y) k).Time * (gt (twoX s.Shifts w x y) k).Levels.Lo + g (gt (twoX s.Shifts w x y) k).Time * (gt (twoX s.Shifts w x y) k).Levels.Hi) k =
      (fun k => if w + 1 = k then f y.Time * y.Levels.Lo + g y.Time * y.Levels.Hi else if w = k then f x.Time * x.Levels.Lo + g x.Time * x.Levels.Hi else f (gt s.Shifts k).Time * (gt s.Shifts k).Levels.Lo + g (gt s.Shifts k).Time * (gt s.Shifts k).Levels.Hi) k := fun k hk => by
    dsimp only
    rw [twoX_at (by omega)]
    by_cases h1 : w + 1 = k
    · rw [if_pos h1, if_pos h1]
    · rw [if_neg h1, if_neg h1]
      by_cases h2 : w = k
      · rw [if_pos h2, if_pos h2]
      · rw [if_neg h2, if_neg h2]
  rw [← hn, sumN_congr hF]
  refine sumN_two (w := w) ?_ (fun k h1 h2 => ?_) (by omega)
  · rw [if_neg (by omega), if_pos rfl, if_pos rfl, hx, hy, ← ht]
    generalize f (gt s.Shifts w).Time = A
    generalize g (gt s.Shifts w).Time = C
    have e1 : A * x.Levels.Lo + A * y.Levels.Lo = A * (gt s.Shifts w).Levels.Lo + A * (gt s.Shifts (w + 1)).Levels.Lo := by rw [← Int.mul_add, hlo, Int.mul_add]
    have e2 : C * x.Levels.Hi + C * y.Levels.Hi = C * (gt s.Shifts w).Levels.Hi + C * (gt s.Shifts (w + 1)).Levels.Hi := by rw [← Int.mul_add, hhi, Int.mul_add]
    omega
  · rw [if_neg (by omega), if_neg (by omega)]
theorem swap_ok {s : Ser} (h : Ok s) {w : Nat} (hw : w + 1 < s.Shifts.length) (ht : (gt s.Shifts w).Time = (gt s.Shifts (w + 1)).Time) : Ok ⟨s.Values, twoX s.Shifts w (gt s.Shifts (w + 1)) (gt s.Shifts w)⟩ := by
  have hat : ∀ k, k < s.Shifts.length → gt (twoX s.Shifts w (gt s.Shifts (w + 1)) (gt s.Shifts w)) k = if w + 1 = k then gt s.Shifts w else if w = k then gt s.Shifts (w + 1) else gt s.Shifts k := fun k hk => twoX_at hk
  have htm : ∀ k, k < s.Shifts.length → (gt (twoX s.Shifts w (gt s.Shifts (w + 1)) (gt s.Shifts w)) k).Time = (gt s.Shifts k).Time := fun k hk => by
    rw [hat k hk]
    split
    · rename_i h1; subst h1; exact ht
    · split
      · rename_i h1; subst h1; exact ht.symm
      · rfl
  refine ⟨h.nV, by show (twoX _ _ _ _).length ≤ 64; rw [twoX_len]; exact h.nX, h.v, fun i hi => ?_⟩
  have hi2 : i < s.Shifts.length := by have h1 : i < (twoX s.Shifts w (gt s.Shifts (w + 1)) (gt s.Shifts w)).length := hi; rwa [twoX_len] at h1
  show ¬ badX (twoX s.Shifts w (gt s.Shifts (w + 1)) (gt s.Shifts w)) i
  have k1 := htm i hi2
  have k2 := h.x i hi2
  have k3 := h.xl (i := w) (by omega)
  have k4 := h.xl (i := w + 1) hw
  have k5 := h.xl hi2
  have k6 : -12000 ≤ (gt (twoX s.Shifts w (gt s.Shifts (w + 1)) (gt s.Shifts w)) i).Levels.Lo ∧ (gt (twoX s.Shifts w (gt s.Shifts (w + 1)) (gt s.Shifts w)) i).Levels.Lo ≤ (gt (twoX s.Shifts w (gt s.Shifts (w + 1)) (gt s.Shifts w)) i).Levels.Hi ∧ (gt (twoX s.Shifts w (gt s.Shifts (w + 1)) (gt s.Shifts w)) i).Levels.Hi ≤ 12000 := by
    rw [hat i hi2]
    split
    · exact k3
    · split
      · exact k4
      · exact k5
  unfold badX at k2 ⊢
  rcases Nat.eq_zero_or_pos i with hz | hz
  · omega
  · have k7 := htm (i - 1) (by omega)
    omega
/-! ### narrower twice -/
theorem narV_len (s : Ser) (k : Nat) (x : Span) : (narV s k x).length = s.Values.length := by unfold narV; rw [List.length_set]
theorem nar_ok {s : Ser} (h : Ok s) {k : Nat} {x : Span} (hn : ¬ (meetS (gt s.Values k).Levels x).Hi < (meetS (gt s.Values k).Levels x).Lo) (_hk : k < s.Values.length) : Ok ⟨narV s k x, s.Shifts⟩ := by
  have key : ∀ i, i < s.Values.length → (gt (narV s k x) i).Time = (gt s.Values i).Time ∧ (gt s.Values i).Levels.Lo ≤ (gt (narV s k x) i).Levels.Lo ∧ (gt (narV s k x) i).Levels.Hi ≤ (gt s.Values i).Levels.Hi ∧ (gt (narV s k x) i).Levels.Lo ≤ (gt (narV s k x) i).Levels.Hi := fun i hi => by
    unfold narV
    rw [gt_set _ _ hi]
    by_cases he : k = i
    · rw [if_pos he]; subst he; unfold meetS at hn ⊢; dsimp only at hn ⊢; omega
    · rw [if_neg he]; have := h.vl hi; omega
  refine ⟨by show (narV s k x).length ≤ 200; rw [narV_len]; exact h.nV, h.nX, fun i hi => ?_, h.x⟩
  have hi3 : i < s.Values.length := by have h1 : i < (narV s k x).length := hi; rwa [narV_len] at h1
  have k1 := key i hi3
  have k2 := h.v i hi3
  unfold badV at k2 ⊢
  dsimp only
  rcases Nat.eq_zero_or_pos i with hz | hz
  · omega
  · have k3 := key (i - 1) (by omega)
    omega
theorem nar_idxT {s : Ser} {k : Nat} {x : Span} (c : Int) : idxR ⟨narV s k x, s.Shifts⟩ c = idxR s c := by
  have hl : (narV s k x).length = s.Values.length := narV_len s k x
  have ht : ∀ i, i < s.Values.length → (gt (narV s k x) i).Time = (gt s.Values i).Time := fun i hi => by
    unfold narV
    rw [gt_set _ _ hi]
    split
    · rename_i he; subst he; rfl
    · rfl
  by_cases hc : ∃ i, i < s.Values.length ∧ (gt s.Values i).Time = c
  · obtain ⟨i, h1, h2, h3⟩ : ∃ i, i < s.Values.length ∧ (gt s.Values i).Time = c ∧ ∀ j, j < i → (gt s.Values j).Time ≠ c := by
      rcases first_cases (fun i => (gt s.Values i).Time = c) s.Values.length with h4 | h4
      · obtain ⟨i, h5, h6⟩ := hc; exact absurd h6 (h4.2 i h5)
      · exact ⟨_, h4.1, h4.2.1, h4.2.2⟩
    rw [idxR_yes h1 h3 h2]
    exact idxR_yes (s := ⟨narV s k x, s.Shifts⟩) (by show i < (narV s k x).length; omega) (fun j hj => by show (gt (narV s k x) j).Time ≠ c; rw [ht j (by omega)]; exact h3 j hj) (by show (gt (narV s k x) i).Time = c; rw [ht i h1]; exact h2)
  · rw [idxR_no (fun j hj he => hc ⟨j, hj, he⟩)]
    exact idxR_no (s := ⟨narV s k x, s.Shifts⟩) (fun j hj => by
      have hj2 : j < s.Values.length := by have h1 : j < (narV s k x).length := hj; omega
      show (gt (narV s k x) j).Time ≠ c
      rw [ht j hj2]; exact fun he => hc ⟨j, hj2, he⟩)
theorem meet_meet (a b c : Span) : meetS (meetS a b) c = meetS a (meetS b c) := by
  unfold meetS
  dsimp only
  congr 1 <;> omega
theorem nar_twice {s : Ser} (h : Ok s) (time : Int) (a b : Span) : (((narR s time a).2 = 0 ∧ (narR (narR s time a).1 time b).2 = 0) ↔ (narR s time (meetS a b)).2 = 0) ∧
    ((narR s time (meetS a b)).2 = 0 → (narR (narR s time a).1 time b).1 = (narR s time (meetS a b)).1) := by
  by_cases hi : idxR s time < 0
  · rw [narR_a h.e hi, narR_a h.e hi]
    exact ⟨⟨fun hq => absurd hq.1 (by decide), fun hq => absurd hq (by decide)⟩, fun hq => absurd hq (by decide)⟩
  · have hk : (idxR s time).toNat < s.Values.length := by have := idxR_bd s time; omega
    obtain ⟨k, hkk⟩ : ∃ k, k = (idxR s time).toNat := ⟨_, rfl⟩
    have hA : ∀ x, (meetS (gt s.Values k).Levels x).Hi < (meetS (gt s.Values k).Levels x).Lo → narR s time x = (⟨[], []⟩, 3) := fun x hx => narR_b h.e hi (by rw [← hkk]; exact hx)
    have hB : ∀ x, ¬ (meetS (gt s.Values k).Levels x).Hi < (meetS (gt s.Values k).Levels x).Lo → narR s time x = (⟨narV s k x, s.Shifts⟩, 0) := fun x hx => by
      have := narR_c (x := x) h.e hi (by rw [← hkk]; exact hx); rwa [← hkk] at this
    by_cases h1 : (meetS (gt s.Values k).Levels a).Hi < (meetS (gt s.Values k).Levels a).Lo
    · have h2 : (meetS (gt s.Values k).Levels (meetS a b)).Hi < (meetS (gt s.Values k).Levels (meetS a b)).Lo := by unfold meetS at h1 ⊢; dsimp only at h1 ⊢; omega
      rw [hA _ h1, hA _ h2]
      exact ⟨⟨fun hq => absurd hq.1 (by decide), fun hq => absurd hq (by decide)⟩, fun hq => absurd hq (by decide)⟩
    · have ho := nar_ok h h1 (by rw [hkk]; exact hk)
      have hx : idxR ⟨narV s k a, s.Shifts⟩ time = idxR s time := nar_idxT time
      have hg : gt (narV s k a) k = ⟨(gt s.Values k).Time, meetS (gt s.Values k).Levels a⟩ := by unfold narV; rw [gt_set _ _ (by rw [hkk]; exact hk), if_pos rfl]
      have hm : meetS (gt (narV s k a) k).Levels b = meetS (gt s.Values k).Levels (meetS a b) := by rw [hg]; exact meet_meet _ _ _
      have hvv : narV ⟨narV s k a, s.Shifts⟩ k b = narV s k (meetS a b) := by
        show (narV s k a).set k ⟨(gt (narV s k a) k).Time, meetS (gt (narV s k a) k).Levels b⟩ = _
        rw [hm, hg]
        show (s.Values.set k _).set k _ = s.Values.set k _
        rw [List.set_set]
      rw [hB _ h1]
      by_cases h2 : (meetS (gt s.Values k).Levels (meetS a b)).Hi < (meetS (gt s.Values k).Levels (meetS a b)).Lo
      · have h3 : narR ⟨narV s k a, s.Shifts⟩ time b = (⟨[], []⟩, 3) := narR_b ho.e (by rw [hx]; exact hi) (by rw [hx, ← hkk]; show (meetS (gt (narV s k a) k).Levels b).Hi < (meetS (gt (narV s k a) k).Levels b).Lo; rw [hm]; exact h2)
        rw [hA _ h2]
        dsimp only
        rw [h3]
        exact ⟨⟨fun hq => absurd hq.2 (by decide), fun hq => absurd hq (by decide)⟩, fun hq => absurd hq (by decide)⟩
      · have h3 : narR ⟨narV s k a, s.Shifts⟩ time b = (⟨narV ⟨narV s k a, s.Shifts⟩ (idxR ⟨narV s k a, s.Shifts⟩ time).toNat b, s.Shifts⟩, 0) := narR_c ho.e (by rw [hx]; exact hi) (by rw [hx, ← hkk]; show ¬ (meetS (gt (narV s k a) k).Levels b).Hi < (meetS (gt (narV s k a) k).Levels b).Lo; rw [hm]; exact h2)
        rw [hx, ← hkk, hvv] at h3
        rw [hB _ h2]
        dsimp only
        rw [h3]
        exact ⟨⟨fun _ => rfl, fun _ => ⟨rfl, rfl⟩⟩, fun _ => rfl⟩
end Go.Proofs.C8
