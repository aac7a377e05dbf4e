/- Stations: tight bounds, ways and pairs as the further laws say them, in plain Lean: no stations' code in sight. -/
import Derived.Test.YtcpecjgppbiplaaS5Mix
namespace Go.Proofs.S5
open Go Go.Kx

theorem boundS_small {w : Wind} {a b : Station} (hw : windE w = 0) (ha : placedOk a) (hb : placedOk b) : 0 ≤ boundS w a b ∧ boundS w a b ≤ 300000 := by
  have h1 := windE_zero hw
  have h2 := distS_spec ha hb
  have h3 := dist2_bd ha hb
  have h4 : distS a b ≤ 2830 := by
    rcases Int.lt_or_le 2830 (distS a b) with h | h
    · exfalso
      have h5 := h2.2.2 (by omega)
      have h6 : (2830 : Int) * 2830 ≤ (distS a b - 1) * (distS a b - 1) := Int.mul_le_mul (by omega) (by omega) (by omega) (by omega)
      omega
    · exact h
  have h5 := mul_bd h1.2.1 h1.2.2 h2.1 h4
  unfold boundS; split <;> omega
theorem oneE_of {s : Station} (hp : placedOk s) (hh : highOk s.Heights) : oneE s = 0 := by
  unfold oneE
  rw [checkS_ok (by simp)]
  intro j hj
  have hj0 : j = 0 := by simp at hj; omega
  subst hj0
  unfold badAt
  rw [if_neg, if_neg]
  · simpa [gt] using hh
  · simp only [gt, List.getD_cons_zero]
    intro h
    rcases h with h | h
    · exact h hp
    · exact absurd h.1 (Nat.lt_irrefl _)
theorem first_of {p : Nat → Prop} {n : Nat} (h : p n) : ∃ m, p m ∧ ∀ j, j < m → ¬ p j := by
  induction n using Nat.strongRecOn with
  | _ n ih =>
    by_cases hx : ∃ j, j < n ∧ p j
    · obtain ⟨j, hj, hp⟩ := hx
      exact ih j hj hp
    · exact ⟨n, h, fun j hj hp => hx ⟨j, hj, hp⟩⟩
theorem findK_some {p : Nat → Bool} : ∀ {n i k : Nat}, findK p n i = some k → i ≤ k ∧ k < i + n ∧ p k = true
  | 0, _, _, h => by cases h
  | n + 1, i, k, h => by
    rw [findK] at h
    split at h
    · cases h; exact ⟨Nat.le_refl _, by omega, by assumption⟩
    · have := findK_some h; exact ⟨by omega, by omega, this.2.2⟩
theorem findI_some {p : Nat → Nat → Bool} {N : Nat} : ∀ {n i : Nat} {q : Nat × Nat}, findI p N n i = some q → i ≤ q.1 ∧ q.1 < i + n ∧ q.1 < q.2 ∧ q.2 < N ∧ p q.1 q.2 = true
  | 0, _, _, h => by cases h
  | n + 1, i, q, h => by
    rw [findI] at h
    cases hk : findK (p i) (N - (i + 1)) (i + 1) with
    | some k =>
      rw [hk] at h
      simp only [Option.some.injEq] at h
      subst h
      have := findK_some hk
      exact ⟨Nat.le_refl _, by dsimp only; omega, by dsimp only; omega, by dsimp only; omega, this.2.2⟩
    | none =>
      rw [hk] at h
      have := findI_some h
      exact ⟨by omega, by omega, this.2.2.1, this.2.2.2.1, this.2.2.2.2⟩
section
variable {w : Wind} {l : List Station} (h : windedE w l = 0)
include h
theorem one_ok {i : Nat} (hi : i < l.length) : oneE (gt l i) = 0 := by
  have := checkS_placed (windedE_zero h).1 hi
  exact oneE_of this.1 this.2
omit h in
theorem boundM_eq {i k : Nat} (hi : i < l.length) (hk : k < l.length) : boundM w l i k = boundS w (gt l i) (gt l k) := if_pos ⟨hi, hk⟩
theorem boundM_small {i k : Nat} (hi : i < l.length) (hk : k < l.length) : 0 ≤ boundM w l i k ∧ boundM w l i k ≤ 300000 := by
  rw [boundM_eq hi hk]
  exact boundS_small (windedE_zero h).2 (checkS_placed (windedE_zero h).1 hi).1 (checkS_placed (windedE_zero h).1 hk).1
theorem tight_small {i k : Nat} (hi : i < l.length) (hk : k < l.length) : 0 ≤ tightM w l i k ∧ tightM w l i k ≤ 300000 := by
  have h1 := tight_le h hi hk
  have h2 := (boundM_small h hi hk).2
  have h3 := (tightM_bd h i k hi hk).1
  omega
theorem withinR_in {i k : Nat} (hi : i < l.length) (hk : k < l.length) : withinR w (gt l i) (gt l k) = (boundM w l i k, 0) := by
  have h1 := one_ok h hi
  have h2 := one_ok h hk
  unfold withinR twoE
  rw [h1, h2, (windedE_zero h).2, boundM_eq hi hk]
  rfl
theorem diff_tight {s : Nat → Int} (hs : ∀ i k, i < l.length → k < l.length → s i - s k ≤ boundM w l i k) {i k : Nat} (hi : i < l.length) (hk : k < l.length) : s i - s k ≤ tightM w l i k := by
  obtain ⟨p, h1, h2, h3⟩ := allS_walk (boundM_met h) l.length (Nat.le_refl _) i k hi hk
  have key : ∀ (p : List Nat) (i : Nat), i < l.length → (∀ x ∈ p, x < l.length) → s i - s (wend i p) ≤ wlen (boundM w l) i p := by
    intro p
    induction p with
    | nil => intro i _ _; simp [wend, wlen]
    | cons k p ih =>
      intro i hi hp
      have h4 := ih k (hp k (List.mem_cons_self ..)) (fun x hx => hp x (List.mem_cons_of_mem _ hx))
      have h5 := hs i k hi (hp k (List.mem_cons_self ..))
      rw [wend, wlen]; omega
  have h6 := key p i hi h1
  rw [h2, h3] at h6
  exact h6
theorem windy_diff {s : List Int} (hs : windyP w l s) {i k : Nat} (hi : i < l.length) (hk : k < l.length) : gt s i - gt s k ≤ tightM w l i k :=
  diff_tight h (s := fun i => gt s i) (fun i k hi hk => by
    have := (hs.2.1 i hi k hk).2.2.2
    rw [withinR_in h hi hk] at this
    exact this) hi hk
theorem windy_of {s : List Int} (h1 : smallL s) (h2 : s.length = l.length) (h3 : ∀ i k, i < l.length → k < l.length → gt s i - gt s k ≤ boundM w l i k) : windyP w l s :=
  ⟨h1, fun i hi k hk => by
    unfold windyAt
    rw [withinR_in h hi hk]
    exact ⟨rfl, by omega, by omega, h3 i k hi hk⟩, h2⟩
theorem windy_row {i : Nat} (hi : i < l.length) : windyP w l (gt (tightL w l) i) := by
  have hl := tightL_row (w := w) hi
  refine windy_of h (fun k hk => ?_) hl (fun a b ha hb => ?_)
  · rw [tightL_at hi (by omega)]
    have := tight_small h hi (k := k) (by omega)
    omega
  · rw [tightL_at hi ha, tightL_at hi hb]
    have h1 := tight_tri h hi ha hb
    have h2 := tight_le h hb ha
    rw [boundM_comm] at h2
    omega

/-! ### sea levels of levels -/
theorem isSea_fit {week : Int} {levels s : List Int} (hlz : levelsE w l week levels = 0) (hs : isSeaP w l week levels s) : Fit (loS l week levels) (hiS l week levels) (tightM w l) l.length (fun i => gt s i) := by
  have hz := levelsE_zero hlz
  have hin : ∀ i, i < l.length → loS l week levels i ≤ gt s i ∧ gt s i ≤ hiS l week levels i := fun i hi => by
    have h1 := hs.2.2 i hi
    unfold seaIn at h1
    have h2 : heightR (gt l i) week = (heightS (gt l i) week, 0) := by unfold heightR; rw [if_neg (by simp [one_ok h hi]), if_pos hz.2.1]
    rw [h2] at h1
    rw [seasR_val h1.2.1] at h1
    rw [loS_eq hi, hiS_eq hi]
    exact ⟨h1.2.2.1, h1.2.2.2⟩
  exact ⟨fun i hi => (hin i hi).1, fun i hi => (hin i hi).2, fun i k hi hk => windy_diff h hs.2.1 hi hk⟩
theorem isSea_of {week : Int} {levels s : List Int} (hlz : levelsE w l week levels = 0) (hl : s.length = l.length) (hf : Fit (loS l week levels) (hiS l week levels) (tightM w l) l.length (fun i => gt s i)) : isSeaP w l week levels s := by
  have hz := levelsE_zero hlz
  refine ⟨⟨hl, hz.2.2.1⟩, windy_of h (fun i hi => ?_) hl (fun i k hi hk => ?_), fun i hi => ?_⟩
  · have h1 := hf.lo i (by omega)
    have h2 := hf.hi i (by omega)
    have h3 := seasL_bd hlz (i := i) (by omega)
    unfold loS at h1; unfold hiS at h2
    omega
  · have h1 := hf.df i k hi hk
    have h2 := tight_le h hi hk
    omega
  · have h1 := hf.lo i hi
    have h2 := hf.hi i hi
    rw [loS_eq hi] at h1
    rw [hiS_eq hi] at h2
    have h3 : heightR (gt l i) week = (heightS (gt l i) week, 0) := by unfold heightR; rw [if_neg (by simp [one_ok h hi]), if_pos hz.2.1]
    have h4 := heightS_ok (week := week) (checkS_placed (windedE_zero h).1 hi).2
    have h5 : seasR (gt levels i) (heightS (gt l i) week) = (seasS (gt levels i) (heightS (gt l i) week), 0) := by unfold seasR; rw [if_pos ⟨hz.2.2.2 i hi, h4⟩]
    unfold seaIn
    rw [h3, h5]
    exact ⟨rfl, rfl, h1, h2⟩
omit h in
theorem keeps_iff {week : Int} {levels : List Int} (hlz : levelsE w l week levels = 0) : (keepsR w l week levels).1 = true ↔ fitsS w l week levels := by simp [keepsR, hlz]
theorem least_sea {week : Int} {levels : List Int} (hlz : levelsE w l week levels = 0) (hk : (keepsR w l week levels).1 = true) :
    isSeaP w l week levels (sideR w l week levels).1 ∧ (sideR w l week levels).1.length = l.length ∧ ∀ s, isSeaP w l week levels s → ∀ i, i < l.length → gt (sideR w l week levels).1 i ≤ gt s i := by
  have hf := (keeps_iff hlz).1 hk
  rw [sideR_yes hlz hf]
  have hl : (sideL w l week levels).length = l.length := by simp [sideL]
  have hat : ∀ i, i < l.length → gt (sideL w l week levels) i = xS w l week levels i := fun i hi => by rw [sideL, gt_map _ hi]
  refine ⟨isSea_of h hlz hl ?_, hl, fun s hs i hi => ?_⟩
  · have hx := xF_fit (tight_tt h) hf (fun i k hi hk => tight_comm h hi hk)
    exact ⟨fun i hi => by rw [hat i hi]; exact hx.lo i hi, fun i hi => by rw [hat i hi]; exact hx.hi i hi, fun i k hi hk => by rw [hat i hi, hat k hk]; exact hx.df i k hi hk⟩
  · rw [hat i hi]; exact (isSea_fit h hlz hs).least hi
theorem no_sea {week : Int} {levels s : List Int} (hlz : levelsE w l week levels = 0) (hk : (keepsR w l week levels).1 = false) : ¬ isSeaP w l week levels s := fun hs => by
  have := (keeps_iff hlz).2 ((fits_iff h).2 ⟨_, isSea_fit h hlz hs⟩)
  rw [hk] at this; cases this
omit h in
theorem keeps_side {week : Int} {levels : List Int} : (keepsR w l week levels).1 = decide ((sideR w l week levels).2 = 0) := by
  have := (sideR_code w l week levels).2.1
  unfold keepsR
  simp [this]

/-! ### two by two -/
theorem lo_hi {week : Int} {levels : List Int} (hlz : levelsE w l week levels = 0) {i : Nat} (hi : i < l.length) : loS l week levels i ≤ hiS l week levels i := by
  have hz := levelsE_zero hlz
  have h1 := hz.2.2.2 i hi
  have h2 := heightS_ok (week := week) (checkS_placed (windedE_zero h).1 hi).2
  rw [loS_eq hi, hiS_eq hi]
  exact seaS_high h1.1 h2.1.2
theorem fits_pairs {week : Int} {levels : List Int} (hlz : levelsE w l week levels = 0) : fitsS w l week levels ↔ ∀ j x, j < l.length → j < x → x < l.length → ¬ apartP w l (seasL l week levels) j x := by
  constructor
  · intro hf j x hj hjx hx hap
    obtain ⟨s, fs⟩ := (fits_iff h).1 hf
    unfold apartP at hap
    have h1 := fs.lo j hj; have h2 := fs.hi j hj; have h3 := fs.lo x hx; have h4 := fs.hi x hx
    have h5 := fs.df j x hj hx; have h6 := fs.df x j hx hj
    rw [tight_comm h hx hj] at h6
    unfold loS at h1 h3; unfold hiS at h2 h4
    omega
  · intro hno i hi
    refine xF_le ?_ fun k hk => ?_
    · exact lo_hi h hlz hi
    · rcases Nat.lt_trichotomy i k with h1 | h1 | h1
      · have h2 := hno i k hi h1 hk
        unfold apartP at h2
        rw [tight_comm h hk hi]
        unfold loS
        omega
      · subst h1
        have h3 := lo_hi h hlz hi
        rw [tight_zero h hi]
        unfold loS hiS at *
        omega
      · have h2 := hno k i hk h1 hi
        unfold apartP at h2
        unfold loS
        omega
theorem apart_some {week : Int} {levels : List Int} (hlz : levelsE w l week levels = 0) (hk : (keepsR w l week levels).1 = false) :
    ∃ a b : Nat, apartR w l week levels = ([(a : Int), (b : Int)], 0) ∧ a < b ∧ b < l.length ∧ apartP w l (seasL l week levels) a b := by
  unfold apartR
  rw [if_neg (by simp [hlz])]
  cases hf : findI (fun i k => decide (apartP w l (seasL l week levels) i k)) l.length l.length 0 with
  | some q =>
    obtain ⟨_, _, h3, h4, h5⟩ := findI_some hf
    exact ⟨q.1, q.2, rfl, h3, h4, of_decide_eq_true h5⟩
  | none =>
    exfalso
    have : fitsS w l week levels := (fits_pairs h hlz).2 fun j x hj hjx hx hap => by
      -- the first pair is found
      obtain ⟨a, ⟨b, hab, hb, hp⟩, hmin⟩ := first_of (p := fun a => ∃ b, a < b ∧ b < l.length ∧ apartP w l (seasL l week levels) a b) (n := j) ⟨x, hjx, hx, hap⟩
      obtain ⟨b', ⟨hb1, hb2, hb3⟩, hmin'⟩ := first_of (p := fun b => a < b ∧ b < l.length ∧ apartP w l (seasL l week levels) a b) (n := b) ⟨hab, hb, hp⟩
      rw [findI_yes (a := a) (b := b') (Nat.zero_le _) (by omega) hb1 hb2 (fun j' k' _ h1 h2 h3 => decide_eq_false fun hq => hmin j' h1 ⟨k', h2, h3, hq⟩) (fun k' h1 h2 => decide_eq_false fun hq => hmin' k' h2 ⟨h1, by omega, hq⟩) (decide_eq_true hb3)] at hf
      cases hf
    have h2 := (keeps_iff hlz).2 this
    rw [hk] at h2; cases h2
theorem keeps_apart {week : Int} {levels : List Int} (hlz : levelsE w l week levels = 0) : (keepsR w l week levels).1 = decide ((apartR w l week levels).2 = 3) := by
  cases hk : (keepsR w l week levels).1 with
  | true =>
    have hf := (keeps_iff hlz).1 hk
    rw [apartR_no hlz ((fits_pairs h hlz).1 hf)]; rfl
  | false =>
    obtain ⟨a, b, h1, _⟩ := apart_some h hlz hk
    rw [h1]; rfl
/-- two of the stations by themselves -/
theorem two_ok {week : Int} {levels : List Int} (hlz : levelsE w l week levels = 0) {a b : Nat} (hab : a < b) (hb : b < l.length) : levelsE w [gt l a, gt l b] week [gt levels a, gt levels b] = 0 := by
  have hz := levelsE_zero hlz
  have hc := checkS_zero (windedE_zero h).1
  have hA := badAt_zero (hc.2 a (by omega))
  have hB := badAt_zero (hc.2 b hb)
  have hid : (gt l a).ID < (gt l b).ID := by
    have key : ∀ n, a + n + 1 < l.length → (gt l a).ID < (gt l (a + n + 1)).ID := by
      intro n
      induction n with
      | zero =>
        intro hn
        have := (badAt_zero (hc.2 (a + 1) hn)).2.1 (by omega)
        simpa using this
      | succ n ih =>
        intro hn
        have h1 := ih (by omega)
        have h2 := (badAt_zero (hc.2 (a + (n + 1) + 1) hn)).2.1 (by omega)
        have h3 : a + (n + 1) + 1 - 1 = a + n + 1 := by omega
        rw [h3] at h2
        omega
    have := key (b - a - 1) (by omega)
    rwa [show a + (b - a - 1) + 1 = b by omega] at this
  refine levelsE_ok (winded_of ?_ (windedE_zero h).2) hz.2.1 rfl fun i hi => ?_
  · rw [checkS_ok (by simp)]
    intro j hj
    have hj2 : j = 0 ∨ j = 1 := by simp at hj; omega
    rcases hj2 with rfl | rfl
    · unfold badAt
      rw [if_neg, if_neg]
      · simpa [gt] using hA.2.2
      · rintro (h1 | h1)
        · exact h1 (by simpa [gt] using hA.1)
        · exact absurd h1.1 (Nat.lt_irrefl _)
    · unfold badAt
      rw [if_neg, if_neg]
      · simpa [gt] using hB.2.2
      · rintro (h1 | h1)
        · exact h1 (by simpa [gt] using hB.1)
        · have h2 := h1.2
          simp [gt] at h2
          simp [gt] at hid
          omega
  · have hj2 : i = 0 ∨ i = 1 := by simp at hi; omega
    rcases hj2 with rfl | rfl
    · simpa [lvOk, gt] using hz.2.2.2 a (by omega)
    · simpa [lvOk, gt] using hz.2.2.2 b hb
theorem two_no {week : Int} {levels : List Int} (hlz : levelsE w l week levels = 0) {a b : Nat} (hab : a < b) (hb : b < l.length) (hap : apartP w l (seasL l week levels) a b) (hn : ¬ tightM w l a b < boundM w l a b) :
    (keepsR w [gt l a, gt l b] week [gt levels a, gt levels b]).1 = false := by
  cases hk : (keepsR w [gt l a, gt l b] week [gt levels a, gt levels b]).1 with
  | false => rfl
  | true =>
    exfalso
    have hl2 := two_ok h hlz hab hb
    have hw2 := (levelsE_zero hl2).1
    obtain ⟨s, fs⟩ := (fits_iff hw2).1 ((keeps_iff hl2).1 hk)
    have e0 := fs.lo 0 (by simp); have e1 := fs.hi 0 (by simp); have e2 := fs.lo 1 (by simp); have e3 := fs.hi 1 (by simp)
    have e4 := fs.df 0 1 (by simp) (by simp); have e5 := fs.df 1 0 (by simp) (by simp)
    have b0 : boundM w [gt l a, gt l b] 0 1 = boundM w l a b := by rw [boundM_eq (by omega) hb, boundM_eq (by simp) (by simp)]; rfl
    have t0 := tight_le hw2 (i := 0) (j := 1) (by simp) (by simp)
    rw [tight_comm hw2 (by simp) (by simp)] at e5
    have q0 : loS [gt l a, gt l b] week [gt levels a, gt levels b] 0 = loS l week levels a := by rw [loS_eq (by simp), loS_eq (by omega)]; rfl
    have q1 : loS [gt l a, gt l b] week [gt levels a, gt levels b] 1 = loS l week levels b := by rw [loS_eq (by simp), loS_eq hb]; rfl
    have q2 : hiS [gt l a, gt l b] week [gt levels a, gt levels b] 0 = hiS l week levels a := by rw [hiS_eq (by simp), hiS_eq (by omega)]; rfl
    have q3 : hiS [gt l a, gt l b] week [gt levels a, gt levels b] 1 = hiS l week levels b := by rw [hiS_eq (by simp), hiS_eq hb]; rfl
    unfold apartP at hap
    unfold loS at q0 q1 e0 e2; unfold hiS at q2 q3 e1 e3
    omega
end
end Go.Proofs.S5
