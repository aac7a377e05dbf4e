import Derived.Test.YtmnipmbgdbdjeaaC2Spec
/- Clocks: readings of a chain: the lesser, the greater, the median ones; what is between; in plain Lean. -/
namespace Go.Proofs.C2
open Go Go.Kx

theorem Rd.min {g a : Nat → Span} {n : Nat} {x y : Nat → Int} (hx : Rd g a n x) (hy : Rd g a n y) : Rd g a n (fun i => Min.min (x i) (y i)) :=
  ⟨fun i hi => by have h1 := hx.1 i hi; have h2 := hy.1 i hi; (try dsimp only); omega, fun i hi => by have h1 := hx.2 i hi; have h2 := hy.2 i hi; (try dsimp only); omega⟩
theorem Rd.max {g a : Nat → Span} {n : Nat} {x y : Nat → Int} (hx : Rd g a n x) (hy : Rd g a n y) : Rd g a n (fun i => Max.max (x i) (y i)) :=
  ⟨fun i hi => by have h1 := hx.1 i hi; have h2 := hy.1 i hi; (try dsimp only); omega, fun i hi => by have h1 := hx.2 i hi; have h2 := hy.2 i hi; (try dsimp only); omega⟩
/-- the median as the program has it -/
def med (a b c : Int) : Int := Max.max (Min.min a b) (Min.min (Max.max a b) c)
theorem Rd.med {g a : Nat → Span} {n : Nat} {x y z : Nat → Int} (hx : Rd g a n x) (hy : Rd g a n y) (hz : Rd g a n z) : Rd g a n (fun i => C2.med (x i) (y i) (z i)) :=
  (hx.min hy).max ((hx.max hy).min hz)
theorem ediv_mid {p D lo hi : Int} (hD : 0 < D) (h1 : D * lo ≤ p) (h2 : p ≤ D * hi) : lo ≤ p / D ∧ p / D ≤ hi := by
  have e1 : D * lo / D = lo := Int.mul_ediv_cancel_left lo (by omega)
  have e2 : D * hi / D = hi := Int.mul_ediv_cancel_left hi (by omega)
  exact ⟨by rw [← e1]; exact Int.ediv_le_ediv hD h1, by rw [← e2]; exact Int.ediv_le_ediv hD h2⟩
theorem ediv_shift {p q D c : Int} (hD : 0 < D) (h : p ≤ q + D * c) : p / D ≤ q / D + c := by
  have := Int.ediv_le_ediv hD h
  rwa [Int.add_mul_ediv_left _ _ (by omega)] at this
theorem ediv_shift2 {p q D c : Int} (hD : 0 < D) (h : q + D * c ≤ p) : q / D + c ≤ p / D := by
  have := Int.ediv_le_ediv hD h
  rwa [Int.add_mul_ediv_left _ _ (by omega)] at this
theorem mul_le {s a b : Int} (hs : 0 ≤ s) (h : a ≤ b) : s * a ≤ s * b := Int.mul_le_mul_of_nonneg_left h hs
/-- between two readings lie others -/
theorem Rd.conv {g a : Nat → Span} {n : Nat} {x y : Nat → Int} (hx : Rd g a n x) (hy : Rd g a n y) {s t : Int} (hs : 0 ≤ s) (ht : 0 ≤ t) (hD : 0 < s + t) : Rd g a n (fun i => (s * x i + t * y i) / (s + t)) := by
  refine ⟨fun i hi => ?_, fun i hi => ?_⟩
  · have h1 := hx.1 i hi; have h2 := hy.1 i hi
    refine ediv_mid hD ?_ ?_
    · rw [Int.add_mul]; have := mul_le hs h1.1; have := mul_le ht h2.1; omega
    · rw [Int.add_mul]; have := mul_le hs h1.2; have := mul_le ht h2.2; omega
  · have h1 := hx.2 i hi; have h2 := hy.2 i hi
    have a1 := mul_le hs h1.1; have a2 := mul_le ht h2.1; have a3 := mul_le hs h1.2; have a4 := mul_le ht h2.2
    rw [Int.mul_sub] at a1 a2 a3 a4
    have b1 := ediv_shift2 (p := s * x (i + 1) + t * y (i + 1)) (q := s * x i + t * y i) (c := (g i).Lo) hD (by rw [Int.add_mul]; omega)
    have b2 := ediv_shift (p := s * x (i + 1) + t * y (i + 1)) (q := s * x i + t * y i) (c := (g i).Hi) hD (by rw [Int.add_mul]; omega)
    (try dsimp only)
    omega
/-! ### two columns -/
/-- the greatest difference of two columns: no reading passes it, one reaches it -/
theorem mos_up {g B : Nat → Span} {n f i : Nat} {x : Nat → Int} (hx : Rd g B n x) (hf : f ≤ n) (hi : i ≤ n) : x i - x f ≤ mos g B n f i := by
  refine hi_st (x := fun j => x j - x f) (fun j hj => ?_) (fun j hj => ?_) hi
  · have h1 := hx.1 j hj; have h2 := hx.1 f hf
    unfold mosA; (try dsimp only); split
    · subst_vars; omega
    · omega
  · have := hx.2 j hj; (try dsimp only); omega
theorem mos_rd {g a : Nat → Span} {n f i : Nat} (hg : GapOk g n) (ho : okP g a n) (hf : f ≤ n) (hi : i ≤ n) : ∃ x, Rd g a n x ∧ x i - x f = mos g (st g a n) n f i := by
  have hlo := lo_rd hg ho
  have hlb : Rd g (st g a n) n (fun j => (st g a n j).Lo) := ⟨fun j hj => by have := ho j (by omega); (try dsimp only); omega, hlo.2⟩
  have hhb : Rd g (st g a n) n (fun j => (st g a n j).Hi) := ⟨fun j hj => by have := ho j (by omega); (try dsimp only); omega, (hi_rd hg ho).2⟩
  have hu := fun j (hj : j ≤ n) => mos_up hlb hf hj
  have hyd : ∀ j, j < n → (g j).Lo ≤ mos g (st g a n) n f (j + 1) - mos g (st g a n) n f j ∧ mos g (st g a n) n f (j + 1) - mos g (st g a n) n f j ≤ (g j).Hi := fun j hj => by
    have := st_fix hg (mosA (st g a n) f) hj; unfold mos; omega
  have hyh : ∀ j, j ≤ n → mos g (st g a n) n f j + (st g a n f).Lo ≤ (st g a n j).Hi := fun j hj => by
    have h1 := (st_in g (mosA (st g a n) f) hj).2
    have h2 : (mosA (st g a n) f j).Hi ≤ (st g a n j).Hi - (st g a n f).Lo := by unfold mosA; (try dsimp only); split <;> omega
    unfold mos; omega
  have hz : mos g (st g a n) n f f = 0 := by
    have h1 := (st_in g (mosA (st g a n) f) hf).2
    have h2 : (mosA (st g a n) f f).Hi ≤ 0 := by unfold mosA; (try dsimp only); rw [if_pos rfl]; omega
    have h3 := hu f hf
    (try dsimp only at h3)
    unfold mos at h3 ⊢
    omega
  have hR : Rd g a n (fun j => Max.max (st g a n j).Lo ((st g a n f).Lo + mos g (st g a n) n f j)) := by
    refine ⟨fun j hj => ?_, fun j hj => ?_⟩
    · have h1 := st_in g a hj; have h2 := ho j (by omega); have h3 := hyh j hj; (try dsimp only); omega
    · have h1 := hlo.2 j hj; have h2 := hyd j hj; (try dsimp only at h1 ⊢); omega
  refine ⟨_, hR, ?_⟩
  have h1 := hu i hi
  (try dsimp only at h1 ⊢)
  rw [hz]
  omega

/-! ### two marks are enough -/
/-- readings of fewer marks are more -/
theorem fw_mono {g a b : Nat → Span} : ∀ {k : Nat}, (∀ i, i ≤ k → (b i).Lo ≤ (a i).Lo ∧ (a i).Hi ≤ (b i).Hi) → (fw g b k).Lo ≤ (fw g a k).Lo ∧ (fw g a k).Hi ≤ (fw g b k).Hi
  | 0, h => h 0 (Nat.le_refl _)
  | k + 1, h => by have h1 := fw_mono (g := g) (k := k) fun i hi => h i (by omega); have h2 := h (k + 1) (Nat.le_refl _); rw [fw_lo, fw_lo, fw_hi, fw_hi]; omega
theorem st_mono {g a b : Nat → Span} {n : Nat} (h : ∀ i, i ≤ n → (b i).Lo ≤ (a i).Lo ∧ (a i).Hi ≤ (b i).Hi) {i : Nat} (hi : i ≤ n) : (st g b n i).Lo ≤ (st g a n i).Lo ∧ (st g a n i).Hi ≤ (st g b n i).Hi := by
  have key : ∀ j i, i + j = n → (st g b n i).Lo ≤ (st g a n i).Lo ∧ (st g a n i).Hi ≤ (st g b n i).Hi := by
    intro j
    induction j with
    | zero => intro i h'; obtain rfl : i = n := by omega
              rw [st_last, st_last]; exact fw_mono h
    | succ j ih =>
      intro i h'
      have h1 := ih (i + 1) (by omega); have h2 := fw_mono (g := g) (k := i) fun q hq => h q (by omega)
      rw [st_lo g a (by omega), st_lo g b (by omega), st_hi g a (by omega), st_hi g b (by omega)]; omega
  exact key (n - i) i (by omega)
theorem at_mono {p m : List Mark} (h : ∀ x, x ∈ p → x ∈ m) (c : Nat) : (atS p c).Lo ≤ (atS m c).Lo ∧ (atS m c).Hi ≤ (atS p c).Hi := by
  have key : ∀ k, k ≤ p.length → (atN p k c).Lo ≤ (atS m c).Lo ∧ (atS m c).Hi ≤ (atN p k c).Hi := by
    intro k
    induction k with
    | zero =>
      intro _
      have h0 : ∀ k, (0 : Int) ≤ (atN m k c).Lo ∧ (atN m k c).Hi ≤ 400 := by
        intro k
        induction k with
        | zero => exact ⟨Int.le_refl _, Int.le_refl _⟩
        | succ k ih => rw [atN]; split; rw [meet_lo, meet_hi]; omega; exact ih
      exact h0 _
    | succ k ih =>
      intro hk
      have h1 := ih (by omega)
      rw [atN]; split
      · rename_i hc
        rw [meet_lo, meet_hi]
        obtain ⟨j, hj, he⟩ := mem_gt (h _ (gt_mem (A := p) (i := k) (by omega)))
        have h2 : ∀ q, j < q → ((gt m j).Ticks.Lo ≤ (atN m q c).Lo ∧ (atN m q c).Hi ≤ (gt m j).Ticks.Hi) := by
          intro q
          induction q with
          | zero => intro hq; omega
          | succ q ihq =>
            intro hq
            rcases Nat.lt_succ_iff_lt_or_eq.1 hq with hq2 | hq2
            · have h3 := ihq hq2
              rw [atN]; split
              · rw [meet_lo, meet_hi]; omega
              · exact h3
            · subst hq2
              rw [atN, if_pos (by rw [he]; exact hc), meet_lo, meet_hi]; omega
        have h3 := h2 m.length hj
        rw [he] at h3
        unfold atS at h1 ⊢
        omega
      · exact h1
  exact key _ (Nat.le_refl _)
theorem okD_mono {d : Drum} {p m : List Mark} (h : ∀ x, x ∈ p → x ∈ m) (ho : okD d m) : okD d p := fun i hi => by
  have h1 := ho i hi
  have h2 := st_mono (g := gapS d) (a := atS m) (b := atS p) (n := d.Rates.length) (fun q _ => at_mono h q) (i := i) (by omega)
  omega
/-- where a least tick comes from -/
theorem at_src (m : List Mark) (c : Nat) : ∀ n, n ≤ m.length → (∃ p : List Mark, p.length ≤ 1 ∧ (∀ x, x ∈ p → x ∈ m) ∧ (atN m n c).Lo ≤ (atS p c).Lo) ∧ ∃ p : List Mark, p.length ≤ 1 ∧ (∀ x, x ∈ p → x ∈ m) ∧ (atS p c).Hi ≤ (atN m n c).Hi
  | 0, _ => ⟨⟨[], by simp, by simp, Int.le_refl _⟩, [], by simp, by simp, Int.le_refl _⟩
  | n + 1, hn => by
    obtain ⟨⟨p, hp1, hp2, hp3⟩, q, hq1, hq2, hq3⟩ := at_src m c n (by omega)
    have hin : gt m n ∈ m := gt_mem (by omega)
    rw [atN]; split
    · rename_i hc
      have hs : atS [gt m n] c = meet ⟨0, 400⟩ (gt m n).Ticks := by
        have h0 : gt [gt m n] 0 = gt m n := gt_zero _ _
        show atN [gt m n] 1 c = _
        rw [atN, h0, if_pos hc]; rfl
      have hone : ∀ x, x ∈ [gt m n] → x ∈ m := fun x hx => by rw [List.mem_singleton.1 hx]; exact hin
      have hl1 : (atS [gt m n] c).Lo = Max.max 0 (gt m n).Ticks.Lo := by rw [hs]; rfl
      have hh1 : (atS [gt m n] c).Hi = Min.min 400 (gt m n).Ticks.Hi := by rw [hs]; rfl
      refine ⟨?_, ?_⟩
      · rcases Int.le_total (atN m n c).Lo (gt m n).Ticks.Lo with h1 | h1
        · exact ⟨_, by simp, hone, by rw [meet_lo]; omega⟩
        · exact ⟨p, hp1, hp2, by rw [meet_lo]; omega⟩
      · rcases Int.le_total (atN m n c).Hi (gt m n).Ticks.Hi with h1 | h1
        · exact ⟨q, hq1, hq2, by rw [meet_hi]; omega⟩
        · exact ⟨_, by simp, hone, by rw [meet_hi]; omega⟩
    · exact ⟨⟨p, hp1, hp2, hp3⟩, q, hq1, hq2, hq3⟩
theorem fw_src (g : Nat → Span) (m : List Mark) : ∀ k, (∃ p : List Mark, p.length ≤ 1 ∧ (∀ x, x ∈ p → x ∈ m) ∧ (fw g (atS m) k).Lo ≤ (fw g (atS p) k).Lo) ∧ ∃ p : List Mark, p.length ≤ 1 ∧ (∀ x, x ∈ p → x ∈ m) ∧ (fw g (atS p) k).Hi ≤ (fw g (atS m) k).Hi
  | 0 => at_src m 0 _ (Nat.le_refl _)
  | k + 1 => by
    obtain ⟨⟨p, hp1, hp2, hp3⟩, q, hq1, hq2, hq3⟩ := fw_src g m k
    obtain ⟨⟨r, hr1, hr2, hr3⟩, s, hs1, hs2, hs3⟩ := at_src m (k + 1) _ (Nat.le_refl _)
    have hr3' : (atS m (k + 1)).Lo ≤ (atS r (k + 1)).Lo := hr3
    have hs3' : (atS s (k + 1)).Hi ≤ (atS m (k + 1)).Hi := hs3
    refine ⟨?_, ?_⟩
    · rcases Int.le_total (atS m (k + 1)).Lo ((fw g (atS m) k).Lo + (g k).Lo) with h1 | h1
      · exact ⟨p, hp1, hp2, by rw [fw_lo, fw_lo]; omega⟩
      · exact ⟨r, hr1, hr2, by rw [fw_lo, fw_lo]; omega⟩
    · rcases Int.le_total (atS m (k + 1)).Hi ((fw g (atS m) k).Hi + (g k).Hi) with h1 | h1
      · exact ⟨s, hs1, hs2, by rw [fw_hi, fw_hi]; omega⟩
      · exact ⟨q, hq1, hq2, by rw [fw_hi, fw_hi]; omega⟩
theorem st_src (g : Nat → Span) (m : List Mark) (n : Nat) {i : Nat} (hi : i ≤ n) : (∃ p : List Mark, p.length ≤ 1 ∧ (∀ x, x ∈ p → x ∈ m) ∧ (st g (atS m) n i).Lo ≤ (st g (atS p) n i).Lo) ∧ ∃ p : List Mark, p.length ≤ 1 ∧ (∀ x, x ∈ p → x ∈ m) ∧ (st g (atS p) n i).Hi ≤ (st g (atS m) n i).Hi := by
  have key : ∀ j i, i + j = n → (∃ p : List Mark, p.length ≤ 1 ∧ (∀ x, x ∈ p → x ∈ m) ∧ (st g (atS m) n i).Lo ≤ (st g (atS p) n i).Lo) ∧ ∃ p : List Mark, p.length ≤ 1 ∧ (∀ x, x ∈ p → x ∈ m) ∧ (st g (atS p) n i).Hi ≤ (st g (atS m) n i).Hi := by
    intro j
    induction j with
    | zero =>
      intro i h'; obtain rfl : i = n := by omega
      simp only [st_last]; exact fw_src g m i
    | succ j ih =>
      intro i h'
      obtain ⟨⟨p, hp1, hp2, hp3⟩, q, hq1, hq2, hq3⟩ := ih (i + 1) (by omega)
      obtain ⟨⟨r, hr1, hr2, hr3⟩, s, hs1, hs2, hs3⟩ := fw_src g m i
      refine ⟨?_, ?_⟩
      · rcases Int.le_total (fw g (atS m) i).Lo ((st g (atS m) n (i + 1)).Lo - (g i).Hi) with h1 | h1
        · exact ⟨p, hp1, hp2, by rw [st_lo g (atS m) (i := i) (by omega), st_lo g (atS p) (i := i) (by omega)]; omega⟩
        · exact ⟨r, hr1, hr2, by rw [st_lo g (atS m) (i := i) (by omega), st_lo g (atS r) (i := i) (by omega)]; omega⟩
      · rcases Int.le_total (fw g (atS m) i).Hi ((st g (atS m) n (i + 1)).Hi - (g i).Lo) with h1 | h1
        · exact ⟨s, hs1, hs2, by rw [st_hi g (atS m) (i := i) (by omega), st_hi g (atS s) (i := i) (by omega)]; omega⟩
        · exact ⟨q, hq1, hq2, by rw [st_hi g (atS m) (i := i) (by omega), st_hi g (atS q) (i := i) (by omega)]; omega⟩
  exact key (n - i) i (by omega)
theorem okD_congr {d : Drum} {p m : List Mark} (h1 : ∀ x, x ∈ p → x ∈ m) (h2 : ∀ x, x ∈ m → x ∈ p) : okD d p ↔ okD d m := ⟨okD_mono h2, okD_mono h1⟩
/-- marks that contradict: two of them do -/
theorem two_bad {d : Drum} {m : List Mark} (h : ¬ okD d m) : ¬ okD d [] ∨ ∃ x y, x ∈ m ∧ y ∈ m ∧ ¬ okD d [x, y] := by
  have hex : ∃ i, i ≤ d.Rates.length ∧ (stD d m i).Hi < (stD d m i).Lo := by
    apply Classical.byContradiction
    intro hn
    exact h fun i hi => by
      have : ¬ (stD d m i).Hi < (stD d m i).Lo := fun hl => hn ⟨i, by omega, hl⟩
      unfold stD at this; omega
  obtain ⟨i, hi, hlt⟩ := hex
  obtain ⟨⟨p, hp1, hp2, hp3⟩, q, hq1, hq2, hq3⟩ := st_src (gapS d) m d.Rates.length hi
  have hbad : ¬ okD d (p ++ q) := fun ho => by
    have h1 := ho i (by omega)
    have h2 := st_mono (g := gapS d) (a := atS (p ++ q)) (b := atS p) (n := d.Rates.length) (fun c _ => at_mono (fun x hx => List.mem_append_left _ hx) c) hi
    have h3 := st_mono (g := gapS d) (a := atS (p ++ q)) (b := atS q) (n := d.Rates.length) (fun c _ => at_mono (fun x hx => List.mem_append_right _ hx) c) hi
    unfold stD at hlt; omega
  match p, q, hp1, hq1, hp2, hq2 with
  | [], [], _, _, _, _ => exact .inl hbad
  | [], [y], _, _, _, hq2 => exact .inr ⟨y, y, hq2 y (by simp), hq2 y (by simp), fun ho => hbad (okD_mono (by simp) ho)⟩
  | [x], [], _, _, hp2, _ => exact .inr ⟨x, x, hp2 x (by simp), hp2 x (by simp), fun ho => hbad (okD_mono (by simp) ho)⟩
  | [x], [y], _, _, hp2, hq2 => exact .inr ⟨x, y, hp2 x (by simp), hq2 y (by simp), hbad⟩
end Go.Proofs.C2
