import Derived.Test.YtednficclnjmjaaC8Sort
/- Century: what two series tell together, in plain Lean. -/
namespace Go.Proofs.C8
open Go Go.Kx

/-! ### lists one behind the other -/
def catN (Ls : List (List Val)) : Nat → List Val
  | 0 => []
  | k + 1 => catN Ls k ++ gt Ls k
def lenN (Ls : List (List Val)) (k : Nat) : Nat := (catN Ls k).length
theorem lenN_succ (Ls : List (List Val)) (k : Nat) : lenN Ls (k + 1) = lenN Ls k + (gt Ls k).length := by unfold lenN; rw [catN, List.length_append]
theorem lenN_le {Ls : List (List Val)} (h : ∀ i, i < Ls.length → (gt Ls i).length ≤ 200) : ∀ k, k ≤ Ls.length → lenN Ls k ≤ 200 * k
  | 0, _ => Nat.zero_le _
  | k + 1, hk => by have h1 := lenN_le h k (by omega); have h2 := h k (by omega); rw [lenN_succ]; omega
theorem catN_two (A B : List Val) : catN [A, B] 2 = A ++ B := by show ([] ++ A) ++ B = A ++ B; rw [List.nil_append]
/-! ### values of one time become one -/
abbrev Up (L : List Val) : Prop := L.Pairwise (fun a b => a.Time < b.Time)
def lastV (L : List Val) : Val := gt L (L.length - 1)
def meetV (a b : Val) : Val := ⟨a.Time, meetS a.Levels b.Levels⟩
def jn (R : List Val) : Nat → List Val
  | 0 => []
  | k + 1 => if (jn R k).length = 0 ∨ (lastV (jn R k)).Time ≠ (gt R k).Time then jn R k ++ [gt R k] else (jn R k).set ((jn R k).length - 1) (meetV (lastV (jn R k)) (gt R k))
def jBad (R : List Val) (k : Nat) : Prop := ¬ ((jn R k).length = 0 ∨ (lastV (jn R k)).Time ≠ (gt R k).Time) ∧ (meetS (lastV (jn R k)).Levels (gt R k).Levels).Hi < (meetS (lastV (jn R k)).Levels (gt R k).Levels).Lo
theorem jn_len (R : List Val) : ∀ k, (jn R k).length ≤ k
  | 0 => Nat.le_refl _
  | k + 1 => by
    have := jn_len R k
    rw [jn]
    split
    · simp; omega
    · rw [List.length_set]; omega
theorem jn_new {R : List Val} {k : Nat} (h : (jn R k).length = 0 ∨ (lastV (jn R k)).Time ≠ (gt R k).Time) : jn R (k + 1) = jn R k ++ [gt R k] := by rw [jn, if_pos h]
theorem jn_old {R : List Val} {k : Nat} (h : ¬ ((jn R k).length = 0 ∨ (lastV (jn R k)).Time ≠ (gt R k).Time)) : jn R (k + 1) = (jn R k).set ((jn R k).length - 1) (meetV (lastV (jn R k)) (gt R k)) := by rw [jn, if_neg h]
/-- the value of a time that all values of a list tell together -/
structure isMeet (X : List Val) (v : Val) : Prop where
  all : ∀ x ∈ X, x.Time = v.Time → x.Levels.Lo ≤ v.Levels.Lo ∧ v.Levels.Hi ≤ x.Levels.Hi
  lo : ∃ x ∈ X, x.Time = v.Time ∧ x.Levels.Lo = v.Levels.Lo
  hi : ∃ x ∈ X, x.Time = v.Time ∧ x.Levels.Hi = v.Levels.Hi
theorem isMeet.perm {X Y : List Val} (h : X.Perm Y) {v : Val} (hm : isMeet X v) : isMeet Y v := by
  obtain ⟨h1, ⟨x, h2, h3⟩, ⟨y, h4, h5⟩⟩ := hm
  exact ⟨fun z hz => h1 z (h.mem_iff.2 hz), ⟨x, h.mem_iff.1 h2, h3⟩, ⟨y, h.mem_iff.1 h4, h5⟩⟩
theorem val_ext {a b : Val} (h1 : a.Time = b.Time) (h2 : a.Levels.Lo = b.Levels.Lo) (h3 : a.Levels.Hi = b.Levels.Hi) : a = b := by
  obtain ⟨ta, la, ha⟩ := a
  obtain ⟨tb, lb, hb⟩ := b
  dsimp only at h1 h2 h3
  subst h1; subst h2; subst h3; rfl
theorem isMeet.uniq {X : List Val} {v w : Val} (h : isMeet X v) (h' : isMeet X w) (ht : v.Time = w.Time) : v = w := by
  obtain ⟨x, hx, hx1, hx2⟩ := h.lo
  obtain ⟨y, hy, hy1, hy2⟩ := h.hi
  obtain ⟨x', hx', hx1', hx2'⟩ := h'.lo
  obtain ⟨y', hy', hy1', hy2'⟩ := h'.hi
  have a1 := h'.all x hx (by omega)
  have a2 := h'.all y hy (by omega)
  have a3 := h.all x' hx' (by omega)
  have a4 := h.all y' hy' (by omega)
  exact val_ext ht (by omega) (by omega)
/-- strictly sorted lists with the same values are equal -/
theorem up_ext : ∀ {A B : List Val}, Up A → Up B → (∀ v, v ∈ A ↔ v ∈ B) → A = B
  | [], [], _, _, _ => rfl
  | [], b :: B, _, _, h => absurd ((h b).2 (by simp)) (by simp)
  | a :: A, [], _, _, h => absurd ((h a).1 (by simp)) (by simp)
  | a :: A, b :: B, ha, hb, h => by
    rw [Up, List.pairwise_cons] at ha hb
    have hab : a = b := by
      rcases List.mem_cons.1 ((h a).1 (by simp)) with h1 | h1
      · exact h1
      · rcases List.mem_cons.1 ((h b).2 (by simp)) with h2 | h2
        · exact h2.symm
        · have := hb.1 a h1; have := ha.1 b h2; omega
    subst hab
    rw [up_ext ha.2 hb.2 fun v => ?_]
    constructor
    · intro hv
      rcases List.mem_cons.1 ((h v).1 (List.mem_cons_of_mem _ hv)) with h1 | h1
      · have := ha.1 v hv; rw [h1] at this; omega
      · exact h1
    · intro hv
      rcases List.mem_cons.1 ((h v).2 (List.mem_cons_of_mem _ hv)) with h1 | h1
      · have := hb.1 v hv; rw [h1] at this; omega
      · exact h1
theorem lastV_mem {L : List Val} (h : L.length ≠ 0) : lastV L ∈ L := mem_gt0 (by omega)
theorem lastV_snoc (L : List Val) (x : Val) : lastV (L ++ [x]) = x := by
  unfold lastV; rw [gt_app, if_neg (by simp)]; simp [gt]
theorem meet_lo (a b : Span) : (meetS a b).Lo = max a.Lo b.Lo := rfl
theorem meet_hi (a b : Span) : (meetS a b).Hi = min a.Hi b.Hi := rfl
theorem split_last {L : List Val} (h : L.length ≠ 0) : L = L.take (L.length - 1) ++ [lastV L] := by
  have := take_snoc (L := L) (k := L.length - 1) (by omega)
  rw [show L.length - 1 + 1 = L.length by omega, List.take_length] at this
  exact this
/-- what holds of the values so far -/
structure JnI (R : List Val) (k : Nat) : Prop where
  up : Up (jn R k)
  mem : ∀ v, v ∈ jn R k ↔ isMeet (R.take k) v
  last : ∀ x ∈ R.take k, (jn R k).length ≠ 0 ∧ x.Time ≤ (lastV (jn R k)).Time
theorem jn_inv {R : List Val} (hs : Srt R 0 R.length) : ∀ k, k ≤ R.length → JnI R k
  | 0, _ => ⟨.nil, fun v => by
      constructor
      · intro h; cases h
      · intro h; obtain ⟨x, hx, _⟩ := h.lo; simp at hx, fun x hx => by simp at hx⟩
  | k + 1, hk => by
    obtain ⟨h1, h2, h3⟩ := jn_inv hs k (by omega)
    have htk : R.take (k + 1) = R.take k ++ [gt R k] := take_snoc (by omega)
    obtain ⟨r, hr⟩ : ∃ r, r = gt R k := ⟨_, rfl⟩
    have hle : ∀ x ∈ R.take k, x.Time ≤ r.Time := fun x hx => by
      obtain ⟨i, hi, rfl⟩ := gt_mem0 hx
      rw [List.length_take] at hi
      rw [gt_take (by omega), hr]
      exact hs.le (Nat.zero_le _) (by omega) (by omega)
    by_cases hc : (jn R k).length = 0 ∨ (lastV (jn R k)).Time ≠ (gt R k).Time
    · rw [← hr] at htk
      have hnew : ∀ x ∈ R.take k, x.Time < r.Time := fun x hx => by
        obtain ⟨a1, a2⟩ := h3 x hx
        have a3 : lastV (jn R k) ∈ jn R k := lastV_mem a1
        obtain ⟨y, hy, hy1, _⟩ := ((h2 _).1 a3).lo
        have a4 := hle y hy
        rcases hc with hc | hc
        · exact absurd hc a1
        · rw [← hr] at hc; omega
      have hjt : ∀ v ∈ jn R k, v.Time < r.Time := fun v hv => by
        obtain ⟨y, hy, hy1, _⟩ := ((h2 v).1 hv).lo
        have := hnew y hy; omega
      have e : jn R (k + 1) = jn R k ++ [r] := by rw [jn_new hc, hr]
      refine ⟨?_, fun v => ?_, fun x hx => ?_⟩
      · rw [e]
        exact List.pairwise_append.2 ⟨h1, List.pairwise_singleton _ _, fun a ha b hb => by rw [List.mem_singleton.1 hb]; exact hjt a ha⟩
      · rw [e, htk]
        constructor
        · intro hv
          rcases List.mem_append.1 hv with hv | hv
          · have hm := (h2 v).1 hv
            have hvt := hjt v hv
            obtain ⟨x, hx, hx1⟩ := hm.lo
            obtain ⟨y, hy, hy1⟩ := hm.hi
            refine ⟨fun z hz hzt => ?_, ⟨x, List.mem_append_left _ hx, hx1⟩, ⟨y, List.mem_append_left _ hy, hy1⟩⟩
            rcases List.mem_append.1 hz with hz | hz
            · exact hm.all z hz hzt
            · rw [List.mem_singleton.1 hz] at hzt; omega
          · rw [List.mem_singleton.1 hv]
            refine ⟨fun z hz hzt => ?_, ⟨r, by simp, rfl, rfl⟩, ⟨r, by simp, rfl, rfl⟩⟩
            rcases List.mem_append.1 hz with hz | hz
            · have := hnew z hz; omega
            · rw [List.mem_singleton.1 hz]; exact ⟨Int.le_refl _, Int.le_refl _⟩
        · intro hm
          obtain ⟨x, hx, hx1, hx2⟩ := hm.lo
          obtain ⟨y, hy, hy1, hy2⟩ := hm.hi
          by_cases hvt : v.Time = r.Time
          · have ex : x = r := by
              rcases List.mem_append.1 hx with h | h
              · have := hnew x h; omega
              · exact List.mem_singleton.1 h
            have ey : y = r := by
              rcases List.mem_append.1 hy with h | h
              · have := hnew y h; omega
              · exact List.mem_singleton.1 h
            subst ex; subst ey
            exact List.mem_append_right _ (List.mem_singleton.2 (val_ext hvt (by omega) (by omega)))
          · refine List.mem_append_left _ ((h2 v).2 ⟨fun z hz hzt => hm.all z (List.mem_append_left _ hz) hzt, ⟨x, ?_, hx1, hx2⟩, ⟨y, ?_, hy1, hy2⟩⟩)
            · rcases List.mem_append.1 hx with h | h
              · exact h
              · rw [List.mem_singleton.1 h] at hx1; omega
            · rcases List.mem_append.1 hy with h | h
              · exact h
              · rw [List.mem_singleton.1 h] at hy1; omega
      · rw [e, lastV_snoc]
        refine ⟨by simp, ?_⟩
        rw [htk] at hx
        rcases List.mem_append.1 hx with h | h
        · exact hle x h
        · rw [List.mem_singleton.1 h]; exact Int.le_refl _
    · have e0 := jn_old hc
      rw [← hr] at e0 htk
      have hn0 : (jn R k).length ≠ 0 := fun h => hc (.inl h)
      have hlt : (lastV (jn R k)).Time = r.Time := by
        apply Classical.byContradiction
        intro hn; exact hc (.inr (by rw [← hr]; exact hn))
      obtain ⟨J, hJ⟩ : ∃ J, J = (jn R k).take ((jn R k).length - 1) := ⟨_, rfl⟩
      obtain ⟨l, hl⟩ : ∃ l, l = lastV (jn R k) := ⟨_, rfl⟩
      have hsp : jn R k = J ++ [l] := by rw [hJ, hl]; exact split_last hn0
      have hJl : J.length = (jn R k).length - 1 := by rw [hJ, List.length_take]; omega
      have e : jn R (k + 1) = J ++ [meetV l r] := by
        rw [e0, ← hJl, hsp, lastV_snoc, List.set_append_right _ _ (Nat.le_refl _), Nat.sub_self]
        rfl
      rw [← hl] at hlt
      rw [hsp] at h1
      obtain ⟨p1, _, p3⟩ := List.pairwise_append.1 h1
      have hJt : ∀ v ∈ J, v.Time < r.Time := fun v hv => by have := p3 v hv l (by simp); omega
      have hlm := (h2 l).1 (by rw [hsp]; simp)
      have hmt : (meetV l r).Time = r.Time := hlt
      refine ⟨?_, fun v => ?_, fun x hx => ?_⟩
      · rw [e]
        exact List.pairwise_append.2 ⟨p1, List.pairwise_singleton _ _, fun a ha b hb => by rw [List.mem_singleton.1 hb, hmt]; exact hJt a ha⟩
      · rw [e, htk]
        obtain ⟨x0, hx0, hx1, hx2⟩ := hlm.lo
        obtain ⟨y0, hy0, hy1, hy2⟩ := hlm.hi
        have hmr : isMeet (R.take k ++ [r]) (meetV l r) := by
          refine ⟨fun z hz hzt => ?_, ?_, ?_⟩
          · show z.Levels.Lo ≤ max l.Levels.Lo r.Levels.Lo ∧ min l.Levels.Hi r.Levels.Hi ≤ z.Levels.Hi
            rcases List.mem_append.1 hz with h | h
            · have := hlm.all z h (by rw [hzt]; rfl); omega
            · rw [List.mem_singleton.1 h]; omega
          · by_cases hc2 : r.Levels.Lo ≤ l.Levels.Lo
            · exact ⟨x0, List.mem_append_left _ hx0, hx1, by show _ = max l.Levels.Lo r.Levels.Lo; omega⟩
            · exact ⟨r, by simp, by rw [hmt], by show _ = max l.Levels.Lo r.Levels.Lo; omega⟩
          · by_cases hc2 : l.Levels.Hi ≤ r.Levels.Hi
            · exact ⟨y0, List.mem_append_left _ hy0, hy1, by show _ = min l.Levels.Hi r.Levels.Hi; omega⟩
            · exact ⟨r, by simp, by rw [hmt], by show _ = min l.Levels.Hi r.Levels.Hi; omega⟩
        constructor
        · intro hv
          rcases List.mem_append.1 hv with hv | hv
          · have hm := (h2 v).1 (by rw [hsp]; exact List.mem_append_left _ hv)
            have hvt := hJt v hv
            obtain ⟨x, hx, hxx⟩ := hm.lo
            obtain ⟨y, hy, hyy⟩ := hm.hi
            refine ⟨fun z hz hzt => ?_, ⟨x, List.mem_append_left _ hx, hxx⟩, ⟨y, List.mem_append_left _ hy, hyy⟩⟩
            rcases List.mem_append.1 hz with hz | hz
            · exact hm.all z hz hzt
            · rw [List.mem_singleton.1 hz] at hzt; omega
          · rw [List.mem_singleton.1 hv]; exact hmr
        · intro hm
          by_cases hvt : v.Time = r.Time
          · exact List.mem_append_right _ (List.mem_singleton.2 (hm.uniq hmr (by rw [hvt, hmt])))
          · obtain ⟨x, hx, hxx1, hxx2⟩ := hm.lo
            obtain ⟨y, hy, hyy1, hyy2⟩ := hm.hi
            have hin : v ∈ jn R k := (h2 v).2 ⟨fun z hz hzt => hm.all z (List.mem_append_left _ hz) hzt, ⟨x, by
              rcases List.mem_append.1 hx with h | h
              · exact h
              · rw [List.mem_singleton.1 h] at hxx1; omega, hxx1, hxx2⟩, ⟨y, by
              rcases List.mem_append.1 hy with h | h
              · exact h
              · rw [List.mem_singleton.1 h] at hyy1; omega, hyy1, hyy2⟩⟩
            rw [hsp] at hin
            rcases List.mem_append.1 hin with h | h
            · exact List.mem_append_left _ h
            · rw [List.mem_singleton.1 h] at hvt; omega
      · rw [e, lastV_snoc]
        refine ⟨by simp, ?_⟩
        rw [hmt]
        rw [htk] at hx
        rcases List.mem_append.1 hx with h | h
        · exact hle x h
        · rw [List.mem_singleton.1 h]; exact Int.le_refl _
/-! ### two sorted lists become one -/
def mrg : List Val → List Val → List Val
  | [], B => B
  | a :: A, [] => a :: A
  | a :: A, b :: B => if a.Time < b.Time then a :: mrg A (b :: B) else if b.Time < a.Time then b :: mrg (a :: A) B else meetV a b :: mrg A B
termination_by A B => A.length + B.length
theorem mrg_lb {t : Int} : ∀ (A B : List Val), (∀ v ∈ A, t < v.Time) → (∀ v ∈ B, t < v.Time) → ∀ v ∈ mrg A B, t < v.Time
  | [], B, _, hB => by rw [mrg]; exact hB
  | a :: A, [], hA, _ => by rw [mrg]; exact hA
  | a :: A, b :: B, hA, hB => by
    have ha := hA a (by simp)
    have hb := hB b (by simp)
    have hA' : ∀ v ∈ A, t < v.Time := fun v hv => hA v (by simp [hv])
    have hB' : ∀ v ∈ B, t < v.Time := fun v hv => hB v (by simp [hv])
    rw [mrg]
    split
    · intro v hv
      rcases List.mem_cons.1 hv with rfl | h
      · exact ha
      · exact mrg_lb A (b :: B) hA' hB v h
    · split
      · intro v hv
        rcases List.mem_cons.1 hv with rfl | h
        · exact hb
        · exact mrg_lb (a :: A) B hA hB' v h
      · intro v hv
        rcases List.mem_cons.1 hv with rfl | h
        · exact ha
        · exact mrg_lb A B hA' hB' v h
termination_by A B => A.length + B.length
theorem isMeet_far {X Y : List Val} {v : Val} (h : ∀ x ∈ Y, x.Time ≠ v.Time) : isMeet (Y ++ X) v ↔ isMeet X v := by
  constructor
  · rintro ⟨h1, ⟨x, hx, hx1⟩, ⟨y, hy, hy1⟩⟩
    refine ⟨fun z hz => h1 z (List.mem_append_right _ hz), ⟨x, ?_, hx1⟩, ⟨y, ?_, hy1⟩⟩
    · rcases List.mem_append.1 hx with h2 | h2
      · exact absurd hx1.1 (h x h2)
      · exact h2
    · rcases List.mem_append.1 hy with h2 | h2
      · exact absurd hy1.1 (h y h2)
      · exact h2
  · rintro ⟨h1, ⟨x, hx, hx1⟩, ⟨y, hy, hy1⟩⟩
    refine ⟨fun z hz hzt => ?_, ⟨x, List.mem_append_right _ hx, hx1⟩, ⟨y, List.mem_append_right _ hy, hy1⟩⟩
    rcases List.mem_append.1 hz with h2 | h2
    · exact absurd hzt (h z h2)
    · exact h1 z h2 hzt
theorem isMeet_self {A : List Val} (hA : Up A) (v : Val) : isMeet A v ↔ v ∈ A := by
  have huniq : ∀ x ∈ A, ∀ y ∈ A, x.Time = y.Time → x = y := fun x hx y hy ht => by
    obtain ⟨i, hi, rfl⟩ := gt_mem0 hx
    obtain ⟨j, hj, rfl⟩ := gt_mem0 hy
    have hp := pair_gt.1 hA
    rcases Nat.lt_trichotomy i j with h | h | h
    · have := hp i j h hj; omega
    · rw [h]
    · have := hp j i h hi; omega
  constructor
  · rintro ⟨_, ⟨x, hx, hx1, hx2⟩, ⟨y, hy, hy1, hy2⟩⟩
    have := huniq x hx y hy (by omega)
    subst this
    rw [val_ext (a := v) (b := x) (by omega) (by omega) (by omega)]; exact hx
  · intro hv
    refine ⟨fun x hx ht => ?_, ⟨v, hv, rfl, rfl⟩, ⟨v, hv, rfl, rfl⟩⟩
    rw [huniq x hx v hv ht]; omega
/-- the merged list is sorted, and has what both tell together -/
theorem mrg_spec : ∀ (A B : List Val), Up A → Up B → Up (mrg A B) ∧ ∀ v, v ∈ mrg A B ↔ isMeet (A ++ B) v
  | [], B, _, hB => by rw [mrg]; exact ⟨hB, fun v => (isMeet_self hB v).symm⟩
  | a :: A, [], hA, _ => by rw [mrg, List.append_nil]; exact ⟨hA, fun v => (isMeet_self hA v).symm⟩
  | a :: A, b :: B, hA, hB => by
    have hA0 := hA
    have hB0 := hB
    rw [Up, List.pairwise_cons] at hA hB
    rw [mrg]
    by_cases c1 : a.Time < b.Time
    · rw [if_pos c1]
      obtain ⟨i1, i2⟩ := mrg_spec A (b :: B) hA.2 hB0
      have hlb : ∀ v ∈ A ++ b :: B, a.Time < v.Time := fun v hv => by
        rcases List.mem_append.1 hv with h | h
        · exact hA.1 v h
        · rcases List.mem_cons.1 h with rfl | h
          · exact c1
          · have := hB.1 v h; omega
      have hl2 := mrg_lb (t := a.Time) A (b :: B) hA.1 (fun v hv => hlb v (List.mem_append_right _ hv))
      refine ⟨List.pairwise_cons.2 ⟨hl2, i1⟩, fun v => ?_⟩
      rw [List.mem_cons, i2 v]
      show _ ↔ isMeet ([a] ++ (A ++ b :: B)) v
      by_cases hv : v.Time = a.Time
      · constructor
        · rintro (rfl | h)
          · refine ⟨fun x hx ht => ?_, ⟨v, by simp, rfl, rfl⟩, ⟨v, by simp, rfl, rfl⟩⟩
            rcases List.mem_append.1 hx with h | h
            · rw [List.mem_singleton.1 h]; omega
            · have := hlb x h; omega
          · obtain ⟨x, hx, hx1, _⟩ := h.lo
            have := hlb x hx; omega
        · intro h
          left
          obtain ⟨x, hx, hx1, hx2⟩ := h.lo
          obtain ⟨y, hy, hy1, hy2⟩ := h.hi
          have ex : x = a := by
            rcases List.mem_append.1 hx with h | h
            · exact List.mem_singleton.1 h
            · have := hlb x h; omega
          have ey : y = a := by
            rcases List.mem_append.1 hy with h | h
            · exact List.mem_singleton.1 h
            · have := hlb y h; omega
          subst ex; subst ey
          exact val_ext hv (by omega) (by omega)
      · rw [isMeet_far (Y := [a]) (fun x hx => by rw [List.mem_singleton.1 hx]; exact fun h => hv h.symm)]
        exact ⟨fun h => h.elim (fun h => absurd (by rw [h]) hv) id, .inr⟩
    · by_cases c2 : b.Time < a.Time
      · rw [if_neg c1, if_pos c2]
        obtain ⟨i1, i2⟩ := mrg_spec (a :: A) B hA0 hB.2
        have hlb : ∀ v ∈ (a :: A) ++ B, b.Time < v.Time := fun v hv => by
          rcases List.mem_append.1 hv with h | h
          · rcases List.mem_cons.1 h with rfl | h
            · exact c2
            · have := hA.1 v h; omega
          · exact hB.1 v h
        have hl2 := mrg_lb (t := b.Time) (a :: A) B (fun v hv => hlb v (List.mem_append_left _ hv)) hB.1
        have hperm : ([b] ++ ((a :: A) ++ B)).Perm ((a :: A) ++ b :: B) := by
          show (b :: ((a :: A) ++ B)).Perm _
          exact (List.perm_middle (l₁ := a :: A) (l₂ := B) (a := b)).symm
        refine ⟨List.pairwise_cons.2 ⟨hl2, i1⟩, fun v => ?_⟩
        rw [List.mem_cons, i2 v]
        have hpi : isMeet ((a :: A) ++ b :: B) v ↔ isMeet ([b] ++ ((a :: A) ++ B)) v := ⟨fun h => h.perm hperm.symm, fun h => h.perm hperm⟩
        rw [hpi]
        by_cases hv : v.Time = b.Time
        · constructor
          · rintro (rfl | h)
            · refine ⟨fun x hx ht => ?_, ⟨v, by simp, rfl, rfl⟩, ⟨v, by simp, rfl, rfl⟩⟩
              rcases List.mem_append.1 hx with h | h
              · rw [List.mem_singleton.1 h]; omega
              · have := hlb x h; omega
            · obtain ⟨x, hx, hx1, _⟩ := h.lo
              have := hlb x hx; omega
          · intro h
            left
            obtain ⟨x, hx, hx1, hx2⟩ := h.lo
            obtain ⟨y, hy, hy1, hy2⟩ := h.hi
            have ex : x = b := by
              rcases List.mem_append.1 hx with h | h
              · exact List.mem_singleton.1 h
              · have := hlb x h; omega
            have ey : y = b := by
              rcases List.mem_append.1 hy with h | h
              · exact List.mem_singleton.1 h
              · have := hlb y h; omega
            subst ex; subst ey
            exact val_ext hv (by omega) (by omega)
        · rw [isMeet_far (Y := [b]) (fun x hx => by rw [List.mem_singleton.1 hx]; exact fun h => hv h.symm)]
          exact ⟨fun h => h.elim (fun h => absurd (by rw [h]) hv) id, .inr⟩
      · rw [if_neg c1, if_neg c2]
        have hab : a.Time = b.Time := by omega
        obtain ⟨i1, i2⟩ := mrg_spec A B hA.2 hB.2
        have hlb : ∀ v ∈ A ++ B, a.Time < v.Time := fun v hv => by
          rcases List.mem_append.1 hv with h | h
          · exact hA.1 v h
          · have := hB.1 v h; omega
        have hl2 := mrg_lb (t := a.Time) A B hA.1 (fun v hv => hlb v (List.mem_append_right _ hv))
        have hperm : ([a, b] ++ (A ++ B)).Perm ((a :: A) ++ b :: B) := by
          show (a :: b :: (A ++ B)).Perm (a :: (A ++ b :: B))
          exact List.Perm.cons a (List.perm_middle (l₁ := A) (l₂ := B) (a := b)).symm
        refine ⟨List.pairwise_cons.2 ⟨hl2, i1⟩, fun v => ?_⟩
        rw [List.mem_cons, i2 v]
        have hpi : isMeet ((a :: A) ++ b :: B) v ↔ isMeet ([a, b] ++ (A ++ B)) v := ⟨fun h => h.perm hperm.symm, fun h => h.perm hperm⟩
        rw [hpi]
        have hmm : isMeet ([a, b] ++ (A ++ B)) (meetV a b) := by
          have hin : ∀ x ∈ [a, b] ++ (A ++ B), x.Time = a.Time → x = a ∨ x = b := fun x hx ht => by
            rcases List.mem_append.1 hx with h | h
            · simpa using h
            · have := hlb x h; omega
          refine ⟨fun x hx ht => ?_, ?_, ?_⟩
          · show x.Levels.Lo ≤ max a.Levels.Lo b.Levels.Lo ∧ min a.Levels.Hi b.Levels.Hi ≤ x.Levels.Hi
            rcases hin x hx ht with rfl | rfl <;> omega
          · by_cases h : b.Levels.Lo ≤ a.Levels.Lo
            · exact ⟨a, by simp, rfl, by show _ = max a.Levels.Lo b.Levels.Lo; omega⟩
            · exact ⟨b, by simp, hab.symm, by show _ = max a.Levels.Lo b.Levels.Lo; omega⟩
          · by_cases h : a.Levels.Hi ≤ b.Levels.Hi
            · exact ⟨a, by simp, rfl, by show _ = min a.Levels.Hi b.Levels.Hi; omega⟩
            · exact ⟨b, by simp, hab.symm, by show _ = min a.Levels.Hi b.Levels.Hi; omega⟩
        by_cases hv : v.Time = a.Time
        · constructor
          · rintro (rfl | h)
            · exact hmm
            · obtain ⟨x, hx, hx1, _⟩ := h.lo
              have := hlb x hx; omega
          · intro h; left; exact h.uniq hmm hv
        · rw [isMeet_far (Y := [a, b]) (fun x hx h => by
            rcases List.mem_cons.1 hx with rfl | h2
            · exact hv h.symm
            · rw [List.mem_singleton.1 h2] at h; exact hv (by rw [hab]; exact h.symm))]
          exact ⟨fun h => h.elim (fun h => absurd (by rw [h]; rfl) hv) id, .inr⟩
termination_by A B => A.length + B.length
/-- what sorting and making one comes to -/
theorem jn_mrg {A B R : List Val} (hA : Up A) (hB : Up B) (hp : R.Perm (A ++ B)) (hs : Srt R 0 R.length) : jn R R.length = mrg A B := by
  have h1 := jn_inv hs _ (Nat.le_refl _)
  have h2 := mrg_spec A B hA hB
  refine up_ext h1.up h2.1 fun v => ?_
  rw [h1.mem v, h2.2 v, List.take_length]
  exact ⟨fun h => h.perm hp, fun h => h.perm hp.symm⟩
theorem mrg_comm {A B : List Val} (hA : Up A) (hB : Up B) : mrg A B = mrg B A := by
  refine up_ext (mrg_spec A B hA hB).1 (mrg_spec B A hB hA).1 fun v => ?_
  rw [(mrg_spec A B hA hB).2 v, (mrg_spec B A hB hA).2 v]
  exact ⟨fun h => h.perm List.perm_append_comm, fun h => h.perm List.perm_append_comm⟩
theorem mrg_self {A : List Val} (hA : Up A) : mrg A A = A := by
  refine up_ext (mrg_spec A A hA hA).1 hA fun v => ?_
  rw [(mrg_spec A A hA hA).2 v, ← isMeet_self hA v]
  constructor
  · rintro ⟨h1, ⟨x, hx, hx1⟩, ⟨y, hy, hy1⟩⟩
    exact ⟨fun z hz => h1 z (List.mem_append_left _ hz), ⟨x, by simpa using hx, hx1⟩, ⟨y, by simpa using hy, hy1⟩⟩
  · rintro ⟨h1, ⟨x, hx, hx1⟩, ⟨y, hy, hy1⟩⟩
    exact ⟨fun z hz => h1 z (by simpa using hz), ⟨x, List.mem_append_left _ hx, hx1⟩, ⟨y, List.mem_append_left _ hy, hy1⟩⟩
/-- nothing is left of some value -/
def emptyV (L : List Val) : Prop := ∃ i, i < L.length ∧ (gt L i).Levels.Hi < (gt L i).Levels.Lo
instance (L : List Val) : Decidable (emptyV L) := by unfold emptyV; exact inferInstance
theorem emptyV_mem {L : List Val} : emptyV L ↔ ∃ v ∈ L, v.Levels.Hi < v.Levels.Lo := by
  constructor
  · rintro ⟨i, hi, h⟩; exact ⟨_, mem_gt0 hi, h⟩
  · rintro ⟨v, hv, h⟩
    obtain ⟨i, hi, rfl⟩ := gt_mem0 hv
    exact ⟨i, hi, h⟩
theorem jBad_empty {R : List Val} (hs : Srt R 0 R.length) {k : Nat} (hk : k < R.length) (hb : jBad R k) : emptyV (jn R R.length) := by
  have hI := jn_inv hs k (by omega)
  have hn := jn_inv hs _ (Nat.le_refl _)
  have hn0 : (jn R k).length ≠ 0 := fun h => hb.1 (.inl h)
  have hlt : (lastV (jn R k)).Time = (gt R k).Time := Classical.byContradiction fun h => hb.1 (.inr h)
  have hlm := (hI.mem _).1 (lastV_mem hn0)
  obtain ⟨x, hx, hx1, hx2⟩ := hlm.lo
  obtain ⟨y, hy, hy1, hy2⟩ := hlm.hi
  have hkR : gt R k ∈ R := mem_gt0 hk
  have hxR := List.mem_of_mem_take hx
  have hyR := List.mem_of_mem_take hy
  have h2 := hb.2
  rw [meet_hi, meet_lo] at h2
  -- the value of this time in the end
  have hex : ∀ T, (∃ r ∈ R, r.Time = T) → ∃ v ∈ jn R R.length, v.Time = T := fun T => by
    have gen : ∀ q, q ≤ R.length → (∃ r ∈ R.take q, r.Time = T) → ∃ v ∈ jn R q, v.Time = T := by
      intro q
      induction q with
      | zero => rintro _ ⟨r, hr, _⟩; simp at hr
      | succ q ih =>
        rintro hq ⟨r, hr, hrt⟩
        have hc := take_snoc (L := R) (k := q) (by omega)
        rw [hc] at hr
        by_cases hnew : (jn R q).length = 0 ∨ (lastV (jn R q)).Time ≠ (gt R q).Time
        · rw [jn_new hnew]
          rcases List.mem_append.1 hr with h | h
          · obtain ⟨v, hv, hvt⟩ := ih (by omega) ⟨r, h, hrt⟩
            exact ⟨v, List.mem_append_left _ hv, hvt⟩
          · exact ⟨gt R q, by simp, by rw [← List.mem_singleton.1 h]; exact hrt⟩
        · have hq0 : (jn R q).length ≠ 0 := fun h => hnew (.inl h)
          have hql : (lastV (jn R q)).Time = (gt R q).Time := Classical.byContradiction fun h => hnew (.inr h)
          rw [jn_old hnew]
          have hwhere : (∃ v ∈ jn R q, v.Time = T) := by
            rcases List.mem_append.1 hr with h | h
            · exact ih (by omega) ⟨r, h, hrt⟩
            · exact ⟨_, lastV_mem hq0, by rw [hql, ← List.mem_singleton.1 h]; exact hrt⟩
          obtain ⟨v, hv, hvt⟩ := hwhere
          obtain ⟨i, hi, rfl⟩ := gt_mem0 hv
          by_cases hil : (jn R q).length - 1 = i
          · exact ⟨_, mem_gt0 (i := i) (by rw [List.length_set]; exact hi), by rw [gt_set _ _ hi, if_pos hil]; show (lastV (jn R q)).Time = T; unfold lastV; rw [hil]; exact hvt⟩
          · exact ⟨_, mem_gt0 (i := i) (by rw [List.length_set]; exact hi), by rw [gt_set _ _ hi, if_neg hil]; exact hvt⟩
    intro hr
    exact gen _ (Nat.le_refl _) (by rw [List.take_length]; exact hr)
  obtain ⟨v, hv, hvt⟩ := hex (gt R k).Time ⟨_, hkR, rfl⟩
  have hm := (hn.mem v).1 hv
  rw [List.take_length] at hm
  have a1 := hm.all _ hkR (by omega)
  have a2 := hm.all x hxR (by omega)
  have a3 := hm.all y hyR (by omega)
  exact emptyV_mem.2 ⟨v, hv, by omega⟩
theorem jn_fine {R : List Val} (ho : ∀ v ∈ R, v.Levels.Lo ≤ v.Levels.Hi) : ∀ k, k ≤ R.length → (∀ j, j < k → ¬ jBad R j) → ¬ emptyV (jn R k)
  | 0, _, _ => fun ⟨i, hi, _⟩ => by simp [jn] at hi
  | k + 1, hk, h => by
    have ih := jn_fine ho k (by omega) (fun j hj => h j (by omega))
    rw [emptyV_mem] at ih ⊢
    have hb := h k (by omega)
    rintro ⟨v, hv, hl⟩
    by_cases hc : (jn R k).length = 0 ∨ (lastV (jn R k)).Time ≠ (gt R k).Time
    · rw [jn_new hc] at hv
      rcases List.mem_append.1 hv with h1 | h1
      · exact ih ⟨v, h1, hl⟩
      · have := ho _ (mem_gt0 (L := R) (i := k) (by omega)); rw [List.mem_singleton.1 h1] at hl; omega
    · rw [jn_old hc] at hv
      obtain ⟨i, hi, rfl⟩ := gt_mem0 hv
      rw [List.length_set] at hi
      rw [gt_set _ _ hi] at hl
      by_cases hil : (jn R k).length - 1 = i
      · rw [if_pos hil] at hl; exact hb ⟨hc, hl⟩
      · rw [if_neg hil] at hl; exact ih ⟨_, mem_gt0 hi, hl⟩
/-! ### the two roads of the reference -/
structure RfI (A B Lo : List Val) (i k : Nat) : Prop where
  hi : i ≤ A.length
  hk : k ≤ B.length
  hl : Lo.length ≤ i + k
  eq : Lo ++ mrg (A.drop i) (B.drop k) = mrg A B
  fine : ¬ emptyV Lo
theorem set_two {L : List Val} {i : Nat} (h : i < L.length) (lo hi : Int) :
    (L.set i ⟨(gt L i).Time, ⟨lo, (gt L i).Levels.Hi⟩⟩).set i ⟨(gt (L.set i ⟨(gt L i).Time, ⟨lo, (gt L i).Levels.Hi⟩⟩) i).Time, ⟨(gt (L.set i ⟨(gt L i).Time, ⟨lo, (gt L i).Levels.Hi⟩⟩) i).Levels.Lo, hi⟩⟩ = L.set i ⟨(gt L i).Time, ⟨lo, hi⟩⟩ := by
  rw [gt_set _ _ h, if_pos rfl, List.set_set]
theorem jn_two {R : List Val} {k i : Nat} (hi : i = (jn R k).length - 1) (h : ¬ ((jn R k).length = 0 ∨ (lastV (jn R k)).Time ≠ (gt R k).Time)) :
    ((jn R k).set i ⟨(gt (jn R k) i).Time, ⟨max (gt (jn R k) i).Levels.Lo (gt R k).Levels.Lo, (gt (jn R k) i).Levels.Hi⟩⟩).set i
      ⟨(gt ((jn R k).set i ⟨(gt (jn R k) i).Time, ⟨max (gt (jn R k) i).Levels.Lo (gt R k).Levels.Lo, (gt (jn R k) i).Levels.Hi⟩⟩) i).Time, ⟨(gt ((jn R k).set i ⟨(gt (jn R k) i).Time, ⟨max (gt (jn R k) i).Levels.Lo (gt R k).Levels.Lo, (gt (jn R k) i).Levels.Hi⟩⟩) i).Levels.Lo, min (gt (jn R k) i).Levels.Hi (gt R k).Levels.Hi⟩⟩ = jn R (k + 1) := by
  have h0 : (jn R k).length ≠ 0 := fun h_ => h (.inl h_)
  rw [set_two (by omega), jn_old h]; subst hi; rfl
theorem jn_lastT {R : List Val} {k i : Nat} (hi : i = (jn R k).length - 1) (h0 : (jn R k).length ≠ 0) (h : ¬ ((jn R k).length = 0 ∨ (lastV (jn R k)).Time ≠ (gt R k).Time)) : gt (jn R (k + 1)) i = meetV (gt (jn R k) i) (gt R k) := by
  rw [jn_old h, gt_set _ _ (by omega), if_pos hi.symm]; subst hi; rfl
theorem two_le {A B : List Val} (hA : A.length ≤ 200) (hB : B.length ≤ 200) : ∀ i, i < [A, B].length → (gt [A, B] i).length ≤ 200
  | 0, _ => hA
  | 1, _ => hB
  | n + 2, h => by simp at h; omega
/-! ### what is answered -/
def joinR (s t : Ser) : Ser × Int := if twoE s t ≠ 0 then (⟨[], []⟩, twoE s t) else if ¬ s.Shifts = t.Shifts then (⟨[], []⟩, 81) else
  if emptyV (mrg s.Values t.Values) then (⟨[], []⟩, 3) else if 200 < (mrg s.Values t.Values).length then (⟨[], []⟩, 2) else (⟨mrg s.Values t.Values, s.Shifts⟩, 0)
theorem joinR_err {s t : Ser} (h : twoE s t ≠ 0) : joinR s t = (⟨[], []⟩, twoE s t) := if_pos h
theorem joinR_sh {s t : Ser} (h : twoE s t = 0) (h1 : ¬ s.Shifts = t.Shifts) : joinR s t = (⟨[], []⟩, 81) := by rw [joinR, if_neg (by omega), if_pos h1]
theorem joinR_em {s t : Ser} (h : twoE s t = 0) (h1 : s.Shifts = t.Shifts) (h2 : emptyV (mrg s.Values t.Values)) : joinR s t = (⟨[], []⟩, 3) := by rw [joinR, if_neg (by omega), if_neg (fun hn => hn h1), if_pos h2]
theorem joinR_big {s t : Ser} (h : twoE s t = 0) (h1 : s.Shifts = t.Shifts) (h2 : ¬ emptyV (mrg s.Values t.Values)) (h3 : 200 < (mrg s.Values t.Values).length) : joinR s t = (⟨[], []⟩, 2) := by rw [joinR, if_neg (by omega), if_neg (fun hn => hn h1), if_neg h2, if_pos h3]
theorem joinR_ok {s t : Ser} (h : twoE s t = 0) (h1 : s.Shifts = t.Shifts) (h2 : ¬ emptyV (mrg s.Values t.Values)) (h3 : ¬ 200 < (mrg s.Values t.Values).length) : joinR s t = (⟨mrg s.Values t.Values, s.Shifts⟩, 0) := by rw [joinR, if_neg (by omega), if_neg (fun hn => hn h1), if_neg h2, if_neg h3]
theorem Ok.up {s : Ser} (h : Ok s) : Up s.Values := (okV_pair.1 h.v).2
theorem Ok.fine {s : Ser} (h : Ok s) : ∀ v ∈ s.Values, v.Levels.Lo ≤ v.Levels.Hi := fun v hv => by have := (okV_pair.1 h.v).1 v hv; unfold rngV at this; omega
end Go.Proofs.C8
