import Derived.Test.YtednficclnjmjaaC8Ref6
/- Century: the reference's adjustments are the program's. -/
namespace Go.Proofs.C8
open Go Go.Kx

section
variable {s t : Ser} {time most : Int}
abbrev ahL (s t : Ser) (time : Int) : List Pr := ahN s t time (comL s t).length
abbrev bhL (s t : Ser) (time : Int) : List Pr := bhN s t time (comL s t).length
theorem ah_all (hs : Ok s) : ((ahL s t time).length = difF s t time ∧ ∀ i, i < difF s t time → gt (ahL s t time) i = gt (prL s t) i) ∧
    ((bhL s t time).length = (comL s t).length - difF s t time ∧ ∀ i, i < (comL s t).length - difF s t time → gt (bhL s t time) i = gt (prL s t) ((comL s t).length - 1 - i)) := by
  obtain ⟨⟨h1, h2⟩, h3⟩ := ah_at (t := t) hs (time := time) (comL s t).length (Nat.le_refl _)
  have hf := dif_len s t time
  rw [Nat.min_eq_right hf] at h1 h2
  exact ⟨⟨h1, h2⟩, h3⟩
theorem ah_pr (hs : Ok s) : ∀ j, j < (ahL s t time).length → prOk s t (gt (ahL s t time) j) := fun j hj => by
  obtain ⟨⟨h1, h2⟩, _⟩ := ah_all (t := t) (time := time) hs
  have hf := dif_len s t time
  rw [h2 j (by omega)]
  exact pr_ok (by omega)
theorem bh_pr (hs : Ok s) : ∀ j, j < (bhL s t time).length → prOk s t (gt (bhL s t time) j) := fun j hj => by
  obtain ⟨_, h1, h2⟩ := ah_all (t := t) (time := time) hs
  rw [h2 j (by omega)]
  exact pr_ok (by omega)
variable (hs : Ok s) (ht : Ok t) (h : twoE s t = 0) (h1 : (0 ≤ time ∧ time ≤ 10000) ∧ (0 ≤ most ∧ most ≤ 24000))
include hs ht h h1
omit ht in
theorem rad_n (h2 : (ahL s t time).length = 0 ∨ (bhL s t time).length = 0) : adjR s t time most = (⟨0, 0⟩, 3) := by
  obtain ⟨⟨a1, _⟩, b1, _⟩ := ah_all (t := t) (time := time) hs
  have hf := dif_len s t time
  rw [adjR, if_neg (by omega), if_neg (by omega), if_pos (by omega)]
omit h in
theorem rad_a (h2 : 0 < (ahL s t time).length) (_h3 : 0 < (bhL s t time).length) : (adjA s t time most).1 = chR s t (ahL s t time) most ∧ ((adjA s t time most).2 = true ↔ ¬ (chR s t (ahL s t time) most).Hi < (chR s t (ahL s t time) most).Lo) := by
  obtain ⟨⟨a1, a2⟩, _⟩ := ah_all (t := t) (time := time) hs
  exact chA hs ht h1.2.1 a1 h2 (fun i hi => a2 i (by omega))
omit h in
theorem rad_b (_h2 : 0 < (ahL s t time).length) (h3 : 0 < (bhL s t time).length) : (adjB s t time most).1 = chR s t (bhL s t time) most ∧ ((adjB s t time most).2 = true ↔ ¬ (chR s t (bhL s t time) most).Hi < (chR s t (bhL s t time) most).Lo) := by
  obtain ⟨_, b1, b2⟩ := ah_all (t := t) (time := time) hs
  exact chB hs ht h1.2.1 b1 h3 (fun i hi => b2 i (by omega))
theorem rad_e (h2 : 0 < (ahL s t time).length) (h3 : 0 < (bhL s t time).length) (he : (chR s t (ahL s t time) most).Hi < (chR s t (ahL s t time) most).Lo ∨ (chR s t (bhL s t time) most).Hi < (chR s t (bhL s t time) most).Lo) : adjR s t time most = (⟨0, 0⟩, 3) := by
  have ha := (rad_a hs ht h1 h2 h3).2
  have hb := (rad_b hs ht h1 h2 h3).2
  obtain ⟨⟨a1, _⟩, b1, _⟩ := ah_all (t := t) (time := time) hs
  rw [adjR, if_neg (by omega), if_neg (by omega), if_neg (by omega), if_pos]
  rcases he with he | he
  · left
    cases hq : (adjA s t time most).2 with
    | false => rfl
    | true => exact absurd he (ha.1 hq)
  · right
    cases hq : (adjB s t time most).2 with
    | false => rfl
    | true => exact absurd he (hb.1 hq)
theorem rad_ok (h2 : 0 < (ahL s t time).length) (h3 : 0 < (bhL s t time).length) (ha0 : ¬ (chR s t (ahL s t time) most).Hi < (chR s t (ahL s t time) most).Lo) (hb0 : ¬ (chR s t (bhL s t time) most).Hi < (chR s t (bhL s t time) most).Lo)
    {p q : Nat} (hp : p + 1 = (ahL s t time).length) (hq : q + 1 = (bhL s t time).length) :
    adjR s t time most = (⟨(chR s t (bhL s t time) most).Lo - (chR s t (ahL s t time) most).Hi - (shfS s t (gt s.Values (gt (ahL s t time) p).s.toNat).Time (gt s.Values (gt (bhL s t time) q).s.toNat).Time).Hi,
      (chR s t (bhL s t time) most).Hi - (chR s t (ahL s t time) most).Lo - (shfS s t (gt s.Values (gt (ahL s t time) p).s.toNat).Time (gt s.Values (gt (bhL s t time) q).s.toNat).Time).Lo⟩, 0) := by
  have ha := rad_a hs ht h1 h2 h3
  have hb := rad_b hs ht h1 h2 h3
  obtain ⟨⟨a1, a2⟩, b1, b2⟩ := ah_all (t := t) (time := time) hs
  have hf := dif_len s t time
  have hat := ha.2.2 ha0
  have hbt := hb.2.2 hb0
  rw [adjR, if_neg (by omega), if_neg (by omega), if_neg (by omega), if_neg (by rw [hat, hbt]; simp), ha.1, hb.1]
  have e1 : gt (ahL s t time) p = gt (prL s t) (difF s t time - 1) := by rw [a2 p (by omega), show p = difF s t time - 1 by omega]
  have e2 : gt (bhL s t time) q = gt (prL s t) (difF s t time) := by rw [b2 q (by omega), show (comL s t).length - 1 - q = difF s t time by omega]
  have e3 : (gt s.Values (gt (ahL s t time) p).s.toNat).Time = difT s t (difF s t time - 1) := by rw [e1]; exact prT_dif (by omega)
  have e4 : (gt s.Values (gt (bhL s t time) q).s.toNat).Time = difT s t (difF s t time) := by rw [e2]; exact prT_dif (by omega)
  have e5 : gt (difW s t).shifts (difF s t time - 1) = shfS s t (difT s t (difF s t time - 1)) (difT s t (difF s t time)) := by
    unfold difW
    dsimp only
    rw [gt_map (by omega)]
    unfold difX
    rw [show difF s t time - 1 + 1 = difF s t time by omega]
    rfl
  rw [e3, e4, e5]
end
theorem chR_bd {s t : Ser} (hs : Ok s) (ht : Ok t) {l : List Pr} {most : Int} (hm : 0 ≤ most ∧ most ≤ 24000) (h0 : 0 < l.length) (h : ∀ j, j < l.length → prOk s t (gt l j)) : -48000 ≤ (chR s t l most).Lo ∧ (chR s t l most).Hi ≤ 24000 := by
  unfold chR
  refine chN_bd hs ht hm ?_ h
  rcases first_cases (chBad s t l most) (l.length - 1) with h1 | h1 <;> omega
end Go.Proofs.C8
