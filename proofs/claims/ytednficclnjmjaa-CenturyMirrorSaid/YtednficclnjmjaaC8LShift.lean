/- Century: how great a shift was, in plain Lean. -/
import Derived.Test.YtednficclnjmjaaC8LAdj
namespace Go.Proofs.C8
open Go Go.Kx

theorem adj_none0 {s t : Ser} {time most : Int} (h : (adjR s t time most).2 ≠ 0) : (adjR s t time most).1 = ⟨0, 0⟩ := by
  by_cases h1 : twoE s t ≠ 0
  · rw [adj_err h1]
  · by_cases h2 : ¬ ((0 ≤ time ∧ time ≤ 10000) ∧ (0 ≤ most ∧ most ≤ 24000))
    · rw [adj_arg (by omega) h2]
    · have hz := twoE_zero (s := s) (t := t) (by omega)
      rw [adj_val (Ok.of hz.1) (Ok.of hz.2) (by omega)] at h ⊢
      split
      · rfl
      · rename_i h3
        rw [if_neg h3] at h
        split
        · rfl
        · rename_i h4; rw [if_neg h4] at h; exact absurd rfl h
theorem adj_bd (s t : Ser) (time most : Int) : (-2000000000 ≤ (adjR s t time most).1.Lo ∧ (adjR s t time most).1.Lo ≤ 2000000000) ∧ (-2000000000 ≤ (adjR s t time most).1.Hi ∧ (adjR s t time most).1.Hi ≤ 2000000000) := by
  by_cases h : (adjR s t time most).2 = 0
  · obtain ⟨⟨hs, ht⟩, hr, hf, _, _, hv⟩ := adj_zero h
    have hl := dif_len s t time
    have hw := dif_w hs ht
    have hwl := difW_len s t
    have h1 := lastR_bd (part_w hw (a := 0) (b := difF s t time) (by omega) (by omega)) (most := most) hr.2
    have h2 := lastR_bd (turn_w (part_w hw (a := difF s t time) (b := (comL s t).length) (by omega) (by omega))) (most := most) hr.2
    have h3 := hw.xb (difF s t time - 1) (by omega)
    rw [difW_xt (by omega)] at h3
    rw [hv]
    unfold adjA adjB
    dsimp only
    omega
  · rw [adj_none0 h]; dsimp only; omega
/-- the least and the greatest difference ahead of a time (b = true), or from it on -/
def shE (T D : List Int) (time : Int) (b : Bool) : Nat → Span
  | 0 => ⟨1099511627776, -1099511627776⟩
  | i + 1 => if decide (gt T i < time) = b then ⟨min (shE T D time b i).Lo (gt D i), max (shE T D time b i).Hi (gt D i)⟩ else shE T D time b i
section
variable {s t : Ser} {time most : Int} {lv sh lv' sh' : List Int} (hs : Ok s) (ht : Ok t) (hr : (0 ≤ time ∧ time ≤ 10000) ∧ (0 ≤ most ∧ most ≤ 24000)) (ha : agreeP s lv sh) (hb : agreeP t lv' sh')
include hs ht hr ha hb
end
end Go.Proofs.C8
