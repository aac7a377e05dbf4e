import Derived.Test.YtmnipmbgdbdjeaaC2LE
/- Clocks: the reference tries each tick of a column; in plain Lean. -/
namespace Go.Proofs.C2
open Go Go.Kx

def rbN (d : Drum) (m : List Mark) (a b : Nat) : Nat → Span
  | 0 => ⟨800, -800⟩
  | n + 1 => if okD d (m ++ [oneM a n]) then ⟨min (rbN d m a b n).Lo ((gt (setD d (m ++ [oneM a n])) b).Lo - n), max (rbN d m a b n).Hi ((gt (setD d (m ++ [oneM a n])) b).Hi - n)⟩ else rbN d m a b n
theorem one_lo {d : Drum} {m : List Mark} (hd : drumP d) (hc : colsOk d m) {a b : Nat} (ha : a ≤ d.Rates.length) (hb : b ≤ d.Rates.length) {t : Int} (ho : okD d (m ++ [oneM a t])) :
    (∃ x, RdD d m x ∧ x a = t ∧ x b = (gt (setD d (m ++ [oneM a t])) b).Lo) ∧ (∃ x, RdD d m x ∧ x a = t ∧ x b = (gt (setD d (m ++ [oneM a t])) b).Hi) ∧
    ∀ x, RdD d m x → x a = t → (gt (setD d (m ++ [oneM a t])) b).Lo ≤ x b ∧ x b ≤ (gt (setD d (m ++ [oneM a t])) b).Hi := by
  rw [setD_at hb]
  have h1 := (rd_one hc ha).1 (lo_rd (gap_ok hd) ho)
  have h2 := (rd_one hc ha).1 (hi_rd (gap_ok hd) ho)
  exact ⟨⟨_, h1.1, h1.2, rfl⟩, ⟨_, h2.1, h2.2, rfl⟩, fun x hx he => ((rd_one hc ha).2 ⟨hx, he⟩).st hb⟩
theorem rb_in {d : Drum} {m : List Mark} (hd : drumP d) (hc : colsOk d m) {a b : Nat} (ha : a ≤ d.Rates.length) (hb : b ≤ d.Rates.length) : ∀ n : Nat,
    (rbN d m a b n = ⟨800, -800⟩ ∨ (-(mosD d m b a) ≤ (rbN d m a b n).Lo ∧ (rbN d m a b n).Hi ≤ mosD d m a b)) ∧ ∀ x, RdD d m x → x a < n → (rbN d m a b n).Lo ≤ x b - x a ∧ x b - x a ≤ (rbN d m a b n).Hi
  | 0 => ⟨.inl rfl, fun x hx h => by have := ((atS_iff m a _).1 (hx.1 a ha)).1; omega⟩
  | n + 1 => by
    have ih := rb_in hd hc ha hb n
    rw [rbN]; split
    · rename_i ho
      obtain ⟨⟨x, hx, hxa, hxb⟩, ⟨y, hy, hya, hyb⟩, hall⟩ := one_lo hd hc ha hb ho
      have h1 := mosD_up hx ha hb; have h2 := mosD_up hx hb ha; have h3 := mosD_up hy ha hb; have h4 := mosD_up hy hb ha
      have b1 := ((atS_iff m b _).1 (hx.1 b hb)).1; have b2 := ((atS_iff m b _).1 (hy.1 b hb)).1; have b3 := ((atS_iff m a _).1 (hx.1 a ha)).1
      refine ⟨.inr ?_, fun z hz hlt => ?_⟩
      · (try dsimp only)
        rcases ih.1 with h5 | h5
        · rw [h5]; (try dsimp only); omega
        · omega
      · (try dsimp only)
        rcases Int.lt_or_le (z a) n with h5 | h5
        · have := ih.2 z hz h5; omega
        · have h6 : z a = (n : Int) := by omega
          have := hall z hz h6; omega
    · rename_i ho
      refine ⟨ih.1, fun x hx hlt => ?_⟩
      rcases Int.lt_or_le (x a) n with h3 | h3
      · exact ih.2 x hx h3
      · exact absurd ((rd_one hc ha).2 ⟨hx, by omega⟩).ok ho
theorem rb_all {d : Drum} {m : List Mark} (h : Ok d m) (ho : okD d m) {a b : Nat} (ha : a ≤ d.Rates.length) (hb : b ≤ d.Rates.length) : rbN d m a b 401 = betS (setC d m) a b := by
  have h1 := rb_in h.dr h.cols ha hb 401
  obtain ⟨x, hx, hxe⟩ := mosD_rd h.dr ho ha hb
  obtain ⟨y, hy, hye⟩ := mosD_rd h.dr ho hb ha
  have b1 := ((atS_iff m a _).1 (hx.1 a ha)).1; have b2 := ((atS_iff m a _).1 (hy.1 a ha)).1
  have b3 := ((atS_iff m b _).1 (hx.1 b hb)).1; have b4 := ((atS_iff m b _).1 (hy.1 b hb)).1
  have h2 := h1.2 x hx (by omega); have h3 := h1.2 y hy (by omega)
  rw [betS_val]
  rcases h1.1 with h5 | h5
  · rw [h5] at h2; (try dsimp only at h2); omega
  · exact span_eq (by (try dsimp only); omega) (by (try dsimp only); omega)
theorem rb_bd {d : Drum} {m : List Mark} (hd : drumP d) (hc : colsOk d m) {a b : Nat} (ha : a ≤ d.Rates.length) (hb : b ≤ d.Rates.length) (n : Nat) : (-800 ≤ (rbN d m a b n).Lo ∧ (rbN d m a b n).Lo ≤ 800) ∧ -800 ≤ (rbN d m a b n).Hi ∧ (rbN d m a b n).Hi ≤ 800 := by
  induction n with
  | zero => simp only [rbN]; omega
  | succ n ih =>
    rw [rbN]; split
    · rename_i ho
      obtain ⟨⟨x, hx, hxa, hxb⟩, ⟨y, hy, hya, hyb⟩, _⟩ := one_lo hd hc ha hb ho
      have b1 := ((atS_iff m b _).1 (hx.1 b hb)).1; have b2 := ((atS_iff m b _).1 (hy.1 b hb)).1; have b3 := ((atS_iff m a _).1 (hx.1 a ha)).1
      (try dsimp only); omega
    · exact ih
end Go.Proofs.C2
