/- Century: extremes and ranks, whoever found the levels, in plain Lean. -/
import Derived.Test.YtednficclnjmjaaC8Lin
namespace Go.Proofs.C8
open Go Go.Kx

theorem even_in {s : Ser} (h : Ok s) {lv sh : List Int} (ha : agreeP s lv sh) {i : Nat} (hi : i < s.Values.length) : (evS s i).Lo ≤ evenAt s lv sh i ∧ evenAt s lv sh i ≤ (evS s i).Hi := by
  have h1 := ha.2.1 i hi
  have h2 : btLo s.Shifts (-1) (gt s.Values i).Time s.Shifts.length ≤ offN s.Shifts sh (gt s.Values i).Time s.Shifts.length := sumN_le fun k hk => by
    have := ha.2.2 k hk; have := (h.xt hk).1
    by_cases h3 : (gt s.Shifts k).Time ≤ (gt s.Values i).Time
    · rw [if_pos h3, if_pos ⟨by omega, h3⟩]; omega
    · rw [if_neg h3, if_neg (fun h4 => h3 h4.2)]; omega
  have h3 : offN s.Shifts sh (gt s.Values i).Time s.Shifts.length ≤ btHi s.Shifts (-1) (gt s.Values i).Time s.Shifts.length := sumN_le fun k hk => by
    have := ha.2.2 k hk; have := (h.xt hk).1
    by_cases h3 : (gt s.Shifts k).Time ≤ (gt s.Values i).Time
    · rw [if_pos h3, if_pos ⟨by omega, h3⟩]; omega
    · rw [if_neg h3, if_neg (fun h4 => h3 h4.2)]; omega
  unfold evenAt evS
  dsimp only
  omega
/-! ### ranks -/
end Go.Proofs.C8
