import Derived.Test.YtednficclnjmjaaC8LExact
/- Century: what the reference computes: falls, steps, breaks. -/
namespace Go.Proofs.C8
open Go Go.Kx

/-- the span of all that is known of a part's last value, by its index -/
def runK (s : Ser) (most : Int) (a : Nat) : Nat → Span
  | 0 => ⟨(gt s.Values a).Levels.Lo - most, (gt s.Values a).Levels.Hi⟩
  | k + 1 => if k + 1 ≤ a then ⟨(gt s.Values a).Levels.Lo - most, (gt s.Values a).Levels.Hi⟩ else
    ⟨max ((runK s most a k).Lo + (bt s.Shifts (gt s.Values k).Time (gt s.Values (k + 1)).Time).Lo) ((gt s.Values (k + 1)).Levels.Lo - most), min ((runK s most a k).Hi + (bt s.Shifts (gt s.Values k).Time (gt s.Values (k + 1)).Time).Hi) (gt s.Values (k + 1)).Levels.Hi⟩
def runBad (s : Ser) (most : Int) (a k : Nat) : Prop := (runK s most a k).Hi < (runK s most a k).Lo
end Go.Proofs.C8
