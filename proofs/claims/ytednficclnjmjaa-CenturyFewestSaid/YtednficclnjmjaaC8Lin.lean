import Derived.Test.YtednficclnjmjaaC8Awake
/- Century: sums of adjusted levels lie within their bounds, and reach them; in plain Lean. -/
namespace Go.Proofs.C8
open Go Go.Kx

/-- adjusted levels are small -/
theorem even_bd {s : Ser} (h : Ok s) {lv sh : List Int} (ha : agreeP s lv sh) {i : Nat} (hi : i < s.Values.length) : -800000 ≤ evenAt s lv sh i ∧ evenAt s lv sh i ≤ 800000 := by
  have h1 := ha.2.1 i hi
  have h2 := h.vl hi
  have h3 := offN_bd (xs := s.Shifts) (sh := sh) (t := (gt s.Values i).Time) (n := s.Shifts.length) (fun j hj => by have := ha.2.2 j hj; have := h.xl hj; omega)
  have h4 := h.nX
  unfold evenAt
  omega
theorem evenR_ok {s : Ser} {lv sh : List Int} (h : (evenR s lv sh).2 = 0) : Ok s ∧ agreeP s lv sh ∧ evenR s lv sh = (evenL s lv sh, 0) := by
  unfold evenR at h ⊢
  by_cases hk : keepsE s lv sh ≠ 0
  · rw [if_pos hk] at h; exact absurd h hk
  · have hz : keepsE s lv sh = 0 := by omega
    exact ⟨(keepsE_zero hz).1, (keepsE_zero hz).2, if_neg hk⟩
theorem evenL_bd {s : Ser} (h : Ok s) {lv sh : List Int} (ha : agreeP s lv sh) : ∀ i, i < (evenL s lv sh).length → -1000000 ≤ gt (evenL s lv sh) i ∧ gt (evenL s lv sh) i ≤ 1000000 := fun i hi => by
  rw [evenL_len] at hi
  rw [evenL_at hi]
  have := even_bd h ha hi
  omega
end Go.Proofs.C8
/- Century: extremes and ranks, whoever found the levels, in plain Lean. -/
namespace Go.Proofs.C8
open Go Go.Kx

/-! ### ranks -/
end Go.Proofs.C8
/- Century: means, changes, trends, in plain Lean. -/
namespace Go.Proofs.C8
open Go Go.Kx

/-- factors, when k values have been looked at -/
def wtP (s : Ser) (x : Span) (c : Int) (k : Nat) : List Int := (List.range s.Values.length).map fun i => if i < k ∧ inT x (gt s.Values i).Time then c else 0
def mbR (s : Ser) (x : Span) : Ratio × Ratio × Int := if chkE s ≠ 0 then (⟨0, 0⟩, ⟨0, 0⟩, chkE s) else if ¬ spOk x 0 10000 then (⟨0, 0⟩, ⟨0, 0⟩, 1) else if wtC s x = 0 then (⟨0, 0⟩, ⟨0, 0⟩, 3)
  else (lowR (bd s (wtL s x 1)).Lo (wtC s x), lowR (bd s (wtL s x 1)).Hi (wtC s x), 0)
/-! ### signs -/
def cmpR (x y : Int) : Int := if x < y then -1 else if y < x then 1 else 0
def sureS (b : Span) : Int := if 0 < b.Lo then 1 else if b.Hi < 0 then -1 else 0
/-! ### changes -/
def subL (A B : List Int) : List Int := (List.range A.length).map fun i => gt A i - gt B i
def SubI (A B : List Int) (k : Nat) (M : List Int) : Prop := M.length = A.length ∧ ∀ q, q < A.length → gt M q = if q < k then gt A q - gt B q else gt A q
def chgL (s : Ser) (a b : Span) : List Int := subL (wtL s b (wtC s a)) (wtL s a (wtC s b))
def chgR (s : Ser) (a b : Span) : Int × Int := if chkE s ≠ 0 then (0, chkE s) else if ¬ (spOk a 0 10000 ∧ spOk b 0 10000) then (0, 1) else if wtC s a = 0 ∨ wtC s b = 0 then (0, 3) else (sureS (bd s (chgL s a b)), 0)
/-! ### trends -/
def trendR (s : Ser) : Int × Int := if twoVE s ≠ 0 then (0, twoVE s) else (sureS (bdX (slpS s)), 0)
def satR (s : Ser) (b : Bool) : List Int × List Int × Int := if twoVE s ≠ 0 then ([], [], twoVE s) else (endV s (momL s) b, endX s (sumXL s (momL s)) b, 0)
end Go.Proofs.C8
/- Century: fractions, held against one another, in plain Lean. -/
namespace Go.Proofs.C8
open Go Go.Kx

def lessP (a b : Ratio) : Prop := a.Num * b.Den < b.Num * a.Den
instance (a b : Ratio) : Decidable (lessP a b) := by unfold lessP; exact inferInstance
/-- the state of the steps -/
def LI (a b : Ratio) (k : Nat) (A C : Ratio) : Prop := (lessP a b ↔ lessP A C) ∧ (0 < A.Den ∧ A.Den ≤ 4000000000000000000) ∧ (0 < C.Den ∧ C.Den ≤ 4000000000000000000) ∧ (-4000000000000000000 ≤ A.Num ∧ A.Num ≤ 4000000000000000000) ∧ (-4000000000000000000 ≤ C.Num ∧ C.Num ≤ 4000000000000000000) ∧
  (0 < k → (A.Den < A.Num ∧ C.Den < C.Num) ∧ 2 ^ (k - 1) * ((A.Num + C.Num) * (A.Den + C.Den)) ≤ (2 : Int) ^ 126)
/-- the slope of adjusted levels -/
def exS (s : Ser) (l : List Int) : Int := totN (momL s) l s.Values.length
def exactR (s : Ser) (l : List Int) : Ratio := lowR (exS s l) (momD s)
end Go.Proofs.C8
/- Century: whatever really was lies within what is told; in plain Lean. -/
namespace Go.Proofs.C8
open Go Go.Kx

/-! ### fractions in lowest terms -/
/-! ### means -/
def LBd (r : Ratio) : Prop := (0 < r.Den ∧ r.Den ≤ 4000000000000000000) ∧ (-4000000000000000000 ≤ r.Num ∧ r.Num ≤ 4000000000000000000)
/-! ### changes -/
/-! ### slopes -/
end Go.Proofs.C8
/- Century: two values prove a fall; the least rising levels; in plain Lean. -/
namespace Go.Proofs.C8
open Go Go.Kx

/-! ### a pass that changes nothing -/
/-- what holds at a value when a step changes nothing -/
def fixAt (s : Ser) (k : Nat) (st : MS) : Prop := (0 < k → gt st.1 (k - 1) ≤ gt st.1 k ∧ gt st.2 (k - 1) - (bt s.Shifts (gt s.Values (k - 1)).Time (gt s.Values k).Time).Hi ≤ gt st.2 k ∧ gt st.2 k + (bt s.Shifts (gt s.Values (k - 1)).Time (gt s.Values k).Time).Lo ≤ gt st.2 (k - 1)) ∧
  gt st.2 k + (gt s.Values k).Levels.Lo ≤ gt st.1 k ∧ gt st.1 k - (gt s.Values k).Levels.Hi ≤ gt st.2 k
/-! ### solutions -/
/-- levels that rise, with shifts that agree, as the passes see them -/
structure Sol (s : Ser) (e u : Nat → Int) : Prop where
  lo : ∀ i, i < s.Values.length → u i + (gt s.Values i).Levels.Lo ≤ e i
  hi : ∀ i, i < s.Values.length → e i - (gt s.Values i).Levels.Hi ≤ u i
  up : ∀ i, i < s.Values.length → 0 < i → e (i - 1) ≤ e i
  x1 : ∀ i, i < s.Values.length → 0 < i → u (i - 1) - (bt s.Shifts (gt s.Values (i - 1)).Time (gt s.Values i).Time).Hi ≤ u i
  x2 : ∀ i, i < s.Values.length → 0 < i → u i + (bt s.Shifts (gt s.Values (i - 1)).Time (gt s.Values i).Time).Lo ≤ u (i - 1)
  mo : ∀ i, i < s.Values.length → u i ≤ mMost s i
  st : ∀ i, i < s.Values.length → - (bt s.Shifts (-1) (gt s.Values i).Time).Hi ≤ u i
def belowS (s : Ser) (st : MS) (e u : Nat → Int) : Prop := st.1.length = s.Values.length ∧ st.2.length = s.Values.length ∧ ∀ i, i < s.Values.length → gt st.1 i ≤ e i ∧ gt st.2 i ≤ u i
/-! ### falls -/
/-- the greatest least level so far, with the least shifts -/
def bestE (s : Ser) : Nat → Int
  | 0 => (gt s.Values 0).Levels.Lo - (bt s.Shifts (-1) (gt s.Values 0).Time).Lo
  | k + 1 => max (bestE s k) ((gt s.Values (k + 1)).Levels.Lo - (bt s.Shifts (-1) (gt s.Values (k + 1)).Time).Lo)
theorem even_small (s : Ser) (a b : List Int) : (evenR s a b).1.length ≤ 1000 ∧ ∀ i, i < (evenR s a b).1.length → -1000000 ≤ gt (evenR s a b).1 i ∧ gt (evenR s a b).1 i ≤ 1000000 := by
  by_cases h : (evenR s a b).2 = 0
  · obtain ⟨h1, h2, h3⟩ := evenR_ok h
    have := h1.nV
    rw [h3]
    exact ⟨by rw [evenL_len]; omega, evenL_bd h1 h2⟩
  · have : (evenR s a b).1 = [] := by
      unfold evenR at h ⊢
      split
      · rfl
      · rename_i h1; rw [if_neg h1] at h; exact absurd rfl h
    rw [this]
    exact ⟨by simp, fun i hi => by simp at hi⟩
end Go.Proofs.C8
/- Century: what becomes known more exactly; equal series; in plain Lean. -/
namespace Go.Proofs.C8
open Go Go.Kx

def cutW (s : Span) (x : Mor) : Span := ⟨wr (s.Lo + min (max x.Lo 0) (max 0 (wr (s.Hi - s.Lo)))), wr (s.Hi - min (max x.Hi 0) (wr (max 0 (wr (s.Hi - s.Lo)) - min (max x.Lo 0) (max 0 (wr (s.Hi - s.Lo))))))⟩
attribute [irreducible] cutW
def knownP (s : Ser) (x : Mor) : Prop := 0 ≤ x.At ∧ (x.Shift = true → x.At < s.Shifts.length) ∧ (x.Shift = false → x.At < s.Values.length)
instance (s : Ser) (x : Mor) : Decidable (knownP s x) := by unfold knownP; exact inferInstance
def knownS (s : Ser) (x : Mor) : Ser := if x.Shift = true then ⟨s.Values, s.Shifts.set x.At.toNat ⟨(gt s.Shifts x.At.toNat).Time, cutW (gt s.Shifts x.At.toNat).Levels x⟩⟩
  else ⟨s.Values.set x.At.toNat ⟨(gt s.Values x.At.toNat).Time, cutW (gt s.Values x.At.toNat).Levels x⟩, s.Shifts⟩
def knownR (s : Ser) (x : Mor) : Ser × Bool := if knownP s x then (knownS s x, true) else (s, false)
end Go.Proofs.C8
/- Century: breaks are real, in plain Lean. -/
namespace Go.Proofs.C8
open Go Go.Kx

end Go.Proofs.C8
/- Century: windows: what lies within them, and how they look backwards and upside down; in plain Lean. -/
namespace Go.Proofs.C8
open Go Go.Kx

/-! ### numbers within a window -/
/-! ### upside down -/
def mirS (c : Int) (x : Span) : Span := ⟨c - x.Hi, c - x.Lo⟩
/-! ### lists that rise -/
def incL (A : List Int) : Prop := ∀ i j, i < j → j < A.length → gt A i < gt A j
/-! ### common times, either way round -/
end Go.Proofs.C8
/- Century: adjustments: either way round, upside down, and whoever found them; in plain Lean. -/
namespace Go.Proofs.C8
open Go Go.Kx

section
variable {s t : Ser} {time : Int}
end
/-! ### whoever has levels and shifts -/
/-- the plain difference and the shifts of a common time -/
def rawD (lv lv' : List Int) (s t : Ser) (n : Nat) : Int := gt lv (gt (comL s t) n).a.toNat - gt lv' (gt (comL s t) n).b.toNat
def offD (sh sh' : List Int) (s t : Ser) (n : Nat) : Int := offN s.Shifts sh (difT s t n) s.Shifts.length - offN t.Shifts sh' (difT s t n) t.Shifts.length
end Go.Proofs.C8
