import Derived.Test.YtednficclnjmjaaC8Spec4
/- Century: sums of adjusted levels lie within their bounds, and reach them; in plain Lean. -/
namespace Go.Proofs.C8
open Go Go.Kx

end Go.Proofs.C8
/- Century: means, changes, trends, in plain Lean. -/
namespace Go.Proofs.C8
open Go Go.Kx

/-- factors, when k values have been looked at -/
def wtP (s : Ser) (x : Span) (c : Int) (k : Nat) : List Int := (List.range s.Values.length).map fun i => if i < k ∧ inT x (gt s.Values i).Time then c else 0
theorem wtP_len (s : Ser) (x : Span) (c : Int) (k : Nat) : (wtP s x c k).length = s.Values.length := map_len _ _
theorem wtL_len (s : Ser) (x : Span) (c : Int) : (wtL s x c).length = s.Values.length := map_len _ _
theorem wtP_zero (s : Ser) (x : Span) (c : Int) : wtP s x c 0 = List.replicate s.Values.length 0 := by
  apply ext_gt
  · simp [wtP]
  · intro j hj
    rw [wtP_len] at hj
    rw [wtP, gt_map hj, if_neg (by omega), gt_rep hj]
theorem wtP_all (s : Ser) (x : Span) (c : Int) : wtP s x c s.Values.length = wtL s x c := by
  apply ext_gt
  · simp [wtP, wtL]
  · intro j hj
    rw [wtP_len] at hj
    rw [wtP, gt_map hj, wtL, gt_map hj]
    by_cases h : inT x (gt s.Values j).Time
    · rw [if_pos ⟨hj, h⟩, if_pos h]
    · rw [if_neg (fun h2 => h h2.2), if_neg h]
theorem wtP_yes {s : Ser} {x : Span} {c : Int} {k : Nat} (h : inT x (gt s.Values k).Time) : (wtP s x c k).set k c = wtP s x c (k + 1) := by
  apply ext_gt
  · simp [wtP]
  · intro j hj
    rw [List.length_set, wtP_len] at hj
    rw [gt_set _ _ (by rw [wtP_len]; exact hj), wtP, gt_map hj, wtP, gt_map hj]
    by_cases hkj : k = j
    · subst hkj; rw [if_pos rfl, if_pos ⟨by omega, h⟩]
    · rw [if_neg hkj]
      by_cases h2 : j < k ∧ inT x (gt s.Values j).Time
      · rw [if_pos h2, if_pos ⟨by omega, h2.2⟩]
      · rw [if_neg h2, if_neg (fun h3 => h2 ⟨by omega, h3.2⟩)]
theorem wtP_same {s : Ser} {x : Span} {c : Int} : ∀ {a b : Nat}, a ≤ b → wtN s x a = wtN s x b → wtP s x c a = wtP s x c b
  | a, 0, h, _ => by obtain rfl : a = 0 := by omega
                     rfl
  | a, b + 1, h, he => by
    rcases Nat.lt_or_ge a (b + 1) with h1 | h1
    · have h2 := wtN_le s x (a := a) (b := b) (by omega)
      by_cases h3 : inT x (gt s.Values b).Time
      · rw [wtN_yes h3] at he; omega
      · rw [wtN_no h3] at he
        rw [wtP_same (a := a) (b := b) (by omega) he]
        apply ext_gt
        · simp [wtP]
        · intro j hj
          rw [wtP_len] at hj
          rw [wtP, gt_map hj, wtP, gt_map hj]
          by_cases hjb : j = b
          · subst hjb; rw [if_neg (by omega), if_neg (fun h4 => h3 h4.2)]
          · by_cases h4 : j < b ∧ inT x (gt s.Values j).Time
            · rw [if_pos h4, if_pos ⟨by omega, h4.2⟩]
            · rw [if_neg h4, if_neg (fun h5 => h4 ⟨by omega, h5.2⟩)]
    · obtain rfl : a = b + 1 := by omega
      rfl
theorem wtP_eq {s : Ser} {x : Span} {c : Int} {a b : Nat} (he : wtN s x a = wtN s x b) : wtP s x c a = wtP s x c b := by
  rcases Nat.le_total a b with h | h
  · exact wtP_same h he
  · exact (wtP_same h he.symm).symm
theorem wt_fac {s : Ser} {x : Span} {c : Int} (hc : -10000000 ≤ c ∧ c ≤ 10000000) : facW s (wtL s x c) := ⟨wtL_len s x c, fun i hi => by rw [wtL, gt_map hi]; split <;> omega⟩
theorem wtC_le (s : Ser) (x : Span) : wtC s x ≤ s.Values.length := wtN_len s x _
def mbR (s : Ser) (x : Span) : Ratio × Ratio × Int := if chkE s ≠ 0 then (⟨0, 0⟩, ⟨0, 0⟩, chkE s) else if ¬ spOk x 0 10000 then (⟨0, 0⟩, ⟨0, 0⟩, 1) else if wtC s x = 0 then (⟨0, 0⟩, ⟨0, 0⟩, 3)
  else (lowR (bd s (wtL s x 1)).Lo (wtC s x), lowR (bd s (wtL s x 1)).Hi (wtC s x), 0)
theorem mbR_err {s : Ser} {x : Span} (h : chkE s ≠ 0) : mbR s x = (⟨0, 0⟩, ⟨0, 0⟩, chkE s) := by rw [mbR, if_pos h]
theorem mbR_arg {s : Ser} {x : Span} (h : chkE s = 0) (h1 : ¬ spOk x 0 10000) : mbR s x = (⟨0, 0⟩, ⟨0, 0⟩, 1) := by rw [mbR, if_neg (by omega), if_pos h1]
theorem mbR_none {s : Ser} {x : Span} (h : chkE s = 0) (h1 : spOk x 0 10000) (h2 : (wtC s x : Int) = 0) : mbR s x = (⟨0, 0⟩, ⟨0, 0⟩, 3) := by rw [mbR, if_neg (by omega), if_neg (fun hn => hn h1), if_pos (by omega)]
theorem mbR_ok {s : Ser} {x : Span} (h : chkE s = 0) (h1 : spOk x 0 10000) (h2 : ¬ (wtC s x : Int) = 0) : mbR s x = (lowR (bd s (wtL s x 1)).Lo (wtC s x), lowR (bd s (wtL s x 1)).Hi (wtC s x), 0) := by rw [mbR, if_neg (by omega), if_neg (fun hn => hn h1), if_neg (by omega)]
theorem bd_bd {s : Ser} (h : Ok s) {f : List Int} (hf : facW s f) : (-4000000000000000000 ≤ (bd s f).Lo ∧ (bd s f).Lo ≤ 4000000000000000000) ∧ (-4000000000000000000 ≤ (bd s f).Hi ∧ (bd s f).Hi ≤ 4000000000000000000) := bdX_bd (sum_w h hf)
/-! ### signs -/
def cmpR (x y : Int) : Int := if x < y then -1 else if y < x then 1 else 0
def sureS (b : Span) : Int := if 0 < b.Lo then 1 else if b.Hi < 0 then -1 else 0
/-! ### changes -/
def subL (A B : List Int) : List Int := (List.range A.length).map fun i => gt A i - gt B i
def SubI (A B : List Int) (k : Nat) (M : List Int) : Prop := M.length = A.length ∧ ∀ q, q < A.length → gt M q = if q < k then gt A q - gt B q else gt A q
def chgL (s : Ser) (a b : Span) : List Int := subL (wtL s b (wtC s a)) (wtL s a (wtC s b))
def chgR (s : Ser) (a b : Span) : Int × Int := if chkE s ≠ 0 then (0, chkE s) else if ¬ (spOk a 0 10000 ∧ spOk b 0 10000) then (0, 1) else if wtC s a = 0 ∨ wtC s b = 0 then (0, 3) else (sureS (bd s (chgL s a b)), 0)
/-! ### trends -/
def trendR (s : Ser) : Int × Int := if twoVE s ≠ 0 then (0, twoVE s) else (sureS (bdX (slpS s)), 0)
def satR (s : Ser) (b : Bool) : List Int × List Int × Int := if twoVE s ≠ 0 then ([], [], twoVE s) else (endV s (momL s) b, endX s (sumXL s (momL s)) b, 0)
end Go.Proofs.C8
/- Century: extremes and ranks, whoever found the levels, in plain Lean. -/
namespace Go.Proofs.C8
open Go Go.Kx

/-! ### ranks -/
end Go.Proofs.C8
/- Century: fractions, held against one another, in plain Lean. -/
namespace Go.Proofs.C8
open Go Go.Kx

def lessP (a b : Ratio) : Prop := a.Num * b.Den < b.Num * a.Den
instance (a b : Ratio) : Decidable (lessP a b) := by unfold lessP; exact inferInstance
/-- the state of the steps -/
def LI (a b : Ratio) (k : Nat) (A C : Ratio) : Prop := (lessP a b ↔ lessP A C) ∧ (0 < A.Den ∧ A.Den ≤ 4000000000000000000) ∧ (0 < C.Den ∧ C.Den ≤ 4000000000000000000) ∧ (-4000000000000000000 ≤ A.Num ∧ A.Num ≤ 4000000000000000000) ∧ (-4000000000000000000 ≤ C.Num ∧ C.Num ≤ 4000000000000000000) ∧
  (0 < k → (A.Den < A.Num ∧ C.Den < C.Num) ∧ 2 ^ (k - 1) * ((A.Num + C.Num) * (A.Den + C.Den)) ≤ (2 : Int) ^ 126)
/-- the slope of adjusted levels -/
def exS (s : Ser) (l : List Int) : Int := totN (momL s) l s.Values.length
def exactR (s : Ser) (l : List Int) : Ratio := lowR (exS s l) (momD s)
end Go.Proofs.C8
/- Century: whatever really was lies within what is told; in plain Lean. -/
namespace Go.Proofs.C8
open Go Go.Kx

/-! ### fractions in lowest terms -/
/-! ### means -/
def LBd (r : Ratio) : Prop := (0 < r.Den ∧ r.Den ≤ 4000000000000000000) ∧ (-4000000000000000000 ≤ r.Num ∧ r.Num ≤ 4000000000000000000)
/-! ### changes -/
/-! ### slopes -/
end Go.Proofs.C8
/- Century: two values prove a fall; the least rising levels; in plain Lean. -/
namespace Go.Proofs.C8
open Go Go.Kx

/-! ### a pass that changes nothing -/
/-- what holds at a value when a step changes nothing -/
def fixAt (s : Ser) (k : Nat) (st : MS) : Prop := (0 < k → gt st.1 (k - 1) ≤ gt st.1 k ∧ gt st.2 (k - 1) - (bt s.Shifts (gt s.Values (k - 1)).Time (gt s.Values k).Time).Hi ≤ gt st.2 k ∧ gt st.2 k + (bt s.Shifts (gt s.Values (k - 1)).Time (gt s.Values k).Time).Lo ≤ gt st.2 (k - 1)) ∧
  gt st.2 k + (gt s.Values k).Levels.Lo ≤ gt st.1 k ∧ gt st.1 k - (gt s.Values k).Levels.Hi ≤ gt st.2 k
/-! ### solutions -/
/-- levels that rise, with shifts that agree, as the passes see them -/
structure Sol (s : Ser) (e u : Nat → Int) : Prop where
  lo : ∀ i, i < s.Values.length → u i + (gt s.Values i).Levels.Lo ≤ e i
  hi : ∀ i, i < s.Values.length → e i - (gt s.Values i).Levels.Hi ≤ u i
  up : ∀ i, i < s.Values.length → 0 < i → e (i - 1) ≤ e i
  x1 : ∀ i, i < s.Values.length → 0 < i → u (i - 1) - (bt s.Shifts (gt s.Values (i - 1)).Time (gt s.Values i).Time).Hi ≤ u i
  x2 : ∀ i, i < s.Values.length → 0 < i → u i + (bt s.Shifts (gt s.Values (i - 1)).Time (gt s.Values i).Time).Lo ≤ u (i - 1)
  mo : ∀ i, i < s.Values.length → u i ≤ mMost s i
  st : ∀ i, i < s.Values.length → - (bt s.Shifts (-1) (gt s.Values i).Time).Hi ≤ u i
def belowS (s : Ser) (st : MS) (e u : Nat → Int) : Prop := st.1.length = s.Values.length ∧ st.2.length = s.Values.length ∧ ∀ i, i < s.Values.length → gt st.1 i ≤ e i ∧ gt st.2 i ≤ u i
/-! ### falls -/
/-- the greatest least level so far, with the least shifts -/
def bestE (s : Ser) : Nat → Int
  | 0 => (gt s.Values 0).Levels.Lo - (bt s.Shifts (-1) (gt s.Values 0).Time).Lo
  | k + 1 => max (bestE s k) ((gt s.Values (k + 1)).Levels.Lo - (bt s.Shifts (-1) (gt s.Values (k + 1)).Time).Lo)
end Go.Proofs.C8
/- Century: what becomes known more exactly; equal series; in plain Lean. -/
namespace Go.Proofs.C8
open Go Go.Kx

def cutW (s : Span) (x : Mor) : Span := ⟨wr (s.Lo + min (max x.Lo 0) (max 0 (wr (s.Hi - s.Lo)))), wr (s.Hi - min (max x.Hi 0) (wr (max 0 (wr (s.Hi - s.Lo)) - min (max x.Lo 0) (max 0 (wr (s.Hi - s.Lo))))))⟩
attribute [irreducible] cutW
def knownP (s : Ser) (x : Mor) : Prop := 0 ≤ x.At ∧ (x.Shift = true → x.At < s.Shifts.length) ∧ (x.Shift = false → x.At < s.Values.length)
instance (s : Ser) (x : Mor) : Decidable (knownP s x) := by unfold knownP; exact inferInstance
def knownS (s : Ser) (x : Mor) : Ser := if x.Shift = true then ⟨s.Values, s.Shifts.set x.At.toNat ⟨(gt s.Shifts x.At.toNat).Time, cutW (gt s.Shifts x.At.toNat).Levels x⟩⟩
  else ⟨s.Values.set x.At.toNat ⟨(gt s.Values x.At.toNat).Time, cutW (gt s.Values x.At.toNat).Levels x⟩, s.Shifts⟩
def knownR (s : Ser) (x : Mor) : Ser × Bool := if knownP s x then (knownS s x, true) else (s, false)
theorem ser_ext {a b : Ser} (h1 : a.Values = b.Values) (h2 : a.Shifts = b.Shifts) : a = b := by cases a; cases b; simp_all
end Go.Proofs.C8
/- Century: breaks are real, in plain Lean. -/
namespace Go.Proofs.C8
open Go Go.Kx

end Go.Proofs.C8
/- Century: windows: what lies within them, and how they look backwards and upside down; in plain Lean. -/
namespace Go.Proofs.C8
open Go Go.Kx

/-! ### numbers within a window -/
/-! ### upside down -/
def mirS (c : Int) (x : Span) : Span := ⟨c - x.Hi, c - x.Lo⟩
/-! ### lists that rise -/
def incL (A : List Int) : Prop := ∀ i j, i < j → j < A.length → gt A i < gt A j
/-! ### common times, either way round -/
end Go.Proofs.C8
/- Century: adjustments: either way round, upside down, and whoever found them; in plain Lean. -/
namespace Go.Proofs.C8
open Go Go.Kx

section
variable {s t : Ser} {time : Int}
end
/-! ### whoever has levels and shifts -/
/-- the plain difference and the shifts of a common time -/
def rawD (lv lv' : List Int) (s t : Ser) (n : Nat) : Int := gt lv (gt (comL s t) n).a.toNat - gt lv' (gt (comL s t) n).b.toNat
def offD (sh sh' : List Int) (s t : Ser) (n : Nat) : Int := offN s.Shifts sh (difT s t n) s.Shifts.length - offN t.Shifts sh' (difT s t n) t.Shifts.length
end Go.Proofs.C8
/- Century: narrower is narrower, in plain Lean. -/
namespace Go.Proofs.C8
open Go Go.Kx

/-- a series of which more is known -/
structure Nar (t s : Ser) : Prop where
  os : Ok s
  ot : Ok t
  nv : t.Values.length = s.Values.length
  nx : t.Shifts.length = s.Shifts.length
  v : ∀ i, i < s.Values.length → (gt t.Values i).Time = (gt s.Values i).Time ∧ (gt s.Values i).Levels.Lo ≤ (gt t.Values i).Levels.Lo ∧ (gt t.Values i).Levels.Hi ≤ (gt s.Values i).Levels.Hi
  x : ∀ i, i < s.Shifts.length → (gt t.Shifts i).Time = (gt s.Shifts i).Time ∧ (gt s.Shifts i).Levels.Lo ≤ (gt t.Shifts i).Levels.Lo ∧ (gt t.Shifts i).Levels.Hi ≤ (gt s.Shifts i).Levels.Hi
section
variable {t s : Ser}
end
/-! ### steps -/
def goodW (s : Ser) (most : Int) (a b : Nat) : Prop := (lastR (winOf s a b) most).2 = true
end Go.Proofs.C8
/- Century: what the reference computes, in plain Lean: ends of sums, and that their sums are the program's. -/
namespace Go.Proofs.C8
open Go Go.Kx

/-- the reference's end of a span: with a factor of nothing the lower one -/
def endQ (x : Span) (f c : Int) : Int := if 0 ≤ f * c then x.Lo else x.Hi
def enV (s : Ser) (f : List Int) (c : Int) (i : Nat) : Int := endQ (gt s.Values i).Levels (gt f i) c
def enX (s : Ser) (f : List Int) (c : Int) (k : Nat) : Int := endQ (gt s.Shifts k).Levels (sumX s f k) c
def enVL (s : Ser) (f : List Int) (c : Int) : List Int := (List.range s.Values.length).map (enV s f c)
def enXL (s : Ser) (f : List Int) (c : Int) : List Int := (List.range s.Shifts.length).map (enX s f c)
def enVN (s : Ser) (f : List Int) (c : Int) (n : Nat) : Int := sumN (fun i => gt f i * enV s f c i) n
def enXN (s : Ser) (f : List Int) (c : Int) (n : Nat) : Int := sumN (fun i => sumX s f i * enX s f c i) n
/-- what SlopeAt hands out: its slope is the end -/
def satL (s : Ser) (b : Bool) : List Int := evenL s (endV s (momL s) b) (endX s (sumXL s (momL s)) b)
end Go.Proofs.C8
/- Century: known exactly, in plain Lean. -/
namespace Go.Proofs.C8
open Go Go.Kx

section
variable {s : Ser} {x : Rl}
variable (h : Ok s) (ha : agreeP s x.Levels x.Shifts)
include h ha
/-! ### parts -/
/-! ### slopes -/
end
end Go.Proofs.C8
/- Century: what the reference computes: weights, extremes, ranks, changes. -/
namespace Go.Proofs.C8
open Go Go.Kx

def wt1 (s : Ser) (x : Span) (i : Nat) : Int := if inT x (gt s.Values i).Time then 1 else 0
def askR (s : Ser) (x : Span) : List Int × Int × Int := if chkE s ≠ 0 then ([], 0, chkE s) else if ¬ spOk x 0 10000 then ([], 0, 1) else if wtC s x = 0 then ([], 0, 3) else (wtL s x 1, wtC s x, 0)
/-! ### extremes -/
def exQ (s : Ser) (x : Span) : Nat → Span × Span
  | 0 => (⟨1099511627776, 1099511627776⟩, ⟨-1099511627776, -1099511627776⟩)
  | n + 1 => if inT x (gt s.Values n).Time then (⟨min (exQ s x n).1.Lo (evS s n).Lo, min (exQ s x n).1.Hi (evS s n).Hi⟩, ⟨max (exQ s x n).2.Lo (evS s n).Lo, max (exQ s x n).2.Hi (evS s n).Hi⟩) else exQ s x n
/-! ### ranks -/
/-! ### changes -/
def chg1 (s : Ser) (a b : Span) (i : Nat) : Int := gt (wtL s b 1) i * wtC s a - gt (wtL s a 1) i * wtC s b
end Go.Proofs.C8
/- Century: what the reference computes: falls, steps, breaks. -/
namespace Go.Proofs.C8
open Go Go.Kx

/-- the span of all that is known of a part's last value, by its index -/
def runK (s : Ser) (most : Int) (a : Nat) : Nat → Span
  | 0 => ⟨(gt s.Values a).Levels.Lo - most, (gt s.Values a).Levels.Hi⟩
  | k + 1 => if k + 1 ≤ a then ⟨(gt s.Values a).Levels.Lo - most, (gt s.Values a).Levels.Hi⟩ else
    ⟨max ((runK s most a k).Lo + (bt s.Shifts (gt s.Values k).Time (gt s.Values (k + 1)).Time).Lo) ((gt s.Values (k + 1)).Levels.Lo - most), min ((runK s most a k).Hi + (bt s.Shifts (gt s.Values k).Time (gt s.Values (k + 1)).Time).Hi) (gt s.Values (k + 1)).Levels.Hi⟩
def runBad (s : Ser) (most : Int) (a k : Nat) : Prop := (runK s most a k).Hi < (runK s most a k).Lo
end Go.Proofs.C8
/- Century: what the reference computes: common times, breaks. -/
namespace Go.Proofs.C8
open Go Go.Kx

def prOf (p : A2) : Pr := ⟨p.a, p.b⟩
def prN (s t : Ser) (n : Nat) : List Pr := (comN s t n).map prOf
def prL (s t : Ser) : List Pr := (comL s t).map prOf
def prI (s t : Ser) (i k : Nat) : List Pr := prN s t i ++ (if 0 ≤ idxR t (gt s.Values i).Time ∧ idxR t (gt s.Values i).Time < k then [⟨i, idxR t (gt s.Values i).Time⟩] else [])
end Go.Proofs.C8
/- Century: what the reference computes: differences, chains of common times. -/
namespace Go.Proofs.C8
open Go Go.Kx

def plnS (s t : Ser) (x : Pr) : Span := ⟨(gt s.Values x.s.toNat).Levels.Lo - (gt t.Values x.t.toNat).Levels.Hi, (gt s.Values x.s.toNat).Levels.Hi - (gt t.Values x.t.toNat).Levels.Lo⟩
def shfS (s t : Ser) (a b : Int) : Span := ⟨(bt s.Shifts a b).Lo - (bt t.Shifts a b).Hi, (bt s.Shifts a b).Hi - (bt t.Shifts a b).Lo⟩
def prOk (s t : Ser) (x : Pr) : Prop := (0 ≤ x.s ∧ x.s < s.Values.length) ∧ (0 ≤ x.t ∧ x.t < t.Values.length)
/-- the shifts between two times, whichever is the later one -/
def hopS (s t : Ser) (a b : Int) : Span := if b < a then ⟨0 - (shfS s t (min a b) (max a b)).Hi, 0 - (shfS s t (min a b) (max a b)).Lo⟩ else shfS s t (min a b) (max a b)
def prT (s : Ser) (x : Pr) : Int := (gt s.Values x.s.toNat).Time
def chN (s t : Ser) (l : List Pr) (most : Int) : Nat → Span
  | 0 => ⟨(plnS s t (gt l 0)).Lo - most, (plnS s t (gt l 0)).Hi⟩
  | k + 1 => ⟨max ((chN s t l most k).Lo + (hopS s t (prT s (gt l k)) (prT s (gt l (k + 1)))).Lo) ((plnS s t (gt l (k + 1))).Lo - most), min ((chN s t l most k).Hi + (hopS s t (prT s (gt l k)) (prT s (gt l (k + 1)))).Hi) (plnS s t (gt l (k + 1))).Hi⟩
def chBad (s t : Ser) (l : List Pr) (most : Int) (k : Nat) : Prop := (chN s t l most k).Hi < (chN s t l most k).Lo
instance (s t : Ser) (l : List Pr) (most : Int) : DecidablePred (chBad s t l most) := fun k => by unfold chBad; exact inferInstance
def chR (s t : Ser) (l : List Pr) (most : Int) : Span := chN s t l most (first (chBad s t l most) (l.length - 1))
end Go.Proofs.C8
/- Century: what the reference's chains tell is what the program's windows tell. -/
namespace Go.Proofs.C8
open Go Go.Kx

/-! ### ahead and behind -/
def ahN (s t : Ser) (time : Int) : Nat → List Pr
  | 0 => []
  | n + 1 => if (gt s.Values (gt (prL s t) n).s.toNat).Time < time then ahN s t time n ++ [gt (prL s t) n] else ahN s t time n
def bhN (s t : Ser) (time : Int) : Nat → List Pr
  | 0 => []
  | n + 1 => if (gt s.Values (gt (prL s t) n).s.toNat).Time < time then bhN s t time n else [gt (prL s t) n] ++ bhN s t time n
theorem gt_app {α : Type} [Inhabited α] (L M : List α) (i : Nat) : gt (L ++ M) i = if i < L.length then gt L i else gt M (i - L.length) := by
  simp only [gt, List.getD]
  split
  · rename_i h; rw [List.getElem?_append_left h]
  · rename_i h; rw [List.getElem?_append_right (by omega)]
end Go.Proofs.C8
/- Century: what the reference computes: parts. -/
namespace Go.Proofs.C8
open Go Go.Kx

def cutVN (s : Ser) (x : Span) : Nat → List Val
  | 0 => []
  | n + 1 => if inT x (gt s.Values n).Time then cutVN s x n ++ [gt s.Values n] else cutVN s x n
def cutXN (s : Ser) (x : Span) : Nat → List Shf
  | 0 => []
  | n + 1 => if inT x (gt s.Shifts n).Time then cutXN s x n ++ [gt s.Shifts n] else cutXN s x n
def cutS (s : Ser) (x : Span) : Ser := ⟨cutVN s x s.Values.length, cutXN s x s.Shifts.length⟩
def cutR (s : Ser) (x : Span) : Ser × Int := if chkE s ≠ 0 then (⟨[], []⟩, chkE s) else if ¬ spOk x 0 10000 then (⟨[], []⟩, 1) else (cutS s x, 0)
theorem cutR_err {s : Ser} {x : Span} (h : chkE s ≠ 0) : cutR s x = (⟨[], []⟩, chkE s) := if_pos h
theorem cutR_arg {s : Ser} {x : Span} (h : chkE s = 0) (h1 : ¬ spOk x 0 10000) : cutR s x = (⟨[], []⟩, 1) := by rw [cutR, if_neg (by omega), if_pos h1]
theorem cutR_ok {s : Ser} {x : Span} (h : chkE s = 0) (h1 : spOk x 0 10000) : cutR s x = (cutS s x, 0) := by rw [cutR, if_neg (by omega), if_neg (fun hn => hn h1)]
/-! ### narrower -/
def meetS (a b : Span) : Span := ⟨max a.Lo b.Lo, min a.Hi b.Hi⟩
def narV (s : Ser) (k : Nat) (x : Span) : List Val := s.Values.set k ⟨(gt s.Values k).Time, meetS (gt s.Values k).Levels x⟩
def narR (s : Ser) (time : Int) (x : Span) : Ser × Int := if chkE s ≠ 0 then (⟨[], []⟩, chkE s) else if idxR s time < 0 then (⟨[], []⟩, 3) else
  if (meetS (gt s.Values (idxR s time).toNat).Levels x).Hi < (meetS (gt s.Values (idxR s time).toNat).Levels x).Lo then (⟨[], []⟩, 3) else (⟨narV s (idxR s time).toNat x, s.Shifts⟩, 0)
end Go.Proofs.C8
