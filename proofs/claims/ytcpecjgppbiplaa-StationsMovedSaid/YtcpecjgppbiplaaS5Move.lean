/- Stations: moves; in plain Lean. -/
import Derived.Test.YtcpecjgppbiplaaS5Mix2
namespace Go.Proofs.S5
open Go Go.Kx

/-- heights with one more, in the order of weeks -/
def insH : List Height → Height → List Height
  | [], h => [h]
  | x :: l, h => if x.Week < h.Week then x :: insH l h else h :: x :: l
def moveR (s : Station) (h : Height) : Station × Int :=
  if oneE s ≠ 0 then (⟨0, 0, 0, []⟩, oneE s) else if highOk (insH s.Heights h) then (⟨s.ID, s.X, s.Y, insH s.Heights h⟩, 0) else (⟨0, 0, 0, []⟩, 51)
theorem moveR_bad {s : Station} {h : Height} (h0 : oneE s ≠ 0) : moveR s h = (⟨0, 0, 0, []⟩, oneE s) := if_pos h0
theorem moveR_ok {s : Station} {h : Height} (h0 : oneE s = 0) (h1 : highOk (insH s.Heights h)) : moveR s h = (⟨s.ID, s.X, s.Y, insH s.Heights h⟩, 0) := by rw [moveR, if_neg (by omega), if_pos h1]
theorem moveR_no {s : Station} {h : Height} (h0 : oneE s = 0) (h1 : ¬ highOk (insH s.Heights h)) : moveR s h = (⟨0, 0, 0, []⟩, 51) := by rw [moveR, if_neg (by omega), if_neg h1]
theorem moveR_zero {s : Station} {h : Height} (hz : (moveR s h).2 = 0) : oneE s = 0 ∧ highOk (insH s.Heights h) ∧ (moveR s h).1 = ⟨s.ID, s.X, s.Y, insH s.Heights h⟩ := by
  by_cases h0 : oneE s = 0
  · by_cases h1 : highOk (insH s.Heights h)
    · exact ⟨h0, h1, by rw [moveR_ok h0 h1]⟩
    · rw [moveR_no h0 h1] at hz; cases hz
  · rw [moveR_bad h0] at hz; exact absurd hz h0
theorem ins_comm {g k : Height} (h : g.Week ≠ k.Week) : ∀ l, insH (insH l g) k = insH (insH l k) g
  | [] => by
    rw [insH, insH, insH, insH, insH, insH]
    split <;> split <;> first | rfl | omega
  | x :: l => by
    have ih := ins_comm h l
    by_cases h1 : x.Week < g.Week
    · by_cases h2 : x.Week < k.Week
      · simp only [insH, if_pos h1, if_pos h2]; rw [ih]
      · simp only [insH, if_pos h1, if_neg h2, if_pos (show k.Week < g.Week by omega)]
    · by_cases h2 : x.Week < k.Week
      · simp only [insH, if_neg h1, if_pos h2, if_pos (show g.Week < k.Week by omega)]
      · by_cases h3 : g.Week < k.Week
        · simp only [insH, if_neg h1, if_neg h2, if_pos h3, if_neg (show ¬ k.Week < g.Week by omega)]
        · simp only [insH, if_neg h1, if_neg h2, if_neg h3, if_pos (show k.Week < g.Week by omega)]
theorem station_eq {a b : Station} (h1 : a.ID = b.ID) (h2 : a.X = b.X) (h3 : a.Y = b.Y) (h4 : a.Heights = b.Heights) : a = b := by cases a; cases b; simp_all
/-- the last heights that hold in a week -/
def lastM (week : Int) : Span → List Height → Span
  | d, [] => d
  | d, x :: l => lastM week (if x.Week ≤ week then x.Metres else d) l
theorem lastM_snoc (week : Int) (x : Height) : ∀ (l : List Height) (d : Span), lastM week d (l ++ [x]) = if x.Week ≤ week then x.Metres else lastM week d l
  | [], d => rfl
  | y :: l, d => by rw [List.cons_append, lastM, lastM_snoc week x l, lastM]
theorem heightN_last (s : Station) (week : Int) : ∀ n, n ≤ s.Heights.length → heightN s week n = lastM week (gt s.Heights 0).Metres (s.Heights.take n)
  | 0, _ => rfl
  | n + 1, hn => by
    rw [heightN, heightN_last s week n (by omega), List.take_add_one, gt_eq (show n < s.Heights.length by omega)]
    exact (lastM_snoc week _ _ _).symm
theorem heightS_last (s : Station) (week : Int) : heightS s week = lastM week (gt s.Heights 0).Metres s.Heights := by
  rw [heightS, heightN_last s week _ (Nat.le_refl _), List.take_length]
theorem last_none {week : Int} : ∀ {l : List Height} {d : Span}, (∀ y, y ∈ l → week < y.Week) → lastM week d l = d
  | [], _, _ => rfl
  | x :: l, d, h => by
    have h1 := h x (by simp)
    rw [lastM, if_neg (by omega)]; exact last_none fun y hy => h y (by simp [hy])
theorem last_some {week : Int} : ∀ {l : List Height} {d e : Span}, (∃ y, y ∈ l ∧ y.Week ≤ week) → lastM week d l = lastM week e l
  | [], _, _, ⟨_, h, _⟩ => absurd h (List.not_mem_nil)
  | x :: l, d, e, ⟨y, h1, h2⟩ => by
    rw [lastM, lastM]
    by_cases hx : x.Week ≤ week
    · rw [if_pos hx, if_pos hx]
    · rw [if_neg hx, if_neg hx]
      rcases List.mem_cons.1 h1 with rfl | h3
      · exact absurd h2 hx
      · exact last_some ⟨y, h3, h2⟩
theorem last_before {week : Int} {h : Height} (hw : week < h.Week) : ∀ (l : List Height) (d : Span), lastM week d (insH l h) = lastM week d l
  | [], d => by show lastM week (if h.Week ≤ week then h.Metres else d) [] = d; rw [if_neg (by omega)]; rfl
  | x :: l, d => by
    rw [insH]; split
    · rw [lastM, lastM, last_before hw l]
    · rw [lastM, if_neg (by omega)]
theorem last_within {week : Int} {h : Height} (hw : h.Week ≤ week) : ∀ (l : List Height) (d : Span), (∀ y, y ∈ l → y.Week < h.Week ∨ week < y.Week) → l.Pairwise (fun a b => a.Week < b.Week) → lastM week d (insH l h) = h.Metres
  | [], d, _, _ => by rw [insH, lastM, if_pos hw]; rfl
  | x :: l, d, ha, hp => by
    rw [List.pairwise_cons] at hp
    rw [insH]; split
    · rw [lastM]; exact last_within hw l _ (fun y hy => ha y (by simp [hy])) hp.2
    · rename_i hx
      rw [lastM, if_pos hw]
      have h1 := ha x (by simp)
      refine last_none fun y hy => ?_
      rcases List.mem_cons.1 hy with rfl | hy
      · omega
      · have := hp.1 y hy; omega
theorem last_behind {week : Int} {h : Height} : ∀ (l : List Height) (d : Span), (∃ y, y ∈ l ∧ h.Week < y.Week ∧ y.Week ≤ week) → lastM week d (insH l h) = lastM week d l
  | [], _, ⟨_, h1, _⟩ => absurd h1 (List.not_mem_nil)
  | x :: l, d, ⟨y, h1, h2, h3⟩ => by
    rw [insH]; split
    · rename_i hx
      rw [lastM, lastM]
      rcases List.mem_cons.1 h1 with rfl | h4
      · omega
      · exact last_behind l _ ⟨y, h4, h2, h3⟩
    · rw [lastM]; exact last_some ⟨y, h1, h3⟩
/-! ### the station of a number -/
def ofR (l : List Station) (id : Int) : Int × Int := if (checkS l).1 ≠ 0 then (0, (checkS l).1) else match (List.range l.length).find? (fun i => decide ((gt l i).ID = id)) with
  | some i => ((i : Int), 0)
  | none => (0, 50)
/-! ### the reference's move -/
/-- one more, behind those of the same week -/
def insR : List Height → Height → List Height
  | [], h => [h]
  | x :: l, h => if h.Week < x.Week then h :: x :: l else x :: insR l h
theorem insH_perm (h : Height) : ∀ l, (insH l h).Perm (h :: l)
  | [] => .refl _
  | x :: l => by
    rw [insH]; split
    · exact ((insH_perm h l).cons x).trans (.swap _ _ _)
    · exact .refl _
theorem high_up {l : List Height} (h : highOk l) : ∀ (t i : Nat), i + t + 1 < l.length → (gt l i).Week < (gt l (i + t + 1)).Week
  | 0, i, hj => by have := (h.2 (i + 1) hj).2.1 (by omega); simpa using this
  | t + 1, i, hj => by
    have h1 := high_up h t i (by omega)
    have h2 := (h.2 (i + (t + 1) + 1) hj).2.1 (by omega)
    rw [show i + (t + 1) + 1 - 1 = i + t + 1 by omega] at h2
    omega
theorem high_pair {l : List Height} (h : highOk l) : l.Pairwise (fun a b => a.Week < b.Week) := by
  rw [List.pairwise_iff_getElem]
  intro i j hi hj hij
  have h1 := high_up h (j - i - 1) i (by omega)
  rw [show i + (j - i - 1) + 1 = j by omega] at h1
  have e : ∀ k (hk : k < l.length), gt l k = l[k] := fun k hk => by
    have := gt_eq hk; rw [List.getElem?_eq_getElem hk] at this; exact (Option.some.inj this).symm
  rw [e i hi, e j hj] at h1; exact h1
theorem week_nodup {l : List Height} (h : highOk l) : (l.map Height.Week).Nodup := by
  rw [List.Nodup, List.pairwise_map]
  exact (high_pair h).imp fun hab => by omega
theorem same_week {l m : List Height} {h y : Height} (hp : m.Perm (h :: l)) (hy : y ∈ l) (he : y.Week = h.Week) : ¬ highOk m := fun hm => by
  have h1 := (hp.map Height.Week).nodup_iff.1 (week_nodup hm)
  rw [List.map_cons, List.nodup_cons] at h1
  exact h1.1 (by rw [← he]; exact List.mem_map_of_mem hy)
def insK (l : List Height) (h : Height) (k : Nat) (pb : Bool) : List Height := if pb = true then insR (l.take k) h else l.take k
def putP (l : List Height) (h : Height) (k : Nat) (pb : Bool) : Prop := (pb = false → ∀ y, y ∈ l.take k → ¬ h.Week < y.Week) ∧ (pb = true → ∃ y, y ∈ l.take k ∧ h.Week < y.Week)
/-! ### steps -/
/-- the weeks from the second one on, of the first n, in which the heights are other ones -/
def stpN (l : List Height) : Nat → List Int
  | 0 => []
  | n + 1 => if 0 < n ∧ (gt l n).Metres ≠ (gt l (n - 1)).Metres then stpN l n ++ [(gt l n).Week] else stpN l n
def stepsR (s : Station) : List Int × Int := if oneE s ≠ 0 then ([], oneE s) else (stpN s.Heights s.Heights.length, 0)
end Go.Proofs.S5
