/- Stations: moves; in plain Lean. -/
import Derived.Test.YtcpecjgppbiplaaS5Mix2
namespace Go.Proofs.S5
open Go Go.Kx

/-- heights with one more, in the order of weeks -/
def insH : List Height → Height → List Height
  | [], h => [h]
  | x :: l, h => if x.Week < h.Week then x :: insH l h else h :: x :: l
def moveR (s : Station) (h : Height) : Station × Int :=
  if oneE s ≠ 0 then (⟨0, 0, 0, []⟩, oneE s) else if highOk (insH s.Heights h) then (⟨s.ID, s.X, s.Y, insH s.Heights h⟩, 0) else (⟨0, 0, 0, []⟩, 51)
theorem moveR_bad {s : Station} {h : Height} (h0 : oneE s ≠ 0) : moveR s h = (⟨0, 0, 0, []⟩, oneE s) := if_pos h0
theorem moveR_ok {s : Station} {h : Height} (h0 : oneE s = 0) (h1 : highOk (insH s.Heights h)) : moveR s h = (⟨s.ID, s.X, s.Y, insH s.Heights h⟩, 0) := by rw [moveR, if_neg (by omega), if_pos h1]
theorem moveR_no {s : Station} {h : Height} (h0 : oneE s = 0) (h1 : ¬ highOk (insH s.Heights h)) : moveR s h = (⟨0, 0, 0, []⟩, 51) := by rw [moveR, if_neg (by omega), if_neg h1]
theorem station_eq {a b : Station} (h1 : a.ID = b.ID) (h2 : a.X = b.X) (h3 : a.Y = b.Y) (h4 : a.Heights = b.Heights) : a = b := by cases a; cases b; simp_all
/-- the last heights that hold in a week -/
def lastM (week : Int) : Span → List Height → Span
  | d, [] => d
  | d, x :: l => lastM week (if x.Week ≤ week then x.Metres else d) l
/-! ### the station of a number -/
def ofR (l : List Station) (id : Int) : Int × Int := if (checkS l).1 ≠ 0 then (0, (checkS l).1) else match (List.range l.length).find? (fun i => decide ((gt l i).ID = id)) with
  | some i => ((i : Int), 0)
  | none => (0, 50)
theorem ofR_bad {l : List Station} {id : Int} (h : (checkS l).1 ≠ 0) : ofR l id = (0, (checkS l).1) := if_pos h
theorem ofR_yes {l : List Station} {id : Int} {k : Nat} (h : (checkS l).1 = 0) (hk : k < l.length) (ha : ∀ j, j < k → ¬ (gt l j).ID = id) (he : (gt l k).ID = id) : ofR l id = ((k : Int), 0) := by
  have hf : (List.range l.length).find? (fun i => decide ((gt l i).ID = id)) = some k := List.find?_range_eq_some.2 ⟨by simpa using he, List.mem_range.2 hk, fun j hj => by simpa using ha j hj⟩
  rw [ofR, if_neg (by omega), hf]
theorem ofR_no {l : List Station} {id : Int} (h : (checkS l).1 = 0) (ha : ∀ j, j < l.length → ¬ (gt l j).ID = id) : ofR l id = (0, 50) := by
  have hf : (List.range l.length).find? (fun i => decide ((gt l i).ID = id)) = none := List.find?_eq_none.2 fun j hj => by simpa using ha j (List.mem_range.1 hj)
  rw [ofR, if_neg (by omega), hf]
/-! ### the reference's move -/
/-- one more, behind those of the same week -/
def insR : List Height → Height → List Height
  | [], h => [h]
  | x :: l, h => if h.Week < x.Week then h :: x :: l else x :: insR l h
theorem insR_len (h : Height) : ∀ l, (insR l h).length = l.length + 1
  | [] => rfl
  | x :: l => by rw [insR]; split <;> simp [insR_len h l]
theorem insR_end {h : Height} : ∀ {l : List Height}, (∀ y, y ∈ l → ¬ h.Week < y.Week) → insR l h = l ++ [h]
  | [], _ => rfl
  | x :: l, ha => by rw [insR, if_neg (ha x (by simp)), insR_end (fun y hy => ha y (by simp [hy]))]; rfl
theorem insR_put {h x : Height} (hx : h.Week < x.Week) : ∀ {l : List Height}, (∀ y, y ∈ l → ¬ h.Week < y.Week) → insR (l ++ [x]) h = l ++ [h] ++ [x]
  | [], _ => by show insR [x] h = _; rw [insR, if_pos hx]; rfl
  | z :: l, ha => by
    rw [List.cons_append, insR, if_neg (ha z (by simp)), insR_put hx (fun y hy => ha y (by simp [hy]))]; rfl
theorem insR_more {h : Height} (x : Height) : ∀ {l : List Height}, (∃ y, y ∈ l ∧ h.Week < y.Week) → insR (l ++ [x]) h = insR l h ++ [x]
  | [], ⟨_, h1, _⟩ => absurd h1 (List.not_mem_nil)
  | z :: l, ⟨y, h1, h2⟩ => by
    rw [List.cons_append, insR, insR]
    split
    · rfl
    · rename_i hz
      rcases List.mem_cons.1 h1 with rfl | h3
      · exact absurd h2 hz
      · rw [insR_more x ⟨y, h3, h2⟩]; rfl
/-- where no week is the same, both ways to put one in are the same -/
theorem insR_eq {h : Height} : ∀ {l : List Height}, (∀ y, y ∈ l → y.Week ≠ h.Week) → l.Pairwise (fun a b => a.Week < b.Week) → insR l h = insH l h
  | [], _, _ => rfl
  | x :: l, ha, hp => by
    rw [List.pairwise_cons] at hp
    have hx := ha x (by simp)
    rw [insR, insH]
    by_cases h1 : h.Week < x.Week
    · rw [if_pos h1, if_neg (by omega)]
    · rw [if_neg h1, if_pos (by omega), insR_eq (fun y hy => ha y (by simp [hy])) hp.2]
theorem insH_perm (h : Height) : ∀ l, (insH l h).Perm (h :: l)
  | [] => .refl _
  | x :: l => by
    rw [insH]; split
    · exact ((insH_perm h l).cons x).trans (.swap _ _ _)
    · exact .refl _
theorem insR_perm (h : Height) : ∀ l, (insR l h).Perm (h :: l)
  | [] => .refl _
  | x :: l => by
    rw [insR]; split
    · exact .refl _
    · exact ((insR_perm h l).cons x).trans (.swap _ _ _)
theorem high_up {l : List Height} (h : highOk l) : ∀ (t i : Nat), i + t + 1 < l.length → (gt l i).Week < (gt l (i + t + 1)).Week
  | 0, i, hj => by have := (h.2 (i + 1) hj).2.1 (by omega); simpa using this
  | t + 1, i, hj => by
    have h1 := high_up h t i (by omega)
    have h2 := (h.2 (i + (t + 1) + 1) hj).2.1 (by omega)
    rw [show i + (t + 1) + 1 - 1 = i + t + 1 by omega] at h2
    omega
theorem high_pair {l : List Height} (h : highOk l) : l.Pairwise (fun a b => a.Week < b.Week) := by
  rw [List.pairwise_iff_getElem]
  intro i j hi hj hij
  have h1 := high_up h (j - i - 1) i (by omega)
  rw [show i + (j - i - 1) + 1 = j by omega] at h1
  have e : ∀ k (hk : k < l.length), gt l k = l[k] := fun k hk => by
    have := gt_eq hk; rw [List.getElem?_eq_getElem hk] at this; exact (Option.some.inj this).symm
  rw [e i hi, e j hj] at h1; exact h1
theorem week_nodup {l : List Height} (h : highOk l) : (l.map Height.Week).Nodup := by
  rw [List.Nodup, List.pairwise_map]
  exact (high_pair h).imp fun hab => by omega
theorem same_week {l m : List Height} {h y : Height} (hp : m.Perm (h :: l)) (hy : y ∈ l) (he : y.Week = h.Week) : ¬ highOk m := fun hm => by
  have h1 := (hp.map Height.Week).nodup_iff.1 (week_nodup hm)
  rw [List.map_cons, List.nodup_cons] at h1
  exact h1.1 (by rw [← he]; exact List.mem_map_of_mem hy)
theorem move_ref {s : Station} {h : Height} (h0 : oneE s = 0) : (highOk (insR s.Heights h) ↔ highOk (insH s.Heights h)) ∧ (highOk (insH s.Heights h) → insR s.Heights h = insH s.Heights h) := by
  have hp := high_pair (oneE_zero h0).2
  by_cases hs : ∃ y, y ∈ s.Heights ∧ y.Week = h.Week
  · obtain ⟨y, hy, he⟩ := hs
    have h1 := same_week (insR_perm h s.Heights) hy he
    have h2 := same_week (insH_perm h s.Heights) hy he
    exact ⟨⟨fun h3 => absurd h3 h1, fun h3 => absurd h3 h2⟩, fun h3 => absurd h3 h2⟩
  · have he := insR_eq (h := h) (l := s.Heights) (fun y hy hw => hs ⟨y, hy, hw⟩) hp
    rw [he]; exact ⟨Iff.rfl, fun _ => rfl⟩
def insK (l : List Height) (h : Height) (k : Nat) (pb : Bool) : List Height := if pb = true then insR (l.take k) h else l.take k
def putP (l : List Height) (h : Height) (k : Nat) (pb : Bool) : Prop := (pb = false → ∀ y, y ∈ l.take k → ¬ h.Week < y.Week) ∧ (pb = true → ∃ y, y ∈ l.take k ∧ h.Week < y.Week)
theorem take_one {l : List Height} {k : Nat} (hk : k < l.length) : l.take (k + 1) = l.take k ++ [gt l k] := by rw [List.take_add_one, gt_eq hk]; rfl
theorem insK_keep {l : List Height} {h : Height} {k : Nat} {pb : Bool} (hk : k < l.length) (hb : pb = false) (hn : ¬ h.Week < (gt l k).Week) (hp : putP l h k pb) : insK l h k pb ++ [gt l k] = insK l h (k + 1) pb ∧ putP l h (k + 1) pb := by
  subst hb
  refine ⟨by unfold insK; rw [if_neg (by decide), if_neg (by decide), take_one hk], fun _ y hy => ?_, fun h1 => (by cases h1)⟩
  rw [take_one hk] at hy
  rcases List.mem_append.1 hy with h1 | h1
  · exact hp.1 rfl y h1
  · rw [List.mem_singleton.1 h1]; exact hn
theorem insK_put {l : List Height} {h : Height} {k : Nat} {pb : Bool} (hk : k < l.length) (hb : pb = false) (hn : h.Week < (gt l k).Week) (hp : putP l h k pb) : insK l h k pb ++ [h] ++ [gt l k] = insK l h (k + 1) true ∧ putP l h (k + 1) true := by
  subst hb
  refine ⟨?_, fun h1 => (by cases h1), fun _ => ⟨gt l k, by rw [take_one hk]; simp, hn⟩⟩
  unfold insK
  rw [if_neg (by decide), if_pos rfl, take_one hk, insR_put hn (hp.1 rfl)]
theorem insK_more {l : List Height} {h : Height} {k : Nat} {pb : Bool} (hk : k < l.length) (hb : pb = true) (hp : putP l h k pb) : insK l h k pb ++ [gt l k] = insK l h (k + 1) pb ∧ putP l h (k + 1) pb := by
  subst hb
  obtain ⟨y, h1, h2⟩ := hp.2 rfl
  refine ⟨?_, fun h1 => (by cases h1), fun _ => ⟨y, by rw [take_one hk]; simp [h1], h2⟩⟩
  unfold insK
  rw [if_pos rfl, if_pos rfl, take_one hk, insR_more _ ⟨y, h1, h2⟩]
theorem insK_end {l : List Height} {h : Height} {pb : Bool} (hp : putP l h l.length pb) : (pb = true → insK l h l.length pb = insR l h) ∧ (pb = false → insK l h l.length pb ++ [h] = insR l h) := by
  refine ⟨fun hb => ?_, fun hb => ?_⟩
  · subst hb; unfold insK; rw [if_pos rfl, List.take_length]
  · subst hb
    have h1 := hp.1 rfl
    rw [List.take_length] at h1
    unfold insK; rw [if_neg (by decide), List.take_length, insR_end h1]
theorem insK_len (l : List Height) (h : Height) (k : Nat) (pb : Bool) : (insK l h k pb).length ≤ k + 1 := by
  unfold insK; split
  · rw [insR_len, List.length_take]; omega
  · rw [List.length_take]; omega
/-! ### steps -/
/-- the weeks from the second one on, of the first n, in which the heights are other ones -/
def stpN (l : List Height) : Nat → List Int
  | 0 => []
  | n + 1 => if 0 < n ∧ (gt l n).Metres ≠ (gt l (n - 1)).Metres then stpN l n ++ [(gt l n).Week] else stpN l n
theorem stp_yes {l : List Height} {n : Nat} (h0 : 0 < n) (h : ¬ (gt l n).Metres = (gt l (n - 1)).Metres) : stpN l n ++ [(gt l n).Week] = stpN l (n + 1) := by rw [stpN, if_pos ⟨h0, h⟩]
theorem stp_no {l : List Height} {n : Nat} (h : (gt l n).Metres = (gt l (n - 1)).Metres) : stpN l n = stpN l (n + 1) := by rw [stpN, if_neg (fun hn => hn.2 h)]
theorem stp_len (l : List Height) : ∀ n, (stpN l n).length ≤ n
  | 0 => Nat.le_refl _
  | n + 1 => by have := stp_len l n; rw [stpN]; split <;> simp <;> omega
theorem stp_one (l : List Height) : stpN l 1 = [] := by rw [stpN, if_neg (fun h => absurd h.1 (Nat.lt_irrefl _))]; rfl
def stepsR (s : Station) : List Int × Int := if oneE s ≠ 0 then ([], oneE s) else (stpN s.Heights s.Heights.length, 0)
theorem stepsR_bad {s : Station} (h : oneE s ≠ 0) : stepsR s = ([], oneE s) := if_pos h
theorem stepsR_ok {s : Station} (h : oneE s = 0) : stepsR s = (stpN s.Heights s.Heights.length, 0) := by rw [stepsR, if_neg (by omega)]
theorem drop_one (l : List Height) (k : Nat) : gt (l.drop 1) k = gt l (k + 1) := by
  unfold gt; simp only [List.getD_eq_getElem?_getD, List.getElem?_drop]; rw [Nat.add_comm]
theorem stp_yes1 {l : List Height} {k : Nat} (h : ¬ (gt (l.drop 1) k).Metres = (gt l k).Metres) : stpN l (k + 1) ++ [(gt (l.drop 1) k).Week] = stpN l (k + 1 + 1) := by
  rw [drop_one] at h ⊢; exact stp_yes (Nat.succ_pos k) h
theorem stp_no1 {l : List Height} {k : Nat} (h : (gt (l.drop 1) k).Metres = (gt l k).Metres) : stpN l (k + 1) = stpN l (k + 1 + 1) := by
  rw [drop_one] at h; exact stp_no h
end Go.Proofs.S5
