import Derived.Test.YtooomcigmleneaaGreatKxF
/- Kx, part G: the rules that a walk types, in a region in the text's order (WL) and in one that draws (DW); makes; cuts of slices. -/
namespace Go.Kx

section
variable {M : Option Nat} {P : Program} {N : Nat} {ops : Array Oper} {Q : Exit → Act → World → Prop} {B : Base} {m : Mem} {H : List Ent} {σ : Sig} {rest : List Oper}
  {d : Nat} {op : Op} {ty : TypeId} {pos : String} {after : Array Edge} {K : Act → World → Prop}

theorem WL.xe {α : Type} {V : α → Value} {F : α → Prop} (h : E P B m H σ op ty V F) (hd : d < N) (k : ∀ x, F x → WL M P N ops Q B m H ((d, V x) :: σ) rest) :
    WL M P N ops Q B m H σ (⟨some d, op, ty, pos, after, none⟩ :: rest) := by
  obtain ⟨x, h1, h2⟩ := h; exact WL.x h1 hd (k x h2)
theorem WL.cond {p : Prop} [Decidable p] (h : OpX P B m H σ op ty (.bool (decide p))) (hd : d < N) (hy : p → WL M P N ops Q B m H ((d, .bool true) :: σ) rest)
    (hn : ¬ p → WL M P N ops Q B m H ((d, .bool false) :: σ) rest) : WL M P N ops Q B m H σ (⟨some d, op, ty, pos, after, none⟩ :: rest) := by
  refine WL.x h hd ?_
  by_cases hp : p
  · rw [decide_eq_true hp]; exact hy hp
  · rw [decide_eq_false hp]; exact hn hp
theorem WL.condn {p : Prop} [Decidable p] (h : OpX P B m H σ op ty (.bool (decide (¬ p)))) (hd : d < N) (hy : ¬ p → WL M P N ops Q B m H ((d, .bool true) :: σ) rest)
    (hn : p → WL M P N ops Q B m H ((d, .bool false) :: σ) rest) : WL M P N ops Q B m H σ (⟨some d, op, ty, pos, after, none⟩ :: rest) :=
  WL.cond h hd hy (fun h => hn (Decidable.of_not_not h))
theorem WL.condb {b : Bool} (h : OpX P B m H σ op ty (.bool b)) (hd : d < N) (hy : b = true → WL M P N ops Q B m H ((d, .bool true) :: σ) rest)
    (hn : b = false → WL M P N ops Q B m H ((d, .bool false) :: σ) rest) : WL M P N ops Q B m H σ (⟨some d, op, ty, pos, after, none⟩ :: rest) := by
  refine WL.x h hd ?_
  cases b
  · exact hn rfl
  · exact hy rfl
theorem WL.tm {R : Mem → Value → Prop} (h : OpTo P B m H σ op ty (fun v m' H' => H' = H ∧ m.le m' ∧ R m' v)) (hd : d < N)
    (k : ∀ m' v, m.le m' → R m' v → WL M P N ops Q B m' H ((d, v) :: σ) rest) : WL M P N ops Q B m H σ (⟨some d, op, ty, pos, after, none⟩ :: rest) :=
  WL.to h hd fun v m' H' ⟨h1, h2, h3⟩ => by subst h1; exact k m' v h2 h3
theorem WL.tn {t : TypeId} {cs : List Value} (h : OpTo P B m H σ op ty (fun u m' H' => m' = m ∧ ∃ b, u = .pointer (some ⟨b, 0, none⟩) ∧ H' = blk b t cs :: H)) (hd : d < N)
    (k : ∀ b, WL M P N ops Q B m (blk b t cs :: H) ((d, .pointer (some ⟨b, 0, none⟩)) :: σ) rest) : WL M P N ops Q B m H σ (⟨some d, op, ty, pos, after, none⟩ :: rest) :=
  WL.to h hd fun v m' H' ⟨h1, b, h2, h3⟩ => by subst h1; subst h2; subst h3; exact k b
theorem WL.tl {t : TypeId} {cs : List Value} (h : OpTo P B m H σ op ty (fun u m' H' => m' = m ∧ ∃ b, u = .slice (some ⟨b, 0, none⟩) 1 1 ∧ H' = blk b t cs :: H)) (hd : d < N)
    (k : ∀ b, WL M P N ops Q B m (blk b t cs :: H) ((d, .slice (some ⟨b, 0, none⟩) 1 1) :: σ) rest) : WL M P N ops Q B m H σ (⟨some d, op, ty, pos, after, none⟩ :: rest) :=
  WL.to h hd fun v m' H' ⟨h1, b, h2, h3⟩ => by subst h1; subst h2; subst h3; exact k b
theorem WL.ts {H1 : List Ent} (h : OpTo P B m H σ op ty (fun _ m' H' => m' = m ∧ H' = H1)) (k : WL M P N ops Q B m H1 σ rest) : WL M P N ops Q B m H σ (⟨none, op, ty, pos, after, none⟩ :: rest) :=
  WL.to0 h fun v m' H' ⟨h1, h2⟩ => by subst h1; subst h2; exact k
theorem WL.ta {F : Value → List Ent} (h : OpTo P B m H σ op ty (fun v m' H' => m' = m ∧ H' = F v)) (hd : d < N) (k : ∀ v, WL M P N ops Q B m (F v) ((d, v) :: σ) rest) :
    WL M P N ops Q B m H σ (⟨some d, op, ty, pos, after, none⟩ :: rest) :=
  WL.to h hd fun v m' H' ⟨h1, h2⟩ => by subst h1; subst h2; exact k v
theorem WL.tM {R : Mem → List Ent → Value → Prop} {H1 : List Ent} (h : OpTo P B m H σ op ty (fun v m' H' => m.le m' ∧ ∃ Es, R m' Es v ∧ H' = Es ++ H1)) (hd : d < N)
    (k : ∀ m' Es v, m.le m' → R m' Es v → WL M P N ops Q B m' (Es ++ H1) ((d, v) :: σ) rest) : WL M P N ops Q B m H σ (⟨some d, op, ty, pos, after, none⟩ :: rest) :=
  WL.to h hd fun v m' H' ⟨h1, Es, h2, h3⟩ => by subst h3; exact k m' Es v h1 h2

/-! the same where the order is open -/
variable {i : Nat} {must : Bool} {π : Plan} {piv non : List Nat} {KK : Mem → List Ent → Sig → Prop} {g : Option (Nat × Bool)}

theorem DW.x {V : Value} (ho : ops[i]? = some ⟨some d, op, ty, pos, after, g⟩) (hg : gOk ops σ ⟨some d, op, ty, pos, after, g⟩ = some true) (h : OpX P B m H σ op ty V) (hd : d < N)
    (k : DW P B N ops piv non KK false π m H ((d, V) :: σ)) (hnp : piv.contains i = false := by rfl) (hfr : non.contains (i + 100000) = true → ∀ m' H', m.le m' → OpX P B m' H' σ op ty V := by exact fun h => absurd h (by decide)) : DW P B N ops piv non KK false (.cons i π) m H σ :=
  ⟨_, ho, fun e he => by cases he; exact hd, .inr (.inl ⟨rfl, hg, hnp, V, h, hfr, k⟩)⟩
theorem DW.no (ho : ops[i]? = some ⟨some d, op, ty, pos, after, g⟩) (hg : gOk ops σ ⟨some d, op, ty, pos, after, g⟩ = some false) (hd : d < N)
    (k : DW P B N ops piv non KK false π m H ((d, undef) :: σ)) : DW P B N ops piv non KK false (.cons i π) m H σ :=
  ⟨_, ho, fun e he => by cases he; exact hd, .inl ⟨rfl, hg, k⟩⟩
theorem DW.xe {α : Type} {V : α → Value} {F : α → Prop} (ho : ops[i]? = some ⟨some d, op, ty, pos, after, g⟩) (hg : gOk ops σ ⟨some d, op, ty, pos, after, g⟩ = some true) (h : E P B m H σ op ty V F) (hd : d < N)
    (k : ∀ x, F x → DW P B N ops piv non KK false π m H ((d, V x) :: σ)) (hnp : piv.contains i = false := by rfl) (hfr : non.contains (i + 100000) = false := by rfl) : DW P B N ops piv non KK false (.cons i π) m H σ := by
  obtain ⟨x, h1, h2⟩ := h; exact DW.x ho hg h1 hd (k x h2) hnp (fun h => by rw [hfr] at h; cases h)
theorem DW.cond {p : Prop} [Decidable p] (ho : ops[i]? = some ⟨some d, op, ty, pos, after, g⟩) (hg : gOk ops σ ⟨some d, op, ty, pos, after, g⟩ = some true) (h : OpX P B m H σ op ty (.bool (decide p))) (hd : d < N)
    (hy : p → DW P B N ops piv non KK false π m H ((d, .bool true) :: σ)) (hn : ¬ p → DW P B N ops piv non KK false π m H ((d, .bool false) :: σ)) (hnp : piv.contains i = false := by rfl) (hfr : non.contains (i + 100000) = false := by rfl) : DW P B N ops piv non KK false (.cons i π) m H σ := by
  refine DW.x ho hg h hd ?_ hnp (fun h => by rw [hfr] at h; cases h)
  by_cases hp : p
  · rw [decide_eq_true hp]; exact hy hp
  · rw [decide_eq_false hp]; exact hn hp
theorem DW.condn {p : Prop} [Decidable p] (ho : ops[i]? = some ⟨some d, op, ty, pos, after, g⟩) (hg : gOk ops σ ⟨some d, op, ty, pos, after, g⟩ = some true) (h : OpX P B m H σ op ty (.bool (decide (¬ p)))) (hd : d < N)
    (hy : ¬ p → DW P B N ops piv non KK false π m H ((d, .bool true) :: σ)) (hn : p → DW P B N ops piv non KK false π m H ((d, .bool false) :: σ)) (hnp : piv.contains i = false := by rfl) (hfr : non.contains (i + 100000) = false := by rfl) : DW P B N ops piv non KK false (.cons i π) m H σ :=
  DW.cond ho hg h hd hy (fun h => hn (Decidable.of_not_not h)) hnp hfr
theorem DW.condb {b : Bool} (ho : ops[i]? = some ⟨some d, op, ty, pos, after, g⟩) (hg : gOk ops σ ⟨some d, op, ty, pos, after, g⟩ = some true) (h : OpX P B m H σ op ty (.bool b)) (hd : d < N)
    (hy : b = true → DW P B N ops piv non KK false π m H ((d, .bool true) :: σ)) (hn : b = false → DW P B N ops piv non KK false π m H ((d, .bool false) :: σ)) (hnp : piv.contains i = false := by rfl) (hfr : non.contains (i + 100000) = false := by rfl) : DW P B N ops piv non KK false (.cons i π) m H σ := by
  refine DW.x ho hg h hd ?_ hnp (fun h => by rw [hfr] at h; cases h)
  cases b
  · exact hn rfl
  · exact hy rfl
theorem DW.to {T : Value → Mem → List Ent → Prop} (ho : ops[i]? = some ⟨some d, op, ty, pos, after, g⟩) (hp : piv.contains i = true) (hg : gOk ops σ ⟨some d, op, ty, pos, after, g⟩ = some true) (h : OpTo P B m H σ op ty T) (hd : d < N)
    (hm : non.contains i = false → ∀ v m' H', T v m' H' → m.le m' ∧ H.Sublist H') (hl : ∀ v m' H', T v m' H' → m.le m')
    (k : ∀ v m' H', T v m' H' → DW P B N ops piv non KK false π m' H' ((d, v) :: σ)) : DW P B N ops piv non KK must (.cons i π) m H σ :=
  ⟨_, ho, fun e he => by cases he; exact hd, .inr (.inr ⟨hp, hg, T, h, hm, hl, k⟩)⟩
theorem DW.tm {R : Mem → Value → Prop} (ho : ops[i]? = some ⟨some d, op, ty, pos, after, g⟩) (hp : piv.contains i = true) (hg : gOk ops σ ⟨some d, op, ty, pos, after, g⟩ = some true)
    (h : OpTo P B m H σ op ty (fun v m' H' => H' = H ∧ m.le m' ∧ R m' v)) (hd : d < N)
    (k : ∀ m' v, m.le m' → R m' v → DW P B N ops piv non KK false π m' H ((d, v) :: σ)) : DW P B N ops piv non KK must (.cons i π) m H σ :=
  DW.to ho hp hg h hd (fun _ v m' H' ⟨h1, h2, _⟩ => by subst h1; exact ⟨h2, List.Sublist.refl _⟩) (fun _ _ _ h => h.2.1) fun v m' H' ⟨h1, h2, h3⟩ => by subst h1; exact k m' v h2 h3
theorem DW.tn {t : TypeId} {cs : List Value} (ho : ops[i]? = some ⟨some d, op, ty, pos, after, g⟩) (hp : piv.contains i = true) (hg : gOk ops σ ⟨some d, op, ty, pos, after, g⟩ = some true)
    (h : OpTo P B m H σ op ty (fun u m' H' => m' = m ∧ ∃ b, u = .pointer (some ⟨b, 0, none⟩) ∧ H' = blk b t cs :: H)) (hd : d < N)
    (k : ∀ b, DW P B N ops piv non KK false π m (blk b t cs :: H) ((d, .pointer (some ⟨b, 0, none⟩)) :: σ)) : DW P B N ops piv non KK must (.cons i π) m H σ :=
  DW.to ho hp hg h hd (fun _ v m' H' ⟨h1, b, _, h3⟩ => by subst h1; subst h3; exact ⟨Mem.le_refl _, List.sublist_cons_self _ _⟩) (fun _ _ _ h => by rw [h.1]; exact Mem.le_refl _) fun v m' H' ⟨h1, b, h2, h3⟩ => by subst h1; subst h2; subst h3; exact k b
theorem DW.tl {t : TypeId} {cs : List Value} (ho : ops[i]? = some ⟨some d, op, ty, pos, after, g⟩) (hp : piv.contains i = true) (hg : gOk ops σ ⟨some d, op, ty, pos, after, g⟩ = some true)
    (h : OpTo P B m H σ op ty (fun u m' H' => m' = m ∧ ∃ b, u = .slice (some ⟨b, 0, none⟩) 1 1 ∧ H' = blk b t cs :: H)) (hd : d < N)
    (k : ∀ b, DW P B N ops piv non KK false π m (blk b t cs :: H) ((d, .slice (some ⟨b, 0, none⟩) 1 1) :: σ)) : DW P B N ops piv non KK must (.cons i π) m H σ :=
  DW.to ho hp hg h hd (fun _ v m' H' ⟨h1, b, _, h3⟩ => by subst h1; subst h3; exact ⟨Mem.le_refl _, List.sublist_cons_self _ _⟩) (fun _ _ _ h => by rw [h.1]; exact Mem.le_refl _) fun v m' H' ⟨h1, b, h2, h3⟩ => by subst h1; subst h2; subst h3; exact k b
theorem DW.ts {H1 : List Ent} (ho : ops[i]? = some ⟨none, op, ty, pos, after, g⟩) (hp : piv.contains i = true) (hn : non.contains i = true) (hg : gOk ops σ ⟨none, op, ty, pos, after, g⟩ = some true)
    (h : OpTo P B m H σ op ty (fun _ m' H' => m' = m ∧ H' = H1)) (k : DW P B N ops piv non KK false π m H1 σ) : DW P B N ops piv non KK must (.cons i π) m H σ :=
  ⟨_, ho, (fun e he => by cases he), .inr (.inr ⟨hp, hg, _, h, (fun h' => by rw [hn] at h'; cases h'), (fun _ _ _ h => by rw [h.1]; exact Mem.le_refl _), fun v m' H' ⟨h1, h2⟩ => by subst h1; subst h2; exact k⟩)⟩
theorem DW.ta {F : Value → List Ent} (ho : ops[i]? = some ⟨some d, op, ty, pos, after, g⟩) (hp : piv.contains i = true) (hn : non.contains i = true) (hg : gOk ops σ ⟨some d, op, ty, pos, after, g⟩ = some true)
    (h : OpTo P B m H σ op ty (fun v m' H' => m' = m ∧ H' = F v)) (hd : d < N) (k : ∀ v, DW P B N ops piv non KK false π m (F v) ((d, v) :: σ)) : DW P B N ops piv non KK must (.cons i π) m H σ :=
  DW.to ho hp hg h hd (fun h' => by rw [hn] at h'; cases h') (fun _ _ _ h => by rw [h.1]; exact Mem.le_refl _) fun v m' H' ⟨h1, h2⟩ => by subst h1; subst h2; exact k v
theorem DW.tM {R : Mem → List Ent → Value → Prop} {H1 : List Ent} (ho : ops[i]? = some ⟨some d, op, ty, pos, after, g⟩) (hp : piv.contains i = true) (hn : non.contains i = true) (hg : gOk ops σ ⟨some d, op, ty, pos, after, g⟩ = some true)
    (h : OpTo P B m H σ op ty (fun v m' H' => m.le m' ∧ ∃ Es, R m' Es v ∧ H' = Es ++ H1)) (hd : d < N)
    (k : ∀ m' Es v, m.le m' → R m' Es v → DW P B N ops piv non KK false π m' (Es ++ H1) ((d, v) :: σ)) : DW P B N ops piv non KK must (.cons i π) m H σ :=
  DW.to ho hp hg h hd (fun h' => by rw [hn] at h'; cases h') (fun _ _ _ h => h.1) fun v m' H' ⟨h1, Es, h2, h3⟩ => by subst h3; exact k m' Es v h1 h2

theorem DW.fork {p q : Plan} (h0 : p.heads ≠ []) (h1 : DW P B N ops piv non KK true p m H σ) (h2 : DW P B N ops piv non KK true q m H σ) : DW P B N ops piv non KK must (.fork p q) m H σ := ⟨h0, h1, h2⟩

theorem WC.cut {x y : Code} {G : Type} (mG : G → Mem) (HG : G → List Ent) (σG : G → Sig) (F : G → Prop)
    (h1 : WC M P N (Exit.then (fun a w => ∃ g' Ds', F g' ∧ St B (mG g') (HG g' ++ marks Ds') w ∧ Env N Ds' (σG g') a) Q) B m H σ x)
    (h2 : ∀ g, F g → WC M P N Q B (mG g) (HG g) (σG g) y) : WC M P N Q B m H σ (.seq x y) :=
  fun Ds w hw a ha => wpIn_seq (wpIn_mono (h1 Ds w hw a ha) fun e a w hq => by
    cases e with
    | normal => obtain ⟨g', Ds', hF, hs, he⟩ := hq; exact h2 g' hF Ds' w hs a he
    | _ => exact hq)
theorem WK.meet {G : Type} {mG : G → Mem} {HG : G → List Ent} {σG : G → Sig} {F : G → Prop} (g' : G) (hm : m = mG g') (hH : (HG g').Sublist H) (hσ : Sub (σG g') σ) (hF : F g') :
    WK N B m H σ fun a w => ∃ g' Ds', F g' ∧ St B (mG g') (HG g' ++ marks Ds') w ∧ Env N Ds' (σG g') a :=
  fun Ds _ hw _ ha => ⟨g', Ds, hF, hm ▸ hw.weaken (hH.append_right _), ha.weaken hσ⟩

/-! leaving code -/
theorem WK.nThen (h : WK N B m H σ K) : WK N B m H σ (Exit.then K Q .normal) := h
theorem WK.nBlock {id : Nat} (h : WK N B m H σ (Q .normal)) : WK N B m H σ (Exit.inBlock id Q .normal) := h
theorem WK.eThen {j : Nat} (h : WK N B m H σ (Q (.exit j))) : WK N B m H σ (Exit.then K Q (.exit j)) := h
theorem WK.eHit {j : Nat} (h : WK N B m H σ (Q .normal)) : WK N B m H σ (Exit.inBlock j Q (.exit j)) := by
  intro Ds w hw a ha; simp only [Exit.inBlock, if_true]; exact h Ds w hw a ha
theorem WK.eMiss {j i : Nat} (hij : Nat.beq j i = false) (h : WK N B m H σ (Q (.exit j))) : WK N B m H σ (Exit.inBlock i Q (.exit j)) := by
  intro Ds w hw a ha
  have hne : j ≠ i := fun e => by subst e; simp at hij
  simp only [Exit.inBlock, hne, if_false]; exact h Ds w hw a ha
theorem WK.rThen (h : WK N B m H σ (Q .ret)) : WK N B m H σ (Exit.then K Q .ret) := h
theorem WK.rBlock {id : Nat} (h : WK N B m H σ (Q .ret)) : WK N B m H σ (Exit.inBlock id Q .ret) := h

theorem WC.scope {c : Code} (h : WC none P N (Exit.noGoto Q) B m H σ c) : WC none P N Q B m H σ (.scope c) := fun Ds w hw a ha => wpIn_wide.2 (wp_scope_straight (wpIn_wide.1 (h Ds w hw a ha)))
theorem WK.rScope (h : WK N B m H σ (Q .ret)) : WK N B m H σ (Exit.noGoto Q .ret) := h

theorem Cells.part {m : Mem} {p : Addr} {vs us : List Value} (h : Cells m p vs) (k : Nat) (hs : ∀ j v, us[j]? = some v → vs[k + j]? = some v) : Cells m (p.add k) us := by
  obtain ⟨h0, cs, T', fz, h1, h2⟩ := h
  rw [Addr.add_plain h0]
  exact ⟨rfl, cs, T', fz, h1, fun j v hv => by have := h2 (k + j) v (hs j v hv); simpa [Nat.add_assoc] using this⟩

/-! how a call begins -/
def num : Nat → List Value → Sig
  | _, [] => []
  | i, v :: l => (i, v) :: num (i + 1) l
theorem num_get : ∀ (l : List Value) (i t : Nat) (v : Value), lk (num i l) t = some v → i ≤ t ∧ l[t - i]? = some v
  | [], i, t, v, h => by simp [num, lk] at h
  | u :: l, i, t, v, h => by
    by_cases e : i = t
    · subst e; simp only [num] at h; rw [lk_cons_eq] at h; simpa using h
    · simp only [num] at h
      rw [lk_cons_ne _ _ e] at h
      obtain ⟨h1, h2⟩ := num_get l (i + 1) t v h
      refine ⟨by omega, ?_⟩
      rw [show t - i = (t - (i + 1)) + 1 by omega]; simpa using h2
theorem Calls.start {f : FuncId} {fn : Func} {c : Code} {args : List Value} {w : World} {R : Ending → World → Prop} {H0 : List Ent}
    (hf : P.funcs[f]? = some fn) (hb : fn.body = some c) (hN : fn.ntmps = N) (hs : St B m H0 w) (hsz : Nat.ble args.length N = true)
    (h : WC none P N (bodyPost P fn R) B m H0 (num 0 args) c) : Calls P f args.toArray w R :=
  Calls.enter hf hb hN hs (fun t v hv => by simpa using (num_get args 0 t v hv).2) (by simpa using Nat.le_of_ble_eq_true hsz) h
theorem Exact.start {f : FuncId} {fn : Func} {c : Code} {args : List Value} {v : Value} (hf : P.funcs[f]? = some fn) (hb : fn.body = some c) (hN : fn.ntmps = N) (hsz : Nat.ble args.length N = true)
    (h : ∀ w, WC none P N (bodyPost P fn (Ret ⟨w, [], m⟩ fun _ _ v' => v' = v)) ⟨w, [], m⟩ m [] (num 0 args) c) : Exact P f args.toArray m v :=
  fun w hw => Calls.start hf hb hN (St.start w m hw) hsz (h w)
theorem Pure.start {f : FuncId} {fn : Func} {c : Code} {args : List Value} {R : Mem → Value → Prop} (hf : P.funcs[f]? = some fn) (hb : fn.body = some c) (hN : fn.ntmps = N) (hsz : Nat.ble args.length N = true)
    (h : ∀ w, WC none P N (bodyPost P fn (Ret ⟨w, [], m⟩ fun m' _ v' => R m' v')) ⟨w, [], m⟩ m [] (num 0 args) c) : Pure P f args.toArray m R :=
  fun w hw => Calls.start hf hb hN (St.start w m hw) hsz (h w)
theorem Mut.start {f : FuncId} {fn : Func} {c : Code} {args : List Value} {Es : List Ent} {R : Mem → List Ent → Value → Prop} (hf : P.funcs[f]? = some fn) (hb : fn.body = some c) (hN : fn.ntmps = N) (hsz : Nat.ble args.length N = true)
    (h : ∀ w, WC none P N (bodyPost P fn (Ret ⟨w, idsOf Es, m⟩ R)) ⟨w, idsOf Es, m⟩ m Es (num 0 args) c) : Mut P f args.toArray m Es R :=
  fun w hw => Calls.start hf hb hN hw hsz (h w)

/-! how a call ends -/
theorem Ret.exact {w : World} {m m' : Mem} {H' : List Ent} {w' : World} {v u : Value} (hs : St ⟨w, [], m⟩ m' H' w') (hv : v = u) : Ret ⟨w, [], m⟩ (fun _ _ v' => v' = u) (.returned v) w' :=
  ⟨v, m', H', rfl, hs, hv⟩
theorem Ret.mem {w : World} {m m' : Mem} {H' : List Ent} {w' : World} {v : Value} {R : Mem → Value → Prop} (hs : St ⟨w, [], m⟩ m' H' w') (hv : R m' v) : Ret ⟨w, [], m⟩ (fun m' _ v' => R m' v') (.returned v) w' :=
  ⟨v, m', H', rfl, hs, hv⟩
theorem Ret.mut {B : Base} {m' : Mem} {H' : List Ent} {w' : World} {v : Value} {R : Mem → List Ent → Value → Prop} (hs : St B m' H' w') (hv : R m' H' v) : Ret B R (.returned v) w' :=
  ⟨v, m', H', rfl, hs, hv⟩
end
end Go.Kx
