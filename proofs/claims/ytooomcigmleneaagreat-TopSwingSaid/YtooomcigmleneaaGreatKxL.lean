import Derived.Test.YtooomcigmleneaaGreatKxK
/- Kx, part L: ranges over functions. -/
namespace Go.Kx

theorem St.turn {B : Base} {m : Mem} {H R : List Ent} {b : Nat} {o o' : Obj} {w : World} (h : St B m (H ++ objE b o :: R) w) : St B m (H ++ objE b o' :: R) (w.putObj b o') := by
  have hb : w.heap[b]? = some o := h.own (objE b o) (by simp)
  have hlt : b < w.heap.size := (Array.getElem?_eq_some_iff.1 hb).1
  have hperm : ∀ x : Obj, ([objE b x] ++ (H ++ R)).Perm (H ++ objE b x :: R) := fun x => by simpa using List.perm_middle.symm
  have h1 := h.perm (hperm o)
  have hin : St ⟨w, idsOf [objE b o], m⟩ m [objE b o'] (w.putObj b o') := by
    refine ⟨rfl, rfl, rfl, by simp, ?_, ?_, Mem.le_refl _, fun _ _ => rfl, ?_, ?_, ?_, by simp [idsOf, objE]⟩
    · intro c _ hc; exact World.putObj_heap_other (by simpa [idsOf, objE] using hc)
    · intro c x hc
      rw [World.putObj_heap_other (fun e => by
        have := h1.avoid b (by simp [idsOf, objE])
        rw [← e, hc] at this; cases this)]
      exact h.sub c x hc
    · intro e he; simp at he; subst he; exact World.putObj_heap_same hlt
    · intro c hc; exact .inl (by simpa [idsOf, objE] using hc)
    · intro c hc
      have : c = b := by simpa [idsOf, objE] using hc
      subst this; exact h1.avoid c (by simp [idsOf, objE])
  exact (h1.handed hin).perm (hperm o').symm
theorem St.laid {B : Base} {m : Mem} {H : List Ent} {w : World} (h : St B m H w) (o : Obj) : St B m (objE w.heap.size o :: H) (w.alloc o) :=
  h.push (Ext.alloc w _) (objE w.heap.size o) (by show (w.heap.push _)[_]? = _; simp) (by simp [objE]) (by simp [objE])

def YieldOk (P : Program) (l : Nat) (args : Array Value) (m : Mem) (Hs : List Ent) (T F : Mem → List Ent → Prop) : Prop :=
  ∀ (B : Base) (w : World), St B m Hs w → ∃ fn tmps assign body, (Instr.yield l args).run P w = .ok (.round l fn tmps assign body) w ∧
    RoundIn Fence.wide 0 P l fn tmps assign body w (fun e w' => (e = .returned (.bool true) ∧ ∃ m' H', T m' H' ∧ St B m' H' w') ∨ (e = .returned (.bool false) ∧ ∃ m' H', F m' H' ∧ St B m' H' w'))

theorem round_fen (M : Option Nat) {n : Nat} {P : Program} {l : Nat} {f : FuncId} {tmps : Array Value} {assign body : Code} {w : World} {R : Ending → World → Prop}
    (h : RoundIn Fence.wide n P l f tmps assign body w R) : RoundIn (fen M) n P l f tmps assign body w R := by cases M <;> exact h

def Iter (P : Program) (g : FuncId) (lb : List Value) (m : Mem) (once : Bool) (n : Nat) (A : Nat → Mem → Array Value → Prop) : Prop :=
  ∀ (l : Nat) (S : Type) (HS : S → List Ent) (I Ix : Nat → Mem → S → Prop) (s0 : S), (once = true → ∀ i m' s, ¬ I (i + 1) m' s) → (∀ i m1 m2 s, m1.le m2 → I i m1 s → I i m2 s) →
    (∀ i m1 s args, i < n → m.le m1 → A i m1 args → I i m1 s → YieldOk P l args m1 (HS s) (fun m' H' => m1.le m' ∧ ∃ s', H' = HS s' ∧ I (i + 1) m' s') (fun m' H' => m1.le m' ∧ ∃ s', H' = HS s' ∧ Ix (i + 1) m' s')) →
    I 0 m s0 → Mut P g (Value.func (.yield l) #[] #[] :: lb).toArray m (HS s0) (fun m' Es _ => ∃ s, Es = HS s ∧ (I n m' s ∨ ∃ i, i ≤ n ∧ Ix i m' s))

section
variable {M : Option Nat} {P : Program} {N : Nat} {ops : Array Oper} {Q : Exit → Act → World → Prop} {B : Base} {m : Mem} {H : List Ent} {σ : Sig} {rest : List Oper}
  {d : Nat} {op : Op} {ty : TypeId} {pos : String} {after : Array Edge} {K : Act → World → Prop}

theorem yield_run {l : Nat} {x : Operand} {ls : List Operand} {ts : Array TypeId} {vs : List Value} (hx : ev σ x = some (.func (.yield l) #[] #[])) (hl : evs σ ls = some vs) (w : World) (o : Oper)
    (ho : o.op = .call (Call.mk (.value x) ls.toArray ts)) : (execOp (evd σ) o).run P w = (Instr.yield l vs.toArray).run P w := by
  have h1 := (evs_map hl).1
  simp [execOp, ho, resolve, Deferred.ofValue, evd_eq hx, invoke]
  rw [show ls.map (fun x => evd σ x) = vs from h1]
theorem T.yield {l : Nat} {x : Operand} {ls : List Operand} {ts : Array TypeId} {vs : List Value} {Hs : List Ent} {T F : Mem → List Ent → Prop} (A : List Ent) (hx : ev σ x = some (.func (.yield l) #[] #[])) (hl : evs σ ls = some vs)
    (hH : H = A ++ Hs) (hy : YieldOk P l vs.toArray m Hs T F) :
    OpTo P B m H σ (.call (Call.mk (.value x) ls.toArray ts)) ty (fun v m' H'' => ∃ H', H'' = A ++ H' ∧ ((v = .bool true ∧ T m' H') ∨ (v = .bool false ∧ F m' H'))) :=
  ⟨trivial, defdc hx hl, fun M B w hw o a next Q ho ht k => by
    subst hH
    rw [yield_run hx hl w o ho]
    have hp : (Hs ++ A).Perm (A ++ Hs) := List.perm_append_comm
    have hw' := hw.perm hp
    obtain ⟨fn, tmps, assign, body, h1, h2⟩ := hy _ w hw'.part
    rw [h1]
    refine ⟨by simp [fen_depth], round_fen M (h2.mono fun e w' h => ?_)⟩
    rcases h with ⟨rfl, m', H', hT, hs⟩ | ⟨rfl, m', H', hF, hs⟩
    · exact k (.bool true) m' _ w' ⟨H', rfl, .inl ⟨rfl, hT⟩⟩ ((hw'.handed hs).perm List.perm_append_comm)
    · exact k (.bool false) m' _ w' ⟨H', rfl, .inr ⟨rfl, hF⟩⟩ ((hw'.handed hs).perm List.perm_append_comm)⟩
theorem WL.tY {A : List Ent} {T F : Mem → List Ent → Prop} (h : OpTo P B m H σ op ty (fun v m' H'' => ∃ H', H'' = A ++ H' ∧ ((v = .bool true ∧ T m' H') ∨ (v = .bool false ∧ F m' H')))) (hd : d < N)
    (kt : ∀ m' H', T m' H' → WL M P N ops Q B m' (A ++ H') ((d, .bool true) :: σ) rest) (kf : ∀ m' H', F m' H' → WL M P N ops Q B m' (A ++ H') ((d, .bool false) :: σ) rest) :
    WL M P N ops Q B m H σ (⟨some d, op, ty, pos, after, none⟩ :: rest) :=
  WL.to h hd fun v m' H'' ⟨H', hH, hv⟩ => by
    subst hH
    rcases hv with ⟨rfl, hT⟩ | ⟨rfl, hF⟩
    · exact kt m' H' hT
    · exact kf m' H' hF

theorem T.makeN {α : Type} [Flat α] {x y : Operand} {t e : TypeId} {bytes : Nat} {z : Value} (n : Nat) {a : α} (hS : SlT P t e (Flat.n α) bytes z) (hz : z.cells.toList = Flat.enc a)
    (hx : ev σ x = some (.int .i64 (n : Int))) (hy : ev σ y = some (.int .i64 (n : Int))) (hb : (bytes : Int) * n ≤ 140737488355328) (hby : 0 < bytes) :
    OpTo P B m H σ (.makeSlice t x y) ty (fun v m' H' => m' = m ∧ H' = rowF v e (List.replicate n a) :: H) :=
  T.make hS hz hx hy (by omega) hb hby

theorem X.loadV {x : Operand} {t : TypeId} {p : Addr} {v : Value} (ha : ∀ w, (isAgg t).run P w = .ok false w) (hx : ev σ x = some (.pointer (some p))) (hp : Cells m p [v]) :
    OpX P B m H σ (.load t x) ty v :=
  .ofRun trivial (defd1 rfl hx) fun w hw o ho _ => by
    simp [execOp, ho, evd_eq hx, Instr.loadAt, Instr.sureAddr, loadVar, ha, hp.cell0 hw.sub]

def RPost (B : Base) {S : Type} (m1 : Mem) (HS : S → List Ent) (I : Mem → S → Prop) (Ix : Exit → Mem → S → Prop) : Exit → Act → World → Prop
  | .normal, _, w => ∃ m' s, m1.le m' ∧ I m' s ∧ St B m' (HS s) w
  | .ret, _, w => ∃ m' s, m1.le m' ∧ Ix .ret m' s ∧ St B m' (HS s) w
  | .exit id, _, w => ∃ m' s, m1.le m' ∧ Ix (.exit id) m' s ∧ St B m' (HS s) w
  | _, _, _ => False
theorem WK.goOn {S : Type} {m1 : Mem} {HS : S → List Ent} {I : Mem → S → Prop} {Ix : Exit → Mem → S → Prop} (s : S) (hm : m1.le m) (hH : (HS s).Sublist H) (hI : I m s) : WK N B m H σ (RPost B m1 HS I Ix .normal) :=
  fun _ _ hw _ _ => ⟨m, s, hm, hI, hw.weaken (hH.trans (List.sublist_append_left _ _))⟩
def codeOf : Exit → Code
  | .ret => .ret
  | .exit id => .exit id
  | _ => .skip

theorem put_all (ps : List Nat) (args : List Value) : ∀ (t : Array Value) (σ : Sig), (∀ u v, lk σ u = some v → t[u]? = some v) → (∀ p ∈ ps, p < t.size) → ps.length = args.length →
    let t' := (ps.zip args).foldl (fun t (p : Nat × Value) => t.setIfInBounds p.1 p.2) t
    t'.size = t.size ∧ ∀ u v, lk ((ps.zip args).reverse ++ σ) u = some v → t'[u]? = some v := by
  induction ps generalizing args with
  | nil => intro t σ h _ hl; cases args with
    | nil => exact ⟨rfl, h⟩
    | cons => simp at hl
  | cons p ps ih =>
    intro t σ h hp hl
    cases args with
    | nil => simp at hl
    | cons x xs =>
      have h1 : ∀ u v, lk ((p, x) :: σ) u = some v → (t.setIfInBounds p x)[u]? = some v := by
        intro u v hu
        by_cases e : p = u
        · subst e; rw [lk_cons_eq] at hu; cases hu; simp [hp p (List.mem_cons_self ..)]
        · rw [lk_cons_ne _ _ e] at hu; rw [Array.getElem?_setIfInBounds_ne e]; exact h u v hu
      obtain ⟨h2, h3⟩ := ih xs (t.setIfInBounds p x) ((p, x) :: σ) h1 (fun q hq => by simpa using hp q (List.mem_cons_of_mem _ hq)) (by simpa using hl)
      refine ⟨by simpa using h2, fun u v hu => ?_⟩
      refine h3 u v ?_
      simpa using hu

theorem WC.rangeFunc {g : Operand} {ps : List Nat} {assign body : Code} {gf : Nat} {lb : List Value} {n : Nat} {A : Nat → Mem → Array Value → Prop}
    (hg : ev σ g = some (.func (.func gf) #[] lb.toArray)) (eg : Enters P gf) {once : Bool} (hit : Iter P gf lb m once n A)
    {S G : Type} (HS : S → List Ent) (I : Nat → Mem → S → Prop) (Ix : Exit → Nat → Mem → S → Prop) (s0 : S) (hH : HS s0 = H) (h0 : I 0 m s0) (hone : once = true → ∀ i m' s, ¬ I (i + 1) m' s) (hmono : ∀ i m1 m2 s, m1.le m2 → I i m1 s → I i m2 s)
    (hps : ∀ p ∈ ps, p < N) (hA : ∀ i m1 args, A i m1 args → args.size = ps.length)
    (HA : G → S → List Ent) (σA : G → List Value → Sig)
    (hassign : ∀ l B' m1 s args (K : Act → World → Prop), args.length = ps.length → (∀ g, WK N B' m1 (HA g s) (σA g args) K) → WC (some l) P N (Exit.then K (fun _ _ _ => False)) B' m1 (HS s) ((ps.zip args).reverse ++ σ) assign)
    (hbody : ∀ l B' i m1 s args g, args.length = ps.length → i < n → m.le m1 → A i m1 args.toArray → I i m1 s → WC (some l) P N (RPost B' m1 HS (I (i + 1)) (fun e => Ix e (i + 1))) B' m1 (HA g s) (σA g args) body)
    (hdone : ∀ m' s, m.le m' → I n m' s → WK N B m' (HS s) σ (Q .normal))
    (hret : ∀ i m' s, m.le m' → i ≤ n → Ix .ret i m' s → WK N B m' (HS s) σ (Q .ret))
    (hexit : ∀ id i m' s, m.le m' → i ≤ n → Ix (.exit id) i m' s → WK N B m' (HS s) σ (Q (.exit id))) :
    WC none P N Q B m H σ (.rangeFunc g ps.toArray assign body) := by
  intro Ds w hw a ha
  subst hH
  refine wpIn_rangeFunc ?_
  intro fn hfn
  show ∃ (l : Nat) (mark : List Deferred) (w₁ : World) (d : Deferred) (w₁' : World) (f : FuncId) (args : Array Value) (w₂ : World), (Instr.enterLoop fn a.tmps ps.toArray assign body none).run P w = .ok (l, mark) w₁ ∧ _
  obtain ⟨rec, hrec⟩ : ∃ rec : LoopState → Option Code → Loop, rec = fun st pe => { state := st, pending := pe, fn, tmps := a.tmps, params := ps.toArray, assign, body, defers := w.heap.size } := ⟨_, rfl⟩
  have hen := run_enterLoop_outer (P := P) (w := w) fn a.tmps ps.toArray assign body
  have hst1 := (hw.laid (.deferred (some []))).laid (.loop (rec .ready none))
  rw [World.size_alloc] at hst1
  obtain ⟨W1, hW1⟩ : ∃ W1, (w.alloc (.deferred (some []))).alloc (.loop (rec .ready none)) = W1 := ⟨_, rfl⟩
  rw [hW1] at hst1
  refine ⟨w.heap.size + 1, [mk w.heap.size], W1, { target := .fn (.func gf) lb.toArray, args := #[.func (.yield (w.heap.size + 1)) #[] #[]] }, W1, gf,
    (Value.func (.yield (w.heap.size + 1)) #[] #[] :: lb).toArray, W1, ?_, ?_, ?_, ?_, by simp [fen_depth], ?_⟩
  · rw [hen, ← hW1, hrec]; rfl
  · have := ha.eval hg
    simp only [resolve, this]
    simp [go_sem]
  · intro f' _; exact fen_fn none f'
  · simp only [invoke]
    rw [show (#[Value.func (Fn.yield (w.heap.size + 1)) #[] #[]] ++ lb.toArray : Array Value) = (Value.func (Fn.yield (w.heap.size + 1)) #[] #[] :: lb).toArray by simp]
    exact eg _ _
  · have hll : ∀ (w' : World) (B' : Base) (m' : Mem) (H' : List Ent) (o : Obj), St B' m' (H' ++ [objE (w.heap.size + 1) o]) w' → w'.heap[w.heap.size + 1]? = some o := fun w' B' m' H' o h => h.own (objE (w.heap.size + 1) o) (by simp)
    have hper : ((HS s0 ++ [objE (w.heap.size + 1) (.loop (rec .ready none))]) ++ (objE w.heap.size (.deferred (some [])) :: marks Ds)).Perm
        (objE (w.heap.size + 1) (.loop (rec .ready none)) :: objE w.heap.size (.deferred (some [])) :: (HS s0 ++ marks Ds)) := by
      simp only [List.append_assoc, List.singleton_append]
      refine List.perm_middle.trans ?_
      exact List.Perm.cons _ List.perm_middle
    have hst2 := hst1.perm hper
    refine calls_fen none ?_
    refine (hit (w.heap.size + 1) (S ⊕ (S × Exit)) (fun
        | .inl s => HS s ++ [objE (w.heap.size + 1) (.loop (rec .ready none))]
        | .inr (s, e) => HS s ++ [objE (w.heap.size + 1) (.loop (rec .done (some (codeOf e))))])
      (fun i m' x => match x with
        | .inl s => I i m' s
        | .inr _ => False)
      (fun i m' x => match x with
        | .inl _ => False
        | .inr (s, e) => Ix e i m' s ∧ (e = .ret ∨ ∃ id, e = .exit id)) (.inl s0) (fun ho i m' x => by rcases x with s | x; exact hone ho i m' s; exact fun h => h) (fun i m1 m2 x hm h => by rcases x with s | x; exact hmono i m1 m2 s hm h; exact h) ?_ h0 W1 hst2.part).mono ?_
    · -- one round
      rintro i m1 x args hi hm1 hAi hI B' w' hw'
      rcases x with s | x
      · have hrd := hll _ _ _ _ _ hw'
        have hy := run_yield (P := P) (args := args) hrd (by rw [hrec]; simpa using hA i m1 args hAi)
        rw [hrec] at hy
        refine ⟨fn, _, assign, body, hy, roundIn_of_wpIn trivial ?_⟩
        have hin : St ⟨w', idsOf (HS s), m1⟩ m1 (HS s) w' := hw'.part
        obtain ⟨hsz, hget⟩ := put_all ps args.toList a.tmps σ (fun u v hu => ha.get u v hu) (fun p hp => by rw [ha.size]; exact hps p hp) (by simpa using (hA i m1 args hAi).symm)
        refine hassign (w.heap.size + 1) _ m1 s args.toList _ (by simpa using hA i m1 args hAi) ?_ [] w' (by simpa [marks] using hin) _ ⟨rfl, ?_, ?_⟩
        rotate_left
        · simp only [← Array.foldl_toList]; rw [Array.toList_zip]; rw [hsz, ha.size]
        · intro u v hu
          have := hget u v hu
          simp only [← Array.foldl_toList]; rw [Array.toList_zip]; exact this
        · intro g Ds' w1 hw1 a1 ha1
          have hs1 := hw'.handed hw1
          have hr1 := hll _ _ _ _ _ hs1
          refine ⟨_, run_beginRound hr1 (by rw [hrec]), ?_⟩
          have hs2 := hs1.turn (o' := .loop { rec .ready none with state := .busy }) (R := [])
          have hb := hbody (w.heap.size + 1) _ i m1 s args.toList g (by simpa using hA i m1 args hAi) hi hm1 (by simpa using hAi) hI Ds' _ hs2.part a1 ha1
          refine wpIn_mono hb ?_
          intro e a3 w3 hp
          have fin : ∀ (jump : Option Code) (m' : Mem) (s' : S), St ⟨w1.putObj (w.heap.size + 1) (.loop { rec .ready none with state := .busy }), idsOf (HA g s ++ marks Ds'), m1⟩ m' (HS s') w3 →
              (Instr.endRound (w.heap.size + 1) jump).run P w3 = .ok (.bool jump.isNone) (w3.putObj (w.heap.size + 1) (.loop (rec (if jump.isNone then .ready else .done) jump))) ∧
              St B' m' (HS s' ++ [objE (w.heap.size + 1) (.loop (rec (if jump.isNone then .ready else .done) jump))]) (w3.putObj (w.heap.size + 1) (.loop (rec (if jump.isNone then .ready else .done) jump))) := by
            intro jump m' s' hs3
            have hs4 := hs2.handed hs3
            have hr4 := hll _ _ _ _ _ hs4
            have he := run_endRound (P := P) jump hr4
            refine ⟨?_, ?_⟩
            · rw [he, hrec]
            · exact hs4.turn (R := [])
          cases e with
          | normal =>
            obtain ⟨m', s', h1, h2, h3⟩ := hp
            obtain ⟨h4, h5⟩ := fin none m' s' h3
            exact ⟨_, _, h4, .inl ⟨rfl, m', _, ⟨h1, .inl s', rfl, h2⟩, h5⟩⟩
          | ret =>
            obtain ⟨m', s', h1, h2, h3⟩ := hp
            obtain ⟨h4, h5⟩ := fin (some .ret) m' s' h3
            exact ⟨_, _, h4, .inr ⟨rfl, m', _, ⟨h1, .inr (s', .ret), rfl, h2, .inl rfl⟩, h5⟩⟩
          | exit id =>
            obtain ⟨m', s', h1, h2, h3⟩ := hp
            obtain ⟨h4, h5⟩ := fin (some (.exit id)) m' s' h3
            exact ⟨_, _, h4, .inr ⟨rfl, m', _, ⟨h1, .inr (s', .exit id), rfl, h2, .inr ⟨id, rfl⟩⟩, h5⟩⟩
          | goto t => exact hp.elim
          | panic ch => exact hp.elim
          | outgrown => exact hp.elim
      · exact hI.elim
    · -- behind the iterator
      rintro e w2 ⟨v, m', Es, rfl, hs, x, rfl, hx⟩
      have hs' := hst2.handed hs
      have fin : ∀ (s : S) (r : Loop) (jump : Option Code), r.state ≠ .busy → r.pending = jump → St B m' ((HS s ++ [objE (w.heap.size + 1) (.loop r)]) ++ (objE w.heap.size (.deferred (some [])) :: marks Ds)) w2 →
          (Instr.endLoop (w.heap.size + 1)).run P w2 = .ok jump (w2.putObj (w.heap.size + 1) (.loop { r with state := .exhausted })) ∧
          St B m' (HS s ++ marks (w.heap.size :: Ds)) (w2.putObj (w.heap.size + 1) (.loop { r with state := .exhausted })) := by
        intro s r jump hr hj hs3
        have hr3 : w2.heap[w.heap.size + 1]? = some (.loop r) := hs3.own (objE (w.heap.size + 1) (.loop r)) (by simp)
        refine ⟨by rw [← hj]; exact run_endLoop hr3 hr, ?_⟩
        have h4 : St B m' (HS s ++ objE (w.heap.size + 1) (.loop r) :: (objE w.heap.size (.deferred (some [])) :: marks Ds)) w2 := by simpa using hs3
        have h5 := h4.turn (o' := .loop { r with state := .exhausted })
        exact h5.weaken (List.Sublist.append_left (List.sublist_cons_self _ _) _)
      have hen' : Env N (w.heap.size :: Ds) σ { a with defers := [mk w.heap.size] ++ a.defers } := ⟨by simp [ha.defers], ha.size, ha.get⟩
      rcases x with s | ⟨s, e⟩
      · rcases hx with hI | ⟨i, _, hF⟩
        · obtain ⟨h1, h2⟩ := fin s (rec .ready none) none (by rw [hrec]; simp) (by rw [hrec]) hs'
          refine ⟨_, _, h1, ?_⟩
          exact hdone m' s hs.le hI _ _ h2 _ hen'
        · exact hF.elim
      · rcases hx with hF | ⟨i, hi, hIx, he⟩
        · exact hF.elim
        · obtain ⟨h1, h2⟩ := fin s (rec .done (some (codeOf e))) (some (codeOf e)) (by rw [hrec]; simp) (by rw [hrec]) hs'
          refine ⟨_, _, h1, ?_⟩
          rcases he with rfl | ⟨id, rfl⟩
          · exact wpIn_ret (hret i m' s hs.le hi hIx _ _ h2 _ hen')
          · exact wpIn_exit (hexit id i m' s hs.le hi hIx _ _ h2 _ hen')
end
end Go.Kx
