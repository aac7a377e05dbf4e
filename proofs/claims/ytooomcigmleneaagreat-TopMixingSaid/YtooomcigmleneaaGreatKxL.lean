import Derived.Test.YtooomcigmleneaaGreatKxJ
import Derived.Laws.Small
set_option linter.all false
namespace Go.Kx
theorem St.turn{B:Base}{m:Mem}{H R:List Ent}{b:Nat}{o o':Obj}{w:World}(h:St B m (H++D7 b o::R) w):St B m (H++D7 b o'::R) (w.putObj b o'):=by
 have hb:w.heap[b]?=some o:=h.own (D7 b o) (by simp)
 have hlt:b<w.heap.size:=(Array.getElem?_eq_some_iff.1 hb).1
 have hperm:∀x:Obj,([D7 b x]++(H++R)).Perm (H++D7 b x::R):=fun x=>by simpa using List.perm_middle.symm
 have h1:=h.perm (hperm o)
 have hin:St ⟨w,B7 [D7 b o],m⟩ m [D7 b o'] (w.putObj b o'):=by
  refine⟨rfl,rfl,rfl,by simp,?_,?_,Mem.le_refl _,fun _ _=>rfl,?_,?_,?_,by simp[B7,D7]⟩
  ·intro c _ hc;exact World.putObj_heap_other (by simpa[B7,D7]using hc)
  ·intro c x hc
   rw[World.putObj_heap_other (fun e=>by
    have:=h1.avoid b (by simp[B7,D7])
    rw[←e,hc]at this;cases this)]
   exact h.sub c x hc
  ·intro e he;simp at he;subst he;exact World.putObj_heap_same hlt
  ·intro c hc;exact .inl (by simpa[B7,D7]using hc)
  ·intro c hc
   have:c=b:=by simpa[B7,D7]using hc
   subst this;exact h1.avoid c (by simp[B7,D7])
 exact(h1.handed hin).perm (hperm o').symm
theorem St.laid{B:Base}{m:Mem}{H:List Ent}{w:World}(h:St B m H w)(o:Obj):St B m (D7 w.heap.size o::H) (w.alloc o):=
 h.push (Ext.alloc w _) (D7 w.heap.size o) (by show(w.heap.push _)[_]?=_;simp) (by simp[D7]) (by simp[D7])
def A8b(P:Program)(l:Nat)(args:Array Value)(m:Mem)(Hs:List Ent)(T F:Mem→List Ent→Prop):Prop:=
 ∀(B:Base) (w:World),St B m Hs w→∃fn tmps assign body,(Instr.yield l args).run P w= .ok (.round l fn tmps assign body) w∧
  RoundIn Fence.wide 0 P l fn tmps assign body w (fun e w'=>(e= .returned (.bool true)∧∃m' H',T m' H'∧St B m' H' w')∨(e= .returned (.bool false)∧∃m' H',F m' H'∧St B m' H' w'))
theorem B9q(M:Option Nat){n:Nat}{P:Program}{l:Nat}{f:FuncId}{tmps:Array Value}{assign body:Code}{w:World}{R:Ending→World→Prop}
 (h:RoundIn Fence.wide n P l f tmps assign body w R):RoundIn (fen M) n P l f tmps assign body w R:=by cases M <;> exact h
def A1i(P:Program)(g:FuncId)(lb:List Value)(m:Mem)(once:Bool)(n:Nat)(A:Nat→Mem→Array Value→Prop):Prop:=
 ∀(l:Nat) (S:Type) (HS:S→List Ent) (I Ix:Nat→Mem→S→Prop) (s0:S),(once=true→∀i m' s,¬I (i+1) m' s)→(∀i m1 m2 s,m1.le m2→I i m1 s→I i m2 s)→
  (∀i m1 s args,i<n→m.le m1→A i m1 args→I i m1 s→A8b P l args m1 (HS s) (fun m' H'=>m1.le m'∧∃s',H'=HS s'∧I (i+1) m' s') (fun m' H'=>m1.le m'∧∃s',H'=HS s'∧Ix (i+1) m' s'))→
  I 0 m s0→Mut P g (Value.func (.yield l) #[] #[]::lb).toArray m (HS s0) (fun m' Es _=>∃s,Es=HS s∧(I n m' s∨∃i,i≤n∧Ix i m' s))
section
variable{M:Option Nat}{P:Program}{N:Nat}{ops:Array Oper}{Q:Exit→Act→World→Prop}{B:Base}{m:Mem}{H:List Ent}{σ:B5}{rest:List Oper}
 {d:Nat} {op:Op} {ty:TypeId} {pos:String} {after:Array Edge} {K:Act→World→Prop}
theorem B9A{l:Nat}{x:Operand}{ls:List Operand}{ts:Array TypeId}{vs:List Value}(hx:ev σ x=some (.func (.yield l) #[] #[]))(hl:Z5 σ ls=some vs)(w:World)(o:Oper)
 (ho:o.op= .call (Call.mk (.value x) ls.toArray ts)):(execOp (S2 σ) o).run P w=(Instr.yield l vs.toArray).run P w:=by
 have h1:=(A1B hl).1
 simp[execOp,ho,resolve,Deferred.ofValue,A6 hx,invoke]
 rw[show ls.map (fun x=>S2 σ x)=vs from h1]
theorem T.yield{l:Nat}{x:Operand}{ls:List Operand}{ts:Array TypeId}{vs:List Value}{Hs:List Ent}{T F:Mem→List Ent→Prop}(A:List Ent)(hx:ev σ x=some (.func (.yield l) #[] #[]))(hl:Z5 σ ls=some vs)
 (hH:H=A++Hs) (hy:A8b P l vs.toArray m Hs T F):
 OpTo P B m H σ (.call (Call.mk (.value x) ls.toArray ts)) ty (fun v m' H''=>∃H',H''=A++H'∧((v= .bool true∧T m' H')∨(v= .bool false∧F m' H'))):=
 ⟨trivial,A0j hx hl,fun M B w hw o a next Q ho ht k=>by
  subst hH
  rw[B9A hx hl w o ho]
  have hp:(Hs++A).Perm (A++Hs):=List.perm_append_comm
  have hw':=hw.perm hp
  obtain⟨fn,tmps,assign,body,h1,h2⟩:=hy _ w hw'.part
  rw[h1]
  refine⟨by simp[A2r],B9q M (h2.mono fun e w' h=>?_)⟩
  rcases h with⟨rfl,m',H',hT,hs⟩|⟨rfl,m',H',hF,hs⟩
  ·exact k (.bool true) m' _ w' ⟨H',rfl,.inl ⟨rfl,hT⟩⟩ ((hw'.handed hs).perm List.perm_append_comm)
  ·exact k (.bool false) m' _ w' ⟨H',rfl,.inr ⟨rfl,hF⟩⟩ ((hw'.handed hs).perm List.perm_append_comm)⟩
theorem A6o{A:List Ent}{T F:Mem→List Ent→Prop}(h:OpTo P B m H σ op ty (fun v m' H''=>∃H',H''=A++H'∧((v= .bool true∧T m' H')∨(v= .bool false∧F m' H'))))(hd:d<N)
 (kt:∀m' H',T m' H'→WL M P N ops Q B m' (A++H') ((d,.bool true)::σ) rest) (kf:∀m' H',F m' H'→WL M P N ops Q B m' (A++H') ((d,.bool false)::σ) rest):
 WL M P N ops Q B m H σ (⟨some d,op,ty,pos,after,none⟩::rest):=
 O4 h hd fun v m' H'' ⟨H',hH,hv⟩=>by
  subst hH
  rcases hv with⟨rfl,hT⟩|⟨rfl,hF⟩
  ·exact kt m' H' hT
  ·exact kf m' H' hF
theorem A5M{α:Type}[Flat α]{x y:Operand}{t e:TypeId}{bytes:Nat}{z:Value}(n:Nat){a:α}(hS:SlT P t e (Flat.n α) bytes z)(hz:z.cells.toList=Flat.enc a)
 (hx:ev σ x=some (.int .i64 (n:Int))) (hy:ev σ y=some (.int .i64 (n:Int))) (hb:(bytes:Int)*n≤140737488355328) (hby:0<bytes):
 OpTo P B m H σ (.makeSlice t x y) ty (fun v m' H'=>m'=m∧H'=A5 v e (List.replicate n a)::H):=
 T.make hS hz hx hy (by omega) hb hby
theorem A6v{A:List Ent}{R:Mem→List Ent→Value→Prop}(h:OpTo P B m H σ op ty (fun v m' H'=>m.le m'∧∃Es,R m' Es v∧H'=A++Es))(hd:d<N)
 (k:∀m' Es v,m.le m'→R m' Es v→WL M P N ops Q B m' (A++Es) ((d,v)::σ) rest):WL M P N ops Q B m H σ (⟨some d,op,ty,pos,after,none⟩::rest):=
 O4 h hd fun v m' H' ⟨h1,Es,h2,h3⟩=>by subst h3;exact k m' Es v h1 h2
theorem C9b{i:Nat}{g:Option (Nat×Bool)}{must:Bool}{π:Plan}{piv non:List Nat}{KK:Mem→List Ent→B5→Prop}{A:List Ent}{R:Mem→List Ent→Value→Prop}(ho:ops[i]?=some ⟨some d,op,ty,pos,after,g⟩)(hp:piv.contains i=true)(hn:non.contains i=true)(hg:M6 ops σ ⟨some d,op,ty,pos,after,g⟩=some true)
 (h:OpTo P B m H σ op ty (fun v m' H'=>m.le m'∧∃Es,R m' Es v∧H'=A++Es)) (hd:d<N)
 (k:∀m' Es v,m.le m'→R m' Es v→DW P B N ops piv non KK false π m' (A++Es) ((d,v)::σ)):DW P B N ops piv non KK must (.cons i π) m H σ:=
 A1A ho hp hg h hd (fun h'=>by rw[hn]at h';cases h') (fun _ _ _ h=>h.1) fun v m' H' ⟨h1,Es,h2,h3⟩=>by subst h3;exact k m' Es v h1 h2
theorem B4F{b:Nat}{T':TypeId}{cs:List Value}(k:Nat)(A C:List Ent)(hX:B.X=B7 C)(hH:H=A++C)(hf:B2 A k=some (blk b T' cs))
 (kk:∀m',m.le m'→Cells m' ⟨b,0,none⟩ cs→WK N B m' (Z4 A k++C) σ K):WK N B m H σ K:=by
 intro Ds w hw a ha
 subst hH
 have hw2:St B m (A++(C++marks Ds)) w:=by simpa using hw
 have hr:(blk b T' cs).holds w:=C1 hw2 (U3 hf)
 obtain⟨h1,h2⟩:=hw2.freezeX (fun c hc=>by
  have:=hw2.apart hf c hc
  rw[hX];intro hin;exact this (by rw[E0];exact List.mem_append_left _ hin)) (U3 hf)
 rw[B1o hf]at h1
 exact kk _ h2 ⟨rfl,cs.toArray,T',(0,0),by simp only[blk]at hr ⊢; simp[hr],fun j v hv=>by simpa using hv⟩ Ds w (by simpa using h1) a ha
theorem T4{x:Operand}{t:TypeId}{p:Addr}{v:Value}(ha:∀w,(isAgg t).run P w= .ok false w)(hx:ev σ x=some (.pointer (some p)))(hp:Cells m p [v]):
 OpX P B m H σ (.load t x) ty v:=
 .ofRun trivial (I8 rfl hx) fun w hw o ho _=>by
  simp[execOp,ho,A6 hx,Instr.loadAt,Instr.sureAddr,loadVar,ha,hp.cell0 hw.sub]
def B2k(B:Base){S:Type}(m1:Mem)(HS:S→List Ent)(I:Mem→S→Prop)(Ix:Exit→Mem→S→Prop):Exit→Act→World→Prop
 | .normal,_,w=>∃m' s,m1.le m'∧I m' s∧St B m' (HS s) w
 | .ret,_,w=>∃m' s,m1.le m'∧Ix .ret m' s∧St B m' (HS s) w
 | .exit id,_,w=>∃m' s,m1.le m'∧Ix (.exit id) m' s∧St B m' (HS s) w
 |_,_,_=>False
theorem A1o{S:Type}{m1:Mem}{HS:S→List Ent}{I:Mem→S→Prop}{Ix:Exit→Mem→S→Prop}(s:S)(hm:m1.le m)(hH:(HS s).Sublist H)(hI:I m s):WK N B m H σ (B2k B m1 HS I Ix .normal):=
 fun _ _ hw _ _=>⟨m,s,hm,hI,hw.weaken (hH.trans (List.sublist_append_left _ _))⟩
def A2y:Exit→Code
 | .ret=>.ret
 | .exit id=>.exit id
 |_=>.skip
theorem B1i(ps:List Nat)(args:List Value):∀(t:Array Value) (σ:B5),(∀u v,lk σ u=some v→t[u]?=some v)→(∀p∈ps,p<t.size)→ps.length=args.length→
 let t':=(ps.zip args).foldl (fun t (p:Nat×Value)=>t.setIfInBounds p.1 p.2) t
 t'.size=t.size∧∀u v,lk ((ps.zip args).reverse++σ) u=some v→t'[u]?=some v:=by
 induction ps generalizing args with
 |nil=>intro t σ h _ hl;cases args with
  |nil=>exact⟨rfl,h⟩
  |cons=>simp at hl
 |cons p ps ih=>
  intro t σ h hp hl
  cases args with
  |nil=>simp at hl
  |cons x xs=>
   have h1:∀u v,lk ((p,x)::σ) u=some v→(t.setIfInBounds p x)[u]?=some v:=by
    intro u v hu
    by_cases e:p=u
    ·subst e;rw[A0C]at hu;cases hu;simp[hp p (List.mem_cons_self ..)]
    ·rw[A1s _ _ e]at hu;rw[Array.getElem?_setIfInBounds_ne e];exact h u v hu
   obtain⟨h2,h3⟩:=ih xs (t.setIfInBounds p x) ((p,x)::σ) h1 (fun q hq=>by simpa using hp q (List.mem_cons_of_mem _ hq)) (by simpa using hl)
   refine⟨by simpa using h2,fun u v hu=>?_⟩
   refine h3 u v ?_
   simpa using hu
theorem WC.rangeFunc{g:Operand}{ps:List Nat}{assign body:Code}{gf:Nat}{lb:List Value}{n:Nat}{A:Nat→Mem→Array Value→Prop}
 (hg:ev σ g=some (.func (.func gf) #[] lb.toArray)) (eg:Enters P gf) {once:Bool} (hit:A1i P gf lb m once n A)
 {S G:Type} (HS:S→List Ent) (I:Nat→Mem→S→Prop) (Ix:Exit→Nat→Mem→S→Prop) (s0:S) (hH:HS s0=H) (h0:I 0 m s0) (hone:once=true→∀i m' s,¬I (i+1) m' s) (hmono:∀i m1 m2 s,m1.le m2→I i m1 s→I i m2 s)
 (hps:∀p∈ps,p<N) (hA:∀i m1 args,A i m1 args→args.size=ps.length)
 (HA:G→S→List Ent) (σA:G→List Value→B5)
 (hassign:∀l B' m1 s args (K:Act→World→Prop),args.length=ps.length→(∀g,WK N B' m1 (HA g s) (σA g args) K)→WC (some l) P N (Exit.then K (fun _ _ _=>False)) B' m1 (HS s) ((ps.zip args).reverse++σ) assign)
 (hbody:∀l B' i m1 s args g,args.length=ps.length→i<n→m.le m1→A i m1 args.toArray→I i m1 s→WC (some l) P N (B2k B' m1 HS (I (i+1)) (fun e=>Ix e (i+1))) B' m1 (HA g s) (σA g args) body)
 (hdone:∀m' s,m.le m'→I n m' s→WK N B m' (HS s) σ (Q .normal))
 (hret:∀i m' s,m.le m'→i≤n→Ix .ret i m' s→WK N B m' (HS s) σ (Q .ret))
 (hexit:∀id i m' s,m.le m'→i≤n→Ix (.exit id) i m' s→WK N B m' (HS s) σ (Q (.exit id))):
 WC none P N Q B m H σ (.rangeFunc g ps.toArray assign body):=by
 intro Ds w hw a ha
 subst hH
 refine wpIn_rangeFunc ?_
 intro fn hfn
 show∃(l:Nat) (mark:List Deferred) (w₁:World) (d:Deferred) (w₁':World) (f:FuncId) (args:Array Value) (w₂:World),(Instr.enterLoop fn a.tmps ps.toArray assign body none).run P w= .ok (l,mark) w₁∧_
 obtain⟨rec,hrec⟩:∃rec:LoopState→Option Code→Loop,rec=fun st pe=>{state:=st,pending:=pe,fn,tmps:=a.tmps,params:=ps.toArray,assign,body,defers:=w.heap.size}:=⟨_,rfl⟩
 have hen:=run_enterLoop_outer (P:=P) (w:=w) fn a.tmps ps.toArray assign body
 have hst1:=(hw.laid (.deferred (some []))).laid (.loop (rec .ready none))
 rw[World.size_alloc]at hst1
 obtain⟨W1,hW1⟩:∃W1,(w.alloc (.deferred (some []))).alloc (.loop (rec .ready none))=W1:=⟨_,rfl⟩
 rw[hW1]at hst1
 refine⟨w.heap.size+1,[mk w.heap.size],W1,{target:=.fn (.func gf) lb.toArray,args:=#[.func (.yield (w.heap.size+1)) #[] #[]]},W1,gf,
  (Value.func (.yield (w.heap.size+1)) #[] #[]::lb).toArray,W1,?_,?_,?_,?_,by simp[A2r],?_⟩
 ·rw[hen,←hW1,hrec];rfl
 ·have:=ha.eval hg
  simp only[resolve,this]
  simp[go_sem]
 ·intro f' _;exact A1a none f'
 ·simp only[invoke]
  rw[show(#[Value.func (Fn.yield (w.heap.size+1)) #[] #[]]++lb.toArray:Array Value)=(Value.func (Fn.yield (w.heap.size+1)) #[] #[]::lb).toArray by simp]
  exact eg _ _
 ·have hll:∀(w':World) (B':Base) (m':Mem) (H':List Ent) (o:Obj),St B' m' (H'++[D7 (w.heap.size+1) o]) w'→w'.heap[w.heap.size+1]?=some o:=fun w' B' m' H' o h=>h.own (D7 (w.heap.size+1) o) (by simp)
  have hper:((HS s0++[D7 (w.heap.size+1) (.loop (rec .ready none))])++(D7 w.heap.size (.deferred (some []))::marks Ds)).Perm
   (D7 (w.heap.size+1) (.loop (rec .ready none))::D7 w.heap.size (.deferred (some []))::(HS s0++marks Ds)):=by
   simp only[List.append_assoc,List.singleton_append]
   refine List.perm_middle.trans ?_
   exact List.Perm.cons _ List.perm_middle
  have hst2:=hst1.perm hper
  refine A5f none ?_
  refine(hit (w.heap.size+1) (S ⊕ (S×Exit)) (fun
   | .inl s=>HS s++[D7 (w.heap.size+1) (.loop (rec .ready none))]
   | .inr (s,e)=>HS s++[D7 (w.heap.size+1) (.loop (rec .done (some (A2y e))))])
   (fun i m' x=>match x with
    | .inl s=>I i m' s
    | .inr _=>False)
   (fun i m' x=>match x with
    | .inl _=>False
    | .inr (s,e)=>Ix e i m' s∧(e= .ret∨∃id,e= .exit id)) (.inl s0) (fun ho i m' x=>by rcases x with s|x;exact hone ho i m' s;exact fun h=>h) (fun i m1 m2 x hm h=>by rcases x with s|x;exact hmono i m1 m2 s hm h;exact h) ?_ h0 W1 hst2.part).mono ?_
  ·
    rintro i m1 x args hi hm1 hAi hI B' w' hw'
    rcases x with s|x
    ·have hrd:=hll _ _ _ _ _ hw'
     have hy:=run_yield (P:=P) (args:=args) hrd (by rw[hrec];simpa using hA i m1 args hAi)
     rw[hrec]at hy
     refine⟨fn,_,assign,body,hy,roundIn_of_wpIn trivial ?_⟩
     have hin:St ⟨w',B7 (HS s),m1⟩ m1 (HS s) w':=hw'.part
     obtain⟨hsz,hget⟩:=B1i ps args.toList a.tmps σ (fun u v hu=>ha.get u v hu) (fun p hp=>by rw[ha.size];exact hps p hp) (by simpa using(hA i m1 args hAi).symm)
     refine hassign (w.heap.size+1) _ m1 s args.toList _ (by simpa using hA i m1 args hAi) ?_ [] w' (by simpa[marks]using hin) _ ⟨rfl,?_,?_⟩
     rotate_left
     ·simp only[←Array.foldl_toList];rw[Array.toList_zip];rw[hsz,ha.size]
     ·intro u v hu
      have:=hget u v hu
      simp only[←Array.foldl_toList];rw[Array.toList_zip];exact this
     ·intro g Ds' w1 hw1 a1 ha1
      have hs1:=hw'.handed hw1
      have hr1:=hll _ _ _ _ _ hs1
      refine⟨_,run_beginRound hr1 (by rw[hrec]),?_⟩
      have hs2:=hs1.turn (o':=.loop {rec .ready none with state:=.busy}) (R:=[])
      have hb:=hbody (w.heap.size+1) _ i m1 s args.toList g (by simpa using hA i m1 args hAi) hi hm1 (by simpa using hAi) hI Ds' _ hs2.part a1 ha1
      refine wpIn_mono hb ?_
      intro e a3 w3 hp
      have fin:∀(jump:Option Code) (m':Mem) (s':S),St ⟨w1.putObj (w.heap.size+1) (.loop {rec .ready none with state:=.busy}),B7 (HA g s++marks Ds'),m1⟩ m' (HS s') w3→
       (Instr.endRound (w.heap.size+1) jump).run P w3= .ok (.bool jump.isNone) (w3.putObj (w.heap.size+1) (.loop (rec (if jump.isNone then .ready else .done) jump)))∧
       St B' m' (HS s'++[D7 (w.heap.size+1) (.loop (rec (if jump.isNone then .ready else .done) jump))]) (w3.putObj (w.heap.size+1) (.loop (rec (if jump.isNone then .ready else .done) jump))):=by
       intro jump m' s' hs3
       have hs4:=hs2.handed hs3
       have hr4:=hll _ _ _ _ _ hs4
       have he:=run_endRound (P:=P) jump hr4
       refine⟨?_,?_⟩
       ·rw[he,hrec]
       ·exact hs4.turn (R:=[])
      cases e with
      |normal=>
       obtain⟨m',s',h1,h2,h3⟩:=hp
       obtain⟨h4,h5⟩:=fin none m' s' h3
       exact⟨_,_,h4,.inl ⟨rfl,m',_,⟨h1,.inl s',rfl,h2⟩,h5⟩⟩
      |ret=>
       obtain⟨m',s',h1,h2,h3⟩:=hp
       obtain⟨h4,h5⟩:=fin (some .ret) m' s' h3
       exact⟨_,_,h4,.inr ⟨rfl,m',_,⟨h1,.inr (s',.ret),rfl,h2,.inl rfl⟩,h5⟩⟩
      |exit id=>
       obtain⟨m',s',h1,h2,h3⟩:=hp
       obtain⟨h4,h5⟩:=fin (some (.exit id)) m' s' h3
       exact⟨_,_,h4,.inr ⟨rfl,m',_,⟨h1,.inr (s',.exit id),rfl,h2,.inr ⟨id,rfl⟩⟩,h5⟩⟩
      |goto t=>exact hp.elim
      |panic ch=>exact hp.elim
      |outgrown=>exact hp.elim
    ·exact hI.elim
  ·
    rintro e w2 ⟨v,m',Es,rfl,hs,x,rfl,hx⟩
    have hs':=hst2.handed hs
    have fin:∀(s:S) (r:Loop) (jump:Option Code),r.state≠ .busy→r.pending=jump→St B m' ((HS s++[D7 (w.heap.size+1) (.loop r)])++(D7 w.heap.size (.deferred (some []))::marks Ds)) w2→
     (Instr.endLoop (w.heap.size+1)).run P w2= .ok jump (w2.putObj (w.heap.size+1) (.loop {r with state:=.exhausted}))∧
     St B m' (HS s++marks (w.heap.size::Ds)) (w2.putObj (w.heap.size+1) (.loop {r with state:=.exhausted})):=by
     intro s r jump hr hj hs3
     have hr3:w2.heap[w.heap.size+1]?=some (.loop r):=hs3.own (D7 (w.heap.size+1) (.loop r)) (by simp)
     refine⟨by rw[←hj];exact run_endLoop hr3 hr,?_⟩
     have h4:St B m' (HS s++D7 (w.heap.size+1) (.loop r)::(D7 w.heap.size (.deferred (some []))::marks Ds)) w2:=by simpa using hs3
     have h5:=h4.turn (o':=.loop {r with state:=.exhausted})
     exact h5.weaken (List.Sublist.append_left (List.sublist_cons_self _ _) _)
    have hen':Env N (w.heap.size::Ds) σ {a with defers:=[mk w.heap.size]++a.defers}:=⟨by simp[ha.defers],ha.size,ha.get⟩
    rcases x with s|⟨s,e⟩
    ·rcases hx with hI|⟨i,_,hF⟩
     ·obtain⟨h1,h2⟩:=fin s (rec .ready none) none (by rw[hrec];simp) (by rw[hrec]) hs'
      refine⟨_,_,h1,?_⟩
      exact hdone m' s hs.le hI _ _ h2 _ hen'
     ·exact hF.elim
    ·rcases hx with hF|⟨i,hi,hIx,he⟩
     ·exact hF.elim
     ·obtain⟨h1,h2⟩:=fin s (rec .done (some (A2y e))) (some (A2y e)) (by rw[hrec];simp) (by rw[hrec]) hs'
      refine⟨_,_,h1,?_⟩
      rcases he with rfl|⟨id,rfl⟩
      ·exact wpIn_ret (hret i m' s hs.le hi hIx _ _ h2 _ hen')
      ·exact wpIn_exit (hexit id i m' s hs.le hi hIx _ _ h2 _ hen')
end
end Go.Kx
namespace Go.Kx
section
variable{P:Program}{B:Base}{m:Mem}{H:List Ent}{σ:B5}{ty:TypeId}
theorem M0{x:Operand}{s d:TypeId}{a:Int}{k k':IntKind}(hu:∀w,(underlying s).run P w= .ok (.int k) w)(hv:∀w,(underlying d).run P w= .ok (.int k') w)
 (hx:ev σ x=some (.int k a)) (h:k'.wrap a=a):OpX P B m H σ (.convert s d x) ty (.int k' a):=
 .ofRun trivial (I8 rfl hx) fun w _ o ho _=>by simp[execOp,ho,A6 hx,Go.convert,hu,hv,Conv.intToInt,h]
theorem Q1{a:Int}(h0:0≤a)(h1:a≤9223372036854775807):IntKind.u64.wrap a=a:=by
 simp[IntKind.wrap,IntKind.bits,IntKind.signed]
 omega
theorem C6K{x y:Operand}{t t':TypeId}{a:Int}{k:IntKind}(hx:ev σ x=some (.int .u64 a))(hy:ev σ y=some (.int k 1))(_h0:0≤a):
 OpX P B m H σ (.binOp .shr t x y t') ty (.int .u64 (a/2)):=
 .ofRun trivial (D0 rfl hx hy) fun w _ o ho _=>by
  simp[execOp,ho,A6 hx,A6 hy,eqGuard,binOp,Op.shift,IntKind.bits,Int.fdiv_eq_ediv_of_nonneg a (show(0:Int)≤2 by decide)]
theorem C0p{f:FuncId}{x:Operand}{cap:Array Value}{l:List Operand}{ts:Array TypeId}{vs:List Value}{A Hs:List Ent}{R:Mem→List Ent→Value→Prop}(hf:Enters P f)
 (hx:ev σ x=some (.func (.func f) #[] cap)) (hl:Z5 σ l=some vs) (hp:(Hs++A).Perm H)
 (hc:Mut P f (vs.toArray++cap) m Hs R):OpTo P B m H σ (.call (Call.mk (.value x) l.toArray ts)) ty (fun v m' H'=>m.le m'∧∃Es,R m' Es v∧H'=Es++A):=
 ⟨trivial,A0j hx hl,fun M B w hw o a next Q ho ht kk=>M4 M<| by
  rw[A7d hf hx hl w o ho]
  have hw':=hw.perm hp
  refine(hc w hw'.part).mono fun e' w' hr=>?_
  obtain⟨u,m',H',rfl,hs,hR⟩:=hr
  exact kk u m' _ w' ⟨hs.le,H',hR,rfl⟩ (hw'.handed hs)⟩
end
end Go.Kx
namespace Go.Kx
section
variable{P:Program}{B:Base}{m:Mem}{H:List Ent}{σ:B5}{ty:TypeId}{op:Op}
theorem A0i{p:Prop}[Decidable p](h:OpX P B m H σ op ty (.bool (decide p)))(hp:p):OpX P B m H σ op ty (.bool true):=by rw[decide_eq_true hp]at h;exact h
theorem A1S{p:Prop}[Decidable p](h:OpX P B m H σ op ty (.bool (decide p)))(hp:¬p):OpX P B m H σ op ty (.bool false):=by rw[decide_eq_false hp]at h;exact h
theorem C8T{b:Bool}(h:OpX P B m H σ op ty (.bool b))(hb:b=true):OpX P B m H σ op ty (.bool true):=by rw[hb]at h;exact h
theorem C8V{b:Bool}(h:OpX P B m H σ op ty (.bool b))(hb:b=false):OpX P B m H σ op ty (.bool false):=by rw[hb]at h;exact h
variable{M:Option Nat}{N:Nat}{ops:Array Oper}{Q:Exit→Act→World→Prop}{rest:List Oper}
theorem B8j{α:Type}[Flat α]{t e:TypeId}{bytes n:Nat}{z:Value}{parts:List (Nat×Operand)}{vals:List Value}{L:List α}(hS:SlT P t e (Flat.n α) bytes z)
 (hv:evp σ parts=some (idx 0 vals)) (hr:vals.flatMap (fun v=>v.cells.toList)=flat L) (hsz:∀v∈vals,v.cells.size=Flat.n α) (hn:vals.length=n) (hL:L.length=n) (hm:Nat.ble (n*Flat.n α) 16777216=true):
 OpTo P B m H σ (.buildSlice t n parts.toArray) ty (fun v m' H'=>m'=m∧H'=A5 v e L::H):=
 .ofRun trivial (by intro x hx;exact(A2S hv).2 x (by simpa[Op.operands]using hx)) fun w hw o ho _=>by
  have h16:¬16777216<n*Flat.n α:=by have:=Nat.le_of_ble_eq_true hm;omega
  obtain⟨a,hf,ha⟩:=A8Y (sz:=Flat.n α) vals 0 ((Array.range (n*Flat.n α)).map (z.cells[· %z.cells.size]!)) hsz (by simp[hn])
  have ha':a.toList=flat L:=by
   rw[ha,hr];simp[hn]
  have hpos:=Flat.pos (α:=α)
  have hnm:n≤n*Flat.n α:=Nat.le_mul_of_pos_right _ hpos
  refine⟨.slice (some ⟨w.heap.size,0,none⟩) n n,w.alloc (.cells a e),.inl ?_,m,_,⟨rfl,rfl⟩,hw.push (Ext.alloc w _) _ ?_ (by simp[A5,row,Value.ownBlock]) (by simp[A5,row,Value.ownBlock])⟩
  ·have hp:(Array.map (fun x:Nat×Operand=>match x with|(i,x)=>(i,S2 σ x)) parts.toArray).toList=idx 0 vals:=by simpa using(A2S hv).1
   simp only[execOp,ho,Instr.buildSlice,Sem.run_bind,hS.u,Result.andThen_ok,hS.s]
   rw[if_neg h16]
   rw[hp]
   by_cases h0:n*Flat.n α=0
   ·rw[if_pos h0]
    have:n=0:=by omega
    subst this
    have:vals=[]:=List.eq_nil_of_length_eq_zero hn
    subst this
    simp[idx,Instr.fill]at hf⊢
    simp[newRow]
    have:a=#[]:=by apply Array.ext';rw[ha',←hr];rfl
    rw[this];congr 2
    exact Array.ext' (by simp[Array.range])
   ·rw[if_neg h0]
    simp only[Sem.run_bind,hS.zr,Result.andThen_ok,Sem.run_pure]
    rw[hf]
    simp[newRow]
  ·have hal:a.size=n*Flat.n α:=by rw[←Array.length_toList,ha',E7,hL]
   have hm':=Nat.le_of_ble_eq_true hm
   have hgoal:(w.alloc (.cells a e)).ownsRow 0 e (Flat.n α) (.slice (some ⟨w.heap.size,0,none⟩) n n) n (flat L):=
    ⟨by rw[E7,hL],.inr ⟨w.heap.size,n,a,rfl,Nat.zero_le _,heap_alloc_new w _,Nat.le_refl _,by simp only[maxLen];omega,hal,by rw[ha',List.take_of_length_le (by rw[E7,hL];omega)]⟩⟩
   simpa[A5,row,hL]using hgoal
end
end Go.Kx
