import Derived.Test.YtooomcigmleneaaGreatKxJ
import Derived.Laws.Small
import Derived.Laws.Cover3
set_option linter.all false
namespace Go.Kx
theorem St.turn{B:Base}{m:Mem}{H R:List Ent}{b:Nat}{o o':Obj}{w:World}(h:St B m (H++F0 b o::R) w):St B m (H++F0 b o'::R) (w.putObj b o'):=by
 have n:w.heap[b]?=some o:=h.own (F0 b o) (by simp)
 have f:b<w.heap.size:=(SA.1 n).1
 have a:∀x:Obj,([F0 b x]++(H++R)).Perm (H++F0 b x::R):=fun x=>by simpa using So.symm
 have g:=h.perm (a o)
 have k:St ⟨w,B8 [F0 b o],m⟩ m [F0 b o'] (w.putObj b o'):=by
  refine⟨rfl,rfl,rfl,by simp,?_,?_,Mem.le_refl _,fun _ _=>rfl,?_,?_,?_,by simp[B8,F0]⟩
  ·intro c _ d;exact World.putObj_heap_other (by simpa[B8,F0]using d)
  ·intro c x d
   rw[World.putObj_heap_other (fun e=>by
    have:=g.avoid b (by simp[B8,F0])
    rw[←e,d]at this;cases this)]
   exact h.sub c x d
  ·intro e l;simp at l;subst l;exact World.putObj_heap_same f
  ·intro c d;exact .inl (by simpa[B8,F0]using d)
  ·intro c d
   have:c=b:=by simpa[B8,F0]using d
   subst this;exact g.avoid c (by simp[B8,F0])
 exact(g.handed k).perm (a o').symm
theorem St.laid{B:Base}{m:Mem}{H:List Ent}{w:World}(h:St B m H w)(o:Obj):St B m (F0 w.heap.size o::H) (w.alloc o):=
 h.push (Ext.alloc w _) (F0 w.heap.size o) (by show(w.heap.push _)[_]?=_;simp) (by simp[F0]) (by simp[F0])
def JU(P:Program)(l:Nat)(args:Array Value)(m:Mem)(Hs:List Ent)(T F:Mem→List Ent→Prop):Prop:=
 ∀(B:Base) (w:World),St B m Hs w→∃fn tmps assign body,(Instr.yield l args).run P w= .ok (.round l fn tmps assign body) w∧
  RoundIn Fence.wide 0 P l fn tmps assign body w (fun e w'=>(e= .returned (.bool true)∧∃m' H',T m' H'∧St B m' H' w')∨(e= .returned (.bool false)∧∃m' H',F m' H'∧St B m' H' w'))
theorem A6y(M:Option Nat){n:Nat}{P:Program}{l:Nat}{f:FuncId}{tmps:Array Value}{assign body:Code}{w:World}{R:Ending→World→Prop}
 (h:RoundIn Fence.wide n P l f tmps assign body w R):RoundIn (Df M) n P l f tmps assign body w R:=by cases M <;> exact h
def S1(P:Program)(g:FuncId)(lb:List Value)(m:Mem)(once:Bool)(n:Nat)(A:Nat→Mem→Array Value→Prop):Prop:=
 ∀(l:Nat) (S:Type) (HS:S→List Ent) (I Ix:Nat→Mem→S→Prop) (s0:S),(once=true→∀i m' s,¬I (i+1) m' s)→(∀i m1 m2 s,m1.le m2→I i m1 s→I i m2 s)→
  (∀i m1 s args,i<n→m.le m1→A i m1 args→I i m1 s→JU P l args m1 (HS s) (fun m' H'=>m1.le m'∧∃s',H'=HS s'∧I (i+1) m' s') (fun m' H'=>m1.le m'∧∃s',H'=HS s'∧Ix (i+1) m' s'))→
  I 0 m s0→Mut P g (Value.func (.yield l) #[] #[]::lb).toArray m (HS s0) (fun m' Es _=>∃s,Es=HS s∧(I n m' s∨∃i,i≤n∧Ix i m' s))
section
variable{M:Option Nat}{P:Program}{N:Nat}{ops:Array Oper}{Q:Exit→Act→World→Prop}{B:Base}{m:Mem}{H:List Ent}{σ:B6}{rest:List Oper}
 {d:Nat} {op:Op} {ty:TypeId} {pos:String} {after:Array Edge} {K:Act→World→Prop}
theorem A5a{l:Nat}{x:Operand}{ls:List Operand}{ts:Array TypeId}{vs:List Value}(hx:ev σ x=some (.func (.yield l) #[] #[]))(hl:AS σ ls=some vs)(w:World)(o:Oper)
 (ho:o.op= .call (Call.mk (.value x) ls.toArray ts)):(execOp (T4 σ) o).run P w=(Instr.yield l vs.toArray).run P w:=by
 have a:=(Ci hl).1
 simp[execOp,ho,resolve,Deferred.ofValue,A6 hx,invoke]
 rw[show ls.map (fun x=>T4 σ x)=vs from a]
theorem T.yield{l:Nat}{x:Operand}{ls:List Operand}{ts:Array TypeId}{vs:List Value}{Hs:List Ent}{T F:Mem→List Ent→Prop}(A:List Ent)(hx:ev σ x=some (.func (.yield l) #[] #[]))(hl:AS σ ls=some vs)
 (hH:H=A++Hs) (hy:JU P l vs.toArray m Hs T F):
 OpTo P B m H σ (.call (Call.mk (.value x) ls.toArray ts)) ty (fun v m' H''=>∃H',H''=A++H'∧((v= .bool true∧T m' H')∨(v= .bool false∧F m' H'))):=
 ⟨trivial,BB hx hl,fun M B w c o a next Q d p k=>by
  subst hH
  rw[A5a hx hl w o d]
  have f:(Hs++A).Perm (A++Hs):=Tv
  have b:=c.perm f
  obtain⟨fn,tmps,assign,body,g,n⟩:=hy _ w b.part
  rw[g]
  refine⟨by simp[Dg],A6y M (n.mono fun e w' h=>?_)⟩
  rcases h with⟨rfl,m',H',hT,hs⟩|⟨rfl,m',H',hF,hs⟩
  ·exact k (.bool true) m' _ w' ⟨H',rfl,.inl ⟨rfl,hT⟩⟩ ((b.handed hs).perm Tv)
  ·exact k (.bool false) m' _ w' ⟨H',rfl,.inr ⟨rfl,hF⟩⟩ ((b.handed hs).perm Tv)⟩
theorem AB{A:List Ent}{T F:Mem→List Ent→Prop}(h:OpTo P B m H σ op ty (fun v m' H''=>∃H',H''=A++H'∧((v= .bool true∧T m' H')∨(v= .bool false∧F m' H'))))(hd:d<N)
 (kt:∀m' H',T m' H'→WL M P N ops Q B m' (A++H') ((d,.bool true)::σ) rest) (kf:∀m' H',F m' H'→WL M P N ops Q B m' (A++H') ((d,.bool false)::σ) rest):
 WL M P N ops Q B m H σ (⟨some d,op,ty,pos,after,none⟩::rest):=
 WL.to h hd fun v m' H'' ⟨H',a,b⟩=>by
  subst a
  rcases b with⟨rfl,hT⟩|⟨rfl,hF⟩
  ·exact kt m' H' hT
  ·exact kf m' H' hF
theorem GO{α:Type}[Flat α]{x y:Operand}{t e:TypeId}{bytes:Nat}{z:Value}(n:Nat){a:α}(hS:SlT P t e (Flat.n α) bytes z)(hz:z.cells.toList=Flat.enc a)
 (hx:ev σ x=some (.int .i64 (n:Int))) (hy:ev σ y=some (.int .i64 (n:Int))) (hb:(bytes:Int)*n≤140737488355328) (hby:0<bytes):
 OpTo P B m H σ (.makeSlice t x y) ty (fun v m' H'=>m'=m∧H'=A5 v e (List.replicate n a)::H):=
 T.make hS hz hx hy (by omega) hb hby
theorem Il{A:List Ent}{R:Mem→List Ent→Value→Prop}(h:OpTo P B m H σ op ty (fun v m' H'=>m.le m'∧∃Es,R m' Es v∧H'=A++Es))(hd:d<N)
 (k:∀m' Es v,m.le m'→R m' Es v→WL M P N ops Q B m' (A++Es) ((d,v)::σ) rest):WL M P N ops Q B m H σ (⟨some d,op,ty,pos,after,none⟩::rest):=
 WL.to h hd fun v m' H' ⟨a,Es,b,c⟩=>by subst c;exact k m' Es v a b
theorem B7S{i:Nat}{g:Option (Nat×Bool)}{must:Bool}{π:Plan}{piv non:List Nat}{KK:Mem→List Ent→B6→Prop}{A:List Ent}{R:Mem→List Ent→Value→Prop}(ho:ops[i]?=some ⟨some d,op,ty,pos,after,g⟩)(hp:piv.contains i=true)(hn:non.contains i=true)(hg:N6 ops σ ⟨some d,op,ty,pos,after,g⟩=some true)
 (h:OpTo P B m H σ op ty (fun v m' H'=>m.le m'∧∃Es,R m' Es v∧H'=A++Es)) (hd:d<N)
 (k:∀m' Es v,m.le m'→R m' Es v→DW P B N ops piv non KK false π m' (A++Es) ((d,v)::σ)):DW P B N ops piv non KK must (.cons i π) m H σ:=
 DW.to ho hp hg h hd (fun a=>by rw[hn]at a;cases a) (fun _ _ _ h=>h.1) fun v m' H' ⟨b,Es,c,f⟩=>by subst f;exact k m' Es v b c
theorem A0S{b:Nat}{T':TypeId}{cs:List Value}(k:Nat)(A C:List Ent)(hX:B.X=B8 C)(hH:H=A++C)(hf:A7 A k=some (blk b T' cs))
 (kk:∀m',m.le m'→Cells m' ⟨b,0,none⟩ cs→WK N B m' (X3 A k++C) σ K):WK N B m H σ K:=by
 intro Ds w q a r
 subst hH
 have d:St B m (A++(C++marks Ds)) w:=by simpa using q
 have g:(blk b T' cs).holds w:=C3 d (S8 hf)
 obtain⟨l,p⟩:=d.freezeX (fun c n=>by
  have:=d.apart hf c n
  rw[hX];intro f;exact this (by rw[E5];exact Sk _ f)) (S8 hf)
 rw[Ly hf]at l
 exact kk _ p ⟨rfl,cs.toArray,T',(0,0),by simp only[blk]at g ⊢; simp[g],fun j v o=>by simpa using o⟩ Ds w (by simpa using l) a r
theorem J9{x:Operand}{t:TypeId}{p:Addr}{v:Value}(ha:∀w,(isAgg t).run P w= .ok false w)(hx:ev σ x=some (.pointer (some p)))(hp:Cells m p [v]):
 OpX P B m H σ (.load t x) ty v:=
 .ofRun trivial (L6 rfl hx) fun w a o b _=>by
  simp[execOp,b,A6 hx,Instr.loadAt,Instr.sureAddr,loadVar,ha,hp.cell0 a.sub]
def Mi(B:Base){S:Type}(m1:Mem)(HS:S→List Ent)(I:Mem→S→Prop)(Ix:Exit→Mem→S→Prop):Exit→Act→World→Prop
 | .normal,_,w=>∃m' s,m1.le m'∧I m' s∧St B m' (HS s) w
 | .ret,_,w=>∃m' s,m1.le m'∧Ix .ret m' s∧St B m' (HS s) w
 | .exit id,_,w=>∃m' s,m1.le m'∧Ix (.exit id) m' s∧St B m' (HS s) w
 |_,_,_=>False
theorem P6{S:Type}{m1:Mem}{HS:S→List Ent}{I:Mem→S→Prop}{Ix:Exit→Mem→S→Prop}(s:S)(hm:m1.le m)(hH:(HS s).Sublist H)(hI:I m s):WK N B m H σ (Mi B m1 HS I Ix .normal):=
 fun _ _ a _ _=>⟨m,s,hm,hI,a.weaken (hH.trans (UB _ _))⟩
theorem A9p{S:Type}{m1:Mem}{HS:S→List Ent}{I:Mem→S→Prop}{Ix:Exit→Mem→S→Prop}(s:S)(hm:m1.le m)(hH:(HS s).Sublist H)(hI:Ix .ret m s):WK N B m H σ (Mi B m1 HS I Ix .ret):=
 fun _ _ a _ _=>⟨m,s,hm,hI,a.weaken (hH.trans (UB _ _))⟩
def DB:Exit→Code
 | .ret=>.ret
 | .exit id=>.exit id
 |_=>.skip
theorem Oz(ps:List Nat)(args:List Value):∀(t:Array Value) (σ:B6),(∀u v,lk σ u=some v→t[u]?=some v)→(∀p∈ps,p<t.size)→ps.length=args.length→
 let t':=(ps.zip args).foldl (fun t (p:Nat×Value)=>t.setIfInBounds p.1 p.2) t
 t'.size=t.size∧∀u v,lk ((ps.zip args).reverse++σ) u=some v→t'[u]?=some v:=by
 induction ps generalizing args with
 |nil=>intro t σ h _ hl;cases args with
  |nil=>exact⟨rfl,h⟩
  |cons=>simp at hl
 |cons p ps ih=>
  intro t σ h hp hl
  cases args with
  |nil=>simp at hl
  |cons x xs=>
   have c:∀u v,lk ((p,x)::σ) u=some v→(t.setIfInBounds p x)[u]?=some v:=by
    intro u v a
    by_cases e:p=u
    ·subst e;rw[Bf]at a;cases a;simp[hp p (Sf ..)]
    ·rw[BU _ _ e]at a;rw[UA e];exact h u v a
   obtain⟨d,f⟩:=ih xs (t.setIfInBounds p x) ((p,x)::σ) c (fun q b=>by simpa using hp q (Sg _ b)) (by simpa using hl)
   refine⟨by simpa using d,fun u v a=>?_⟩
   refine f u v ?_
   simpa using a
theorem WC.rangeFunc{g:Operand}{ps:List Nat}{assign body:Code}{gf:Nat}{lb:List Value}{n:Nat}{A:Nat→Mem→Array Value→Prop}
 (hg:ev σ g=some (.func (.func gf) #[] lb.toArray)) (eg:Enters P gf) {once:Bool} (hit:S1 P gf lb m once n A)
 {S G:Type} (HS:S→List Ent) (I:Nat→Mem→S→Prop) (Ix:Exit→Nat→Mem→S→Prop) (s0:S) (hH:HS s0=H) (h0:I 0 m s0) (hone:once=true→∀i m' s,¬I (i+1) m' s) (hmono:∀i m1 m2 s,m1.le m2→I i m1 s→I i m2 s)
 (hps:∀p∈ps,p<N) (hA:∀i m1 args,A i m1 args→args.size=ps.length)
 (HA:G→S→List Ent) (σA:G→List Value→B6)
 (hassign:∀l B' m1 s args (K:Act→World→Prop),args.length=ps.length→(∀g,WK N B' m1 (HA g s) (σA g args) K)→WC (some l) P N (Exit.then K (fun _ _ _=>False)) B' m1 (HS s) ((ps.zip args).reverse++σ) assign)
 (hbody:∀l B' i m1 s args g,args.length=ps.length→i<n→m.le m1→A i m1 args.toArray→I i m1 s→WC (some l) P N (Mi B' m1 HS (I (i+1)) (fun e=>Ix e (i+1))) B' m1 (HA g s) (σA g args) body)
 (hdone:∀m' s,m.le m'→I n m' s→WK N B m' (HS s) σ (Q .normal))
 (hret:∀i m' s,m.le m'→i≤n→Ix .ret i m' s→WK N B m' (HS s) σ (Q .ret))
 (hexit:∀id i m' s,m.le m'→i≤n→Ix (.exit id) i m' s→WK N B m' (HS s) σ (Q (.exit id))):
 WC none P N Q B m H σ (.rangeFunc g ps.toArray assign body):=by
 intro Ds w hw a T
 subst hH
 refine wpIn_rangeFunc ?_
 intro fn b5
 show∃(l:Nat) (mark:List Deferred) (w₁:World) (d:Deferred) (w₁':World) (f:FuncId) (args:Array Value) (w₂:World),(Instr.enterLoop fn a.tmps ps.toArray assign body none).run P w= .ok (l,mark) w₁∧_
 obtain⟨rec,b⟩:∃rec:LoopState→Option Code→Loop,rec=fun st pe=>{state:=st,pending:=pe,fn,tmps:=a.tmps,params:=ps.toArray,assign,body,defers:=w.heap.size}:=⟨_,rfl⟩
 have a5:=run_enterLoop_outer (P:=P) (w:=w) fn a.tmps ps.toArray assign body
 have c:=(hw.laid (.deferred (some []))).laid (.loop (rec .ready none))
 rw[World.size_alloc]at c
 obtain⟨W1,a2⟩:∃W1,(w.alloc (.deferred (some []))).alloc (.loop (rec .ready none))=W1:=⟨_,rfl⟩
 rw[a2]at c
 refine⟨w.heap.size+1,[mk w.heap.size],W1,{target:=.fn (.func gf) lb.toArray,args:=#[.func (.yield (w.heap.size+1)) #[] #[]]},W1,gf,
  (Value.func (.yield (w.heap.size+1)) #[] #[]::lb).toArray,W1,?_,?_,?_,?_,by simp[Dg],?_⟩
 ·rw[a5,←a2,b];rfl
 ·have:=T.eval hg
  simp only[resolve,this]
  simp[go_sem]
 ·intro f' _;exact BE none f'
 ·simp only[invoke]
  rw[show(#[Value.func (Fn.yield (w.heap.size+1)) #[] #[]]++lb.toArray:Array Value)=(Value.func (Fn.yield (w.heap.size+1)) #[] #[]::lb).toArray by simp]
  exact eg _ _
 ·have F:∀(w':World) (B':Base) (m':Mem) (H':List Ent) (o:Obj),St B' m' (H'++[F0 (w.heap.size+1) o]) w'→w'.heap[w.heap.size+1]?=some o:=fun w' B' m' H' o h=>h.own (F0 (w.heap.size+1) o) (by simp)
  have V:((HS s0++[F0 (w.heap.size+1) (.loop (rec .ready none))])++(F0 w.heap.size (.deferred (some []))::marks Ds)).Perm
   (F0 (w.heap.size+1) (.loop (rec .ready none))::F0 w.heap.size (.deferred (some []))::(HS s0++marks Ds)):=by
   simp only[Se,Uu]
   refine So.trans ?_
   exact List.Perm.cons _ So
  have E:=c.perm V
  refine Gt none ?_
  refine(hit (w.heap.size+1) (S ⊕ (S×Exit)) (fun
   | .inl s=>HS s++[F0 (w.heap.size+1) (.loop (rec .ready none))]
   | .inr (s,e)=>HS s++[F0 (w.heap.size+1) (.loop (rec .done (some (DB e))))])
   (fun i m' x=>match x with
    | .inl s=>I i m' s
    | .inr _=>False)
   (fun i m' x=>match x with
    | .inl _=>False
    | .inr (s,e)=>Ix e i m' s∧(e= .ret∨∃id,e= .exit id)) (.inl s0) (fun ho i m' x=>by rcases x with s|x;exact hone ho i m' s;exact fun h=>h) (fun i m1 m2 x hm h=>by rcases x with s|x;exact hmono i m1 m2 s hm h;exact h) ?_ h0 W1 E.part).mono ?_
  ·
    rintro i m1 x args hi b1 q hI B' w' M
    rcases x with s|x
    ·have a6:=F _ _ _ _ _ M
     have hy:=run_yield (P:=P) (args:=args) a6 (by rw[b];simpa using hA i m1 args q)
     rw[b]at hy
     refine⟨fn,_,assign,body,hy,roundIn_of_wpIn trivial ?_⟩
     have a7:St ⟨w',B8 (HS s),m1⟩ m1 (HS s) w':=M.part
     obtain⟨b2,a4⟩:=Oz ps args.toList a.tmps σ (fun u v hu=>T.get u v hu) (fun p D=>by rw[T.size];exact hps p D) (by simpa using(hA i m1 args q).symm)
     refine hassign (w.heap.size+1) _ m1 s args.toList _ (by simpa using hA i m1 args q) ?_ [] w' (by simpa[marks]using a7) _ ⟨rfl,?_,?_⟩
     rotate_left
     ·simp only[←Tr];rw[TO];rw[b2,T.size]
     ·intro u v hu
      have:=a4 u v hu
      simp only[←Tr];rw[TO];exact this
     ·intro g Ds' w1 b3 a1 b4
      have W:=M.handed b3
      have a8:=F _ _ _ _ _ W
      refine⟨_,run_beginRound a8 (by rw[b]),?_⟩
      have X:=W.turn (o':=.loop {rec .ready none with state:=.busy}) (R:=[])
      have hb:=hbody (w.heap.size+1) _ i m1 s args.toList g (by simpa using hA i m1 args q) hi b1 (by simpa using q) hI Ds' _ X.part a1 b4
      refine wpIn_mono hb ?_
      intro e a3 w3 D
      have fin:∀(jump:Option Code) (m':Mem) (s':S),St ⟨w1.putObj (w.heap.size+1) (.loop {rec .ready none with state:=.busy}),B8 (HA g s++marks Ds'),m1⟩ m' (HS s') w3→
       (Instr.endRound (w.heap.size+1) jump).run P w3= .ok (.bool jump.isNone) (w3.putObj (w.heap.size+1) (.loop (rec (if jump.isNone then .ready else .done) jump)))∧
       St B' m' (HS s'++[F0 (w.heap.size+1) (.loop (rec (if jump.isNone then .ready else .done) jump))]) (w3.putObj (w.heap.size+1) (.loop (rec (if jump.isNone then .ready else .done) jump))):=by
       intro jump m' s' C
       have Y:=X.handed C
       have a9:=F _ _ _ _ _ Y
       have he:=run_endRound (P:=P) jump a9
       refine⟨?_,?_⟩
       ·rw[he,b]
       ·exact Y.turn (R:=[])
      cases e with
      |normal=>
       obtain⟨m',s',z,y,h3⟩:=D
       obtain⟨J,L⟩:=fin none m' s' h3
       exact⟨_,_,J,.inl ⟨rfl,m',_,⟨z,.inl s',rfl,y⟩,L⟩⟩
      |ret=>
       obtain⟨m',s',z,y,h3⟩:=D
       obtain⟨J,L⟩:=fin (some .ret) m' s' h3
       exact⟨_,_,J,.inr ⟨rfl,m',_,⟨z,.inr (s',.ret),rfl,y,.inl rfl⟩,L⟩⟩
      |exit id=>
       obtain⟨m',s',z,y,h3⟩:=D
       obtain⟨J,L⟩:=fin (some (.exit id)) m' s' h3
       exact⟨_,_,J,.inr ⟨rfl,m',_,⟨z,.inr (s',.exit id),rfl,y,.inr ⟨id,rfl⟩⟩,L⟩⟩
      |goto t=>exact D.elim
      |panic ch=>exact D.elim
      |outgrown=>exact D.elim
    ·exact hI.elim
  ·
    rintro e w2 ⟨v,m',Es,rfl,hs,x,rfl,hx⟩
    have a0:=E.handed hs
    have fin:∀(s:S) (r:Loop) (jump:Option Code),r.state≠ .busy→r.pending=jump→St B m' ((HS s++[F0 (w.heap.size+1) (.loop r)])++(F0 w.heap.size (.deferred (some []))::marks Ds)) w2→
     (Instr.endLoop (w.heap.size+1)).run P w2= .ok jump (w2.putObj (w.heap.size+1) (.loop {r with state:=.exhausted}))∧
     St B m' (HS s++marks (w.heap.size::Ds)) (w2.putObj (w.heap.size+1) (.loop {r with state:=.exhausted})):=by
     intro s r jump hr hj C
     have b0:w2.heap[w.heap.size+1]?=some (.loop r):=C.own (F0 (w.heap.size+1) (.loop r)) (by simp)
     refine⟨by rw[←hj];exact run_endLoop b0 hr,?_⟩
     have J:St B m' (HS s++F0 (w.heap.size+1) (.loop r)::(F0 w.heap.size (.deferred (some []))::marks Ds)) w2:=by simpa using C
     have L:=J.turn (o':=.loop {r with state:=.exhausted})
     exact L.weaken (UD (Tq _ _) _)
    have k:Env N (w.heap.size::Ds) σ {a with defers:=[mk w.heap.size]++a.defers}:=⟨by simp[T.defers],T.size,T.get⟩
    rcases x with s|⟨s,e⟩
    ·rcases hx with hI|⟨i,_,hF⟩
     ·obtain⟨z,y⟩:=fin s (rec .ready none) none (by rw[b];simp) (by rw[b]) a0
      refine⟨_,_,z,?_⟩
      exact hdone m' s hs.le hI _ _ y _ k
     ·exact hF.elim
    ·rcases hx with hF|⟨i,hi,hIx,he⟩
     ·exact hF.elim
     ·obtain⟨z,y⟩:=fin s (rec .done (some (DB e))) (some (DB e)) (by rw[b];simp) (by rw[b]) a0
      refine⟨_,_,z,?_⟩
      rcases he with rfl|⟨id,rfl⟩
      ·exact wpIn_ret (hret i m' s hs.le hi hIx _ _ y _ k)
      ·exact wpIn_exit (hexit id i m' s hs.le hi hIx _ _ y _ k)
end
section
variable{P:Program}{B:Base}{m:Mem}{H:List Ent}{σ:B6}{ty:TypeId}
theorem O8{x:Operand}{s d:TypeId}{a:Int}{k k':IntKind}(hu:∀w,(underlying s).run P w= .ok (.int k) w)(hv:∀w,(underlying d).run P w= .ok (.int k') w)
 (hx:ev σ x=some (.int k a)) (h:k'.wrap a=a):OpX P B m H σ (.convert s d x) ty (.int k' a):=
 .ofRun trivial (L6 rfl hx) fun w _ o b _=>by simp[execOp,b,A6 hx,Go.convert,hu,hv,Conv.intToInt,h]
theorem U2{a:Int}(h0:0≤a)(h1:a≤9223372036854775807):IntKind.u64.wrap a=a:=by
 simp[IntKind.wrap,IntKind.bits,IntKind.signed]
 omega
end
section
variable{P:Program}{B:Base}{m:Mem}{H:List Ent}{σ:B6}{ty:TypeId}{op:Op}
theorem OpX.t{p:Prop}[Decidable p](h:OpX P B m H σ op ty (.bool (decide p)))(hp:p):OpX P B m H σ op ty (.bool true):=by rw[SF hp]at h;exact h
theorem OpX.f{p:Prop}[Decidable p](h:OpX P B m H σ op ty (.bool (decide p)))(hp:¬p):OpX P B m H σ op ty (.bool false):=by rw[Tg hp]at h;exact h
theorem B4t{b:Bool}(h:OpX P B m H σ op ty (.bool b))(hb:b=true):OpX P B m H σ op ty (.bool true):=by rw[hb]at h;exact h
theorem B7L{b:Bool}(h:OpX P B m H σ op ty (.bool b))(hb:b=false):OpX P B m H σ op ty (.bool false):=by rw[hb]at h;exact h
theorem A6D{x y:Operand}{t t':TypeId}{a b:Bool}(hu:P.underlying t=some .bool)(hx:ev σ x=some (.bool a))(hy:ev σ y=some (.bool b)):OpX P B m H σ (.binOp .neq t x y t') ty (.bool (decide (¬a=b))):=
 .ofRun trivial (D1 rfl hx hy) fun w _ o c _=>by
  have h:=run_equal_bool (P:=P) w t a b hu
  simp[execOp,c,A6 hx,A6 hy,eqGuard,binOp,h]
  cases a <;> cases b <;> rfl
variable{M:Option Nat}{N:Nat}{ops:Array Oper}{Q:Exit→Act→World→Prop}{rest:List Oper}
theorem Ra{α:Type}[Flat α]{t e:TypeId}{bytes n:Nat}{z:Value}{parts:List (Nat×Operand)}{vals:List Value}{L:List α}(hS:SlT P t e (Flat.n α) bytes z)
 (hv:MZ σ parts=some (IQ 0 vals)) (hr:vals.flatMap (fun v=>v.cells.toList)=flat L) (hsz:∀v∈vals,v.cells.size=Flat.n α) (hn:vals.length=n) (hL:L.length=n) (hm:Nat.ble (n*Flat.n α) 16777216=true):
 OpTo P B m H σ (.buildSlice t n parts.toArray) ty (fun v m' H'=>m'=m∧H'=A5 v e L::H):=
 .ofRun trivial (by intro x D;exact(DS hv).2 x (by simpa[Op.operands]using D)) fun w p o q _=>by
  have f:¬16777216<n*Flat.n α:=by have:=J' hm;omega
  obtain⟨a,k,C⟩:=KU (sz:=Flat.n α) vals 0 ((Array.range (n*Flat.n α)).map (z.cells[· %z.cells.size]!)) hsz (by simp[hn])
  have b:a.toList=flat L:=by
   rw[C,hr];simp[hn]
  have d:=Flat.pos (α:=α)
  have r:n≤n*Flat.n α:=Ud _ d
  refine⟨.slice (some ⟨w.heap.size,0,none⟩) n n,w.alloc (.cells a e),.inl ?_,m,_,⟨rfl,rfl⟩,p.push (Ext.alloc w _) _ ?_ (by simp[A5,row,Value.ownBlock]) (by simp[A5,row,Value.ownBlock])⟩
  ·have y:(Array.map (fun x:Nat×Operand=>match x with|(i,x)=>(i,T4 σ x)) parts.toArray).toList=IQ 0 vals:=by simpa using(DS hv).1
   simp only[execOp,q,Instr.buildSlice,Sem.run_bind,hS.u,Result.andThen_ok,hS.s]
   rw[A' f]
   rw[y]
   by_cases l:n*Flat.n α=0
   ·rw[D' l]
    have:n=0:=by omega
    subst this
    have:vals=[]:=Tj hn
    subst this
    simp[IQ,Instr.fill]at k⊢
    simp[newRow]
    have:a=#[]:=by apply Array.ext';rw[b,←hr];rfl
    rw[this];congr 2
    exact Array.ext' (by simp[Array.range])
   ·rw[A' l]
    simp only[Sem.run_bind,hS.zr,Result.andThen_ok,Sem.run_pure]
    rw[k]
    simp[newRow]
  ·have g:a.size=n*Flat.n α:=by rw[←Tc,b,F8,hL]
   have A:=J' hm
   have c:(w.alloc (.cells a e)).ownsRow 0 e (Flat.n α) (.slice (some ⟨w.heap.size,0,none⟩) n n) n (flat L):=
    ⟨by rw[F8,hL],.inr ⟨w.heap.size,n,a,rfl,EF _,heap_alloc_new w _,E' _,by simp only[maxLen];omega,g,by rw[b,Tk (by rw[F8,hL];omega)]⟩⟩
   simpa[A5,row,hL]using c
end
section
variable{P:Program}{B:Base}{m:Mem}{H:List Ent}{σ:B6}{ty:TypeId}
theorem IT{f:FuncId}{x:Operand}{bd cap:Array Value}{l:List Operand}{ts:Array TypeId}{vs:List Value}(hf:Enters P f)(hx:ev σ x=some (.func (.func f) bd cap))(hl:AS σ l=some vs)(w:World)(o:Oper)
 (ho:o.op= .call (Call.mk (.value x) l.toArray ts)):(execOp (T4 σ) o).run P w= .ok (.enter f (bd++vs.toArray++cap)) w:=by
 have a:=(Ci hl).1
 have b:=hf (bd++vs.toArray++cap) w
 simp[execOp,ho,resolve,Deferred.ofValue,A6 hx,invoke]
 rw[show l.map (fun x=>T4 σ x)=vs from a]
 simpa using b
theorem B2Y{f:FuncId}{x:Operand}{bd cap:Array Value}{l:List Operand}{ts:Array TypeId}{vs:List Value}{v:Value}(hf:Enters P f)(hx:ev σ x=some (.func (.func f) bd cap))(hl:AS σ l=some vs)
 (hc:Exact P f (bd++vs.toArray++cap) m v):OpX P B m H σ (.call (Call.mk (.value x) l.toArray ts)) ty v:=
 ⟨trivial,BB hx hl,fun w c o a next Q d g k=>by
  rw[IT hf hx hl w o d]
  refine(hc w c.sub).mono fun e w' b=>?_
  have hx:=Ret.ext b rfl
  obtain⟨u,m',H',rfl,n,rfl⟩:=b
  exact k w' hx⟩
theorem B7I{f:FuncId}{x:Operand}{bd cap:Array Value}{l:List Operand}{ts:Array TypeId}{vs:List Value}{R:Mem→Value→Prop}(hf:Enters P f)(hx:ev σ x=some (.func (.func f) bd cap))(hl:AS σ l=some vs)
 (hc:Pure P f (bd++vs.toArray++cap) m R):OpTo P B m H σ (.call (Call.mk (.value x) l.toArray ts)) ty (fun v m' H'=>H'=H∧m.le m'∧R m' v):=
 ⟨trivial,BB hx hl,fun M B w b o a next Q d p k=>Q6 M<| by
  rw[IT hf hx hl w o d]
  refine(hc w b.sub).mono fun e w' g=>?_
  obtain⟨u,m',H',rfl,c,n⟩:=g
  exact k u m' H w' ⟨rfl,c.le,n⟩ (b.called c)⟩
theorem Bv{f:FuncId}{bd:List Operand}{vs:List Value}(hd:∀x∈bd,∃v,ev σ x=some v)(hc:bd.map (T4 σ)=vs):
 OpX P B m H σ (.makeFunc (.func f) bd.toArray #[]) ty (.func (.func f) vs.toArray #[]):=
 .ofRun trivial (by intro x a;simp[Op.operands]at a;exact hd x a) fun w _ o b _=>by simp[execOp,b,Instr.makeFunc,hc]
theorem C8{f:FuncId}{l:List Operand}{ts:Array TypeId}{vs:List Value}{A Hs:List Ent}{R:Mem→List Ent→Value→Prop}(hf:Enters P f)
 (hl:AS σ l=some vs) (hp:(Hs++A).Perm H)
 (hc:Mut P f vs.toArray m Hs R):OpTo P B m H σ (.call (Call.mk (.value (.func f)) l.toArray ts)) ty (fun v m' H'=>m.le m'∧∃Es,R m' Es v∧H'=Es++A):=
 ⟨trivial,BB rfl hl,fun M B w d o a next Q g p kk=>Q6 M<| by
  rw[CV hf hl w o g]
  have b:=d.perm hp
  refine(hc w b.part).mono fun e' w' k=>?_
  obtain⟨u,m',H',rfl,c,n⟩:=k
  exact kk u m' _ w' ⟨c.le,H',n,rfl⟩ (b.handed c)⟩
theorem T1{op:Op}{T:Value→Mem→List Ent→Prop}{k:Nat}{v:Value}{e:TypeId}{sz n:Nat}{xs:List Value}(hH:A7 H k=some (row v e sz n xs))(hs:notSel op)(hd:Kx.defd σ op)
 (h:v.oneCell'=true→OpTo P B m H σ op ty T):OpTo P B m H σ op ty T:=
 ⟨hs,hd,fun M B' w a=>(h (by
  have b:(row v e sz n xs).holds w:=C3 a hH
  rcases b.2 with⟨rfl,_⟩|⟨g,cap,cur,rfl,_⟩ <;> rfl)).run M B' w a⟩
theorem B7E{op:Op}{V:Value}{k:Nat}{v:Value}{e:TypeId}{sz n:Nat}{xs:List Value}(hH:A7 H k=some (row v e sz n xs))(hs:notSel op)(hd:Kx.defd σ op)
 (h:v.oneCell'=true→OpX P B m H σ op ty V):OpX P B m H σ op ty V:=
 ⟨hs,hd,fun w a=>(h (by
  have b:(row v e sz n xs).holds w:=C3 a hH
  rcases b.2 with⟨rfl,_⟩|⟨g,cap,cur,rfl,_⟩ <;> rfl)).run w a⟩
theorem OpTo.perm{op:Op}{T:Value→Mem→List Ent→Prop}{H':List Ent}(hp:H'.Perm H)(h:OpTo P B m H' σ op ty T):OpTo P B m H σ op ty T:=
 ⟨h.sel,h.defd,fun M B' w a=>h.run M B' w (a.perm hp)⟩
theorem Rv{x:Operand}{s:TypeId}{i:Nat}{fs:Array Field}{f:Field}{cs:List Value}{v:Value}(hu:∀w,(underlying s).run P w= .ok (.struct fs) w)(hf:fs[i]?=some f)
 (_hs:∀w,(sizeOf f.type).run P w= .ok 1 w) (hx:ev σ x=some (.agg cs.toArray)) (ha:∀w,(isAgg f.type).run P w= .ok false w) (hv:cs[f.offset]?=some v):OpX P B m H σ (.field s x i) ty v:=
 .ofRun trivial (L6 rfl hx) fun w _ o b _=>by
  have a:cs.toArray[f.offset]?=some v:=by simpa using hv
  simp only[execOp,b,A6 hx,Instr.field,hu,hf,part,ha,asAgg,Sem.run_bind,Result.andThen_ok,Sem.run_pure,Bool.false_eq_true,if_false]
  rw[a]
  rfl
def Qt:Value→Bool
 | .slice none _ _=>true
 |_=>false
theorem Sl.nil_of{α:Type}[Enc α]{v:Value}{L:List α}(h:Sl m v L)(hn:Qt v=true):L=[]:=by
 cases h with
 |nil=>rfl
 |some a _ cap hs hc hb hcap h=>cases hn
theorem AX{α:Type}[Enc α]{x y:Operand}{t t' e:TypeId}{v:Value}{L:List α}(hu:P.underlying t=some (.slice e))(hx:ev σ x=some v)(hy:ev σ y=some (.slice none 0 0))(hs:Sl m v L):
 OpX P B m H σ (.binOp .eql t x y t') ty (.bool (Qt v)):=
 .ofRun trivial (D1 rfl hx hy) fun w _ o b _=>by
  cases hs with
  |nil=>
   have h:=run_equal_slice_nil (P:=P) w t e none 0 0 hu
   simp[execOp,b,A6 hx,A6 hy,eqGuard,binOp,h,Qt]
  |some a _ cap hs hc hb hcap h'=>
   have h:=run_equal_slice_nil (P:=P) w t e (some a) L.length cap hu
   simp[execOp,b,A6 hx,A6 hy,eqGuard,binOp,h,Qt]
theorem At.zero{α:Type}[Enc α]{p:Addr}{x:α}(h:At m p x):At m (p.add 0) x:=by simpa[Addr.add]using h
theorem A1d{β:Type}{C us:List β}{off n:Nat}(h:off+us.length≤n)(hn:n≤C.length):
 (C.take off++us++C.drop (off+us.length)).take n=(C.take n).take off++us++(C.take n).drop (off+us.length):=by
 have a:(C.take off++us).length=off+us.length:=by rw[F',Sr,SQ (by omega)]
 rw[List.take_append,a,Tk (by omega),List.take_take,SQ (by omega),List.drop_take]
theorem Cd{w:World}(hw:St B m H w){k off:Nat}{v:Value}{us:List Value}{e:TypeId}{sz n:Nat}{xs:List Value}(hH:A7 H k=some (row v e sz n xs))(h0:0<us.length)(ho:off+us.length≤xs.length)(h1:∀u∈us,u.oneCell'=true):
 ∃w',(storeCells (rp v off) us).run P w= .ok () w'∧St B m (H4 H k (row v e sz n (xs.take off++us++xs.drop (off+us.length)))) w':=by
 have f:(row v e sz n xs).holds w:=C3 hw hH
 have r:0<n:=by
  rcases TM n with h2|h2
  ·have:=f.1;rw[h2,SU]at this;omega
  ·exact h2
 obtain⟨g,cap,cur,rfl,p,t,x,y,q⟩:=EB f r
 have o:xs.length≤cur.size:=by rw[←q];simp;omega
 have a:=run_storeCells_at P g off e us 0 cur w p (by simpa using Sz ho o) (by simpa using h1)
 simp only[TB]at a
 refine⟨_,a,hw.change hH rfl rfl rfl (by simp[World.setRow]) ?_ ?_ ?_ (by simp[row,Value.ownBlock])⟩
 ·intro c _ l
  exact Kx.setRow_other w g _ c (by simpa[row,Value.ownBlock]using l)
 ·have b:(xs.take off++us++xs.drop (off+us.length)).length=xs.length:=by simp;omega
  refine⟨by rw[b];exact f.1,.inr ⟨g,cap,_,rfl,EF _,Kx.setRow_self' w g _ cur e _ p,t,x,?_,?_⟩⟩
  ·simp;omega
  ·have d:xs.length=n*sz:=f.1
   have s:cur.toList.take xs.length=xs:=by rw[d];exact q
   have:=A1d (C:=cur.toList) (us:=us) (off:=off) (n:=xs.length) ho (by simpa using o)
   rw[s]at this
   rw[←d]
   simpa using this
 ·intro c l;exact .inl l
theorem NC{α:Type}[Flat α][Inhabited α]:∀{L:List α} {i:Nat},i<L.length→flat L=flat (L.take i)++(Flat.enc (gt L i)++flat (L.drop (i+1)))
 |x::L,0,_=>by simp[flat,gt]
 |x::L,i+1,h=>by
  have:=NC (L:=L) (i:=i) (by simpa using h)
  have a:gt (x::L) (i+1)=gt L i:=by simp[gt]
  rw[a]
  simp only[List.take_succ_cons,List.drop_succ_cons]
  show Flat.enc x++flat L=(Flat.enc x++flat (L.take i))++_
  rw[this,Se]
theorem A8p{α:Type}[Flat α][Inhabited α]{L:List α}{i off:Nat}{us:List Value}{a:α}(h:i<L.length)(ho:off+us.length≤Flat.n α)
 (hs:(Flat.enc (gt L i)).take off++us++(Flat.enc (gt L i)).drop (off+us.length)=Flat.enc a):
 (flat L).take (i*Flat.n α+off)++us++(flat L).drop (i*Flat.n α+off+us.length)=flat (L.set i a):=by
 have c:(flat (L.take i)).length=i*Flat.n α:=by rw[F8,Sr,SQ (Nat.le_of_lt h)]
 have b:flat (L.set i a)=flat (L.take i)++(Flat.enc a++flat (L.drop (i+1))):=by
  rw[Ua,D' h,S2];rfl
 have d:(Flat.enc (gt L i)).length=Flat.n α:=Flat.len _
 rw[b,NC h,←hs]
 rw[List.take_append,c,Tk (by omega),Uf,Ug (by omega)]
 rw[SX,List.drop_append,c,UE (by omega),Uf,List.drop_append_of_le_length (by omega)]
 simp[Se]
theorem D3{α:Type}[Flat α][Inhabited α]{x y:Operand}{t e:TypeId}{k i off sz:Nat}{v u:Value}{L:List α}{us:List Value}(a:α)(hz:∀w,(sizeOf t).run P w= .ok sz w)
 (hx:ev σ x=some (.pointer (some (rp v (i*Flat.n α+off))))) (hy:ev σ y=some u) (hc:u.cells=us.toArray) (hl:us.length=sz) (h0:0<us.length) (hH:A7 H k=some (A5 v e L)) (hi:i<L.length)
 (ho:Nat.ble (off+us.length) (Flat.n α)=true) (hs:(Flat.enc (gt L i)).take off++us++(Flat.enc (gt L i)).drop (off+us.length)=Flat.enc a) (h1:∀u∈us,u.oneCell'=true):
 OpTo P B m H σ (.store t x y) ty (fun _ m' H'=>m'=m∧H'=H4 H k (A5 v e (L.set i a))):=
 .ofRun trivial (D1 rfl hx hy) fun w g o d _=>by
  have f:=J' ho
  have b:i*Flat.n α+off+us.length≤(flat L).length:=by
   rw[F8]
   have:(i+1)*Flat.n α≤L.length*Flat.n α:=Sw _ hi
   rw[Sb]at this;omega
  obtain⟨w',l,c⟩:=Cd (P:=P) (off:=i*Flat.n α+off) g hH h0 b h1
  refine⟨undef,w',.inr ⟨by simp[execOp,d,A6 hx,A6 hy,Instr.storeAt,Instr.sureAddr,storeVar,hz,hc,hl,l],rfl⟩,m,_,⟨rfl,rfl⟩,?_⟩
  rw[A8p hi f hs]at c
  simpa[A5]using c
theorem OU{α:Type}[Flat α][Inhabited α]{L:List α}{i:Nat}(h:i<L.length){off:Nat}{u:Value}(hu:(Flat.enc (gt L i))[off]?=some u):(flat L)[i*Flat.n α+off]?=some u:=by
 exact FC L i _ (S9 h) off u hu
theorem P2{α:Type}[Flat α][Inhabited α]{x:Operand}{t e:TypeId}{k i off:Nat}{v u:Value}{L:List α}(ha:∀w,(isAgg t).run P w= .ok false w)
 (hx:ev σ x=some (.pointer (some (rp v (i*Flat.n α+off))))) (hH:A7 H k=some (A5 v e L)) (hi:i<L.length) (hu:(Flat.enc (gt L i))[off]?=some u):OpX P B m H σ (.load t x) ty u:=
 M3 ha hx hH (OU hi hu)
theorem RQ{α:Type}[Flat α][Inhabited α]{x:Operand}{t e:TypeId}{k i off n:Nat}{v:Value}{L:List α}{us:List Value}(ha:∀w,(isAgg t).run P w= .ok true w)(hz:∀w,(sizeOf t).run P w= .ok n w)
 (hx:ev σ x=some (.pointer (some (rp v (i*Flat.n α+off))))) (hH:A7 H k=some (A5 v e L)) (hi:i<L.length) (hn:us.length=n) (hu:((Flat.enc (gt L i)).drop off).take n=us):OpX P B m H σ (.load t x) ty (.agg us.toArray):=
 .ofRun trivial (L6 rfl hx) fun w c o d _=>by
  subst hn
  have f:=run_loadCells_list (P:=P) w (rp v (i*Flat.n α+off)) us (fun j u b=>by
   have a:(rp v (i*Flat.n α+off)).add j=rp v (i*Flat.n α+(off+j)):=by
    unfold rp;rw[C9 rfl,SX]
   rw[a]
   refine(FK (C3 c hH) (OU hi ?_)).1
   rw[←hu,SI]at b
   split at b
   ·simpa using b
   ·cases b)
  simp[execOp,d,A6 hx,Instr.loadAt,Instr.sureAddr,loadVar,ha,hz,f]
def wr(a:Int):Int:=IntKind.i64.wrap a
theorem B5A{a:Int}(h1: -9223372036854775808≤a)(h2:a≤9223372036854775807):wr a=a:=P7 h1 h2
theorem A6b{x y:Operand}{t t':TypeId}{a b:Int}(hx:ev σ x=some (.int .i64 a))(hy:ev σ y=some (.int .i64 b)):OpX P B m H σ (.binOp .add t x y t') ty (.int .i64 (wr (a+b))):=
 .ofRun trivial (D1 rfl hx hy) fun w _ o c _=>by simp[execOp,c,A6 hx,A6 hy,eqGuard,binOp,Op.intArith,wr]
theorem Mj{x y:Operand}{t t':TypeId}{a b:Int}(hx:ev σ x=some (.int .i64 a))(hy:ev σ y=some (.int .i64 b)):OpX P B m H σ (.binOp .sub t x y t') ty (.int .i64 (wr (a-b))):=
 .ofRun trivial (D1 rfl hx hy) fun w _ o c _=>by simp[execOp,c,A6 hx,A6 hy,eqGuard,binOp,Op.intArith,wr]
attribute [irreducible] wr
theorem B3Y{x y:Operand}{t t':TypeId}{a b:Int}(hx:ev σ x=some (.int .i64 a))(hy:ev σ y=some (.int .i64 b))(hb:b≠0):
 OpX P B m H σ (.binOp .rem t x y t') ty (.int .i64 (a.tmod b)):=
 .ofRun trivial (D1 rfl hx hy) fun w _ o c _=>by
  simp[execOp,c,A6 hx,A6 hy,eqGuard,binOp,Op.intDiv,hb]
theorem OZ{x y:Operand}{t e e':TypeId}{v:Value}{sz n k:Nat}{xs:List Value}{i:Int}(j:Nat)(hu:∀w,(underlying t).run P w= .ok (.slice e) w)
 (hz:∀w,(sizeOf e).run P w= .ok sz w) (hx:ev σ x=some v) (hy:ev σ y=some (.int .i64 i)) (hH:A7 H k=some (row v e' sz n xs)) (hj:i=j) (h1:i<n):
 OpX P B m H σ (.indexAddr t x y) ty (.pointer (some (rp v (j*sz)))):=by subst hj;exact P1 hu hz hx hy hH (by omega) (by omega)
theorem Fx{x y:Operand}{t e e':TypeId}{v:Value}{k:Nat}{L:List Int}{i:Int}(j:Nat)(hu:∀w,(underlying t).run P w= .ok (.slice e) w)
 (hz:∀w,(sizeOf e).run P w= .ok 1 w) (hx:ev σ x=some v) (hy:ev σ y=some (.int .i64 i)) (hH:A7 H k=some (A5 v e' L)) (hj:i=j) (h1:i<L.length):
 OpX P B m H σ (.indexAddr t x y) ty (.pointer (some (rp v j))):=by subst hj;exact A5M hu hz hx hy hH (by omega) (by omega)
end
section
variable{M:Option Nat}{P:Program}{N:Nat}{ops:Array Oper}{Q:Exit→Act→World→Prop}{B:Base}{m:Mem}{H:List Ent}{σ:B6}{rest:List Oper}
 {d:Nat} {op:Op} {ty:TypeId} {pos:String} {after:Array Edge} {i:Nat} {must:Bool} {π:Plan} {piv non:List Nat} {KK:Mem→List Ent→B6→Prop} {g:Option (Nat×Bool)}
theorem OpX.to{V:Value}(h:∀B,OpX P B m H σ op ty V):OpTo P B m H σ op ty (fun v m' H'=>v=V∧m'=m∧H'=H):=
 ⟨(h B).sel,(h B).defd,fun M B' w b o a next Q c d k=>Q6 M<| (h B').run w b o a next Q c d fun w' f=>k V m H w' ⟨rfl,rfl,rfl⟩ (b.ext f)⟩
theorem JP{V:Value}(ho:ops[i]?=some ⟨some d,op,ty,pos,after,g⟩)(hp:piv.contains i=true)(hg:N6 ops σ ⟨some d,op,ty,pos,after,g⟩=some true)(h:∀B,OpX P B m H σ op ty V)(hd:d<N)
 (k:DW P B N ops piv non KK false π m H ((d,V)::σ)):DW P B N ops piv non KK must (.cons i π) m H σ:=
 DW.to ho hp hg (OpX.to h) hd (fun _ v m' H' ⟨_,a,b⟩=>by subst a;subst b;exact⟨Mem.le_refl _,Tm _⟩) (fun _ _ _ h=>by rw[h.2.1];exact Mem.le_refl _) fun v m' H' ⟨c,a,b⟩=>by subst c;subst a;subst b;exact k
theorem E.to{α:Type}{V:α→Value}{F:α→Prop}(B:Base)(h:∀B,E P B m H σ op ty V F):OpTo P B m H σ op ty (fun v m' H'=>(∃x,v=V x∧F x)∧m'=m∧H'=H):=by
 obtain⟨p,c,_⟩:=h B
 exact⟨c.sel,c.defd,fun M B' w b o a next Q d f k=>Q6 M<| by
  obtain⟨x,l,n⟩:=h B'
  exact l.run w b o a next Q d f fun w' g=>k (V x) m H w' ⟨⟨x,rfl,n⟩,rfl,rfl⟩ (b.ext g)⟩
end
section
variable{M:Option Nat}{P:Program}{N:Nat}{ops:Array Oper}{Q:Exit→Act→World→Prop}{B:Base}{m:Mem}{H:List Ent}{σ:B6}{rest:List Oper}
 {d:Nat} {op:Op} {ty:TypeId} {pos:String} {after:Array Edge} {i:Nat} {must:Bool} {π:Plan} {piv non:List Nat} {KK:Mem→List Ent→B6→Prop} {g:Option (Nat×Bool)}
theorem A1s{α:Type}[Flat α][Enc α][FlatEnc α]{m:Mem}(hu:∀(vs:List Value) (x:α),Enc.rd m vs x→vs=Flat.enc x):∀{xs:List Value} {L:List α},RdL m xs L→xs=flat L:=by
 intro xs L h
 have a:Enc.sz α=Flat.n α:=FlatEnc.sz
 apply SG
 intro i
 have q:xs.length=L.length*Flat.n α:=by rw[h.1,a]
 have c:0<Flat.n α:=Flat.pos
 by_cases hi:i<xs.length
 ·have d:i/Flat.n α<L.length:=by rw[Nat.div_lt_iff_lt_mul c];omega
  have r:i%Flat.n α<Flat.n α:=Nat.mod_lt _ c
  obtain⟨vs,o,p⟩:=h.2 (i/Flat.n α) L[i/Flat.n α] (by simp[d])
  have b:vs=Flat.enc L[i/Flat.n α]:=hu _ _ o
  subst b
  have f:(Flat.enc L[i/Flat.n α]).length=Flat.n α:=Flat.len _
  obtain⟨u,hu⟩:∃u,(Flat.enc L[i/Flat.n α])[i%Flat.n α]?=some u:=⟨_,Sy (show i%Flat.n α<(Flat.enc L[i/Flat.n α]).length by omega)⟩
  have g:=p _ _ hu
  have k:=FC L (i/Flat.n α) _ (by simp[d]) _ _ hu
  have l:i/Flat.n α*Flat.n α+i%Flat.n α=i:=by rw[Nat.mul_comm];exact Nat.div_add_mod i _
  rw[a,l]at g
  rw[l]at k
  rw[g,k]
 ·rw[Sm (by omega),Sm (by rw[F8];omega)]
theorem X5{α:Type}[Flat α][Enc α][FlatEnc α](hu:∀(m:Mem) (vs:List Value) (x:α),Enc.rd m vs x→vs=Flat.enc x){s x:Operand}{t e:TypeId}{bytes:Nat}{z:Value}(hS:SlT P t e (Flat.n α) bytes z){k:Nat}{v u:Value}{M L:List α}
 (hs:ev σ s=some v) (hx:ev σ x=some u) (hL:Sl m u L) (hH:A7 H k=some (A5 v e M))
 (hb:(M.length+L.length)*bytes≤140737488355328) (h63:M.length+L.length≤9223372036854775807):
 OpTo P B m H σ (.call (Call.mk (.builtin .append) #[s,x] #[t,t])) ty (fun U m' H'=>m'=m∧H'=H4 H k (A5 U e (M++L))):=by
 have a:Enc.sz α=Flat.n α:=FlatEnc.sz
 have:=Kx.T.appendS (P:=P) (B:=B) (m:=m) (ty:=ty) (α:=α) (by rw[a];exact hS) hs hx hL (by rw[a];exact hH) hb h63
 refine⟨this.sel,this.defd,fun M B w c o ac next Q d f k'=>this.run M B w c o ac next Q d f fun U m' H' w' h b=>k' U m' H' w' ⟨h.1,?_⟩ b⟩
 obtain⟨_,news,g,l⟩:=h
 rw[l,A1s (hu _) g,a]
 simp[A5,S2]
theorem AY{R:Mem→List Ent→Value→Prop}(ho:ops[i]?=some ⟨some d,op,ty,pos,after,g⟩)(hp:piv.contains i=true)(hg:N6 ops σ ⟨some d,op,ty,pos,after,g⟩=some true)
 (h:OpTo P B m H σ op ty (fun v m' H'=>m.le m'∧∃Es,R m' Es v∧H'=Es++H)) (hd:d<N)
 (k:∀m' Es v,m.le m'→R m' Es v→DW P B N ops piv non KK false π m' (Es++H) ((d,v)::σ)):DW P B N ops piv non KK must (.cons i π) m H σ:=
 DW.to ho hp hg h hd (fun _ v m' H' ⟨a,Es,_,b⟩=>by subst b;exact⟨a,List.sublist_append_right _ _⟩) (fun _ _ _ h=>h.1) fun v m' H' ⟨a,Es,c,b⟩=>by subst b;exact k m' Es v a c
theorem J2{V:Value}(ho:ops[i]?=some ⟨some d,op,ty,pos,after,g⟩)(hnp:piv.contains i=false)(hg:N6 ops σ ⟨some d,op,ty,pos,after,g⟩=some true)(h:∀m' H',m.le m'→OpX P B m' H' σ op ty V)(hd:d<N)
 (k:DW P B N ops piv non KK false π m H ((d,V)::σ)):DW P B N ops piv non KK false (.cons i π) m H σ:=
 DW.x ho hg (h m H (Mem.le_refl _)) hd k hnp (fun _=>h)
theorem GS{α:Type}{V:α→Value}{F:α→Prop}(ho:ops[i]?=some ⟨some d,op,ty,pos,after,g⟩)(hnp:piv.contains i=false)(hg:N6 ops σ ⟨some d,op,ty,pos,after,g⟩=some true)(h:∃x,(∀m' H',m.le m'→OpX P B m' H' σ op ty (V x))∧F x)(hd:d<N)
 (k:∀x,F x→DW P B N ops piv non KK false π m H ((d,V x)::σ)):DW P B N ops piv non KK false (.cons i π) m H σ:=by
 obtain⟨x,a,b⟩:=h;exact J2 ho hnp hg a hd (k x b)
end
section
variable{P:Program}{B:Base}{m:Mem}{H:List Ent}{σ:B6}{ty:TypeId}
theorem B4X{α:Type}[Enc α][Inhabited α]{x y:Operand}{t e:TypeId}{v:Value}{L:List α}{n:Int}(hu:∀w,(underlying t).run P w= .ok (.slice e) w)
 (hz:∀w,(sizeOf e).run P w= .ok (Enc.sz α) w) (hx:ev σ x=some v) (hy:ev σ y=some (.int .i64 n)) (hs:Sl m v L) (h0:0≤n) (h1:n<L.length):
 ∃p,(∀m' H',m.le m'→OpX P B m' H' σ (.indexAddr t x y) ty (.pointer (some p)))∧At m p (gt L n.toNat):=
 ⟨(Hl v).add (n.toNat*Enc.sz α),fun m' H' _=>.ofRun trivial (D1 rfl hx hy) fun w _ o b _=>by
  cases hs with
  |nil=>simp at h1;omega
  |some a _ cap hs hc hb hcap h=>simp[execOp,b,A6 hx,A6 hy,Instr.indexAt,asIntOf,hu,hz,h0,h1,Hl],hs.at (by omega)⟩
theorem B1I{α:Type}[Enc α][Inhabited α]{x y:Operand}{t e:TypeId}{v:Value}{L:List α}(n:Nat)(hu:∀w,(underlying t).run P w= .ok (.slice e) w)
 (hz:∀w,(sizeOf e).run P w= .ok (Enc.sz α) w) (hx:ev σ x=some v) (hy:ev σ y=some (.int .i64 (n:Int))) (hs:Sl m v L) (h1:(n:Int)<L.length):
 ∃p,(∀m' H',m.le m'→OpX P B m' H' σ (.indexAddr t x y) ty (.pointer (some p)))∧At m p (gt L n):=by
 have:=B4X (P:=P) (B:=B) (ty:=ty) hu hz hx hy hs (by omega) h1
 simpa using this
theorem B7J{α:Type}[Enc α][Inhabited α]{x y:Operand}{t e:TypeId}{v:Value}{L:List α}{i:Int}(n:Nat)(hu:∀w,(underlying t).run P w= .ok (.slice e) w)
 (hz:∀w,(sizeOf e).run P w= .ok (Enc.sz α) w) (hx:ev σ x=some v) (hy:ev σ y=some (.int .i64 i)) (hs:Sl m v L) (hn:i=(n:Int)) (h1:i<L.length):
 ∃p,(∀m' H',m.le m'→OpX P B m' H' σ (.indexAddr t x y) ty (.pointer (some p)))∧At m p (gt L n):=by
 subst hn;exact B1I n hu hz hx hy hs h1
theorem B6M{α:Type}[Enc α]{x:Operand}{t:TypeId}{p:Addr}{L:List α}(ha:∀w,(isAgg t).run P w= .ok false w)(hx:ev σ x=some (.pointer (some p)))(hp:At m p L):
 ∃v,(∀m' H',m.le m'→OpX P B m' H' σ (.load t x) ty v)∧Sl m v L:=by
 obtain⟨vs,⟨v,d,f⟩,g⟩:=hp
 subst d
 exact⟨v,fun m' H' a=>.ofRun trivial (L6 rfl hx) fun w b o c _=>by
  simp[execOp,c,A6 hx,Instr.loadAt,Instr.sureAddr,loadVar,ha,(g.mono a).cell0 b.sub],f⟩
theorem Cb{α:Type}[Enc α]{x:Operand}{t:TypeId}{p:Addr}{a:α}(ha:∀w,(isAgg t).run P w= .ok true w)(hz:∀w,(sizeOf t).run P w= .ok (Enc.sz α) w)
 (hx:ev σ x=some (.pointer (some p))) (hp:At m p a):
 ∃vs:List Value,(∀m' H',m.le m'→OpX P B m' H' σ (.load t x) ty (.agg vs.toArray))∧Enc.rd m vs a:=by
 obtain⟨vs,d,k⟩:=hp
 exact⟨vs,fun m' H' b=>.ofRun trivial (L6 rfl hx) fun w f o g _=>by
  have c:=run_loadCells_list (P:=P) w p vs ((k.mono b).cell f.sub)
  rw[Enc.len d]at c
  simp[execOp,g,A6 hx,Instr.loadAt,Instr.sureAddr,loadVar,ha,hz,c],d⟩
end
end Go.Kx
