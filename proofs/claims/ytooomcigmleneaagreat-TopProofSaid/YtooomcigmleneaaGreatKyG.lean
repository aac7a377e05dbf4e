import Derived.Test.YtooomcigmleneaaGreatKyF
set_option linter.all false
namespace Go.Kx
open Go
def intsOk(cs:List Value):Prop:=∀v∈cs,∃x:Int,v= .int .i64 x
theorem intsOk.append{A C:List Value}(h:intsOk A)(h':intsOk C):intsOk (A++C):=fun v a=>(Sa.1 a).elim (h v) (h' v)
def K7(e:TypeId)(sz:Nat)(ps:List (Nat×Nat)):Ent where
 ids:=ps.map (·.1)
 holds w:=∀p∈ps,∃cur:Array Value,w.heap[p.1]?=some (.cells cur e (0,0))∧cur.size=p.2*sz∧intsOk cur.toList
 loc w w' h hw:=fun p a=>by
  obtain⟨cur,c,d⟩:=hw p a
  exact⟨cur,by rw[h p.1 (List.mem_map_of_mem a)];exact c,d⟩
 bound w hw b hb:=by
  obtain⟨p,a,rfl⟩:=Sh.1 hb
  obtain⟨cur,c,_⟩:=hw p a
  exact(SA.1 c).1
def InPool(ps:List (Nat×Nat))(n:Nat)(v:Value):Prop:=∃a l c,v= .slice a l c∧l≤n∧((a=none∧l=0∧c=0)∨∃g,a=some ⟨g,0,none⟩∧(g,c)∈ps∧l≤c)
theorem InPool.nil(ps:List (Nat×Nat))(n:Nat):InPool ps n (.slice none 0 0):=⟨none,0,0,rfl,EF _,.inl ⟨rfl,rfl,rfl⟩⟩
theorem InPool.up{ps F6:List (Nat×Nat)}{n n':Nat}{v:Value}(h:InPool ps n v)(hp:∀p∈ps,p∈F6)(hn:n≤n'):InPool F6 n' v:=by
 obtain⟨a,l,c,k,m,o⟩:=h
 exact⟨a,l,c,k,Sz m hn,o.imp id fun⟨g,b,d,f⟩=>⟨g,b,hp _ d,f⟩⟩
section
variable{P:Program}{B:Base}{m:Mem}{H:List Ent}{σ:B6}{ty:TypeId}
theorem A5J{z:Value}(hz:∀v∈z.cells.toList,v= .int .i64 0)(n:Nat):intsOk (Builtin.zeroCells z.cells n).toList:=fun v c=>by
 simp only[Builtin.zeroCells,Array.toList_map,Sh]at c
 obtain⟨i,hi,rfl⟩:=c
 have a:0<z.cells.size:=by
  have d:i<n*z.cells.size:=by simpa using hi
  rcases TM z.cells.size with h|h
  ·rw[h]at d;omega
  ·exact h
 have b:=Nat.mod_lt i a
 rw[getElem!_pos z.cells (i%z.cells.size) b]
 exact⟨0,hz _ (by simp)⟩
theorem A0V{w:World}{t e:TypeId}{sz bytes:Nat}{z:Value}(hS:SlT P t e sz bytes z)(hz:∀v∈z.cells.toList,v= .int .i64 0){ps:List (Nat×Nat)}{k n:Nat}{v:Value}(hw:St B m H w)(hH:A7 H k=some (K7 e sz ps))(hv:InPool ps n v)
 {p:Addr} {cap:Nat} {news:List Value} (hl:news.length=sz) (hn:∀j u,news[j]?=some u→w.cell? (p.add j)=some u) (hi:intsOk news) (hb:(n+1)*bytes≤140737488355328) (hby:0<bytes):
 ∃U w' F6,(Builtin.append_ #[t,t] ty #[v,.slice (some p) 1 cap]).run P w= .ok U w'∧(∀p∈ps,p∈F6)∧InPool F6 (n+1) U∧St B m (H4 H k (K7 e sz F6)) w':=by
 obtain⟨i,D,Y,hs,a0⟩:=hS.hi
 have a2:=hS.hz
 have ht:=hS.ht
 subst hs;subst a0
 have d:=C3 hw hH
 have T:(ps.map (·.1)).Nodup:=by
  obtain⟨A,C,G,_⟩:=Z1 hH
  have J:=hw.nodup
  rw[G,E5,B8]at J
  exact(Ss.1 (Ss.1 J).2.1).1
 have one:∀u∈news,u.oneCell'=true:=fun u Q=>by obtain⟨x,rfl⟩:=hi u Q;rfl
 have K:∀l,l≤n→(l+1)*i.bytes≤140737488355328:=fun l hl=>Sz (Sw _ (by omega)) hb
 have a3:∀l,l≤n→l+1≤140737488355328:=fun l hl=>Sz (Ud _ hby) (K l hl)
 have new:∀(old:List Value) (l cp:Nat),old.length=l*i.size→intsOk old→l≤n→
  St B m (H4 H k (K7 e i.size ((w.heap.size,grownCap w (l+1) cp e)::ps))) (w.drew.alloc (.cells (old.toArray++news.toArray++Builtin.zeroCells z.cells (grownCap w (l+1) cp e-(l+1))) e)):=by
  intro old l cp ho a5 I
  have a6:=grownCap_ge w (l+1) cp e
  refine hw.change hH rfl rfl rfl (by simp) (fun c hc _=>by show(w.heap.push _)[c]?=_;rw[Uo,A' (TK hc)]) ?_ ?_ ?_
  ·intro q R
   rcases Sn.1 R with rfl|R
   ·refine⟨_,heap_alloc_new w.drew _,?_,?_⟩
    ·simp only[Us,Ub,size_zeroCells,a2,ho,hl]
     rw[show l*i.size+i.size=(l+1)*i.size by rw[Sb,SJ],←Sb]
     congr 1;omega
    ·simp only[Ut]
     exact(a5.append hi).append (A5J hz _)
   ·obtain⟨cur,G,J⟩:=d q R
    exact⟨cur,by show(w.heap.push _)[q.1]?=_;rw[Uo,A' (TK (SA.1 G).1)];exact G,J⟩
  ·intro b y
   rcases Sn.1 y with rfl|y
   ·exact .inr (E' _)
   ·exact .inl y
  ·refine List.nodup_cons.2 ⟨fun hc=>?_,T⟩
   exact absurd ((K7 e i.size ps).bound w d _ hc) (Tb _)
 obtain⟨a,l,c,rfl,I,M⟩:=hv
 have F:news.length=1*i.size:=by rw[SJ];exact hl
 rcases M with⟨rfl,rfl,rfl⟩|⟨g,rfl,hg,hlc⟩
 ·have V:=run_append_nil (P:=P) w t ty e i z ht D Y p 1 cap news F hn (by omega) (by omega) (by have:=K 0 (EF _);omega)
  have a4:=new [] 0 0 (by simp) (by intro v hv;simp at hv) (EF _)
  refine⟨_,_,_,V,fun p S=>Sg _ S,⟨_,_,_,rfl,by omega,.inr ⟨_,rfl,Sf ..,grownCap_ge w 1 0 e⟩⟩,?_⟩
  simpa using a4
 ·obtain⟨cur,s,a1,o⟩:=d _ hg
  by_cases r:l+1≤c
  ·have W:l*i.size+news.length≤cur.size:=by rw[F,a1,←Sb];exact Sw _ r
   have V:=run_append_room (P:=P) w t ty e i ht D g l c cur s p 1 cap news F hn one r W
   refine⟨_,_,ps,V,fun p S=>S,⟨_,_,_,rfl,by omega,.inr ⟨g,rfl,hg,r⟩⟩,?_⟩
   refine hw.change hH rfl rfl rfl (by simp[World.setRow]) (fun x _ hx=>Kx.setRow_other w g _ x (fun e1=>hx (e1▸List.mem_map_of_mem (f:=(·.1)) hg))) ?_ (fun b y=>.inl y) T
   intro q R
   by_cases N:q.1=g
   ·obtain⟨E,G,J,h3⟩:=d q R
    rw[N,s]at G
    obtain rfl:cur=E:=by simpa using G
    refine⟨_,by rw[N];exact Kx.setRow_self' w g _ cur e _ s,?_,?_⟩
    ·simp only[Ub,F',Sr,SE,Tc]
     omega
    ·exact(intsOk.append (fun v hv=>o v (TQ hv)) hi).append fun v hv=>o v (List.mem_of_mem_drop hv)
   ·obtain⟨E,G,J⟩:=d q R
    exact⟨E,by rw[Kx.setRow_other w g _ q.1 N];exact G,J⟩
  ·have L:∀j u,(cur.toList.take (l*i.size))[j]?=some u→w.cell? ((⟨g,0,none⟩:Addr).add j)=some u:=fun j u Q=>by
    rw[SI]at Q
    split at Q
    ·rw[C9 rfl]
     simp only[World.cell?,SC]
     simpa[s]using Q
    ·cases Q
   have X:(cur.toList.take (l*i.size)).length=l*i.size:=by
    rw[Sr,Tc,a1]
    exact SQ (Sw _ hlc)
   have V:=run_append_grow (P:=P) w t ty e i z ht D Y ⟨g,0,none⟩ l c (cur.toList.take (l*i.size)) X L p 1 cap news F hn (by omega) (by have:=a3 l I;omega) (growslice_fits (by omega) (K l I))
   exact⟨_,_,_,V,fun p S=>Sg _ S,⟨_,_,_,rfl,by omega,.inr ⟨_,rfl,Sf ..,grownCap_ge w _ _ e⟩⟩,new _ l c X (fun v hv=>o v (TQ hv)) I⟩
theorem RF{s x:Operand}{t e:TypeId}{sz bytes:Nat}{z:Value}(hS:SlT P t e sz bytes z)(hz:∀v∈z.cells.toList,v= .int .i64 0){k b n cap:Nat}{T:TypeId}{ps:List (Nat×Nat)}{v:Value}{news:List Value}{H1:List Ent}
 (hs:ev σ s=some v) (hx:ev σ x=some (.slice (some ⟨b,0,none⟩) 1 cap)) (hH1:H=blk b T news::H1) (hH:A7 H1 k=some (K7 e sz ps)) (hv:InPool ps n v) (hl:news.length=sz) (hi:intsOk news) (hb:(n+1)*bytes≤140737488355328) (hby:0<bytes):
 OpTo P B m H σ (.call (Call.mk (.builtin .append) #[s,x] #[t,t])) ty (fun U m' H'=>m'=m∧∃F6:List (Nat×Nat),((∀p∈ps,p∈F6)∧InPool F6 (n+1) U)∧H'=H4 H1 k (K7 e sz F6)):=
 .ofRun trivial (D1 (by simp[Op.operands,Call.operands]) hs hx) fun w f o g l=>by
  subst hH1
  have a:=JV f (k:=0) (b:=b) (T:=T) (cs:=news) rfl
  have c:St _ m H1 w:=f.weaken (Tq _ _)
  obtain⟨U,w',F6,q,r,u,d⟩:=A0V (P:=P) (ty:=o.type) (cap:=cap) hS hz c hH hv hl a hi hb hby
  refine⟨U,w',.inl ?_,m,_,⟨rfl,F6,⟨r,u⟩,rfl⟩,d⟩
  simp[execOp,g,resolve,invoke,builtin,A6 hs,A6 hx,q]
theorem B4U{x y:Operand}{t e:TypeId}{sz g l c:Nat}{i:Int}(k:Nat)(hu:∀w,(underlying t).run P w= .ok (.slice e) w)(hz:∀w,(sizeOf e).run P w= .ok sz w)
 (hx:ev σ x=some (.slice (some ⟨g,0,none⟩) l c)) (hy:ev σ y=some (.int .i64 i)) (hi:i=k) (h1:k<l):OpX P B m H σ (.indexAddr t x y) ty (.pointer (some ⟨g,k*sz,none⟩)):=
 .ofRun trivial (D1 rfl hx hy) fun w b o a _=>by
  subst hi
  simp only[execOp,a,A6 hx,A6 hy,Instr.indexAt,asIntOf]
  simp[hu,hz,h1,C9]
theorem A3T{x:Operand}{t e:TypeId}{j g c k:Nat}{ps:List (Nat×Nat)}(ha:∀w,(isAgg t).run P w= .ok true w)(hz:∀w,(sizeOf t).run P w= .ok 2 w)
 (hx:ev σ x=some (.pointer (some ⟨g,k*2,none⟩))) (hH:A7 H j=some (K7 e 2 ps)) (hg:(g,c)∈ps) (hk:k<c):
 OpTo P B m H σ (.load t x) ty (fun v m' H'=>H'=H∧m'=m∧∃a b:Int,v= .agg [.int .i64 a,.int .i64 b].toArray):=
 .ofRun trivial (L6 rfl hx) fun w p o y _=>by
  obtain⟨cur,r,A,s⟩:=C3 p hH _ hg
  have C:k*2+1<cur.size:=by
   have:cur.size=c*2:=A
   omega
  obtain⟨a,l⟩:=s cur[k*2] (by simp)
  obtain⟨b,n⟩:=s cur[k*2+1] (by simp)
  have z:=run_loadCells_list (P:=P) w ⟨g,k*2,none⟩ [.int .i64 a,.int .i64 b] (fun q u d=>by
   rw[C9 rfl]
   simp only[World.cell?]
   rcases q with _|_|q
   ·simp at d;subst d
    simp[r,←l]
   ·simp at d;subst d
    simp[r,←n]
   ·simp at d)
  have f:(loadCells ⟨g,k*2,none⟩ 2).run P w= .ok _ w:=z
  exact⟨_,w,.inl (by simp[execOp,y,A6 hx,Instr.loadAt,Instr.sureAddr,loadVar,ha,hz,f]),m,H,⟨rfl,rfl,a,b,rfl⟩,p⟩
theorem A7g{N:Nat}{K:Act→World→Prop}(e:TypeId)(sz:Nat)(h:WK N B m (K7 e sz []::H) σ K):WK N B m H σ K:=fun Ds w b a c=>
 h Ds w (b.push (Ext.refl w) (K7 e sz []) (by intro p d;simp at d) (by simp[K7]) (by simp[K7])) a c
end
section
variable{M:Option Nat}{P:Program}{N:Nat}{ops:Array Oper}{Q:Exit→Act→World→Prop}{B:Base}{m:Mem}{H:List Ent}{σ:B6}{rest:List Oper}
 {d:Nat} {op:Op} {ty:TypeId} {pos:String} {after:Array Edge} {K:Act→World→Prop} {i:Nat} {must:Bool} {π:Plan} {piv non:List Nat} {KK:Mem→List Ent→B6→Prop} {g:Option (Nat×Bool)}
theorem B7R{X:Type}{F:Value→X→List Ent}{R:Value→X→Prop}(h:OpTo P B m H σ op ty (fun v m' H'=>m'=m∧∃x,R v x∧H'=F v x))(hd:d<N)
 (k:∀v x,R v x→WL M P N ops Q B m (F v x) ((d,v)::σ) rest):WL M P N ops Q B m H σ (⟨some d,op,ty,pos,after,none⟩::rest):=
 WL.to h hd fun v m' H' ⟨a,x,b,c⟩=>by subst a;subst c;exact k v x b
theorem Qm{X:Type}{F:Value→X→List Ent}{R:Value→X→Prop}(ho:ops[i]?=some ⟨some d,op,ty,pos,after,g⟩)(hp:piv.contains i=true)(hn:non.contains i=true)(hg:N6 ops σ ⟨some d,op,ty,pos,after,g⟩=some true)
 (h:OpTo P B m H σ op ty (fun v m' H'=>m'=m∧∃x,R v x∧H'=F v x)) (hd:d<N)
 (k:∀v x,R v x→DW P B N ops piv non KK false π m (F v x) ((d,v)::σ)):DW P B N ops piv non KK must (.cons i π) m H σ:=
 DW.to ho hp hg h hd (fun a=>by rw[hn]at a;cases a) (fun _ _ _ h=>by rw[h.1];exact Mem.le_refl _) fun v m' H' ⟨b,x,c,f⟩=>by subst b;subst f;exact k v x c
theorem OpTo.entry{b:Nat}{α:Type}[Flat α]{V:Value→Prop}{j:Nat}(h:OpTo P B m H σ op ty (fun u m' H'=>m'=m∧∃v s,u= .tuple #[v,.int .i64 s]∧V v∧H'=H4 H j (mapS b α V s))):
 OpTo P B m H σ op ty (fun u m' H'=>m'=m∧∃s:Int,(∃v,u= .tuple #[v,.int .i64 s]∧V v)∧H'=H4 H j (mapS b α V s)):=
 ⟨h.sel,h.defd,fun M B w c o a next Q d f k=>h.run M B w c o a next Q d f fun u m' H' w' ⟨g,v,s,l,n,p⟩=>k u m' H' w' ⟨g,s,⟨v,l,n⟩,p⟩⟩
end
section
variable{P:Program}{B:Base}{m:Mem}{H:List Ent}{σ:B6}{ty:TypeId}
theorem OK{t te:TypeId}(n:Nat)(q:Option Addr)(w:World)(hu:P.underlying t=some (.pointer te)):(Op.equalIn (n+1) t (.pointer q) (.pointer none)).run P w= .ok q.isNone w:=by
 have h:=run_underlying (P:=P) hu
 cases q <;> simp[Op.equalIn,h]
theorem A1l{x:Operand}{t t' te:TypeId}{q:Option Addr}(hu:P.underlying t=some (.pointer te))(hx:ev σ x=some (.pointer q)):
 OpX P B m H σ (.binOp .eql t x (.const (.pointer none)) t') ty (.bool q.isNone):=
 .ofRun trivial (D1 rfl hx rfl) fun w _ o a _=>by
  have b:T4 σ (.const (.pointer none))= .pointer none:=rfl
  have h:=OK (P:=P) 9999 q w hu
  have c:(binOp .eql t (.pointer q) (.pointer none)).run P w= .ok (.bool q.isNone) w:=by
   simp only[binOp,Op.equal,Op.maxDepth,Sem.run_bind,h]
   rfl
  simp[execOp,a,A6 hx,b,eqGuard,c]
end
section
variable{P:Program}{N:Nat}{B:Base}{m:Mem}{H:List Ent}{σ:B6}
theorem AC{fn:Func}{R:Ending→World→Prop}{t T' u:Nat}(k:Nat){b:Nat}{cs:List Value}{v:Value}(hres:fn.results=#[.tmp u,.cell t T'])(hu:lk σ u=some v)(hv:lk σ t=some (.pointer (some ⟨b,0,none⟩)))(hH:A7 H k=some (blk b T' cs))
 (hg:∀w,(isAgg T').run P w= .ok true w) (hz:∀w,(sizeOf T').run P w= .ok cs.length w) (hR:∀w,St B m H w→R (.returned (.tuple #[v,.agg cs.toArray])) w):WK N B m H σ (N2 P fn R .ret):=
 DC (.inl rfl) (fun w f a c=>by
  obtain⟨d,l⟩:=Et f c hv hH hg hz
  rw[SH]at d
  have g:=c u v hu
  simp[results,hres,d,asAddr,l,g]) hR
end
end Go.Kx
namespace Go.Kx
def A3p(P:Program)(g:FuncId)(lb:List Value)(m:Mem)(n:Nat)(A:Mem→Array Value→Prop):Prop:=
 ∀(l:Nat) (S:Type) (HS:S→List Ent) (I Ix:Nat→Mem→S→Prop) (s0:S),(∀i m1 m2 s,m1.le m2→I i m1 s→I i m2 s)→
  (∀i m1 s args,i<n→m.le m1→A m1 args→I i m1 s→JU P l args m1 (HS s) (fun m' H'=>m1.le m'∧∃s',H'=HS s'∧I (i+1) m' s') (fun m' H'=>m1.le m'∧∃s',H'=HS s'∧Ix (i+1) m' s'))→
  I 0 m s0→Mut P g (Value.func (.yield l) #[] #[]::lb).toArray m (HS s0) (fun m' Es _=>∃s,Es=HS s∧∃i,i≤n∧(I i m' s∨Ix i m' s))
section
variable{M:Option Nat}{P:Program}{N:Nat}{ops:Array Oper}{Q:Exit→Act→World→Prop}{B:Base}{m:Mem}{H:List Ent}{σ:B6}{rest:List Oper}
 {d:Nat} {op:Op} {ty:TypeId} {pos:String} {after:Array Edge} {K:Act→World→Prop}
theorem IC{g:Operand}{ps:List Nat}{assign body:Code}{gf:Nat}{lb:List Value}{n:Nat}{A:Mem→Array Value→Prop}
 (hg:ev σ g=some (.func (.func gf) #[] lb.toArray)) (eg:Enters P gf) (hit:A3p P gf lb m n A)
 {S G:Type} (HS:S→List Ent) (I:Nat→Mem→S→Prop) (Ix:Exit→Nat→Mem→S→Prop) (s0:S) (hH:HS s0=H) (h0:I 0 m s0) (hmono:∀i m1 m2 s,m1.le m2→I i m1 s→I i m2 s)
 (hps:∀p∈ps,p<N) (hA:∀m1 args,A m1 args→args.size=ps.length)
 (HA:G→List Value→S→List Ent) (σA:G→List Value→B6)
 (hassign:∀l B' m1 s args (K:Act→World→Prop),args.length=ps.length→A m1 args.toArray→m.le m1→(∀g,WK N B' m1 (HA g args s) (σA g args) K)→WC (some l) P N (Exit.then K (fun _ _ _=>False)) B' m1 (HS s) ((ps.zip args).reverse++σ) assign)
 (hbody:∀l B' i m1 s args g,args.length=ps.length→i<n→m.le m1→A m1 args.toArray→I i m1 s→WC (some l) P N (Mi B' m1 HS (I (i+1)) (fun e=>Ix e (i+1))) B' m1 (HA g args s) (σA g args) body)
 (hdone:∀i m' s,m.le m'→i≤n→I i m' s→WK N B m' (HS s) σ (Q .normal))
 (hret:∀i m' s,m.le m'→i≤n→Ix .ret i m' s→WK N B m' (HS s) σ (Q .ret))
 (hexit:∀id i m' s,m.le m'→i≤n→Ix (.exit id) i m' s→WK N B m' (HS s) σ (Q (.exit id))):
 WC none P N Q B m H σ (.rangeFunc g ps.toArray assign body):=by
 intro Ds w hw a T
 subst hH
 refine wpIn_rangeFunc ?_
 intro fn b6
 show∃(l:Nat) (mark:List Deferred) (w₁:World) (d:Deferred) (w₁':World) (f:FuncId) (args:Array Value) (w₂:World),(Instr.enterLoop fn a.tmps ps.toArray assign body none).run P w= .ok (l,mark) w₁∧_
 obtain⟨rec,b⟩:∃rec:LoopState→Option Code→Loop,rec=fun st pe=>{state:=st,pending:=pe,fn,tmps:=a.tmps,params:=ps.toArray,assign,body,defers:=w.heap.size}:=⟨_,rfl⟩
 have a7:=run_enterLoop_outer (P:=P) (w:=w) fn a.tmps ps.toArray assign body
 have k:=(hw.laid (.deferred (some []))).laid (.loop (rec .ready none))
 rw[World.size_alloc]at k
 obtain⟨W1,a2⟩:∃W1,(w.alloc (.deferred (some []))).alloc (.loop (rec .ready none))=W1:=⟨_,rfl⟩
 rw[a2]at k
 refine⟨w.heap.size+1,[mk w.heap.size],W1,{target:=.fn (.func gf) lb.toArray,args:=#[.func (.yield (w.heap.size+1)) #[] #[]]},W1,gf,
  (Value.func (.yield (w.heap.size+1)) #[] #[]::lb).toArray,W1,?_,?_,?_,?_,by simp[Dg],?_⟩
 ·rw[a7,←a2,b];rfl
 ·have:=T.eval hg
  simp only[resolve,this]
  simp[go_sem]
 ·intro f' _;exact BE none f'
 ·simp only[invoke]
  rw[show(#[Value.func (Fn.yield (w.heap.size+1)) #[] #[]]++lb.toArray:Array Value)=(Value.func (Fn.yield (w.heap.size+1)) #[] #[]::lb).toArray by simp]
  exact eg _ _
 ·have F:∀(w':World) (B':Base) (m':Mem) (H':List Ent) (o:Obj),St B' m' (H'++[F0 (w.heap.size+1) o]) w'→w'.heap[w.heap.size+1]?=some o:=fun w' B' m' H' o h=>h.own (F0 (w.heap.size+1) o) (by simp)
  have V:((HS s0++[F0 (w.heap.size+1) (.loop (rec .ready none))])++(F0 w.heap.size (.deferred (some []))::marks Ds)).Perm
   (F0 (w.heap.size+1) (.loop (rec .ready none))::F0 w.heap.size (.deferred (some []))::(HS s0++marks Ds)):=by
   simp only[Se,Uu]
   refine So.trans ?_
   exact List.Perm.cons _ So
  have E:=k.perm V
  refine Gt none ?_
  refine(hit (w.heap.size+1) (S ⊕ (S×Exit)) (fun
   | .inl s=>HS s++[F0 (w.heap.size+1) (.loop (rec .ready none))]
   | .inr (s,e)=>HS s++[F0 (w.heap.size+1) (.loop (rec .done (some (DB e))))])
   (fun i m' x=>match x with
    | .inl s=>I i m' s
    | .inr _=>False)
   (fun i m' x=>match x with
    | .inl _=>False
    | .inr (s,e)=>Ix e i m' s∧(e= .ret∨∃id,e= .exit id)) (.inl s0) (fun i m1 m2 x hm h=>by rcases x with s|x;exact hmono i m1 m2 s hm h;exact h) ?_ h0 W1 E.part).mono ?_
  ·
    rintro i m1 x args hi a4 c hI B' w' M
    rcases x with s|x
    ·have a8:=F _ _ _ _ _ M
     have hy:=run_yield (P:=P) (args:=args) a8 (by rw[b];simpa using hA m1 args c)
     rw[b]at hy
     refine⟨fn,_,assign,body,hy,roundIn_of_wpIn trivial ?_⟩
     have a9:St ⟨w',B8 (HS s),m1⟩ m1 (HS s) w':=M.part
     obtain⟨b3,a5⟩:=Oz ps args.toList a.tmps σ (fun u v hu=>T.get u v hu) (fun p D=>by rw[T.size];exact hps p D) (by simpa using(hA m1 args c).symm)
     refine hassign (w.heap.size+1) _ m1 s args.toList _ (by simpa using hA m1 args c) (by simpa using c) a4 ?_ [] w' (by simpa[marks]using a9) _ ⟨rfl,?_,?_⟩
     rotate_left
     ·simp only[←Tr];rw[TO];rw[b3,T.size]
     ·intro u v hu
      have:=a5 u v hu
      simp only[←Tr];rw[TO];exact this
     ·intro g Ds' w1 b4 a1 b5
      have W:=M.handed b4
      have b0:=F _ _ _ _ _ W
      refine⟨_,run_beginRound b0 (by rw[b]),?_⟩
      have X:=W.turn (o':=.loop {rec .ready none with state:=.busy}) (R:=[])
      have hb:=hbody (w.heap.size+1) _ i m1 s args.toList g (by simpa using hA m1 args c) hi a4 (by simpa using c) hI Ds' _ X.part a1 b5
      refine wpIn_mono hb ?_
      intro e a3 w3 D
      have fin:∀(jump:Option Code) (m':Mem) (s':S),St ⟨w1.putObj (w.heap.size+1) (.loop {rec .ready none with state:=.busy}),B8 (HA g args.toList s++marks Ds'),m1⟩ m' (HS s') w3→
       (Instr.endRound (w.heap.size+1) jump).run P w3= .ok (.bool jump.isNone) (w3.putObj (w.heap.size+1) (.loop (rec (if jump.isNone then .ready else .done) jump)))∧
       St B' m' (HS s'++[F0 (w.heap.size+1) (.loop (rec (if jump.isNone then .ready else .done) jump))]) (w3.putObj (w.heap.size+1) (.loop (rec (if jump.isNone then .ready else .done) jump))):=by
       intro jump m' s' C
       have Y:=X.handed C
       have b1:=F _ _ _ _ _ Y
       have he:=run_endRound (P:=P) jump b1
       refine⟨?_,?_⟩
       ·rw[he,b]
       ·exact Y.turn (R:=[])
      cases e with
      |normal=>
       obtain⟨m',s',z,y,h3⟩:=D
       obtain⟨J,L⟩:=fin none m' s' h3
       exact⟨_,_,J,.inl ⟨rfl,m',_,⟨z,.inl s',rfl,y⟩,L⟩⟩
      |ret=>
       obtain⟨m',s',z,y,h3⟩:=D
       obtain⟨J,L⟩:=fin (some .ret) m' s' h3
       exact⟨_,_,J,.inr ⟨rfl,m',_,⟨z,.inr (s',.ret),rfl,y,.inl rfl⟩,L⟩⟩
      |exit id=>
       obtain⟨m',s',z,y,h3⟩:=D
       obtain⟨J,L⟩:=fin (some (.exit id)) m' s' h3
       exact⟨_,_,J,.inr ⟨rfl,m',_,⟨z,.inr (s',.exit id),rfl,y,.inr ⟨id,rfl⟩⟩,L⟩⟩
      |goto t=>exact D.elim
      |panic ch=>exact D.elim
      |outgrown=>exact D.elim
    ·exact hI.elim
  ·
    rintro e w2 ⟨v,m',Es,rfl,hs,x,rfl,hx⟩
    have a0:=E.handed hs
    have fin:∀(s:S) (r:Loop) (jump:Option Code),r.state≠ .busy→r.pending=jump→St B m' ((HS s++[F0 (w.heap.size+1) (.loop r)])++(F0 w.heap.size (.deferred (some []))::marks Ds)) w2→
     (Instr.endLoop (w.heap.size+1)).run P w2= .ok jump (w2.putObj (w.heap.size+1) (.loop {r with state:=.exhausted}))∧
     St B m' (HS s++marks (w.heap.size::Ds)) (w2.putObj (w.heap.size+1) (.loop {r with state:=.exhausted})):=by
     intro s r jump hr hj C
     have b2:w2.heap[w.heap.size+1]?=some (.loop r):=C.own (F0 (w.heap.size+1) (.loop r)) (by simp)
     refine⟨by rw[←hj];exact run_endLoop b2 hr,?_⟩
     have J:St B m' (HS s++F0 (w.heap.size+1) (.loop r)::(F0 w.heap.size (.deferred (some []))::marks Ds)) w2:=by simpa using C
     have L:=J.turn (o':=.loop {r with state:=.exhausted})
     exact L.weaken (UD (Tq _ _) _)
    have q:Env N (w.heap.size::Ds) σ {a with defers:=[mk w.heap.size]++a.defers}:=⟨by simp[T.defers],T.size,T.get⟩
    rcases x with s|⟨s,e⟩
    ·obtain⟨i,hi,hI|hF⟩:=hx
     ·obtain⟨z,y⟩:=fin s (rec .ready none) none (by rw[b];simp) (by rw[b]) a0
      refine⟨_,_,z,?_⟩
      exact hdone i m' s hs.le hi hI _ _ y _ q
     ·exact hF.elim
    ·obtain⟨i,hi,hF|⟨a6,he⟩⟩:=hx
     ·exact hF.elim
     ·obtain⟨z,y⟩:=fin s (rec .done (some (DB e))) (some (DB e)) (by rw[b];simp) (by rw[b]) a0
      refine⟨_,_,z,?_⟩
      rcases he with rfl|⟨id,rfl⟩
      ·exact wpIn_ret (hret i m' s hs.le hi a6 _ _ y _ q)
      ·exact wpIn_exit (hexit id i m' s hs.le hi a6 _ _ y _ q)
end
open Go
structure BigV(n:Nat) where
 cells:List Value
 len:cells.length=n
 one:∀v∈cells,v.oneCell'=true
instance(n:Nat):Inhabited (BigV n):=⟨⟨List.replicate n (.bool false),by simp,fun v a=>by rw[(List.mem_replicate.1 a).2];rfl⟩⟩
abbrev BigV.flat(n:Nat)(h:0<n):Flat (BigV n):=⟨n,h,fun x=>x.cells,fun x=>x.len,fun x v a=>x.one v a⟩
def GoodB{n:Nat}{α:Type}[Enc α](Q:α→Prop)(m:Mem)(x:BigV n):Prop:=∃a:α,Enc.rd m x.cells a∧Q a
def GoodL{n:Nat}{α:Type}[Enc α](Q:α→Prop)(m:Mem)(L:List (BigV n)):Prop:=∀x∈L,GoodB Q m x
section
variable{n:Nat}{α:Type}[Enc α]{Q:α→Prop}{m m':Mem}{L R:List (BigV n)}
theorem GoodB.mono{x:BigV n}(h:GoodB Q m x)(hm:m.le m'):GoodB Q m' x:=let⟨a,ha,hq⟩:=h;⟨a,Enc.mono hm ha,hq⟩
theorem GoodB.any{x:BigV n}(h:GoodB Q m x):GoodB (fun _:α=>True) m x:=let⟨a,ha,_⟩:=h;⟨a,ha,trivial⟩
theorem GoodL.mono(h:GoodL Q m L)(hm:m.le m'):GoodL Q m' L:=fun x a=>(h x a).mono hm
theorem GoodL.perm(h:GoodL Q m L)(hp:R.Perm L):GoodL Q m R:=fun x a=>h x (hp.mem_iff.1 a)
theorem GoodL.at_(h:GoodL Q m L){i:Nat}(hi:i<L.length):GoodB Q m (gt L i):=h _ (by rw[gt,Tx,Sy hi];exact List.getElem_mem hi)
theorem QH(hn:0<Enc.sz α):∀{xs:List Value} {L:List α},RdL m xs L→(∀a∈L,Q a)→∃R:List (BigV (Enc.sz α)),R.length=L.length∧ @Kx.flat _ (BigV.flat _ hn) R=xs∧GoodL Q m R
 |xs,[],h,_=>⟨[],rfl,by have:=h.1;simp at this;subst this;rfl,fun x b=>by simp at b⟩
 |xs,a::L,h,hq=>by
  have l:=h.1
  rw[N',Sb,SJ]at l
  obtain⟨vs,d,o⟩:=h.2 0 a rfl
  have n:xs.take (Enc.sz α)=vs:=by
   apply SG
   intro j
   rw[SI]
   by_cases f:j<Enc.sz α
   ·rw[D' f]
    have c:j<vs.length:=by rw[Enc.len d];exact f
    have:=o j vs[j] (Sy c)
    rw[SU,SC]at this
    rw[this,Sy c]
   ·rw[A' f,Sm]
    rw[Enc.len d];omega
  obtain⟨R,p,q,r⟩:=QH hn (xs:=xs.drop (Enc.sz α)) (L:=L) ⟨by rw[SE];omega,fun i x b=>by
   obtain⟨us,s,t⟩:=h.2 (i+1) x (by simpa using b)
   refine⟨us,s,fun j u g=>?_⟩
   rw[Tl]
   have:=t j u g
   rwa [Sb,SJ,show i*Enc.sz α+Enc.sz α+j=Enc.sz α+(i*Enc.sz α+j) by omega]at this⟩ (fun a k=>hq a (Sg _ k))
  refine⟨⟨vs,Enc.len d,Enc.one d⟩::R,by simp[p],?_,fun x b=>?_⟩
  ·show vs++ @Kx.flat _ (BigV.flat _ hn) R=xs
   rw[q,←n,Uj]
  ·rcases Sn.1 b with rfl|b
   ·exact⟨a,d,hq a (Sf ..)⟩
   ·exact r x b
theorem B1p(hn:0<n)(hs:Enc.sz α=n){xs:List Value}{L:List α}(h:RdL m xs L)(hq:∀a∈L,Q a):∃R:List (BigV n),R.length=L.length∧ @Kx.flat _ (BigV.flat n hn) R=xs∧GoodL Q m R:=by
 subst hs
 exact QH hn h hq
theorem MJ(hn:0<Enc.sz α):∀{R:List (BigV (Enc.sz α))},GoodL Q m R→∃L:List α,L.length=R.length∧RdL m (@Kx.flat _ (BigV.flat _ hn) R) L∧∀a∈L,Q a
 | [],_=>⟨[],rfl,RdL.nil,fun a ha=>by simp at ha⟩
 |x::R,h=>by
  obtain⟨L,h1,h2,hqL⟩:=MJ hn (R:=R) fun y c=>h y (Sg _ c)
  obtain⟨a,ha,g⟩:=h x (Sf ..)
  refine⟨a::L,by simp[h1],⟨?_,fun i y c=>?_⟩,fun b f=>by rcases Sn.1 f with rfl|f;exact g;exact hqL b f⟩
  ·show(x.cells++ @Kx.flat _ (BigV.flat _ hn) R).length=_
   rw[F',h2.1,x.len,N',Sb];omega
  ·show∃vs,_∧∀j u,_→(x.cells++ @Kx.flat _ (BigV.flat _ hn) R)[_]?=_
   cases i with
   |zero=>
    obtain rfl:a=y:=by simpa using c
    exact⟨x.cells,ha,fun j u d=>by
     rw[SU,SC,SK (Sq.1 d).1];exact d⟩
   |succ i=>
    obtain⟨vs,k,l⟩:=h2.2 i y (by simpa using c)
    refine⟨vs,k,fun j u d=>?_⟩
    rw[SL (by rw[x.len,Sb];omega),x.len,show(i+1)*Enc.sz α+j-Enc.sz α=i*Enc.sz α+j by rw[Sb];omega]
    exact l j u d
theorem GoodL.rdl(hn:0<n)(hs:Enc.sz α=n){R:List (BigV n)}(h:GoodL Q m R):∃L:List α,L.length=R.length∧RdL m (@Kx.flat _ (BigV.flat n hn) R) L∧∀a∈L,Q a:=by
 subst hs
 exact MJ hn h
end
section
variable{P:Program}{B:Base}{m:Mem}{H:List Ent}{σ:B6}{ty:TypeId}
theorem A7l{α:Type}[Flat α][Inhabited α]{x:Operand}{t e:TypeId}{k i n:Nat}{v:Value}{L:List α}(ha:∀w,(isAgg t).run P w= .ok true w)(hz:∀w,(sizeOf t).run P w= .ok n w)
 (hn:Flat.n α=n) (hx:ev σ x=some (.pointer (some (rp v (i*n))))) (hH:A7 H k=some (A5 v e L)) (hi:i<L.length):OpX P B m H σ (.load t x) ty (.agg (Flat.enc (gt L i)).toArray):=by
 subst hn
 exact RQ (off:=0) ha hz (by simpa using hx) hH hi (Flat.len _) (by rw[Ul,Tk (by rw[Flat.len];exact E' _)])
theorem E0{α:Type}[Flat α][Inhabited α]{x y:Operand}{t e:TypeId}{k i n:Nat}{v:Value}{L:List α}{a:α}(hz:∀w,(sizeOf t).run P w= .ok n w)
 (hn:Flat.n α=n) (hx:ev σ x=some (.pointer (some (rp v (i*n))))) (hy:ev σ y=some (.agg (Flat.enc a).toArray)) (hH:A7 H k=some (A5 v e L)) (hi:i<L.length):
 OpTo P B m H σ (.store t x y) ty (fun _ m' H'=>m'=m∧H'=H4 H k (A5 v e (L.set i a))):=by
 subst hn
 exact D3 (off:=0) (us:=Flat.enc a) a hz (by simpa using hx) hy rfl (Flat.len _) (by rw[Flat.len];exact Flat.pos) hH hi (by rw[Flat.len,SC];exact Nat.ble_self_eq_true _)
  (by rw[List.take_zero,Uc,SC,Flat.len,UE (by rw[Flat.len];exact E' _),SO]) (Flat.one a)
end
end Go.Kx
