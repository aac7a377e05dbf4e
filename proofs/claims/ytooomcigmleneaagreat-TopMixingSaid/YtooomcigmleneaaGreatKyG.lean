import Derived.Test.YtooomcigmleneaaGreatKyF
set_option linter.all false
namespace Go.Kx
open Go
def intsOk(cs:List Value):Prop:=∀v∈cs,∃x:Int,v= .int .i64 x
theorem intsOk.append{A C:List Value}(h:intsOk A)(h':intsOk C):intsOk (A++C):=fun v hv=>(List.mem_append.1 hv).elim (h v) (h' v)
def I5(e:TypeId)(sz:Nat)(ps:List (Nat×Nat)):Ent where
 ids:=ps.map (·.1)
 holds w:=∀p∈ps,∃cur:Array Value,w.heap[p.1]?=some (.cells cur e (0,0))∧cur.size=p.2*sz∧intsOk cur.toList
 loc w w' h hw:=fun p hp=>by
  obtain⟨cur,h1,h2⟩:=hw p hp
  exact⟨cur,by rw[h p.1 (List.mem_map_of_mem hp)];exact h1,h2⟩
 bound w hw b hb:=by
  obtain⟨p,hp,rfl⟩:=List.mem_map.1 hb
  obtain⟨cur,h1,_⟩:=hw p hp
  exact(Array.getElem?_eq_some_iff.1 h1).1
def InPool(ps:List (Nat×Nat))(n:Nat)(v:Value):Prop:=∃a l c,v= .slice a l c∧l≤n∧((a=none∧l=0∧c=0)∨∃g,a=some ⟨g,0,none⟩∧(g,c)∈ps∧l≤c)
theorem InPool.nil(ps:List (Nat×Nat))(n:Nat):InPool ps n (.slice none 0 0):=⟨none,0,0,rfl,Nat.zero_le _,.inl ⟨rfl,rfl,rfl⟩⟩
theorem InPool.up{ps H7:List (Nat×Nat)}{n n':Nat}{v:Value}(h:InPool ps n v)(hp:∀p∈ps,p∈H7)(hn:n≤n'):InPool H7 n' v:=by
 obtain⟨a,l,c,h1,h2,h3⟩:=h
 exact⟨a,l,c,h1,Nat.le_trans h2 hn,h3.imp id fun⟨g,h4,h5,h6⟩=>⟨g,h4,hp _ h5,h6⟩⟩
section
variable{P:Program}{B:Base}{m:Mem}{H:List Ent}{σ:B5}{ty:TypeId}
theorem B8e{z:Value}(hz:∀v∈z.cells.toList,v= .int .i64 0)(n:Nat):intsOk (Builtin.zeroCells z.cells n).toList:=fun v hv=>by
 simp only[Builtin.zeroCells,Array.toList_map,List.mem_map]at hv
 obtain⟨i,hi,rfl⟩:=hv
 have hpos:0<z.cells.size:=by
  have h2:i<n*z.cells.size:=by simpa using hi
  rcases Nat.eq_zero_or_pos z.cells.size with h|h
  ·rw[h]at h2;omega
  ·exact h
 have hlt:=Nat.mod_lt i hpos
 rw[getElem!_pos z.cells (i%z.cells.size) hlt]
 exact⟨0,hz _ (by simp)⟩
theorem B4R{w:World}{t e:TypeId}{sz bytes:Nat}{z:Value}(hS:SlT P t e sz bytes z)(hz:∀v∈z.cells.toList,v= .int .i64 0){ps:List (Nat×Nat)}{k n:Nat}{v:Value}(hw:St B m H w)(hH:B2 H k=some (I5 e sz ps))(hv:InPool ps n v)
 {p:Addr} {cap:Nat} {news:List Value} (hl:news.length=sz) (hn:∀j u,news[j]?=some u→w.cell? (p.add j)=some u) (hi:intsOk news) (hb:(n+1)*bytes≤140737488355328) (hby:0<bytes):
 ∃v' w' H7,(Builtin.append_ #[t,t] ty #[v,.slice (some p) 1 cap]).run P w= .ok v' w'∧(∀p∈ps,p∈H7)∧InPool H7 (n+1) v'∧St B m (H4 H k (I5 e sz H7)) w':=by
 obtain⟨i,hinf,hzz,hs,hbyy⟩:=hS.hi
 have hzs:=hS.hz
 have ht:=hS.ht
 subst hs;subst hbyy
 have hpool:=C1 hw hH
 have hnd:(ps.map (·.1)).Nodup:=by
  obtain⟨A,C,h1,_⟩:=X0 hH
  have h2:=hw.nodup
  rw[h1,E0,B7]at h2
  exact(List.nodup_append.1 (List.nodup_append.1 h2).2.1).1
 have one:∀u∈news,u.oneCell'=true:=fun u hu=>by obtain⟨x,rfl⟩:=hi u hu;rfl
 have hb':∀l,l≤n→(l+1)*i.bytes≤140737488355328:=fun l hl=>Nat.le_trans (Nat.mul_le_mul_right _ (by omega)) hb
 have h63:∀l,l≤n→l+1≤140737488355328:=fun l hl=>Nat.le_trans (Nat.le_mul_of_pos_right _ hby) (hb' l hl)
 have new:∀(old:List Value) (l cp:Nat),old.length=l*i.size→intsOk old→l≤n→
  St B m (H4 H k (I5 e i.size ((w.heap.size,grownCap w (l+1) cp e)::ps))) (w.drew.alloc (.cells (old.toArray++news.toArray++Builtin.zeroCells z.cells (grownCap w (l+1) cp e-(l+1))) e)):=by
  intro old l cp ho hoi hln
  have hge:=grownCap_ge w (l+1) cp e
  refine hw.change hH rfl rfl rfl (by simp) (fun c hc _=>by show(w.heap.push _)[c]?=_;rw[Array.getElem?_push,if_neg (Nat.ne_of_lt hc)]) ?_ ?_ ?_
  ·intro q hq
   rcases List.mem_cons.1 hq with rfl|hq
   ·refine⟨_,heap_alloc_new w.drew _,?_,?_⟩
    ·simp only[Array.size_append,List.size_toArray,size_zeroCells,hzs,ho,hl]
     rw[show l*i.size+i.size=(l+1)*i.size by rw[Nat.add_mul,Nat.one_mul],←Nat.add_mul]
     congr 1;omega
    ·simp only[Array.toList_append]
     exact(hoi.append hi).append (B8e hz _)
   ·obtain⟨cur,h1,h2⟩:=hpool q hq
    exact⟨cur,by show(w.heap.push _)[q.1]?=_;rw[Array.getElem?_push,if_neg (Nat.ne_of_lt (Array.getElem?_eq_some_iff.1 h1).1)];exact h1,h2⟩
  ·intro b hb2
   rcases List.mem_cons.1 hb2 with rfl|hb2
   ·exact .inr (Nat.le_refl _)
   ·exact .inl hb2
  ·refine List.nodup_cons.2 ⟨fun hc=>?_,hnd⟩
   exact absurd ((I5 e i.size ps).bound w hpool _ hc) (Nat.lt_irrefl _)
 obtain⟨a,l,c,rfl,hln,hcase⟩:=hv
 have hl1:news.length=1*i.size:=by rw[Nat.one_mul];exact hl
 rcases hcase with⟨rfl,rfl,rfl⟩|⟨g,rfl,hg,hlc⟩
 ·have hr:=run_append_nil (P:=P) w t ty e i z ht hinf hzz p 1 cap news hl1 hn (by omega) (by omega) (by have:=hb' 0 (Nat.zero_le _);omega)
  have hgr:=new [] 0 0 (by simp) (by intro v hv;simp at hv) (Nat.zero_le _)
  refine⟨_,_,_,hr,fun p hp=>List.mem_cons_of_mem _ hp,⟨_,_,_,rfl,by omega,.inr ⟨_,rfl,List.mem_cons_self ..,grownCap_ge w 1 0 e⟩⟩,?_⟩
  simpa using hgr
 ·obtain⟨cur,hcur,hsz,hints⟩:=hpool _ hg
  by_cases hroom:l+1≤c
  ·have hfit:l*i.size+news.length≤cur.size:=by rw[hl1,hsz,←Nat.add_mul];exact Nat.mul_le_mul_right _ hroom
   have hr:=run_append_room (P:=P) w t ty e i ht hinf g l c cur hcur p 1 cap news hl1 hn one hroom hfit
   refine⟨_,_,ps,hr,fun p hp=>hp,⟨_,_,_,rfl,by omega,.inr ⟨g,rfl,hg,hroom⟩⟩,?_⟩
   refine hw.change hH rfl rfl rfl (by simp[World.setRow]) (fun x _ hx=>Kx.setRow_other w g _ x (fun e1=>hx (e1▸List.mem_map_of_mem (f:=(·.1)) hg))) ?_ (fun b hb2=>.inl hb2) hnd
   intro q hq
   by_cases hqg:q.1=g
   ·obtain⟨cur2,h1,h2,h3⟩:=hpool q hq
    rw[hqg,hcur]at h1
    obtain rfl:cur=cur2:=by simpa using h1
    refine⟨_,by rw[hqg];exact Kx.setRow_self' w g _ cur e _ hcur,?_,?_⟩
    ·simp only[List.size_toArray,List.length_append,List.length_take,List.length_drop,Array.length_toList]
     omega
    ·exact(intsOk.append (fun v hv=>hints v (List.mem_of_mem_take hv)) hi).append fun v hv=>hints v (List.mem_of_mem_drop hv)
   ·obtain⟨cur2,h1,h2⟩:=hpool q hq
    exact⟨cur2,by rw[Kx.setRow_other w g _ q.1 hqg];exact h1,h2⟩
  ·have holds:∀j u,(cur.toList.take (l*i.size))[j]?=some u→w.cell? ((⟨g,0,none⟩:Addr).add j)=some u:=fun j u hu=>by
    rw[List.getElem?_take]at hu
    split at hu
    ·rw[B9 rfl]
     simp only[World.cell?,Nat.zero_add]
     simpa[hcur]using hu
    ·cases hu
   have hol:(cur.toList.take (l*i.size)).length=l*i.size:=by
    rw[List.length_take,Array.length_toList,hsz]
    exact Nat.min_eq_left (Nat.mul_le_mul_right _ hlc)
   have hr:=run_append_grow (P:=P) w t ty e i z ht hinf hzz ⟨g,0,none⟩ l c (cur.toList.take (l*i.size)) hol holds p 1 cap news hl1 hn (by omega) (by have:=h63 l hln;omega) (growslice_fits (by omega) (hb' l hln))
   exact⟨_,_,_,hr,fun p hp=>List.mem_cons_of_mem _ hp,⟨_,_,_,rfl,by omega,.inr ⟨_,rfl,List.mem_cons_self ..,grownCap_ge w _ _ e⟩⟩,new _ l c hol (fun v hv=>hints v (List.mem_of_mem_take hv)) hln⟩
theorem B3a{s x:Operand}{t e:TypeId}{sz bytes:Nat}{z:Value}(hS:SlT P t e sz bytes z)(hz:∀v∈z.cells.toList,v= .int .i64 0){k b n cap:Nat}{T:TypeId}{ps:List (Nat×Nat)}{v:Value}{news:List Value}{H1:List Ent}
 (hs:ev σ s=some v) (hx:ev σ x=some (.slice (some ⟨b,0,none⟩) 1 cap)) (hH1:H=blk b T news::H1) (hH:B2 H1 k=some (I5 e sz ps)) (hv:InPool ps n v) (hl:news.length=sz) (hi:intsOk news) (hb:(n+1)*bytes≤140737488355328) (hby:0<bytes):
 OpTo P B m H σ (.call (Call.mk (.builtin .append) #[s,x] #[t,t])) ty (fun v' m' H'=>m'=m∧∃H7:List (Nat×Nat),((∀p∈ps,p∈H7)∧InPool H7 (n+1) v')∧H'=H4 H1 k (I5 e sz H7)):=
 .ofRun trivial (D0 (by simp[Op.operands,Call.operands]) hs hx) fun w hw o ho hty=>by
  subst hH1
  have hsrc:=A7S hw (k:=0) (b:=b) (T:=T) (cs:=news) rfl
  have hw1:St _ m H1 w:=hw.weaken (List.sublist_cons_self _ _)
  obtain⟨v',w',H7,hr,h1,h2,hst⟩:=B4R (P:=P) (ty:=o.type) (cap:=cap) hS hz hw1 hH hv hl hsrc hi hb hby
  refine⟨v',w',.inl ?_,m,_,⟨rfl,H7,⟨h1,h2⟩,rfl⟩,hst⟩
  simp[execOp,ho,resolve,invoke,builtin,A6 hs,A6 hx,hr]
theorem C6e{x y:Operand}{t e:TypeId}{sz g l c:Nat}{i:Int}(k:Nat)(hu:∀w,(underlying t).run P w= .ok (.slice e) w)(hz:∀w,(sizeOf e).run P w= .ok sz w)
 (hx:ev σ x=some (.slice (some ⟨g,0,none⟩) l c)) (hy:ev σ y=some (.int .i64 i)) (hi:i=k) (h1:k<l):OpX P B m H σ (.indexAddr t x y) ty (.pointer (some ⟨g,k*sz,none⟩)):=
 .ofRun trivial (D0 rfl hx hy) fun w hw o ho _=>by
  subst hi
  simp only[execOp,ho,A6 hx,A6 hy,Instr.indexAt,asIntOf]
  simp[hu,hz,h1,B9]
theorem B6m{x:Operand}{t e:TypeId}{j g c k:Nat}{ps:List (Nat×Nat)}(ha:∀w,(isAgg t).run P w= .ok true w)(hz:∀w,(sizeOf t).run P w= .ok 2 w)
 (hx:ev σ x=some (.pointer (some ⟨g,k*2,none⟩))) (hH:B2 H j=some (I5 e 2 ps)) (hg:(g,c)∈ps) (hk:k<c):
 OpTo P B m H σ (.load t x) ty (fun v m' H'=>H'=H∧m'=m∧∃a b:Int,v= .agg [.int .i64 a,.int .i64 b].toArray):=
 .ofRun trivial (I8 rfl hx) fun w hw o ho _=>by
  obtain⟨cur,h1,h2,h3⟩:=C1 hw hH _ hg
  have hs:k*2+1<cur.size:=by
   have:cur.size=c*2:=h2
   omega
  obtain⟨a,ha1⟩:=h3 cur[k*2] (by simp)
  obtain⟨b,hb1⟩:=h3 cur[k*2+1] (by simp)
  have hl:=run_loadCells_list (P:=P) w ⟨g,k*2,none⟩ [.int .i64 a,.int .i64 b] (fun q u hq=>by
   rw[B9 rfl]
   simp only[World.cell?]
   rcases q with _|_|q
   ·simp at hq;subst hq
    simp[h1,←ha1]
   ·simp at hq;subst hq
    simp[h1,←hb1]
   ·simp at hq)
  have hl2:(loadCells ⟨g,k*2,none⟩ 2).run P w= .ok _ w:=hl
  exact⟨_,w,.inl (by simp[execOp,ho,A6 hx,Instr.loadAt,Instr.sureAddr,loadVar,ha,hz,hl2]),m,H,⟨rfl,rfl,a,b,rfl⟩,hw⟩
theorem C0e{N:Nat}{K:Act→World→Prop}(e:TypeId)(sz:Nat)(h:WK N B m (I5 e sz []::H) σ K):WK N B m H σ K:=fun Ds w hw a ha=>
 h Ds w (hw.push (Ext.refl w) (I5 e sz []) (by intro p hp;simp at hp) (by simp[I5]) (by simp[I5])) a ha
end
section
variable{M:Option Nat}{P:Program}{N:Nat}{ops:Array Oper}{Q:Exit→Act→World→Prop}{B:Base}{m:Mem}{H:List Ent}{σ:B5}{rest:List Oper}
 {d:Nat} {op:Op} {ty:TypeId} {pos:String} {after:Array Edge} {K:Act→World→Prop} {i:Nat} {must:Bool} {π:Plan} {piv non:List Nat} {KK:Mem→List Ent→B5→Prop} {g:Option (Nat×Bool)}
theorem C9c{X:Type}{F:Value→X→List Ent}{R:Value→X→Prop}(h:OpTo P B m H σ op ty (fun v m' H'=>m'=m∧∃x,R v x∧H'=F v x))(hd:d<N)
 (k:∀v x,R v x→WL M P N ops Q B m (F v x) ((d,v)::σ) rest):WL M P N ops Q B m H σ (⟨some d,op,ty,pos,after,none⟩::rest):=
 O4 h hd fun v m' H' ⟨h1,x,h2,h3⟩=>by subst h1;subst h3;exact k v x h2
theorem B2s{X:Type}{F:Value→X→List Ent}{R:Value→X→Prop}(ho:ops[i]?=some ⟨some d,op,ty,pos,after,g⟩)(hp:piv.contains i=true)(hn:non.contains i=true)(hg:M6 ops σ ⟨some d,op,ty,pos,after,g⟩=some true)
 (h:OpTo P B m H σ op ty (fun v m' H'=>m'=m∧∃x,R v x∧H'=F v x)) (hd:d<N)
 (k:∀v x,R v x→DW P B N ops piv non KK false π m (F v x) ((d,v)::σ)):DW P B N ops piv non KK must (.cons i π) m H σ:=
 A1A ho hp hg h hd (fun h'=>by rw[hn]at h';cases h') (fun _ _ _ h=>by rw[h.1];exact Mem.le_refl _) fun v m' H' ⟨h1,x,h2,h3⟩=>by subst h1;subst h3;exact k v x h2
theorem OpTo.entry{b:Nat}{α:Type}[Flat α]{V:Value→Prop}{j:Nat}(h:OpTo P B m H σ op ty (fun u m' H'=>m'=m∧∃v s,u= .tuple #[v,.int .i64 s]∧V v∧H'=H4 H j (mapS b α V s))):
 OpTo P B m H σ op ty (fun u m' H'=>m'=m∧∃s:Int,(∃v,u= .tuple #[v,.int .i64 s]∧V v)∧H'=H4 H j (mapS b α V s)):=
 ⟨h.sel,h.defd,fun M B w hw o a next Q ho ht k=>h.run M B w hw o a next Q ho ht fun u m' H' w' ⟨h1,v,s,h2,h3,h4⟩=>k u m' H' w' ⟨h1,s,⟨v,h2,h3⟩,h4⟩⟩
end
section
variable{P:Program}{B:Base}{m:Mem}{H:List Ent}{σ:B5}{ty:TypeId}
theorem B0O{t te:TypeId}(n:Nat)(q:Option Addr)(w:World)(hu:P.underlying t=some (.pointer te)):(Op.equalIn (n+1) t (.pointer q) (.pointer none)).run P w= .ok q.isNone w:=by
 have h:=run_underlying (P:=P) hu
 cases q <;> simp[Op.equalIn,h]
theorem B5u{x:Operand}{t t' te:TypeId}{q:Option Addr}(hu:P.underlying t=some (.pointer te))(hx:ev σ x=some (.pointer q)):
 OpX P B m H σ (.binOp .eql t x (.const (.pointer none)) t') ty (.bool q.isNone):=
 .ofRun trivial (D0 rfl hx rfl) fun w _ o ho _=>by
  have hy:S2 σ (.const (.pointer none))= .pointer none:=rfl
  have h:=B0O (P:=P) 9999 q w hu
  have h2:(binOp .eql t (.pointer q) (.pointer none)).run P w= .ok (.bool q.isNone) w:=by
   simp only[binOp,Op.equal,Op.maxDepth,Sem.run_bind,h]
   rfl
  simp[execOp,ho,A6 hx,hy,eqGuard,h2]
end
section
variable{P:Program}{N:Nat}{B:Base}{m:Mem}{H:List Ent}{σ:B5}
theorem Y8{fn:Func}{R:Ending→World→Prop}{t T' u:Nat}(k:Nat){b:Nat}{cs:List Value}{v:Value}(hres:fn.results=#[.tmp u,.cell t T'])(hu:lk σ u=some v)(hv:lk σ t=some (.pointer (some ⟨b,0,none⟩)))(hH:B2 H k=some (blk b T' cs))
 (hg:∀w,(isAgg T').run P w= .ok true w) (hz:∀w,(sizeOf T').run P w= .ok cs.length w) (hR:∀w,St B m H w→R (.returned (.tuple #[v,.agg cs.toArray])) w):WK N B m H σ (L8 P fn R .ret):=
 A2F (.inl rfl) (fun w hw a ha=>by
  obtain⟨h1,h2⟩:=A3z hw ha hv hH hg hz
  rw[Array.getD_eq_getD_getElem?]at h1
  have h3:=ha u v hu
  simp[results,hres,h1,asAddr,h2,h3]) hR
end
end Go.Kx
namespace Go.Kx
def B6X(P:Program)(g:FuncId)(lb:List Value)(m:Mem)(n:Nat)(A:Mem→Array Value→Prop):Prop:=
 ∀(l:Nat) (S:Type) (HS:S→List Ent) (I Ix:Nat→Mem→S→Prop) (s0:S),(∀i m1 m2 s,m1.le m2→I i m1 s→I i m2 s)→
  (∀i m1 s args,i<n→m.le m1→A m1 args→I i m1 s→A8b P l args m1 (HS s) (fun m' H'=>m1.le m'∧∃s',H'=HS s'∧I (i+1) m' s') (fun m' H'=>m1.le m'∧∃s',H'=HS s'∧Ix (i+1) m' s'))→
  I 0 m s0→Mut P g (Value.func (.yield l) #[] #[]::lb).toArray m (HS s0) (fun m' Es _=>∃s,Es=HS s∧∃i,i≤n∧(I i m' s∨Ix i m' s))
section
variable{M:Option Nat}{P:Program}{N:Nat}{ops:Array Oper}{Q:Exit→Act→World→Prop}{B:Base}{m:Mem}{H:List Ent}{σ:B5}{rest:List Oper}
 {d:Nat} {op:Op} {ty:TypeId} {pos:String} {after:Array Edge} {K:Act→World→Prop}
theorem A6N{g:Operand}{ps:List Nat}{assign body:Code}{gf:Nat}{lb:List Value}{n:Nat}{A:Mem→Array Value→Prop}
 (hg:ev σ g=some (.func (.func gf) #[] lb.toArray)) (eg:Enters P gf) (hit:B6X P gf lb m n A)
 {S G:Type} (HS:S→List Ent) (I:Nat→Mem→S→Prop) (Ix:Exit→Nat→Mem→S→Prop) (s0:S) (hH:HS s0=H) (h0:I 0 m s0) (hmono:∀i m1 m2 s,m1.le m2→I i m1 s→I i m2 s)
 (hps:∀p∈ps,p<N) (hA:∀m1 args,A m1 args→args.size=ps.length)
 (HA:G→List Value→S→List Ent) (σA:G→List Value→B5)
 (hassign:∀l B' m1 s args (K:Act→World→Prop),args.length=ps.length→A m1 args.toArray→m.le m1→(∀g,WK N B' m1 (HA g args s) (σA g args) K)→WC (some l) P N (Exit.then K (fun _ _ _=>False)) B' m1 (HS s) ((ps.zip args).reverse++σ) assign)
 (hbody:∀l B' i m1 s args g,args.length=ps.length→i<n→m.le m1→A m1 args.toArray→I i m1 s→WC (some l) P N (B2k B' m1 HS (I (i+1)) (fun e=>Ix e (i+1))) B' m1 (HA g args s) (σA g args) body)
 (hdone:∀i m' s,m.le m'→i≤n→I i m' s→WK N B m' (HS s) σ (Q .normal))
 (hret:∀i m' s,m.le m'→i≤n→Ix .ret i m' s→WK N B m' (HS s) σ (Q .ret))
 (hexit:∀id i m' s,m.le m'→i≤n→Ix (.exit id) i m' s→WK N B m' (HS s) σ (Q (.exit id))):
 WC none P N Q B m H σ (.rangeFunc g ps.toArray assign body):=by
 intro Ds w hw a ha
 subst hH
 refine wpIn_rangeFunc ?_
 intro fn hfn
 show∃(l:Nat) (mark:List Deferred) (w₁:World) (d:Deferred) (w₁':World) (f:FuncId) (args:Array Value) (w₂:World),(Instr.enterLoop fn a.tmps ps.toArray assign body none).run P w= .ok (l,mark) w₁∧_
 obtain⟨rec,hrec⟩:∃rec:LoopState→Option Code→Loop,rec=fun st pe=>{state:=st,pending:=pe,fn,tmps:=a.tmps,params:=ps.toArray,assign,body,defers:=w.heap.size}:=⟨_,rfl⟩
 have hen:=run_enterLoop_outer (P:=P) (w:=w) fn a.tmps ps.toArray assign body
 have hst1:=(hw.laid (.deferred (some []))).laid (.loop (rec .ready none))
 rw[World.size_alloc]at hst1
 obtain⟨W1,hW1⟩:∃W1,(w.alloc (.deferred (some []))).alloc (.loop (rec .ready none))=W1:=⟨_,rfl⟩
 rw[hW1]at hst1
 refine⟨w.heap.size+1,[mk w.heap.size],W1,{target:=.fn (.func gf) lb.toArray,args:=#[.func (.yield (w.heap.size+1)) #[] #[]]},W1,gf,
  (Value.func (.yield (w.heap.size+1)) #[] #[]::lb).toArray,W1,?_,?_,?_,?_,by simp[A2r],?_⟩
 ·rw[hen,←hW1,hrec];rfl
 ·have:=ha.eval hg
  simp only[resolve,this]
  simp[go_sem]
 ·intro f' _;exact A1a none f'
 ·simp only[invoke]
  rw[show(#[Value.func (Fn.yield (w.heap.size+1)) #[] #[]]++lb.toArray:Array Value)=(Value.func (Fn.yield (w.heap.size+1)) #[] #[]::lb).toArray by simp]
  exact eg _ _
 ·have hll:∀(w':World) (B':Base) (m':Mem) (H':List Ent) (o:Obj),St B' m' (H'++[D7 (w.heap.size+1) o]) w'→w'.heap[w.heap.size+1]?=some o:=fun w' B' m' H' o h=>h.own (D7 (w.heap.size+1) o) (by simp)
  have hper:((HS s0++[D7 (w.heap.size+1) (.loop (rec .ready none))])++(D7 w.heap.size (.deferred (some []))::marks Ds)).Perm
   (D7 (w.heap.size+1) (.loop (rec .ready none))::D7 w.heap.size (.deferred (some []))::(HS s0++marks Ds)):=by
   simp only[List.append_assoc,List.singleton_append]
   refine List.perm_middle.trans ?_
   exact List.Perm.cons _ List.perm_middle
  have hst2:=hst1.perm hper
  refine A5f none ?_
  refine(hit (w.heap.size+1) (S ⊕ (S×Exit)) (fun
   | .inl s=>HS s++[D7 (w.heap.size+1) (.loop (rec .ready none))]
   | .inr (s,e)=>HS s++[D7 (w.heap.size+1) (.loop (rec .done (some (A2y e))))])
   (fun i m' x=>match x with
    | .inl s=>I i m' s
    | .inr _=>False)
   (fun i m' x=>match x with
    | .inl _=>False
    | .inr (s,e)=>Ix e i m' s∧(e= .ret∨∃id,e= .exit id)) (.inl s0) (fun i m1 m2 x hm h=>by rcases x with s|x;exact hmono i m1 m2 s hm h;exact h) ?_ h0 W1 hst2.part).mono ?_
  ·
    rintro i m1 x args hi hm1 hAi hI B' w' hw'
    rcases x with s|x
    ·have hrd:=hll _ _ _ _ _ hw'
     have hy:=run_yield (P:=P) (args:=args) hrd (by rw[hrec];simpa using hA m1 args hAi)
     rw[hrec]at hy
     refine⟨fn,_,assign,body,hy,roundIn_of_wpIn trivial ?_⟩
     have hin:St ⟨w',B7 (HS s),m1⟩ m1 (HS s) w':=hw'.part
     obtain⟨hsz,hget⟩:=B1i ps args.toList a.tmps σ (fun u v hu=>ha.get u v hu) (fun p hp=>by rw[ha.size];exact hps p hp) (by simpa using(hA m1 args hAi).symm)
     refine hassign (w.heap.size+1) _ m1 s args.toList _ (by simpa using hA m1 args hAi) (by simpa using hAi) hm1 ?_ [] w' (by simpa[marks]using hin) _ ⟨rfl,?_,?_⟩
     rotate_left
     ·simp only[←Array.foldl_toList];rw[Array.toList_zip];rw[hsz,ha.size]
     ·intro u v hu
      have:=hget u v hu
      simp only[←Array.foldl_toList];rw[Array.toList_zip];exact this
     ·intro g Ds' w1 hw1 a1 ha1
      have hs1:=hw'.handed hw1
      have hr1:=hll _ _ _ _ _ hs1
      refine⟨_,run_beginRound hr1 (by rw[hrec]),?_⟩
      have hs2:=hs1.turn (o':=.loop {rec .ready none with state:=.busy}) (R:=[])
      have hb:=hbody (w.heap.size+1) _ i m1 s args.toList g (by simpa using hA m1 args hAi) hi hm1 (by simpa using hAi) hI Ds' _ hs2.part a1 ha1
      refine wpIn_mono hb ?_
      intro e a3 w3 hp
      have fin:∀(jump:Option Code) (m':Mem) (s':S),St ⟨w1.putObj (w.heap.size+1) (.loop {rec .ready none with state:=.busy}),B7 (HA g args.toList s++marks Ds'),m1⟩ m' (HS s') w3→
       (Instr.endRound (w.heap.size+1) jump).run P w3= .ok (.bool jump.isNone) (w3.putObj (w.heap.size+1) (.loop (rec (if jump.isNone then .ready else .done) jump)))∧
       St B' m' (HS s'++[D7 (w.heap.size+1) (.loop (rec (if jump.isNone then .ready else .done) jump))]) (w3.putObj (w.heap.size+1) (.loop (rec (if jump.isNone then .ready else .done) jump))):=by
       intro jump m' s' hs3
       have hs4:=hs2.handed hs3
       have hr4:=hll _ _ _ _ _ hs4
       have he:=run_endRound (P:=P) jump hr4
       refine⟨?_,?_⟩
       ·rw[he,hrec]
       ·exact hs4.turn (R:=[])
      cases e with
      |normal=>
       obtain⟨m',s',h1,h2,h3⟩:=hp
       obtain⟨h4,h5⟩:=fin none m' s' h3
       exact⟨_,_,h4,.inl ⟨rfl,m',_,⟨h1,.inl s',rfl,h2⟩,h5⟩⟩
      |ret=>
       obtain⟨m',s',h1,h2,h3⟩:=hp
       obtain⟨h4,h5⟩:=fin (some .ret) m' s' h3
       exact⟨_,_,h4,.inr ⟨rfl,m',_,⟨h1,.inr (s',.ret),rfl,h2,.inl rfl⟩,h5⟩⟩
      |exit id=>
       obtain⟨m',s',h1,h2,h3⟩:=hp
       obtain⟨h4,h5⟩:=fin (some (.exit id)) m' s' h3
       exact⟨_,_,h4,.inr ⟨rfl,m',_,⟨h1,.inr (s',.exit id),rfl,h2,.inr ⟨id,rfl⟩⟩,h5⟩⟩
      |goto t=>exact hp.elim
      |panic ch=>exact hp.elim
      |outgrown=>exact hp.elim
    ·exact hI.elim
  ·
    rintro e w2 ⟨v,m',Es,rfl,hs,x,rfl,hx⟩
    have hs':=hst2.handed hs
    have fin:∀(s:S) (r:Loop) (jump:Option Code),r.state≠ .busy→r.pending=jump→St B m' ((HS s++[D7 (w.heap.size+1) (.loop r)])++(D7 w.heap.size (.deferred (some []))::marks Ds)) w2→
     (Instr.endLoop (w.heap.size+1)).run P w2= .ok jump (w2.putObj (w.heap.size+1) (.loop {r with state:=.exhausted}))∧
     St B m' (HS s++marks (w.heap.size::Ds)) (w2.putObj (w.heap.size+1) (.loop {r with state:=.exhausted})):=by
     intro s r jump hr hj hs3
     have hr3:w2.heap[w.heap.size+1]?=some (.loop r):=hs3.own (D7 (w.heap.size+1) (.loop r)) (by simp)
     refine⟨by rw[←hj];exact run_endLoop hr3 hr,?_⟩
     have h4:St B m' (HS s++D7 (w.heap.size+1) (.loop r)::(D7 w.heap.size (.deferred (some []))::marks Ds)) w2:=by simpa using hs3
     have h5:=h4.turn (o':=.loop {r with state:=.exhausted})
     exact h5.weaken (List.Sublist.append_left (List.sublist_cons_self _ _) _)
    have hen':Env N (w.heap.size::Ds) σ {a with defers:=[mk w.heap.size]++a.defers}:=⟨by simp[ha.defers],ha.size,ha.get⟩
    rcases x with s|⟨s,e⟩
    ·obtain⟨i,hi,hI|hF⟩:=hx
     ·obtain⟨h1,h2⟩:=fin s (rec .ready none) none (by rw[hrec];simp) (by rw[hrec]) hs'
      refine⟨_,_,h1,?_⟩
      exact hdone i m' s hs.le hi hI _ _ h2 _ hen'
     ·exact hF.elim
    ·obtain⟨i,hi,hF|⟨hIx,he⟩⟩:=hx
     ·exact hF.elim
     ·obtain⟨h1,h2⟩:=fin s (rec .done (some (A2y e))) (some (A2y e)) (by rw[hrec];simp) (by rw[hrec]) hs'
      refine⟨_,_,h1,?_⟩
      rcases he with rfl|⟨id,rfl⟩
      ·exact wpIn_ret (hret i m' s hs.le hi hIx _ _ h2 _ hen')
      ·exact wpIn_exit (hexit id i m' s hs.le hi hIx _ _ h2 _ hen')
end
end Go.Kx
namespace Go.Kx
open Go
structure BigV(n:Nat) where
 cells:List Value
 len:cells.length=n
 one:∀v∈cells,v.oneCell'=true
instance(n:Nat):Inhabited (BigV n):=⟨⟨List.replicate n (.bool false),by simp,fun v hv=>by rw[(List.mem_replicate.1 hv).2];rfl⟩⟩
abbrev BigV.flat(n:Nat)(h:0<n):Flat (BigV n):=⟨n,h,fun x=>x.cells,fun x=>x.len,fun x v hv=>x.one v hv⟩
def GoodB{n:Nat}{α:Type}[Enc α](Q:α→Prop)(m:Mem)(x:BigV n):Prop:=∃a:α,Enc.rd m x.cells a∧Q a
def GoodL{n:Nat}{α:Type}[Enc α](Q:α→Prop)(m:Mem)(L:List (BigV n)):Prop:=∀x∈L,GoodB Q m x
section
variable{n:Nat}{α:Type}[Enc α]{Q:α→Prop}{m m':Mem}{L R:List (BigV n)}
theorem GoodB.mono{x:BigV n}(h:GoodB Q m x)(hm:m.le m'):GoodB Q m' x:=let⟨a,ha,hq⟩:=h;⟨a,Enc.mono hm ha,hq⟩
theorem GoodB.any{x:BigV n}(h:GoodB Q m x):GoodB (fun _:α=>True) m x:=let⟨a,ha,_⟩:=h;⟨a,ha,trivial⟩
theorem GoodL.mono(h:GoodL Q m L)(hm:m.le m'):GoodL Q m' L:=fun x hx=>(h x hx).mono hm
theorem GoodL.perm(h:GoodL Q m L)(hp:R.Perm L):GoodL Q m R:=fun x hx=>h x (hp.mem_iff.1 hx)
theorem GoodL.at_(h:GoodL Q m L){i:Nat}(hi:i<L.length):GoodB Q m (gt L i):=h _ (by rw[gt,List.getD_eq_getElem?_getD,List.getElem?_eq_getElem hi];exact List.getElem_mem hi)
theorem B2Z(hn:0<Enc.sz α):∀{xs:List Value} {L:List α},RdL m xs L→(∀a∈L,Q a)→∃R:List (BigV (Enc.sz α)),R.length=L.length∧ @Kx.flat _ (BigV.flat _ hn) R=xs∧GoodL Q m R
 |xs,[],h,_=>⟨[],rfl,by have:=h.1;simp at this;subst this;rfl,fun x hx=>by simp at hx⟩
 |xs,a::L,h,hq=>by
  have hl:=h.1
  rw[List.length_cons,Nat.add_mul,Nat.one_mul]at hl
  obtain⟨vs,h1,h2⟩:=h.2 0 a rfl
  have hv:xs.take (Enc.sz α)=vs:=by
   apply List.ext_getElem?
   intro j
   rw[List.getElem?_take]
   by_cases hj:j<Enc.sz α
   ·rw[if_pos hj]
    have hjv:j<vs.length:=by rw[Enc.len h1];exact hj
    have:=h2 j vs[j] (List.getElem?_eq_getElem hjv)
    rw[Nat.zero_mul,Nat.zero_add]at this
    rw[this,List.getElem?_eq_getElem hjv]
   ·rw[if_neg hj,List.getElem?_eq_none]
    rw[Enc.len h1];omega
  obtain⟨R,h3,h4,h5⟩:=B2Z hn (xs:=xs.drop (Enc.sz α)) (L:=L) ⟨by rw[List.length_drop];omega,fun i x hx=>by
   obtain⟨us,h6,h7⟩:=h.2 (i+1) x (by simpa using hx)
   refine⟨us,h6,fun j u hu=>?_⟩
   rw[List.getElem?_drop]
   have:=h7 j u hu
   rwa [Nat.add_mul,Nat.one_mul,show i*Enc.sz α+Enc.sz α+j=Enc.sz α+(i*Enc.sz α+j) by omega]at this⟩ (fun a ha=>hq a (List.mem_cons_of_mem _ ha))
  refine⟨⟨vs,Enc.len h1,Enc.one h1⟩::R,by simp[h3],?_,fun x hx=>?_⟩
  ·show vs++ @Kx.flat _ (BigV.flat _ hn) R=xs
   rw[h4,←hv,List.take_append_drop]
  ·rcases List.mem_cons.1 hx with rfl|hx
   ·exact⟨a,h1,hq a (List.mem_cons_self ..)⟩
   ·exact h5 x hx
theorem C3p(hn:0<n)(hs:Enc.sz α=n){xs:List Value}{L:List α}(h:RdL m xs L)(hq:∀a∈L,Q a):∃R:List (BigV n),R.length=L.length∧ @Kx.flat _ (BigV.flat n hn) R=xs∧GoodL Q m R:=by
 subst hs
 exact B2Z hn h hq
theorem A9Q(hn:0<Enc.sz α):∀{R:List (BigV (Enc.sz α))},GoodL Q m R→∃L:List α,L.length=R.length∧RdL m (@Kx.flat _ (BigV.flat _ hn) R) L∧∀a∈L,Q a
 | [],_=>⟨[],rfl,RdL.nil,fun a ha=>by simp at ha⟩
 |x::R,h=>by
  obtain⟨L,h1,h2,hqL⟩:=A9Q hn (R:=R) fun y hy=>h y (List.mem_cons_of_mem _ hy)
  obtain⟨a,ha,hqa⟩:=h x (List.mem_cons_self ..)
  refine⟨a::L,by simp[h1],⟨?_,fun i y hy=>?_⟩,fun b hb=>by rcases List.mem_cons.1 hb with rfl|hb;exact hqa;exact hqL b hb⟩
  ·show(x.cells++ @Kx.flat _ (BigV.flat _ hn) R).length=_
   rw[List.length_append,h2.1,x.len,List.length_cons,Nat.add_mul];omega
  ·show∃vs,_∧∀j u,_→(x.cells++ @Kx.flat _ (BigV.flat _ hn) R)[_]?=_
   cases i with
   |zero=>
    obtain rfl:a=y:=by simpa using hy
    exact⟨x.cells,ha,fun j u hu=>by
     rw[Nat.zero_mul,Nat.zero_add,List.getElem?_append_left (List.getElem?_eq_some_iff.1 hu).1];exact hu⟩
   |succ i=>
    obtain⟨vs,h3,h4⟩:=h2.2 i y (by simpa using hy)
    refine⟨vs,h3,fun j u hu=>?_⟩
    rw[List.getElem?_append_right (by rw[x.len,Nat.add_mul];omega),x.len,show(i+1)*Enc.sz α+j-Enc.sz α=i*Enc.sz α+j by rw[Nat.add_mul];omega]
    exact h4 j u hu
theorem GoodL.rdl(hn:0<n)(hs:Enc.sz α=n){R:List (BigV n)}(h:GoodL Q m R):∃L:List α,L.length=R.length∧RdL m (@Kx.flat _ (BigV.flat n hn) R) L∧∀a∈L,Q a:=by
 subst hs
 exact A9Q hn h
end
section
variable{P:Program}{B:Base}{m:Mem}{H:List Ent}{σ:B5}{ty:TypeId}
theorem C0c{α:Type}[Flat α][Inhabited α]{x:Operand}{t e:TypeId}{k i n:Nat}{v:Value}{L:List α}(ha:∀w,(isAgg t).run P w= .ok true w)(hz:∀w,(sizeOf t).run P w= .ok n w)
 (hn:Flat.n α=n) (hx:ev σ x=some (.pointer (some (rp v (i*n))))) (hH:B2 H k=some (A5 v e L)) (hi:i<L.length):OpX P B m H σ (.load t x) ty (.agg (Flat.enc (gt L i)).toArray):=by
 subst hn
 exact B3f (off:=0) ha hz (by simpa using hx) hH hi (Flat.len _) (by rw[List.drop_zero,List.take_of_length_le (by rw[Flat.len];exact Nat.le_refl _)])
theorem D4{α:Type}[Flat α][Inhabited α]{x y:Operand}{t e:TypeId}{k i n:Nat}{v:Value}{L:List α}{a:α}(hz:∀w,(sizeOf t).run P w= .ok n w)
 (hn:Flat.n α=n) (hx:ev σ x=some (.pointer (some (rp v (i*n))))) (hy:ev σ y=some (.agg (Flat.enc a).toArray)) (hH:B2 H k=some (A5 v e L)) (hi:i<L.length):
 OpTo P B m H σ (.store t x y) ty (fun _ m' H'=>m'=m∧H'=H4 H k (A5 v e (L.set i a))):=by
 subst hn
 exact C6 (off:=0) (us:=Flat.enc a) a hz (by simpa using hx) hy rfl (Flat.len _) (by rw[Flat.len];exact Flat.pos) hH hi (by rw[Flat.len,Nat.zero_add];exact Nat.ble_self_eq_true _)
  (by rw[List.take_zero,List.nil_append,Nat.zero_add,Flat.len,List.drop_of_length_le (by rw[Flat.len];exact Nat.le_refl _),List.append_nil]) (Flat.one a)
end
end Go.Kx
