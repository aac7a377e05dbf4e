import Derived.Test.YtooomcigmleneaaGreatKxC
set_option linter.all false
namespace Go.Kx
section
variable{P:Program}{B:Base}{m:Mem}{H:List Ent}{σ:B6}{ty:TypeId}
theorem JV{w:World}(hw:St B m H w){k b:Nat}{T:TypeId}{cs:List Value}(hH:A7 H k=some (blk b T cs)):∀j u,cs[j]?=some u→w.cell? ((⟨b,0,none⟩:Addr).add j)=some u:=by
 intro j u a
 rw[C9 rfl,Eb hw hH];simpa using a
theorem A7a{k:Nat}{e:Ent}:∀{H:List Ent},A7 H k=some e→H4 H k e=H:=by
 induction k with
 |zero=>intro H h;cases H <;> simp[A7,H4]at h ⊢; exact h.symm
 |succ k ih=>intro H h;cases H <;> simp[A7,H4]at h ⊢; exact ih h
theorem A3S{w:World}{t e:TypeId}{sz bytes:Nat}{z:Value}(hS:SlT P t e sz bytes z){v:Value}{n:Nat}{xs:List Value}
 (hown:w.ownsRow 0 e sz v n xs) {p:Addr} {c cap:Nat} {news:List Value} (hl:news.length=c*sz) (hn:∀j u,news[j]?=some u→w.cell? (p.add j)=some u)
 (h1:∀u∈news,u.oneCell'=true) (hb:(n+c)*bytes≤140737488355328) (h63:n+c≤9223372036854775807):
 ∃U w',(Builtin.append_ #[t,t] ty #[v,.slice (some p) c cap]).run P w= .ok U w'∧w'.ownsRow 0 e sz U (n+c) (xs++news)∧w.grownBy w' v.ownBlock∧
  (U.ownBlock=v.ownBlock∨U.ownBlock=some w.heap.size)∧(U= .slice none 0 0↔v= .slice none 0 0∧c=0):=by
 obtain⟨i,hi,hz,C,y⟩:=hS.hi
 have r:=hS.hz
 have ht:=hS.ht
 subst C;subst y
 have b:(xs++news).length=(n+c)*i.size:=by rw[F',hown.1,hl,Sb]
 have new:∀old:Nat,
  (w.drew.alloc (.cells (xs.toArray++news.toArray++Builtin.zeroCells z.cells (grownCap w (n+c) old e-(n+c))) e)).ownsRow 0 e i.size
   (.slice (some ⟨w.heap.size,0,none⟩) (n+c) (grownCap w (n+c) old e)) (n+c) (xs++news):=by
  intro old
  have s:=grownCap_ge w (n+c) old e
  refine⟨b,.inr ⟨w.heap.size,_,_,rfl,EF _,heap_alloc_new w.drew _,s,grownCap_le_maxLen w (n+c) old e (by simpa[maxLen]using h63),?_,?_⟩⟩
  ·simp only[Us,Ub,size_zeroCells,r,hown.1,hl,←Sb]
   congr 1
   omega
  ·simp only[Ut,Se]
   rw[←Se,←b]
   exact TC
 have A9Q:∀o row,w.grownBy (w.drew.alloc o) row:=fun o row=>⟨rfl,rfl,rfl,by simp,fun k q _=>by
  show(w.heap.push o)[k]?=_;rw[Uo,A' (TK q)]⟩
 rcases hown.2 with⟨rfl,rfl⟩|⟨g,cp,cur,rfl,hbg,hg,hnc,hcm,hcs,htake⟩
 ·have B:xs=[]:=Tj (by simpa using hown.1)
  subst B
  by_cases A:c=0
  ·subst A
   have x:news=[]:=Tj (by simpa using hl)
   subst x
   refine⟨.slice none 0 0,w,?_,hown,⟨rfl,rfl,rfl,E' _,fun _ _ _=>rfl⟩,.inl rfl,by simp⟩
   simp[Builtin.append_,run_underlying ht,sizeOf,typeInfo,hi,Builtin.lenOf,Builtin.firstCells,loadCells,loadCellsFrom]
  ·have f:=run_append_nil (P:=P) w t ty e i z ht hi hz p c cap news hl hn (by omega) (by omega) (by have:=hb;simp only[SC]at this;omega)
   have l:=new 0
   simp only[SC,Uc,Array.empty_append]at l⊢
   exact⟨_,_,f,l,A9Q _ _,.inr rfl,by simp[A]⟩
 ·by_cases a:n+c≤cp
  ·have m:n*i.size+news.length≤cur.size:=by rw[hl,hcs,←Sb];exact Sw _ a
   have f:=run_append_room (P:=P) w t ty e i ht hi g n cp cur hg p c cap news hl hn h1 a m
   refine⟨_,_,f,⟨b,.inr ⟨g,cp,_,rfl,EF _,Kx.setRow_self' w g _ cur e _ hg,a,hcm,?_,?_⟩⟩,⟨rfl,rfl,rfl,by simp[World.setRow],fun k _ q=>Kx.setRow_other w g _ k (fun e=>q (by simp[Value.ownBlock,e]))⟩,.inl rfl,by simp⟩
   ·simp only[Ub,F',Sr,SE,Tc]
    omega
   ·rw[htake,←b]
    exact TC
  ·have d:∀j u,xs[j]?=some u→w.cell? ((⟨g,0,none⟩:Addr).add j)=some u:=hown.cells (g:=g) rfl
   have f:=run_append_grow (P:=P) w t ty e i z ht hi hz ⟨g,0,none⟩ n cp xs hown.1 d p c cap news hl hn (by omega) (by omega) (growslice_fits (by omega) hb)
   exact⟨_,_,f,new cp,A9Q _ _,.inr rfl,by simp⟩
theorem MO{w:World}(hw:St B m H w){t e:TypeId}{sz bytes:Nat}{z:Value}(hS:SlT P t e sz bytes z){k:Nat}{v:Value}{n:Nat}{xs:List Value}
 (hH:A7 H k=some (row v e sz n xs)) {p:Addr} {c cap:Nat} {news:List Value} (hl:news.length=c*sz) (hn:∀j u,news[j]?=some u→w.cell? (p.add j)=some u)
 (h1:∀u∈news,u.oneCell'=true) (hb:(n+c)*bytes≤140737488355328) (h63:n+c≤9223372036854775807):
 ∃U w',(Builtin.append_ #[t,t] ty #[v,.slice (some p) c cap]).run P w= .ok U w'∧St B m (H4 H k (row U e sz (n+c) (xs++news))) w'∧(U= .slice none 0 0↔v= .slice none 0 0∧c=0):=by
 obtain⟨U,w',o,q,d,f,g⟩:=A3S (P:=P) (ty:=ty) (cap:=cap) hS (C3 hw hH) hl hn h1 hb h63
 refine⟨U,w',o,?_,g⟩
 refine hw.change hH d.os d.tape d.output d.size (fun b a l=>d.block b a (fun e=>l (by simp[row,←e]))) q ?_ (by simp only[row];cases U.ownBlock <;> simp)
 intro b a
 simp only[row,Option.mem_toList]at a⊢
 rcases f with h|h
 ·rw[h]at a;exact .inl a
 ·rw[h]at a;cases a;exact .inr (E' _)
theorem T.append{s x:Operand}{t e:TypeId}{sz bytes:Nat}{z:Value}(hS:SlT P t e sz bytes z){k b:Nat}{T:TypeId}{v:Value}{n c cap:Nat}{xs news:List Value}{H1:List Ent}
 (hs:ev σ s=some v) (hx:ev σ x=some (.slice (some ⟨b,0,none⟩) c cap)) (hH1:H=blk b T news::H1) (hH:A7 H1 k=some (row v e sz n xs)) (hl:news.length=c*sz) (h1:∀u∈news,u.oneCell'=true)
 (hb:(n+c)*bytes≤140737488355328) (h63:n+c≤9223372036854775807):
 OpTo P B m H σ (.call (Call.mk (.builtin .append) #[s,x] #[t,t])) ty (fun U m' H'=>m'=m∧H'=H4 H1 k (row U e sz (n+c) (xs++news))):=
 .ofRun trivial (D1 (by simp[Op.operands,Call.operands]) hs hx) fun w g o l p=>by
  subst hH1
  have a:=JV g (k:=0) (b:=b) (T:=T) (cs:=news) rfl
  have d:St _ m H1 w:=g.weaken (Tq _ _)
  obtain⟨U,w',q,f,_⟩:=MO (P:=P) (ty:=o.type) (cap:=cap) d hS hH hl a h1 hb h63
  refine⟨U,w',.inl ?_,m,_,⟨rfl,rfl⟩,f⟩
  simp[execOp,l,resolve,invoke,builtin,A6 hs,A6 hx,q]
theorem G1{α:Type}[Flat α]{s x:Operand}{t e:TypeId}{bytes:Nat}{z:Value}(hS:SlT P t e (Flat.n α) bytes z){k b:Nat}{T':TypeId}{v:Value}{cap:Nat}{L:List α}{a:α}{H1:List Ent}
 (hs:ev σ s=some v) (hx:ev σ x=some (.slice (some ⟨b,0,none⟩) 1 cap)) (hH1:H=blk b T' (Flat.enc a)::H1) (hH:A7 H1 k=some (A5 v e L))
 (hb:(L.length+1)*bytes≤140737488355328) (hby:0<bytes):
 OpTo P B m H σ (.call (Call.mk (.builtin .append) #[s,x] #[t,t])) ty (fun U m' H'=>m'=m∧H'=H4 H1 k (A5 U e (L++[a]))):=by
 have d:L.length+1≤9223372036854775807:=by
  have:=Ud (L.length+1) hby
  omega
 have:=Kx.T.append (P:=P) (B:=B) (m:=m) (ty:=ty) hS hs hx hH1 hH (by rw[Flat.len];simp) (Flat.one a) hb d
 refine⟨this.sel,this.defd,fun M B w f o ac next Q g l k'=>this.run M B w f o ac next Q g l fun U m' H' w' h c=>k' U m' H' w' ⟨h.1,?_⟩ c⟩
 rw[h.2]
 simp[A5,flat]
theorem G6{x:Operand}{t e:TypeId}{sz bytes:Nat}{z:Value}(hS:SlT P t e sz bytes z){v:Value}{cs:List Value}(hx:ev σ x=some v)(hc:v.cells=cs.toArray)(hl:cs.length=sz)(hm:sz≤16777216):
 OpTo P B m H σ (.buildSlice t 1 #[(0,x)]) ty (fun u m' H'=>m'=m∧∃b,u= .slice (some ⟨b,0,none⟩) 1 1∧H'=blk b e cs::H):=
 .ofRun trivial (L6 (by simp[Op.operands]) hx) fun w g o k _=>by
  have n:=hS.pos
  have a:Instr.fill (fun i=>some (i*sz,sz)) ((Array.range (1*sz)).map (z.cells[· %z.cells.size]!)) [(0,v)]=some cs.toArray:=by
   simp only[Instr.fill,hc,SU]
   rw[A' (by simp[hl])]
   congr 1
   apply Array.ext'
   rw[←Tr,Array.toList_zipIdx]
   have gen:∀(vs:List Value) (j:Nat) (acc:Array Value),acc.size=j+vs.length→((vs.zipIdx j).foldl (fun cs (c,j)=>cs.setIfInBounds (0+j) c) acc).toList=acc.toList.take j++vs:=by
    intro vs
    induction vs with
    |nil=>intro j acc h;simp at h ⊢; rw[Tk (by simp;omega)]
    |cons u us ih=>
     intro j acc h
     simp only[List.zipIdx_cons,List.foldl_cons,SC]at ih⊢
     rw[ih (j+1) _ (by simp at h ⊢; omega)]
     simp only[Array.toList_setIfInBounds]
     have f:j<acc.toList.length:=by simp at h ⊢; omega
     rw[List.take_set,UC f,List.set_append]
     simp
     rw[A' (by omega)]
     have:j-min j acc.size=0:=by simp at f;omega
     simp[this]
   rw[gen cs 0 _ (by simp[hl])]
   simp
  refine⟨.slice (some ⟨w.heap.size,0,none⟩) 1 1,w.alloc (.cells cs.toArray e),.inl ?_,m,_,⟨rfl,_,rfl,rfl⟩,
   g.push (Ext.alloc w _) (blk w.heap.size e cs) (by show(w.heap.push _)[_]?=_;simp) (by simp[blk]) (by simp[blk])⟩
  simp only[SJ]at a
  have d:¬16777216<sz:=by omega
  have l:¬sz=0:=by omega
  simp[execOp,k,Instr.buildSlice,hS.u,hS.s,hS.zr,A6 hx,d,l,a,newRow]
end
theorem St.freezeX{B:Base}{m:Mem}{H:List Ent}{w:World}(h:St B m H w){k:Nat}{e:Ent}(hX:∀b∈e.ids,b ∉ B.X)(hH:A7 H k=some e):
 St B (fun b=>if b∈e.ids then w.heap[b]? else m b) (X3 H k) w∧m.le (fun b=>if b∈e.ids then w.heap[b]? else m b):=by
 obtain⟨A,C,n,_,s⟩:=Z1 hH
 have d:m.le (fun b=>if b∈e.ids then w.heap[b]? else m b):=by
  intro b o a
  dsimp only
  split
  ·exact h.sub b o a
  ·exact a
 have l:∀b∈e.ids,b∈B8 H:=fun b a=>BO (by rw[n];simp) a
 refine⟨?_,d⟩
 rw[s]
 have r:(A++C).Sublist H:=by rw[n];exact List.Sublist.append (Tm _) (Tq _ _)
 have p:=h.weaken r
 have f:∀b∈e.ids,b ∉ B8 (A++C):=by
  have g:=h.nodup
  rw[n,E5,B8]at g
  intro b a c
  rw[E5]at c
  have q:=Ss.1 g
  rcases Sa.1 c with c|c
  ·exact q.2.2 b c b (Sk _ a) rfl
  ·exact(Ss.1 q.2.1).2.2 b a b c rfl
 refine{p with sub:=?_,le:=Mem.le_trans h.le d,new:=?_,avoid:=?_}
 ·intro b o a
  dsimp only at a
  split at a
  ·exact a
  ·exact h.sub b o a
 ·intro b a
  rw[A' (fun c=>by
   rcases h.ids b (l b c)with h5|h5
   ·exact hX b c h5
   ·exact absurd a (Tn.2 h5))]
  exact h.new b a
 ·intro b a
  rw[A' (fun c=>f b c a)]
  exact p.avoid b a
theorem St.freeze{B:Base}{m:Mem}{H:List Ent}{w:World}(h:St B m H w)(hX:B.X=[]){k:Nat}{e:Ent}(hH:A7 H k=some e):
 St B (fun b=>if b∈e.ids then w.heap[b]? else m b) (X3 H k) w∧m.le (fun b=>if b∈e.ids then w.heap[b]? else m b):=h.freezeX (by rw[hX];simp) hH
theorem St.apart{B:Base}{m:Mem}{A C:List Ent}{w:World}(h:St B m (A++C) w){k:Nat}{e:Ent}(hH:A7 A k=some e):∀b∈e.ids,b ∉ B8 C:=by
 obtain⟨A1,A2,c,_,_⟩:=Z1 hH
 have a:=h.nodup
 rw[E5]at a
 intro b d f
 exact(Ss.1 a).2.2 b (BO (by rw[c];simp) d) b f rfl
def RdL{α:Type}[Enc α](m:Mem)(xs:List Value)(L:List α):Prop:=
 xs.length=L.length*Enc.sz α∧∀(i:Nat) (x:α),L[i]?=some x→∃vs,Enc.rd m vs x∧∀(j:Nat) (u:Value),vs[j]?=some u→xs[i*Enc.sz α+j]?=some u
theorem RdL.mono{α:Type}[Enc α]{m m':Mem}{xs:List Value}{L:List α}(h:RdL m xs L)(hm:m.le m'):RdL m' xs L:=
 ⟨h.1,fun i x a=>by obtain⟨vs,b,c⟩:=h.2 i x a;exact⟨vs,Enc.mono hm b,c⟩⟩
theorem RdL.nil{α:Type}[Enc α]{m:Mem}:RdL (α:=α) m [] []:=⟨by simp,fun i x h=>by simp at h⟩
theorem RdL.snoc{α:Type}[Enc α]{m:Mem}{xs vs:List Value}{L:List α}{a:α}(h:RdL m xs L)(ha:Enc.rd m vs a):RdL m (xs++vs) (L++[a]):=by
 refine⟨by rw[F',h.1,Enc.len ha,F',Sb];simp,?_⟩
 intro i x b
 rw[Ue]at b
 split at b
 ·rename_i hi
  obtain⟨us,g,k⟩:=h.2 i x b
  refine⟨us,g,fun j u d=>?_⟩
  have:=k j u d
  rw[SK (Sq.1 this).1];exact this
 ·rename_i hi
  have c:i-L.length=0:=by
   rcases TM (i-L.length)with c|c
   ·exact c
   ·rw[Sm (by simp;omega)]at b;cases b
  rw[c]at b;simp at b;subst b
  have f:i=L.length:=by omega
  subst f
  refine⟨vs,ha,fun j u d=>?_⟩
  rw[SL (by rw[h.1];omega),h.1,Uf];exact d
class FlatEnc(α:Type)[Flat α][Enc α]:Prop where
 sz:Enc.sz α=Flat.n α
 rd:∀(m:Mem) (x:α),Enc.rd m (Flat.enc x) x
instance:FlatEnc Int:=⟨rfl,fun _ _=>rfl⟩
instance:FlatEnc Bool:=⟨rfl,fun _ _=>rfl⟩
theorem RdL.flat{α:Type}[Flat α][Enc α][FlatEnc α](m:Mem)(L:List α):RdL m (Kx.flat L) L:=
 ⟨by rw[F8,FlatEnc.sz],fun i x a=>⟨Flat.enc x,FlatEnc.rd m x,fun j u b=>by rw[FlatEnc.sz];exact FC L i x a j u b⟩⟩
section
variable{M:Option Nat}{P:Program}{N:Nat}{ops:Array Oper}{Q:Exit→Act→World→Prop}{B:Base}{m:Mem}{H:List Ent}{σ:B6}{rest:List Oper}
 {d:Nat} {op:Op} {ty:TypeId} {pos:String} {after:Array Edge} {K:Act→World→Prop}
theorem M7{α:Type}[Enc α]{v:Value}{e:TypeId}{xs:List Value}{L:List α}(k:Nat)(hX:B.X=[])(hH:A7 H k=some (row v e (Enc.sz α) L.length xs))(hx:RdL m xs L)(hl:L.length≤C7)
 (kk:∀m',m.le m'→Sl m' v L→WK N B m' (X3 H k) σ K):WK N B m H σ K:=by
 intro Ds w l a q
 have n:(row v e (Enc.sz α) L.length xs).holds w:=C3 l (S8 hH)
 obtain⟨d,f⟩:=l.freeze hX (S8 hH)
 rw[Ly hH]at d
 refine kk _ f ?_ Ds w d a q
 rcases n.2 with⟨rfl,h0⟩|⟨g,cap,cur,rfl,_,hg,hnc,hcm,hcs,htake⟩
 ·have:L=[]:=Tj h0
  subst this;exact .nil
 ·refine .some _ _ _ (fun _=>rfl) hnc hl hcm ?_
  intro i x c
  obtain⟨vs,o,p⟩:=hx.2 i x c
  refine⟨vs,Enc.mono f o,rfl,cur,e,(0,0),by simp[row,Value.ownBlock,hg],?_⟩
  intro j u r
  have b:=p j u r
  rw[←htake,SI]at b
  split at b
  ·simpa[SX]using b
  ·cases b
theorem E4{α:Type}[Flat α][Enc α][FlatEnc α]{v:Value}{e:TypeId}{L:List α}(k:Nat)(hX:B.X=[])(hH:A7 H k=some (A5 v e L))(hl:L.length≤C7)
 (kk:∀m',m.le m'→Sl m' v L→WK N B m' (X3 H k) σ K):WK N B m H σ K:=
 M7 k hX (by rw[FlatEnc.sz];exact hH) (RdL.flat m L) hl kk
theorem M6{b:Nat}{T':TypeId}{cs:List Value}(k:Nat)(hX:B.X=[])(hH:A7 H k=some (blk b T' cs))
 (kk:∀m',m.le m'→Cells m' ⟨b,0,none⟩ cs→WK N B m' (X3 H k) σ K):WK N B m H σ K:=by
 intro Ds w f a n
 have c:(blk b T' cs).holds w:=C3 f (S8 hH)
 obtain⟨d,l⟩:=f.freeze hX (S8 hH)
 rw[Ly hH]at d
 exact kk _ l ⟨rfl,cs.toArray,T',(0,0),by simp only[blk]at c ⊢; simp[c],fun j v g=>by simpa using g⟩ Ds w d a n
theorem Nv{α:Type}[Enc α]{b:Nat}{T':TypeId}{cs:List Value}{x:α}(k:Nat)(hX:B.X=[])(hH:A7 H k=some (blk b T' cs))(hx:Enc.rd m cs x)
 (kk:∀m',m.le m'→At m' ⟨b,0,none⟩ x→WK N B m' (X3 H k) σ K):WK N B m H σ K:=
 M6 k hX hH fun m' a c=>kk m' a ⟨cs,Enc.mono a hx,c⟩
end
section
variable{M:Option Nat}{P:Program}{N:Nat}{ops:Array Oper}{Q:Exit→Act→World→Prop}{B:Base}{m:Mem}{H:List Ent}{σ:B6}{rest:List Oper}
 {d:Nat} {op:Op} {ty:TypeId} {pos:String} {after:Array Edge} {K:Act→World→Prop}
theorem Q9{α:Type}{V:α→Value}{F:α→Prop}(h:E P B m H σ op ty V F)(hd:d<N)(k:∀x,F x→WL M P N ops Q B m H ((d,V x)::σ) rest):
 WL M P N ops Q B m H σ (⟨some d,op,ty,pos,after,none⟩::rest):=by
 obtain⟨x,a,b⟩:=h;exact WL.x a hd (k x b)
theorem WL.cond{p:Prop}[Decidable p](h:OpX P B m H σ op ty (.bool (decide p)))(hd:d<N)(hy:p→WL M P N ops Q B m H ((d,.bool true)::σ) rest)
 (hn:¬p→WL M P N ops Q B m H ((d,.bool false)::σ) rest):WL M P N ops Q B m H σ (⟨some d,op,ty,pos,after,none⟩::rest):=by
 refine WL.x h hd ?_
 by_cases a:p
 ·rw[SF a];exact hy a
 ·rw[Tg a];exact hn a
theorem A8L{p:Prop}[Decidable p](h:OpX P B m H σ op ty (.bool (decide (¬p))))(hd:d<N)(hy:¬p→WL M P N ops Q B m H ((d,.bool true)::σ) rest)
 (hn:p→WL M P N ops Q B m H ((d,.bool false)::σ) rest):WL M P N ops Q B m H σ (⟨some d,op,ty,pos,after,none⟩::rest):=
 WL.cond h hd hy (fun h=>hn (Su h))
theorem J6{b:Bool}(h:OpX P B m H σ op ty (.bool b))(hd:d<N)(hy:b=true→WL M P N ops Q B m H ((d,.bool true)::σ) rest)
 (hn:b=false→WL M P N ops Q B m H ((d,.bool false)::σ) rest):WL M P N ops Q B m H σ (⟨some d,op,ty,pos,after,none⟩::rest):=by
 refine WL.x h hd ?_
 cases b
 ·exact hn rfl
 ·exact hy rfl
theorem C0{R:Mem→Value→Prop}(h:OpTo P B m H σ op ty (fun v m' H'=>H'=H∧m.le m'∧R m' v))(hd:d<N)
 (k:∀m' v,m.le m'→R m' v→WL M P N ops Q B m' H ((d,v)::σ) rest):WL M P N ops Q B m H σ (⟨some d,op,ty,pos,after,none⟩::rest):=
 WL.to h hd fun v m' H' ⟨a,b,c⟩=>by subst a;exact k m' v b c
theorem B7O{α:Type}[Enc α]{a:α}(h:OpTo P B m H σ op ty (fun v m' H'=>H'=H∧m.le m'∧∃p,v= .pointer (some p)∧At m' p a))(hd:d<N)
 (k:∀m' p,m.le m'→At m' p a→WL M P N ops Q B m' H ((d,.pointer (some p))::σ) rest):WL M P N ops Q B m H σ (⟨some d,op,ty,pos,after,none⟩::rest):=
 WL.to h hd fun v m' H' ⟨b,c,p,f,g⟩=>by subst b;subst f;exact k m' p c g
theorem Au{t:TypeId}{cs:List Value}(h:OpTo P B m H σ op ty (fun u m' H'=>m'=m∧∃b,u= .pointer (some ⟨b,0,none⟩)∧H'=blk b t cs::H))(hd:d<N)
 (k:∀b,WL M P N ops Q B m (blk b t cs::H) ((d,.pointer (some ⟨b,0,none⟩))::σ) rest):WL M P N ops Q B m H σ (⟨some d,op,ty,pos,after,none⟩::rest):=
 WL.to h hd fun v m' H' ⟨a,b,c,f⟩=>by subst a;subst c;subst f;exact k b
theorem R0{t:TypeId}{cs:List Value}(h:OpTo P B m H σ op ty (fun u m' H'=>m'=m∧∃b,u= .slice (some ⟨b,0,none⟩) 1 1∧H'=blk b t cs::H))(hd:d<N)
 (k:∀b,WL M P N ops Q B m (blk b t cs::H) ((d,.slice (some ⟨b,0,none⟩) 1 1)::σ) rest):WL M P N ops Q B m H σ (⟨some d,op,ty,pos,after,none⟩::rest):=
 WL.to h hd fun v m' H' ⟨a,b,c,f⟩=>by subst a;subst c;subst f;exact k b
theorem G7{H1:List Ent}(h:OpTo P B m H σ op ty (fun _ m' H'=>m'=m∧H'=H1))(k:WL M P N ops Q B m H1 σ rest):WL M P N ops Q B m H σ (⟨none,op,ty,pos,after,none⟩::rest):=
 A0H h fun v m' H' ⟨a,b⟩=>by subst a;subst b;exact k
theorem G2{F:Value→List Ent}(h:OpTo P B m H σ op ty (fun v m' H'=>m'=m∧H'=F v))(hd:d<N)(k:∀v,WL M P N ops Q B m (F v) ((d,v)::σ) rest):
 WL M P N ops Q B m H σ (⟨some d,op,ty,pos,after,none⟩::rest):=
 WL.to h hd fun v m' H' ⟨a,b⟩=>by subst a;subst b;exact k v
theorem C5{R:Mem→List Ent→Value→Prop}{H1:List Ent}(h:OpTo P B m H σ op ty (fun v m' H'=>m.le m'∧∃Es,R m' Es v∧H'=Es++H1))(hd:d<N)
 (k:∀m' Es v,m.le m'→R m' Es v→WL M P N ops Q B m' (Es++H1) ((d,v)::σ) rest):WL M P N ops Q B m H σ (⟨some d,op,ty,pos,after,none⟩::rest):=
 WL.to h hd fun v m' H' ⟨a,Es,b,c⟩=>by subst c;exact k m' Es v a b
variable{i:Nat}{must:Bool}{π:Plan}{piv non:List Nat}{KK:Mem→List Ent→B6→Prop}{g:Option (Nat×Bool)}
theorem DW.x{V:Value}(ho:ops[i]?=some ⟨some d,op,ty,pos,after,g⟩)(hg:N6 ops σ ⟨some d,op,ty,pos,after,g⟩=some true)(h:OpX P B m H σ op ty V)(hd:d<N)
 (k:DW P B N ops piv non KK false π m H ((d,V)::σ)) (hnp:piv.contains i=false:=by rfl) (hfr:non.contains (i+100000)=true→∀m' H',m.le m'→OpX P B m' H' σ op ty V:=by exact fun h=>absurd h (by decide)):DW P B N ops piv non KK false (.cons i π) m H σ:=
 ⟨_,ho,fun e a=>by cases a;exact hd,.inr (.inl ⟨rfl,hg,hnp,V,h,hfr,k⟩)⟩
theorem DW.no(ho:ops[i]?=some ⟨some d,op,ty,pos,after,g⟩)(hg:N6 ops σ ⟨some d,op,ty,pos,after,g⟩=some false)(hd:d<N)
 (k:DW P B N ops piv non KK false π m H ((d,undef)::σ)):DW P B N ops piv non KK false (.cons i π) m H σ:=
 ⟨_,ho,fun e a=>by cases a;exact hd,.inl ⟨rfl,hg,k⟩⟩
theorem J0{α:Type}{V:α→Value}{F:α→Prop}(ho:ops[i]?=some ⟨some d,op,ty,pos,after,g⟩)(hg:N6 ops σ ⟨some d,op,ty,pos,after,g⟩=some true)(h:E P B m H σ op ty V F)(hd:d<N)
 (k:∀x,F x→DW P B N ops piv non KK false π m H ((d,V x)::σ)) (hnp:piv.contains i=false:=by rfl) (hfr:non.contains (i+100000)=false:=by rfl):DW P B N ops piv non KK false (.cons i π) m H σ:=by
 obtain⟨x,a,b⟩:=h;exact DW.x ho hg a hd (k x b) hnp (fun h=>by rw[hfr]at h;cases h)
theorem DW.cond{p:Prop}[Decidable p](ho:ops[i]?=some ⟨some d,op,ty,pos,after,g⟩)(hg:N6 ops σ ⟨some d,op,ty,pos,after,g⟩=some true)(h:OpX P B m H σ op ty (.bool (decide p)))(hd:d<N)
 (hy:p→DW P B N ops piv non KK false π m H ((d,.bool true)::σ)) (hn:¬p→DW P B N ops piv non KK false π m H ((d,.bool false)::σ)) (hnp:piv.contains i=false:=by rfl) (hfr:non.contains (i+100000)=false:=by rfl):DW P B N ops piv non KK false (.cons i π) m H σ:=by
 refine DW.x ho hg h hd ?_ hnp (fun h=>by rw[hfr]at h;cases h)
 by_cases a:p
 ·rw[SF a];exact hy a
 ·rw[Tg a];exact hn a
theorem CM{p:Prop}[Decidable p](ho:ops[i]?=some ⟨some d,op,ty,pos,after,g⟩)(hg:N6 ops σ ⟨some d,op,ty,pos,after,g⟩=some true)(h:OpX P B m H σ op ty (.bool (decide (¬p))))(hd:d<N)
 (hy:¬p→DW P B N ops piv non KK false π m H ((d,.bool true)::σ)) (hn:p→DW P B N ops piv non KK false π m H ((d,.bool false)::σ)) (hnp:piv.contains i=false:=by rfl) (hfr:non.contains (i+100000)=false:=by rfl):DW P B N ops piv non KK false (.cons i π) m H σ:=
 DW.cond ho hg h hd hy (fun h=>hn (Su h)) hnp hfr
theorem Z8{b:Bool}(ho:ops[i]?=some ⟨some d,op,ty,pos,after,g⟩)(hg:N6 ops σ ⟨some d,op,ty,pos,after,g⟩=some true)(h:OpX P B m H σ op ty (.bool b))(hd:d<N)
 (hy:b=true→DW P B N ops piv non KK false π m H ((d,.bool true)::σ)) (hn:b=false→DW P B N ops piv non KK false π m H ((d,.bool false)::σ)) (hnp:piv.contains i=false:=by rfl) (hfr:non.contains (i+100000)=false:=by rfl):DW P B N ops piv non KK false (.cons i π) m H σ:=by
 refine DW.x ho hg h hd ?_ hnp (fun h=>by rw[hfr]at h;cases h)
 cases b
 ·exact hn rfl
 ·exact hy rfl
theorem DW.to{T:Value→Mem→List Ent→Prop}(ho:ops[i]?=some ⟨some d,op,ty,pos,after,g⟩)(hp:piv.contains i=true)(hg:N6 ops σ ⟨some d,op,ty,pos,after,g⟩=some true)(h:OpTo P B m H σ op ty T)(hd:d<N)
 (hm:non.contains i=false→∀v m' H',T v m' H'→m.le m'∧H.Sublist H') (hl:∀v m' H',T v m' H'→m.le m')
 (k:∀v m' H',T v m' H'→DW P B N ops piv non KK false π m' H' ((d,v)::σ)):DW P B N ops piv non KK must (.cons i π) m H σ:=
 ⟨_,ho,fun e a=>by cases a;exact hd,.inr (.inr ⟨hp,hg,T,h,hm,hl,k⟩)⟩
theorem W2{R:Mem→Value→Prop}(ho:ops[i]?=some ⟨some d,op,ty,pos,after,g⟩)(hp:piv.contains i=true)(hg:N6 ops σ ⟨some d,op,ty,pos,after,g⟩=some true)
 (h:OpTo P B m H σ op ty (fun v m' H'=>H'=H∧m.le m'∧R m' v)) (hd:d<N)
 (k:∀m' v,m.le m'→R m' v→DW P B N ops piv non KK false π m' H ((d,v)::σ)):DW P B N ops piv non KK must (.cons i π) m H σ:=
 DW.to ho hp hg h hd (fun _ v m' H' ⟨a,b,_⟩=>by subst a;exact⟨b,Tm _⟩) (fun _ _ _ h=>h.2.1) fun v m' H' ⟨a,b,c⟩=>by subst a;exact k m' v b c
theorem B7U{α:Type}[Enc α]{a:α}(ho:ops[i]?=some ⟨some d,op,ty,pos,after,g⟩)(hp:piv.contains i=true)(hg:N6 ops σ ⟨some d,op,ty,pos,after,g⟩=some true)
 (h:OpTo P B m H σ op ty (fun v m' H'=>H'=H∧m.le m'∧∃p,v= .pointer (some p)∧At m' p a)) (hd:d<N)
 (k:∀m' p,m.le m'→At m' p a→DW P B N ops piv non KK false π m' H ((d,.pointer (some p))::σ)):DW P B N ops piv non KK must (.cons i π) m H σ:=
 DW.to ho hp hg h hd (fun _ v m' H' ⟨b,c,_⟩=>by subst b;exact⟨c,Tm _⟩) (fun _ _ _ h=>h.2.1) fun v m' H' ⟨b,c,p,f,l⟩=>by subst b;subst f;exact k m' p c l
theorem N3{t:TypeId}{cs:List Value}(ho:ops[i]?=some ⟨some d,op,ty,pos,after,g⟩)(hp:piv.contains i=true)(hg:N6 ops σ ⟨some d,op,ty,pos,after,g⟩=some true)
 (h:OpTo P B m H σ op ty (fun u m' H'=>m'=m∧∃b,u= .pointer (some ⟨b,0,none⟩)∧H'=blk b t cs::H)) (hd:d<N)
 (k:∀b,DW P B N ops piv non KK false π m (blk b t cs::H) ((d,.pointer (some ⟨b,0,none⟩))::σ)):DW P B N ops piv non KK must (.cons i π) m H σ:=
 DW.to ho hp hg h hd (fun _ v m' H' ⟨a,b,_,c⟩=>by subst a;subst c;exact⟨Mem.le_refl _,Tq _ _⟩) (fun _ _ _ h=>by rw[h.1];exact Mem.le_refl _) fun v m' H' ⟨a,b,f,c⟩=>by subst a;subst f;subst c;exact k b
theorem As{t:TypeId}{cs:List Value}(ho:ops[i]?=some ⟨some d,op,ty,pos,after,g⟩)(hp:piv.contains i=true)(hg:N6 ops σ ⟨some d,op,ty,pos,after,g⟩=some true)
 (h:OpTo P B m H σ op ty (fun u m' H'=>m'=m∧∃b,u= .slice (some ⟨b,0,none⟩) 1 1∧H'=blk b t cs::H)) (hd:d<N)
 (k:∀b,DW P B N ops piv non KK false π m (blk b t cs::H) ((d,.slice (some ⟨b,0,none⟩) 1 1)::σ)):DW P B N ops piv non KK must (.cons i π) m H σ:=
 DW.to ho hp hg h hd (fun _ v m' H' ⟨a,b,_,c⟩=>by subst a;subst c;exact⟨Mem.le_refl _,Tq _ _⟩) (fun _ _ _ h=>by rw[h.1];exact Mem.le_refl _) fun v m' H' ⟨a,b,f,c⟩=>by subst a;subst f;subst c;exact k b
theorem B4{H1:List Ent}(ho:ops[i]?=some ⟨none,op,ty,pos,after,g⟩)(hp:piv.contains i=true)(hn:non.contains i=true)(hg:N6 ops σ ⟨none,op,ty,pos,after,g⟩=some true)
 (h:OpTo P B m H σ op ty (fun _ m' H'=>m'=m∧H'=H1)) (k:DW P B N ops piv non KK false π m H1 σ):DW P B N ops piv non KK must (.cons i π) m H σ:=
 ⟨_,ho,(fun e b=>by cases b),.inr (.inr ⟨hp,hg,_,h,(fun a=>by rw[hn]at a;cases a),(fun _ _ _ h=>by rw[h.1];exact Mem.le_refl _),fun v m' H' ⟨c,d⟩=>by subst c;subst d;exact k⟩)⟩
theorem Ae{F:Value→List Ent}(ho:ops[i]?=some ⟨some d,op,ty,pos,after,g⟩)(hp:piv.contains i=true)(hn:non.contains i=true)(hg:N6 ops σ ⟨some d,op,ty,pos,after,g⟩=some true)
 (h:OpTo P B m H σ op ty (fun v m' H'=>m'=m∧H'=F v)) (hd:d<N) (k:∀v,DW P B N ops piv non KK false π m (F v) ((d,v)::σ)):DW P B N ops piv non KK must (.cons i π) m H σ:=
 DW.to ho hp hg h hd (fun a=>by rw[hn]at a;cases a) (fun _ _ _ h=>by rw[h.1];exact Mem.le_refl _) fun v m' H' ⟨b,c⟩=>by subst b;subst c;exact k v
theorem DH{R:Mem→List Ent→Value→Prop}{H1:List Ent}(ho:ops[i]?=some ⟨some d,op,ty,pos,after,g⟩)(hp:piv.contains i=true)(hn:non.contains i=true)(hg:N6 ops σ ⟨some d,op,ty,pos,after,g⟩=some true)
 (h:OpTo P B m H σ op ty (fun v m' H'=>m.le m'∧∃Es,R m' Es v∧H'=Es++H1)) (hd:d<N)
 (k:∀m' Es v,m.le m'→R m' Es v→DW P B N ops piv non KK false π m' (Es++H1) ((d,v)::σ)):DW P B N ops piv non KK must (.cons i π) m H σ:=
 DW.to ho hp hg h hd (fun a=>by rw[hn]at a;cases a) (fun _ _ _ h=>h.1) fun v m' H' ⟨b,Es,c,f⟩=>by subst f;exact k m' Es v b c
theorem DW.fork{p q:Plan}(h0:p.heads≠[])(h1:DW P B N ops piv non KK true p m H σ)(h2:DW P B N ops piv non KK true q m H σ):DW P B N ops piv non KK must (.fork p q) m H σ:=⟨h0,h1,h2⟩
theorem WC.cut{x y:Code}{G:Type}(mG:G→Mem)(HG:G→List Ent)(σG:G→B6)(F:G→Prop)
 (h1:WC M P N (Exit.then (fun a w=>∃g' Ds',F g'∧St B (mG g') (HG g'++marks Ds') w∧Env N Ds' (σG g') a) Q) B m H σ x)
 (h2:∀g,F g→WC M P N Q B (mG g) (HG g) (σG g) y):WC M P N Q B m H σ (.seq x y):=
 fun Ds w c a d=>wpIn_seq (wpIn_mono (h1 Ds w c a d) fun e a w b=>by
  cases e with
  |normal=>obtain⟨g',Ds',f,k,l⟩:=b;exact h2 g' f Ds' w k a l
  |_=>exact b)
theorem B2l{G:Type}{mG:G→Mem}{HG:G→List Ent}{σG:G→B6}{F:G→Prop}(g':G)(hm:m=mG g')(hH:(HG g').Sublist H)(hσ:Sub (σG g') σ)(hF:F g'):
 WK N B m H σ fun a w=>∃g' Ds',F g'∧St B (mG g') (HG g'++marks Ds') w∧Env N Ds' (σG g') a:=
 fun Ds _ b _ c=>⟨g',Ds,hF,hm▸b.weaken (hH.append_right _),c.weaken hσ⟩
theorem E2(h:WK N B m H σ K):WK N B m H σ (Exit.then K Q .normal):=h
theorem P4{id:Nat}(h:WK N B m H σ (Q .normal)):WK N B m H σ (Exit.inBlock id Q .normal):=h
theorem B2e{j:Nat}(h:WK N B m H σ (Q .normal)):WK N B m H σ (Exit.inBlock j Q (.exit j)):=by
 intro Ds w b a c;simp only[Exit.inBlock,if_true];exact h Ds w b a c
theorem A7A{j i:Nat}(hij:Nat.beq j i=false)(h:WK N B m H σ (Q (.exit j))):WK N B m H σ (Exit.inBlock i Q (.exit j)):=by
 intro Ds w c a d
 have b:j≠i:=fun e=>by subst e;simp at hij
 simp only[Exit.inBlock,b,if_false];exact h Ds w c a d
theorem A6f{id:Nat}(h:WK N B m H σ (Q .ret)):WK N B m H σ (Exit.inBlock id Q .ret):=h
theorem WC.scope{c:Code}(h:WC none P N (Exit.noGoto Q) B m H σ c):WC none P N Q B m H σ (.scope c):=fun Ds w b a d=>wpIn_wide.2 (wp_scope_straight (wpIn_wide.1 (h Ds w b a d)))
theorem Cells.part{m:Mem}{p:Addr}{vs us:List Value}(h:Cells m p vs)(k:Nat)(hs:∀j v,us[j]?=some v→vs[k+j]?=some v):Cells m (p.add k) us:=by
 obtain⟨b,cs,T',fz,c,d⟩:=h
 rw[C9 b]
 exact⟨rfl,cs,T',fz,c,fun j v a=>by have:=d (k+j) v (hs j v a);simpa[SX]using this⟩
theorem Cells.cut{m:Mem}{p:Addr}{vs us:List Value}(h:Cells m p vs)(k:Nat)(e:(vs.drop k).take us.length=us:=by exact rfl):Cells m (p.add k) us:=
 h.part k fun j v a=>by
  rw[←e,SI]at a
  split at a
  ·simpa using a
  ·cases a
theorem At.fl{α β:Type}[Flat α][Enc β]{m:Mem}{p:Addr}{x:α}{y:β}{us:List Value}(h: @At α (G8 α) m p x)(k:Nat)(hy:Enc.rd m us y)(e:((Flat.enc x).drop k).take us.length=us):At m (p.add k) y:=by
 obtain⟨vs,rfl,a⟩:=h
 exact⟨us,hy,a.cut k e⟩
def IB:Nat→List Value→B6
 |_,[]=>[]
 |i,v::l=>(i,v)::IB (i+1) l
theorem A1H:∀(l:List Value) (i t:Nat) (v:Value),lk (IB i l) t=some v→i≤t∧l[t-i]?=some v
 | [],i,t,v,h=>by simp[IB,lk]at h
 |u::l,i,t,v,h=>by
  by_cases e:i=t
  ·subst e;simp only[IB]at h;rw[Bf]at h;simpa using h
  ·simp only[IB]at h
   rw[BU _ _ e]at h
   obtain⟨h1,h2⟩:=A1H l (i+1) t v h
   refine⟨by omega,?_⟩
   rw[show t-i=(t-(i+1))+1 by omega];simpa using h2
theorem Calls.start{f:FuncId}{fn:Func}{c:Code}{args:List Value}{w:World}{R:Ending→World→Prop}{H0:List Ent}
 (hf:P.funcs[f]?=some fn) (hb:fn.body=some c) (hN:fn.ntmps=N) (hs:St B m H0 w) (hsz:Nat.ble args.length N=true)
 (h:WC none P N (N2 P fn R) B m H0 (IB 0 args) c):Calls P f args.toArray w R:=
 Calls.enter hf hb hN hs (fun t v a=>by simpa using(A1H args 0 t v a).2) (by simpa using J' hsz) h
theorem Exact.start{f:FuncId}{fn:Func}{c:Code}{args:List Value}{v:Value}(hf:P.funcs[f]?=some fn)(hb:fn.body=some c)(hN:fn.ntmps=N)(hsz:Nat.ble args.length N=true)
 (h:∀w,WC none P N (N2 P fn (Ret ⟨w,[],m⟩ fun _ _ U=>U=v)) ⟨w,[],m⟩ m [] (IB 0 args) c):Exact P f args.toArray m v:=
 fun w a=>Calls.start hf hb hN (St.start w m a) hsz (h w)
theorem Pure.start{f:FuncId}{fn:Func}{c:Code}{args:List Value}{R:Mem→Value→Prop}(hf:P.funcs[f]?=some fn)(hb:fn.body=some c)(hN:fn.ntmps=N)(hsz:Nat.ble args.length N=true)
 (h:∀w,WC none P N (N2 P fn (Ret ⟨w,[],m⟩ fun m' _ U=>R m' U)) ⟨w,[],m⟩ m [] (IB 0 args) c):Pure P f args.toArray m R:=
 fun w a=>Calls.start hf hb hN (St.start w m a) hsz (h w)
theorem Mut.start{f:FuncId}{fn:Func}{c:Code}{args:List Value}{Es:List Ent}{R:Mem→List Ent→Value→Prop}(hf:P.funcs[f]?=some fn)(hb:fn.body=some c)(hN:fn.ntmps=N)(hsz:Nat.ble args.length N=true)
 (h:∀w,WC none P N (N2 P fn (Ret ⟨w,B8 Es,m⟩ R)) ⟨w,B8 Es,m⟩ m Es (IB 0 args) c):Mut P f args.toArray m Es R:=
 fun w a=>Calls.start hf hb hN a hsz (h w)
theorem Ret.exact{w:World}{m m':Mem}{H':List Ent}{w':World}{v u:Value}(hs:St ⟨w,[],m⟩ m' H' w')(hv:v=u):Ret ⟨w,[],m⟩ (fun _ _ U=>U=u) (.returned v) w':=
 ⟨v,m',H',rfl,hs,hv⟩
theorem B1R{w:World}{m m':Mem}{H':List Ent}{w':World}{v:Value}{R:Mem→Value→Prop}(hs:St ⟨w,[],m⟩ m' H' w')(hv:R m' v):Ret ⟨w,[],m⟩ (fun m' _ U=>R m' U) (.returned v) w':=
 ⟨v,m',H',rfl,hs,hv⟩
theorem B3{B:Base}{m':Mem}{H':List Ent}{w':World}{v:Value}{R:Mem→List Ent→Value→Prop}(hs:St B m' H' w')(hv:R m' H' v):Ret B R (.returned v) w':=
 ⟨v,m',H',rfl,hs,hv⟩
end
end Go.Kx
