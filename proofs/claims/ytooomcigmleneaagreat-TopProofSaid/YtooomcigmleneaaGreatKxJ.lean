import Derived.Test.YtooomcigmleneaaGreatKxW
import Derived.Deep.Upon
import Derived.Laws.StructEq
import Derived.Laws.Slices
set_option linter.all false
namespace Go.Kx
section
variable{M:Option Nat}{P:Program}{N:Nat}{ops:Array Oper}{Q:Exit→Act→World→Prop}{B:Base}{m:Mem}{H:List Ent}{σ:B6}{rest:List Oper}
 {d:Nat} {op:Op} {ty:TypeId} {pos:String} {after:Array Edge} {K:Act→World→Prop}
theorem D7{v:Value}(h:v.oneCell'=true):v.cells=#[v]:=by cases v <;> first|rfl|(simp[Value.oneCell']at h)
theorem WK.perm(H':List Ent)(hp:H'.Perm H)(h:WK N B m H' σ K):WK N B m H σ K:=fun Ds w b a c=>h Ds w (b.perm (hp.append_right _)) a c
theorem RdL.cons{α:Type}[Enc α]{m:Mem}{xs vs:List Value}{L:List α}{a:α}(ha:Enc.rd m vs a)(h:RdL m xs L):RdL m (vs++xs) (a::L):=by
 refine⟨by rw[F',h.1,Enc.len ha,N',Sb];omega,?_⟩
 intro i x c
 cases i with
 |zero=>
  simp at c;subst c
  exact⟨vs,ha,fun j u b=>by rw[SK (by have:=(Sq.1 b).1;omega)];simpa using b⟩
 |succ i=>
  obtain⟨us,d,f⟩:=h.2 i x (by simpa using c)
  refine⟨us,d,fun j u b=>?_⟩
  rw[SL (by rw[Enc.len ha,Sb];omega),Enc.len ha]
  have:=f j u b
  rw[←this];congr 1;rw[Sb];omega
theorem A0B{α:Type}[Enc α]{m:Mem}{b:Nat}:∀(L:List α) (off:Nat),(∀i x,L[i]?=some x→At m ⟨b,off+i*Enc.sz α,none⟩ x)→
 ∃news,RdL m news L∧(∀u∈news,u.oneCell'=true)∧∀w:World,m.sub w→∀j u,news[j]?=some u→w.cell? ⟨b,off+j,none⟩=some u
 | [],off,_=>⟨[],RdL.nil,by simp,by simp⟩
 |x::L,off,h=>by
  obtain⟨vs,h1,h2⟩:=h 0 x rfl
  obtain⟨news,g,k,l⟩:=A0B L (off+Enc.sz α) (fun i y f=>by
   have:=h (i+1) y (by simpa using f)
   rwa [Sb,SJ,Nat.add_comm (i*_),←SX]at this)
  refine⟨vs++news,RdL.cons h1 g,?_,?_⟩
  ·intro u a
   rcases Sa.1 a with a|a
   ·exact Enc.one h1 u a
   ·exact k u a
  ·intro w d j u c
   rw[Ue]at c
   split at c
   ·have:=h2.cell d j u c
    rw[C9 rfl]at this;simpa using this
   ·rename_i hlt
    have:=l w d _ u c
    rw[Enc.len h1]at this hlt
    rw[show off+Enc.sz α+(j-Enc.sz α)=off+j by omega]at this
    exact this
theorem Sl.src{α:Type}[Enc α]{m:Mem}{v:Value}{L:List α}(h:Sl m v L):
 ∃news,RdL m news L∧(∀u∈news,u.oneCell'=true)∧((v= .slice none 0 0∧L=[])∨∃p cap,v= .slice (Option.some p) L.length cap∧L.length≤cap∧∀w:World,m.sub w→∀j u,news[j]?=Option.some u→w.cell? (p.add j)=Option.some u):=by
 cases h with
 |nil=>exact⟨[],RdL.nil,by simp,.inl ⟨rfl,rfl⟩⟩
 |some a _ cap hs hc hb hcap h=>
  obtain⟨news,d,g,k⟩:=A0B L a.off h
  exact⟨news,d,g,.inr ⟨a,cap,rfl,hc,fun w f j u c=>by
   have b:=(Sq.1 c).1
   rw[d.1]at b
   rw[C9 (hs (fun l=>by rw[show L.length=0 by omega]at b;omega))];exact k w f j u c⟩⟩
theorem T.appendS{α:Type}[Enc α]{s x:Operand}{t e:TypeId}{bytes:Nat}{z:Value}(hS:SlT P t e (Enc.sz α) bytes z){k:Nat}{v u:Value}{n:Nat}{xs:List Value}{L:List α}
 (hs:ev σ s=some v) (hx:ev σ x=some u) (hL:Sl m u L) (hH:A7 H k=some (row v e (Enc.sz α) n xs))
 (hb:(n+L.length)*bytes≤140737488355328) (h63:n+L.length≤9223372036854775807):
 OpTo P B m H σ (.call (Call.mk (.builtin .append) #[s,x] #[t,t])) ty (fun U m' H'=>m'=m∧∃news,RdL m news L∧H'=H4 H k (row U e (Enc.sz α) (n+L.length) (xs++news))):=
 .ofRun trivial (D1 (by simp[Op.operands,Call.operands]) hs hx) fun w a o y A=>by
  obtain⟨news,d,F,G⟩:=hL.src
  rcases G with⟨rfl,rfl⟩|⟨p,cap,rfl,_,h4⟩
  ·have C:(row v e (Enc.sz α) n xs).holds w:=C3 a hH
   obtain⟨i,hi,K,I,J⟩:=hS.hi
   have D:∃b c,v= .slice b n c∧n≤c:=by
    rcases C.2 with⟨rfl,rfl⟩|⟨g,cap,cur,rfl,_,_,hnc,_⟩
    ·exact⟨_,_,rfl,E' _⟩
    ·exact⟨_,_,rfl,hnc⟩
   obtain⟨b,c,rfl,q⟩:=D
   have f:=run_append_nothing (P:=P) w t t o.type e i hS.ht hi b n c q (.slice none 0 0) (Src.ofNil w hS.ht 0)
   have l:news=[]:=Tj (by rw[d.1];simp)
   subst l
   refine⟨.slice b n c,w,.inl (by simp[execOp,y,resolve,invoke,builtin,A6 hs,A6 hx,f]),m,_,⟨rfl,[],d,rfl⟩,?_⟩
   have E:H4 H k (row (.slice b n c) e (Enc.sz α) (n+([]:List α).length) (xs++[]))=H:=by rw[SO];exact A7a hH
   rw[E];exact a
  ·obtain⟨U,w',f,r,_⟩:=MO (P:=P) (ty:=o.type) (cap:=cap) a hS hH d.1 (h4 w a.sub) F hb h63
   exact⟨U,w',.inl (by simp[execOp,y,resolve,invoke,builtin,A6 hs,A6 hx,f]),m,_,⟨rfl,news,d,rfl⟩,r⟩
theorem B4s{m:Mem}:∀{xs:List Value} {L:List Int},RdL m xs L→xs=flat L:=by
 intro xs L h
 apply SG
 intro i
 have f:xs.length=L.length:=by simpa[Enc.sz,Flat.n]using h.1
 by_cases hi:i<L.length
 ·obtain⟨vs,c,d⟩:=h.2 i L[i] (by simp[hi])
  have a:vs=[.int .i64 L[i]]:=c
  subst a
  have b:=d 0 _ rfl
  rw[HB]
  simp[Enc.sz,Flat.n]at b
  rw[b];simp[hi]
 ·rw[Sm (by omega),Sm (by rw[F8];simp[Flat.n];omega)]
theorem A6q{s x:Operand}{t e:TypeId}{bytes:Nat}{z:Value}(hS:SlT P t e 1 bytes z){k:Nat}{v u:Value}{M L:List Int}
 (hs:ev σ s=some v) (hx:ev σ x=some u) (hL:Sl m u L) (hH:A7 H k=some (A5 v e M))
 (hb:(M.length+L.length)*bytes≤140737488355328) (h63:M.length+L.length≤9223372036854775807):
 OpTo P B m H σ (.call (Call.mk (.builtin .append) #[s,x] #[t,t])) ty (fun U m' H'=>m'=m∧H'=H4 H k (A5 U e (M++L))):=by
 have:=Kx.T.appendS (P:=P) (B:=B) (m:=m) (ty:=ty) (α:=Int) hS hs hx hL hH hb h63
 refine⟨this.sel,this.defd,fun M B w b o ac next Q c d k'=>this.run M B w b o ac next Q c d fun U m' H' w' h a=>k' U m' H' w' ⟨h.1,?_⟩ a⟩
 obtain⟨_,news,f,g⟩:=h
 rw[g,B4s f]
 simp[A5,S2,Enc.sz,Flat.n]
theorem FY{α:Type}[Flat α]{t e:TypeId}{sz bytes:Nat}{z:Value}(hS:SlT P t e sz bytes z)(hsz:sz=Flat.n α):
 OpTo P B m H σ (.buildSlice t 0 #[]) ty (fun v m' H'=>m'=m∧H'=A5 v e ([]:List α)::H):=
 .ofRun trivial (by intro x c;simp[Op.operands]at c) fun w a o b _=>by
  subst hsz
  refine⟨.slice (some ⟨w.heap.size,0,none⟩) 0 0,w.alloc (.cells #[] e),.inl ?_,m,_,⟨rfl,rfl⟩,
   a.push (Ext.alloc w _) _ ?_ (by simp[A5,row,Value.ownBlock]) (by simp[A5,row,Value.ownBlock])⟩
  ·simp[execOp,b,Instr.buildSlice,hS.u,hS.s,Instr.fill,newRow,show Array.range 0=#[]from rfl]
  ·exact⟨by simp[flat],.inr ⟨w.heap.size,0,#[],rfl,EF _,heap_alloc_new w _,E' _,EF _,by simp,by simp[flat]⟩⟩
theorem Sl.sliced{α:Type}[Enc α]{m:Mem}{v:Value}{L:List α}(h:Sl m v L){l hi:Nat}(h1:l≤hi)(h2:hi≤L.length):
 ∃b n c,v= .slice b n c∧n=L.length∧n≤c∧∀mx,hi≤mx→mx≤c→Sl m (_root_.Go.sliced b l hi mx (Enc.sz α)) ((L.drop l).take (hi-l)):=by
 cases h with
 |nil=>
  simp at h2;subst h2
  have:l=0:=by omega
  subst this
  refine⟨none,0,0,rfl,rfl,E' _,fun mx _ h=>?_⟩
  have:mx=0:=by omega
  subst this
  simp[_root_.Go.sliced];exact .nil
 |some a _ cap hs hc hb hcap h=>
  refine⟨Option.some a,_,cap,rfl,rfl,hc,fun mx q r=>?_⟩
  have d:((L.drop l).take (hi-l)).length=hi-l:=by simp;omega
  unfold Go.sliced
  by_cases o:mx=l
  ·rw[D' o]
   have p:hi-l=0:=by omega
   have g:mx-l=0:=by omega
   rw[p,g,List.take_zero]
   exact .some a [] 0 (fun h=>absurd rfl h) (EF _) (EF _) (EF _) (by simp)
  ·rw[A' o]
   have k:=Sl.some (m:=m) (a.add (l*Enc.sz α)) ((L.drop l).take (hi-l)) (mx-l) (fun _=>by rw[C9 (hs (by omega))]) (by rw[d];omega) (by rw[d];omega) (by omega) (by
    intro i x f
    rw[SI]at f
    split at f
    ·rw[Tl]at f
     have:=h _ _ f
     rw[C9 (hs (by omega))]
     rw[Sb,←SX]at this
     exact this
    ·cases f)
   rw[d]at k
   exact k
theorem Fg{op:Op}{l:List Operand}(ho:op.operands=l.toArray)(h:∀x∈l,∃v,ev σ x=some v):defd σ op:=by
 intro y a
 rw[ho]at a
 exact h y (by simpa using a)
theorem B5S{α:Type}[Enc α]{x y:Operand}{t e:TypeId}{v:Value}{L:List α}{i:Int}(l:Nat)(ht:P.underlying t=some (.slice e))
 (hz:∀w,(sizeOf e).run P w= .ok (Enc.sz α) w) (hx:ev σ x=some v) (hy:ev σ y=some (.int .i64 i)) (hs:Sl m v L) (hi:i=l) (h1:l≤L.length):
 E P B m H σ (.slice t x (some y) none none) ty (fun v=>v) (fun v=>Sl m v (L.drop l)):=by
 subst hi
 obtain⟨b,n,c,rfl,k,q,p⟩:=hs.sliced h1 (E' _)
 have d:P.elem t=e:=by simp[Program.elem,ht]
 have a:P.underlying t=some (.slice (P.elem t)):=by rw[d];exact ht
 refine⟨_root_.Go.sliced b l n c (Enc.sz α),.ofRun trivial (Fg (l:=[x,y]) rfl (by simp only[Sn,forall_eq_or_imp,Td,false_imp_iff,implies_true,and_true];exact⟨⟨_,hx⟩,⟨_,hy⟩⟩)) fun w _ o g _=>?_,by
  have:=p c (by omega) (E' _);rw[←k]at this;rwa [Tk (by simp;omega)]at this⟩
 have f:=run_slice_l (P:=P) w t b n c a .i64 l (by omega) (by omega)
 rw[←run_sliceAt_slice (P:=P) w t _ _ _ _ a,d,hz]at f
 simp[execOp,g,A6 hx,A6 hy,f]
theorem B1J{α:Type}[Enc α]{x y z u:Operand}{t e:TypeId}{v:Value}{L:List α}{i j q:Int}(l h:Nat)(ht:P.underlying t=some (.slice e))
 (hz:∀w,(sizeOf e).run P w= .ok (Enc.sz α) w) (hx:ev σ x=some v) (hy:ev σ y=some (.int .i64 i)) (hw:ev σ z=some (.int .i64 j)) (hu:ev σ u=some (.int .i64 q)) (hs:Sl m v L)
 (hi:i=l) (hj:j=h) (hq:q=h) (h1:l≤h) (h2:h≤L.length):
 E P B m H σ (.slice t x (some y) (some z) (some u)) ty (fun v=>v) (fun v=>Sl m v ((L.drop l).take (h-l))∧∃b,v= .slice b (h-l) (h-l)):=by
 subst hi;subst hj;subst hq
 obtain⟨b,n,c,rfl,p,r,k⟩:=hs.sliced h1 h2
 have d:P.elem t=e:=by simp[Program.elem,ht]
 have a:P.underlying t=some (.slice (P.elem t)):=by rw[d];exact ht
 refine⟨_root_.Go.sliced b l h h (Enc.sz α),.ofRun trivial (Fg (l:=[x,y,z,u]) rfl (by simp only[Sn,forall_eq_or_imp,Td,false_imp_iff,implies_true,and_true];exact⟨⟨_,hx⟩,⟨_,hy⟩,⟨_,hw⟩,⟨_,hu⟩⟩)) fun w _ o g _=>?_,k h (E' _) (by omega),_,rfl⟩
 have f:=run_slice_lhm (P:=P) w t b n c a .i64 .i64 .i64 l h h (by omega) (by omega) (by omega) (by omega)
 rw[←run_sliceAt_slice (P:=P) w t _ _ _ _ a,d,hz]at f
 simp[execOp,g,A6 hx,A6 hy,A6 hw,A6 hu,f]
def A0x(L:List Int):List Value:=L.map fun x=>.int .i64 x
theorem A8f(L:List Int):(A0x L).length=L.length:=by simp[A0x]
theorem B0O{x y:Operand}{t e:TypeId}{n sz:Nat}{p:Addr}{i:Int}(k:Nat)(ht:P.underlying t=some (.array n e))
 (hz:∀w,(sizeOf e).run P w= .ok sz w) (hx:ev σ x=some (.pointer (some p))) (hy:ev σ y=some (.int .i64 i)) (hi:i=k) (h1:k<n):
 OpX P B m H σ (.indexAddr t x y) ty (.pointer (some (p.add (k*sz)))):=by
 subst hi
 exact .ofRun trivial (D1 rfl hx hy) fun w _ o a _=>by
  have b:(k:Int)<n:=by omega
  simp[execOp,a,A6 hx,A6 hy,Instr.indexAt,Instr.sureAddr,asIntOf,run_underlying ht,hz,h1]
theorem B7C{m:Mem}{p:Addr}{L:List Int}(h:Cells m p (A0x L)){off n c:Nat}(hc:off+c≤L.length)(hn:n≤c)(hb:c≤C7):Sl m (.slice (some (p.add off)) n c) ((L.drop off).take n):=by
 have a:((L.drop off).take n).length=n:=by simp;omega
 obtain⟨f,cs,T,fz,g,k⟩:=h
 have:=Sl.some (m:=m) (p.add off) ((L.drop off).take n) c (fun _=>by rw[C9 f]) (by rw[a];exact hn) (by rw[a];omega) (by unfold C7 at hb;unfold maxLen;omega) (by
  intro i x d
  rw[SI]at d
  split at d
  ·rw[Tl]at d
   rw[C9 f]
   refine⟨[.int .i64 x],rfl,rfl,cs,T,fz,g,?_⟩
   intro j v b
   match j,b with
   |0,b=>
    simp at b;subst b
    have:=k (off+i) (.int .i64 x) (by simp[A0x,d])
    simp[Enc.sz,Flat.n]
    rw[←this];congr 1;omega
   |j+1,b=>simp at b
  ·cases d)
 rwa [a]at this
theorem A0d{x y:Operand}{t e:TypeId}{n sz b off:Nat}{i:Int}(k:Nat)(ht:P.underlying t=some (.array n e))
 (hz:∀w,(sizeOf e).run P w= .ok sz w) (hx:ev σ x=some (.pointer (some ⟨b,off,none⟩))) (hy:ev σ y=some (.int .i64 i)) (hi:i=k) (h1:k<n):
 OpX P B m H σ (.indexAddr t x y) ty (.pointer (some ⟨b,off+k*sz,none⟩)):=by
 have:=B0O (P:=P) (B:=B) (m:=m) (H:=H) (ty:=ty) k ht hz hx hy hi h1
 rwa [C9 rfl]at this
theorem Ml{α:Type}[Enc α]{v:Value}{e:TypeId}{xs:List Value}{L:List α}(k:Nat)(hX:B.X=[])(hH:A7 H k=some (row v e (Enc.sz α) L.length xs))(hx:RdL m xs L)(hl:L.length≤C7)
 {l:List Oper} (kk:∀m',m.le m'→Sl m' v L→WL M P N ops Q B m' (X3 H k) σ l):WL M P N ops Q B m H σ l:=fun Ds w b a c=>
 M7 (K:=fun a w=>wpListIn (Df M) 0 P ops Q l a w) k hX hH hx hl kk Ds w b a c
theorem BR{α:Type}[Flat α][Enc α][FlatEnc α]{v:Value}{e:TypeId}{L:List α}(k:Nat)(hX:B.X=[])(hH:A7 H k=some (A5 v e L))(hl:L.length≤C7)
 {l:List Oper} (kk:∀m',m.le m'→Sl m' v L→WL M P N ops Q B m' (X3 H k) σ l):WL M P N ops Q B m H σ l:=
 Ml k hX (by rw[FlatEnc.sz];exact hH) (RdL.flat m L) hl kk
theorem B6z{α:Type}[Enc α]{b:Nat}{T':TypeId}{cs:List Value}{x:α}(k:Nat)(hX:B.X=[])(hH:A7 H k=some (blk b T' cs))(hx:Enc.rd m cs x)
 {l:List Oper} (kk:∀m',m.le m'→At m' ⟨b,0,none⟩ x→WL M P N ops Q B m' (X3 H k) σ l):WL M P N ops Q B m H σ l:=fun Ds w c a d=>
 Nv (K:=fun a w=>wpListIn (Df M) 0 P ops Q l a w) k hX hH hx kk Ds w c a d
theorem Kw{P:Program}{o:BinOp}{t:TypeId}{x y:Operand}{xs ys:Array Value}(w:World)(hm:P.eqGuardType P.depth t=false):(eqGuard o t x y (.agg xs) (.agg ys)).run P w= .ok () w:=run_eqGuard_agg w o t x y xs ys hm
theorem EE{α:Type}[Flat α][DecidableEq α]{x y:Operand}{t t':TypeId}{a b:α}(hm:P.eqGuardType P.depth t=false)
 (he:∀w,(Op.equalIn 10000 t (.agg (Flat.enc a).toArray) (.agg (Flat.enc b).toArray)).run P w= .ok (decide (a=b)) w)
 (hx:ev σ x=some (.agg (Flat.enc a).toArray)) (hy:ev σ y=some (.agg (Flat.enc b).toArray)):OpX P B m H σ (.binOp .eql t x y t') ty (.bool (decide (a=b))):=
 .ofRun trivial (D1 rfl hx hy) fun w _ o c _=>by
  simp only[execOp,c,A6 hx,A6 hy,Sem.run_bind,Kw w hm,Result.andThen_ok,run_eql_struct,he];rfl
theorem MX{α:Type}[Flat α][DecidableEq α]{x y:Operand}{t t':TypeId}{a b:α}(hm:P.eqGuardType P.depth t=false)
 (he:∀w,(Op.equalIn 10000 t (.agg (Flat.enc a).toArray) (.agg (Flat.enc b).toArray)).run P w= .ok (decide (a=b)) w)
 (hx:ev σ x=some (.agg (Flat.enc a).toArray)) (hy:ev σ y=some (.agg (Flat.enc b).toArray)):OpX P B m H σ (.binOp .neq t x y t') ty (.bool (decide (¬a=b))):=
 .ofRun trivial (D1 rfl hx hy) fun w _ o c _=>by
  simp only[execOp,c,A6 hx,A6 hy,Sem.run_bind,Kw w hm,Result.andThen_ok,run_neq_struct,he]
  simp
def Own(P:Program)(f:FuncId)(args:Array Value)(m:Mem)(R:Mem→List Ent→Value→Prop):Prop:=Mut P f args m [] R
theorem H3{f:FuncId}{l:List Operand}{ts:Array TypeId}{vs:List Value}{R:Mem→List Ent→Value→Prop}(hf:Enters P f)(hl:AS σ l=some vs)(hc:Own P f vs.toArray m R):
 OpTo P B m H σ (.call (Call.mk (.value (.func f)) l.toArray ts)) ty (fun v m' H'=>m.le m'∧∃Es,R m' Es v∧H'=Es++H):=by
 refine⟨trivial,BB rfl hl,fun M B w c o a next Q g p kk=>Q6 M ?_⟩
 rw[CV hf hl w o g]
 have b:St ⟨w,B8 [],m⟩ m [] w:=by
  refine⟨rfl,rfl,rfl,E' _,fun _ _ _=>rfl,c.sub,Mem.le_refl _,fun _ _=>rfl,by simp,by simp[B8],by simp[B8],by simp[B8]⟩
 refine(hc w b).mono fun e' w' k=>?_
 obtain⟨u,m',H',rfl,d,n⟩:=k
 exact kk u m' _ w' ⟨d.le,H',n,rfl⟩ (St.handed (Es:=[]) (R:=H) c d)
end
theorem Bq{α:Type}[Inhabited α](x:α)(L:List α):gt (x::L) 0=x:=by simp[gt]
theorem Ak{α:Type}[Inhabited α](x:α)(L:List α)(i:Nat):gt (x::L) (i+1)=gt L i:=by simp[gt]
section
variable{Mo:Option Nat}{P:Program}{N:Nat}{ops:Array Oper}{Q:Exit→Act→World→Prop}{B:Base}{m:Mem}{H:List Ent}{σ:B6}{rest:List Oper}
 {d:Nat} {op:Op} {ty:TypeId} {pos:String} {after:Array Edge} {K:Act→World→Prop}
theorem WL.perm(H':List Ent)(hp:H'.Perm H){l:List Oper}(h:WL Mo P N ops Q B m H' σ l):WL Mo P N ops Q B m H σ l:=fun Ds w b a c=>h Ds w (b.perm (hp.append_right _)) a c
theorem WK.drop{H':List Ent}{K:Act→World→Prop}(hH:H'.Sublist H)(h:WK N B m H' σ K):WK N B m H σ K:=fun Ds w b a c=>h Ds w (b.weaken (hH.append_right _)) a c
theorem WL.drop{H':List Ent}{l:List Oper}(hH:H'.Sublist H)(h:WL Mo P N ops Q B m H' σ l):WL Mo P N ops Q B m H σ l:=fun Ds w b a c=>h Ds w (b.weaken (hH.append_right _)) a c
theorem E8{k:Nat}{v:Value}{e:TypeId}{sz n:Nat}{xs:List Value}(hH:A7 H k=some (row v e sz n xs)){l:List Oper}(kk:v.oneCell'=true→WL Mo P N ops Q B m H σ l):WL Mo P N ops Q B m H σ l:=fun Ds w b a c=>by
 refine kk ?_ Ds w b a c
 have d:(row v e sz n xs).holds w:=C3 b (S8 hH)
 rcases d.2 with⟨rfl,_⟩|⟨g,cap,cur,rfl,_⟩ <;> rfl
theorem Ax{s x:Operand}{t e:TypeId}{sz bytes:Nat}{z:Value}(hS:SlT P t e sz bytes z){k b:Nat}{T:TypeId}{v:Value}{n n' c cap:Nat}{xs news:List Value}{H1:List Ent}
 (hs:ev σ s=some v) (hx:ev σ x=some (.slice (some ⟨b,0,none⟩) c cap)) (hH1:H=blk b T news::H1) (hH:A7 H1 k=some (row v e sz n xs)) (hl:news.length=c*sz) (h1:∀u∈news,u.oneCell'=true)
 (hn:n+c=n') (hb:n'*bytes≤140737488355328) (h63:n'≤9223372036854775807):
 OpTo P B m H σ (.call (Call.mk (.builtin .append) #[s,x] #[t,t])) ty (fun U m' H'=>m'=m∧H'=H4 H1 k (row U e sz n' (xs++news))):=by
 subst hn;exact Kx.T.append hS hs hx hH1 hH hl h1 hb h63
theorem Az{x:Operand}{t e:TypeId}{k i n:Nat}{v:Value}{vs:List Value}(ha:∀w,(isAgg t).run P w= .ok false w)
 (hx:ev σ x=some (.pointer (some (rp v i)))) (hH:A7 H k=some (row v e 1 n vs)) (hi:i<vs.length):OpX P B m H σ (.load t x) ty (gt vs i):=
 M3 ha hx hH (S9 hi)
end
open Go
def N4(Es:List Ent):Ent where
 ids:=B8 Es
 holds w:=∀e∈Es,e.holds w
 loc w w' h hw e he:=e.loc w w' (fun _ hb=>h _ (BO he hb)) (hw e he)
 bound w hw b hb:=by
  obtain⟨e,he,a⟩:=EN.1 hb
  exact e.bound w (hw e he) b a
theorem St.pack{B:Base}{m:Mem}{Es H:List Ent}{w:World}(h:St B m (Es++H) w):St B m (N4 Es::H) w:=by
 have hi:B8 (N4 Es::H)=B8 (Es++H):=by rw[E5];rfl
 refine{h with own:=?_,ids:=?_,avoid:=?_,nodup:=?_}
 ·intro e a
  rcases Sn.1 a with rfl|a
  ·exact fun e a=>h.own e (Sk _ a)
  ·exact h.own e (Sx _ a)
 ·rw[hi];exact h.ids
 ·rw[hi];exact h.avoid
 ·rw[hi];exact h.nodup
theorem St.unpack{B:Base}{m:Mem}{Es H:List Ent}{w:World}(h:St B m (N4 Es::H) w):St B m (Es++H) w:=by
 have hi:B8 (N4 Es::H)=B8 (Es++H):=by rw[E5];rfl
 refine{h with own:=?_,ids:=?_,avoid:=?_,nodup:=?_}
 ·intro e a
  rcases Sa.1 a with a|a
  ·exact h.own _ (Sf ..) e a
  ·exact h.own e (Sg _ a)
 ·rw[←hi];exact h.ids
 ·rw[←hi];exact h.avoid
 ·rw[←hi];exact h.nodup
section
variable{α:Type}[Flat α]
def L5(e:TypeId):List Value→List (List α)→List Ent
 |v::vs,L::M=>A5 v e L::L5 e vs M
 |_,_=>[]
theorem Ip{e:TypeId}:∀{vs:List Value} {M:List (List α)} {i:Nat},vs.length=M.length→i<M.length→
 (L5 e vs M).Perm (A5 (gt vs i) e (gt M i)::L5 e (vs.eraseIdx i) (M.eraseIdx i))
 | [],[],_,_,h=>by simp at h
 | [],_::_,_,h,_=>by simp at h
 |_::_,[],_,h,_=>by simp at h
 |v::vs,L::M,0,_,_=>by rw[Bq,Bq];exact .refl _
 |v::vs,L::M,i+1,h,hi=>by
  rw[Ak,Ak]
  simp only[L5,List.eraseIdx_cons_succ]
  exact((Ip (vs:=vs) (M:=M) (i:=i) (by simpa using h) (by simpa using hi)).cons _).trans (.swap _ _ _)
theorem Pc{β:Type}[Inhabited β]{L:List β}{i:Nat}(v:β)(h:i<L.length):gt (L.set i v) i=v:=by simp[gt,List.getD,h]
theorem A6A{e:TypeId}{vs:List Value}{M:List (List α)}{i:Nat}(v:Value)(L:List α)(h:vs.length=M.length)(hi:i<M.length):
 (L5 e (vs.set i v) (M.set i L)).Perm (A5 v e L::L5 e (vs.eraseIdx i) (M.eraseIdx i)):=by
 have:=Ip (e:=e) (vs:=vs.set i v) (M:=M.set i L) (i:=i) (by simpa using h) (by simpa using hi)
 rwa [Pc _ (by omega),Pc _ hi,List.eraseIdx_set_eq,List.eraseIdx_set_eq]at this
end
theorem N0:∀{H:List Ent} {k:Nat} {e:Ent},A7 H k=some e→∃A C,H=A++e::C∧(∀x,H4 H k x=A++x::C)∧X3 H k=A++C
 | [],_,_,h=>by simp[A7]at h
 |a::H,0,e,h=>by
  simp only[A7,Option.some.injEq]at h;subst h
  exact⟨[],H,rfl,fun x=>rfl,rfl⟩
 |a::H,k+1,e,h=>by
  obtain⟨A,C,h1,h2,h3⟩:=N0 (H:=H) (k:=k) h
  exact⟨a::A,C,by rw[h1];rfl,fun x=>by rw[H4,h2 x];rfl,by rw[X3,h3];rfl⟩
section
variable{N:Nat}{B:Base}{m:Mem}{H:List Ent}{σ:B6}{K:Act→World→Prop}
theorem WK.st{H':List Ent}(f:∀{Hm:List Ent} {w:World},St B m (H++Hm) w→St B m (H'++Hm) w)(h:WK N B m H' σ K):WK N B m H σ K:=fun Ds w b a c=>h Ds w (f b) a c
theorem A3k{k:Nat}{Es Es':List Ent}{e:Ent}(hH:A7 H k=some (N4 Es))(hp:Es.Perm (e::Es'))(h:WK N B m (e::H4 H k (N4 Es')) σ K):WK N B m H σ K:=by
 obtain⟨A,C,rfl,d,_⟩:=N0 hH
 rw[d]at h
 refine WK.st (fun{Hm w} a=>?_) h
 have b:St B m (Es++(A++C++Hm)) w:=(a.perm (H':=N4 Es::(A++C++Hm)) (by simp only[Se,SM];exact So.symm)).unpack
 have c:St B m (Es'++(e::(A++C++Hm))) w:=b.perm (by
  refine So.trans ?_
  exact(TL _ hp.symm))
 exact c.pack.perm (by
  show((e::(A++N4 Es'::C))++Hm).Perm (N4 Es'::e::(A++C++Hm))
  simp only[SM,Se]
  exact(List.Perm.cons _ So).trans (.swap _ _ _))
theorem A8t{k:Nat}{Es Es':List Ent}{e:Ent}(hH:A7 H k=some (N4 Es'))(hp:Es.Perm (e::Es'))(h:WK N B m (H4 H k (N4 Es)) σ K):WK N B m (e::H) σ K:=by
 obtain⟨A,C,rfl,d,_⟩:=N0 hH
 rw[d]at h
 refine WK.st (fun{Hm w} a=>?_) h
 have b:St B m (Es'++(e::(A++C++Hm))) w:=(a.perm (H':=N4 Es'::e::(A++C++Hm)) (by
  show(N4 Es'::e::(A++C++Hm)).Perm ((e::(A++N4 Es'::C))++Hm)
  simp only[SM,Se]
  exact((List.Perm.cons _ So).trans (.swap _ _ _)).symm)).unpack
 have c:St B m (Es++(A++C++Hm)) w:=b.perm ((TL _ hp).trans So.symm)
 exact c.pack.perm (by simp only[Se,SM];exact So)
variable{α:Type}[Flat α]
theorem A0F{k i:Nat}{e:TypeId}{vs:List Value}{M:List (List α)}(hH:A7 H k=some (N4 (L5 e vs M)))(hl:vs.length=M.length)(hi:i<M.length)
 (h:WK N B m (A5 (gt vs i) e (gt M i)::H4 H k (N4 (L5 e (vs.eraseIdx i) (M.eraseIdx i)))) σ K):WK N B m H σ K:=A3k hH (Ip hl hi) h
theorem A1E{k i:Nat}{e:TypeId}{vs:List Value}{M:List (List α)}{v:Value}{L:List α}(hH:A7 H k=some (N4 (L5 e (vs.eraseIdx i) (M.eraseIdx i))))(hl:vs.length=M.length)(hi:i<M.length)
 (h:WK N B m (H4 H k (N4 (L5 e (vs.set i v) (M.set i L)))) σ K):WK N B m (A5 v e L::H) σ K:=A8t hH (A6A v L hl hi) h
theorem A2m(α:Type)[Flat α](e:TypeId)(n:Nat)(h:WK N B m (N4 (L5 e (List.replicate n (.slice none 0 0)) (List.replicate n ([]:List α)))::H) σ K):WK N B m H σ K:=by
 refine WK.st (fun{Hm w} a=>?_) h
 refine St.pack ?_
 clear h
 induction n with
 |zero=>exact a
 |succ n ih=>
  simp only[SZ,L5,SM]
  exact(ih).push (Ext.refl w) _ (World.ownsRow_nil w 0 e (Flat.n α)) (by simp[A5,row,Value.ownBlock]) (by simp[A5,row,Value.ownBlock])
theorem GK{α:Type}[Flat α][Enc α][FlatEnc α]{e:TypeId}{A:List Ent}(hX:B.X=[]):∀{vs:List Value} {M:List (List α)} {m:Mem},vs.length=M.length→(∀L∈M,L.length≤C7)→
 (∀m',m.le m'→RdVs m' vs M∧(∀v∈vs,v.cells=#[v])→WK N B m' A σ K)→WK N B m (L5 e vs M++A) σ K
 | [],[],m,_,_,k=>by simpa[L5]using k m (Mem.le_refl _) ⟨trivial,by simp⟩
 | [],_::_,_,h,_,_=>by simp at h
 |_::_,[],_,h,_,_=>by simp at h
 |v::vs,L::M,m,h,hb,k=>by
  show WK N B m (A5 v e L::(L5 e vs M++A)) σ K
  refine E4 0 hX rfl (hb L (Sf ..)) fun m1 h1 h2=>?_
  refine GK hX (vs:=vs) (M:=M) (by simpa using h) (fun L' d=>hb L' (Sg _ d)) fun f b c=>?_
  refine k f (Mem.le_trans h1 b) ⟨⟨⟨[v],D7 h2.one,v,rfl,h2.mono b⟩,c.1⟩,?_⟩
  intro u a
  cases a with
  |head=>exact D7 h2.one
  |tail _ a=>exact c.2 u a
theorem A3y{α:Type}[Flat α][Enc α][FlatEnc α]{e eo:TypeId}{H1:List Ent}{vo:Value}{n k:Nat}(hX:B.X=[]){vs:List Value}{M:List (List α)}(hH:A7 H1 k=some (N4 (L5 e vs M)))(hn:n=M.length)(hlen:vs.length=M.length)(hb:∀L∈M,L.length≤C7)(hM:M.length≤C7)
 (kk:∀m',m.le m'→Sl m' vo M→WK N B m' (X3 H1 k) σ K):WK N B m (row vo eo 1 n vs::H1) σ K:=by
 subst hn
 obtain⟨A,C,rfl,c,l⟩:=N0 hH
 rw[l]at kk
 refine WK.st (H':=L5 e vs M++(row vo eo 1 M.length vs::(A++C))) (fun{Hm w} o=>?_) ?_
 ·have a:=(o.perm (H':=N4 (L5 e vs M)::(row vo eo 1 M.length vs::(A++C)++Hm)) (by
   simp only[SM,Se]
   exact((List.Perm.cons _ So).trans (.swap _ _ _)).symm)).unpack
  simpa using a
 ·refine GK hX hlen hb fun t a b=>?_
  have f:=b.1
  have g:=b.2
  clear b
  have d:=f.rdl.1
  have s:(vs.flatMap fun v=>v.cells.toList)=vs:=by
   clear f d hlen hH c l kk
   induction vs with
   |nil=>rfl
   |cons v vs ih=>rw[Ti,ih fun u c=>g u (Sg _ c),g v (Sf ..)];rfl
  rw[s]at d
  exact M7 (α:=List α) 0 hX rfl d hM fun p q r=>kk p (Mem.le_trans a q) r
end
end Go.Kx
