import Derived.Test.YtooomcigmleneaaGreatKxW
import Derived.Deep.Upon
import Derived.Laws.StructEq
import Derived.Laws.Slices
set_option linter.all false
namespace Go.Kx
section
variable{M:Option Nat}{P:Program}{N:Nat}{ops:Array Oper}{Q:Exit→Act→World→Prop}{B:Base}{m:Mem}{H:List Ent}{σ:B5}{rest:List Oper}
 {d:Nat} {op:Op} {ty:TypeId} {pos:String} {after:Array Edge} {K:Act→World→Prop}
theorem F4{v:Value}(h:v.oneCell'=true):v.cells=#[v]:=by cases v <;> first|rfl|(simp[Value.oneCell']at h)
theorem WK.perm(H':List Ent)(hp:H'.Perm H)(h:WK N B m H' σ K):WK N B m H σ K:=fun Ds w hw a ha=>h Ds w (hw.perm (hp.append_right _)) a ha
theorem RdL.cons{α:Type}[Enc α]{m:Mem}{xs vs:List Value}{L:List α}{a:α}(ha:Enc.rd m vs a)(h:RdL m xs L):RdL m (vs++xs) (a::L):=by
 refine⟨by rw[List.length_append,h.1,Enc.len ha,List.length_cons,Nat.add_mul];omega,?_⟩
 intro i x hx
 cases i with
 |zero=>
  simp at hx;subst hx
  exact⟨vs,ha,fun j u hu=>by rw[List.getElem?_append_left (by have:=(List.getElem?_eq_some_iff.1 hu).1;omega)];simpa using hu⟩
 |succ i=>
  obtain⟨us,h1,h2⟩:=h.2 i x (by simpa using hx)
  refine⟨us,h1,fun j u hu=>?_⟩
  rw[List.getElem?_append_right (by rw[Enc.len ha,Nat.add_mul];omega),Enc.len ha]
  have:=h2 j u hu
  rw[←this];congr 1;rw[Nat.add_mul];omega
theorem B3F{α:Type}[Enc α]{m:Mem}{b:Nat}:∀(L:List α) (off:Nat),(∀i x,L[i]?=some x→At m ⟨b,off+i*Enc.sz α,none⟩ x)→
 ∃news,RdL m news L∧(∀u∈news,u.oneCell'=true)∧∀w:World,m.sub w→∀j u,news[j]?=some u→w.cell? ⟨b,off+j,none⟩=some u
 | [],off,_=>⟨[],RdL.nil,by simp,by simp⟩
 |x::L,off,h=>by
  obtain⟨vs,h1,h2⟩:=h 0 x rfl
  obtain⟨news,h3,h4,h5⟩:=B3F L (off+Enc.sz α) (fun i y hy=>by
   have:=h (i+1) y (by simpa using hy)
   rwa [Nat.add_mul,Nat.one_mul,Nat.add_comm (i*_),←Nat.add_assoc]at this)
  refine⟨vs++news,RdL.cons h1 h3,?_,?_⟩
  ·intro u hu
   rcases List.mem_append.1 hu with hu|hu
   ·exact Enc.one h1 u hu
   ·exact h4 u hu
  ·intro w hw j u hj
   rw[List.getElem?_append]at hj
   split at hj
   ·have:=h2.cell hw j u hj
    rw[B9 rfl]at this;simpa using this
   ·rename_i hlt
    have:=h5 w hw _ u hj
    rw[Enc.len h1]at this hlt
    rw[show off+Enc.sz α+(j-Enc.sz α)=off+j by omega]at this
    exact this
theorem Sl.src{α:Type}[Enc α]{m:Mem}{v:Value}{L:List α}(h:Sl m v L):
 ∃news,RdL m news L∧(∀u∈news,u.oneCell'=true)∧((v= .slice none 0 0∧L=[])∨∃p cap,v= .slice (Option.some p) L.length cap∧L.length≤cap∧∀w:World,m.sub w→∀j u,news[j]?=Option.some u→w.cell? (p.add j)=Option.some u):=by
 cases h with
 |nil=>exact⟨[],RdL.nil,by simp,.inl ⟨rfl,rfl⟩⟩
 |some a _ cap hs hc hb hcap h=>
  obtain⟨news,h1,h2,h3⟩:=B3F L a.off h
  exact⟨news,h1,h2,.inr ⟨a,cap,rfl,hc,fun w hw j u hj=>by
   have hj':=(List.getElem?_eq_some_iff.1 hj).1
   rw[h1.1]at hj'
   rw[B9 (hs (fun h0=>by rw[show L.length=0 by omega]at hj';omega))];exact h3 w hw j u hj⟩⟩
theorem T.appendS{α:Type}[Enc α]{s x:Operand}{t e:TypeId}{bytes:Nat}{z:Value}(hS:SlT P t e (Enc.sz α) bytes z){k:Nat}{v u:Value}{n:Nat}{xs:List Value}{L:List α}
 (hs:ev σ s=some v) (hx:ev σ x=some u) (hL:Sl m u L) (hH:B2 H k=some (row v e (Enc.sz α) n xs))
 (hb:(n+L.length)*bytes≤140737488355328) (h63:n+L.length≤9223372036854775807):
 OpTo P B m H σ (.call (Call.mk (.builtin .append) #[s,x] #[t,t])) ty (fun v' m' H'=>m'=m∧∃news,RdL m news L∧H'=H4 H k (row v' e (Enc.sz α) (n+L.length) (xs++news))):=
 .ofRun trivial (D0 (by simp[Op.operands,Call.operands]) hs hx) fun w hw o ho hty=>by
  obtain⟨news,h1,h2,h3⟩:=hL.src
  rcases h3 with⟨rfl,rfl⟩|⟨p,cap,rfl,_,h4⟩
  ·have hh:(row v e (Enc.sz α) n xs).holds w:=C1 hw hH
   obtain⟨i,hi,hz,hsz,hby⟩:=hS.hi
   have hv:∃b c,v= .slice b n c∧n≤c:=by
    rcases hh.2 with⟨rfl,rfl⟩|⟨g,cap,cur,rfl,_,_,hnc,_⟩
    ·exact⟨_,_,rfl,Nat.le_refl _⟩
    ·exact⟨_,_,rfl,hnc⟩
   obtain⟨b,c,rfl,hle⟩:=hv
   have hr:=run_append_nothing (P:=P) w t t o.type e i hS.ht hi b n c hle (.slice none 0 0) (Src.ofNil w hS.ht 0)
   have hnn:news=[]:=List.eq_nil_of_length_eq_zero (by rw[h1.1];simp)
   subst hnn
   refine⟨.slice b n c,w,.inl (by simp[execOp,ho,resolve,invoke,builtin,A6 hs,A6 hx,hr]),m,_,⟨rfl,[],h1,rfl⟩,?_⟩
   have hq:H4 H k (row (.slice b n c) e (Enc.sz α) (n+([]:List α).length) (xs++[]))=H:=by rw[List.append_nil];exact C2a hH
   rw[hq];exact hw
  ·obtain⟨v',w',hr,hst,_⟩:=A9Y (P:=P) (ty:=o.type) (cap:=cap) hw hS hH h1.1 (h4 w hw.sub) h2 hb h63
   exact⟨v',w',.inl (by simp[execOp,ho,resolve,invoke,builtin,A6 hs,A6 hx,hr]),m,_,⟨rfl,news,h1,rfl⟩,hst⟩
theorem C6r{m:Mem}:∀{xs:List Value} {L:List Int},RdL m xs L→xs=flat L:=by
 intro xs L h
 apply List.ext_getElem?
 intro i
 have hl:xs.length=L.length:=by simpa[Enc.sz,Flat.n]using h.1
 by_cases hi:i<L.length
 ·obtain⟨vs,h1,h2⟩:=h.2 i L[i] (by simp[hi])
  have h1':vs=[.int .i64 L[i]]:=h1
  subst h1'
  have h3:=h2 0 _ rfl
  rw[A6q]
  simp[Enc.sz,Flat.n]at h3
  rw[h3];simp[hi]
 ·rw[List.getElem?_eq_none (by omega),List.getElem?_eq_none (by rw[E7];simp[Flat.n];omega)]
theorem B9N{s x:Operand}{t e:TypeId}{bytes:Nat}{z:Value}(hS:SlT P t e 1 bytes z){k:Nat}{v u:Value}{M L:List Int}
 (hs:ev σ s=some v) (hx:ev σ x=some u) (hL:Sl m u L) (hH:B2 H k=some (A5 v e M))
 (hb:(M.length+L.length)*bytes≤140737488355328) (h63:M.length+L.length≤9223372036854775807):
 OpTo P B m H σ (.call (Call.mk (.builtin .append) #[s,x] #[t,t])) ty (fun v' m' H'=>m'=m∧H'=H4 H k (A5 v' e (M++L))):=by
 have:=Kx.T.appendS (P:=P) (B:=B) (m:=m) (ty:=ty) (α:=Int) hS hs hx hL hH hb h63
 refine⟨this.sel,this.defd,fun M B w hw o ac next Q ho ht k'=>this.run M B w hw o ac next Q ho ht fun v' m' H' w' h hst=>k' v' m' H' w' ⟨h.1,?_⟩ hst⟩
 obtain⟨_,news,h1,h2⟩:=h
 rw[h2,C6r h1]
 simp[A5,P8,Enc.sz,Flat.n]
theorem A4J{α:Type}[Flat α]{t e:TypeId}{sz bytes:Nat}{z:Value}(hS:SlT P t e sz bytes z)(hsz:sz=Flat.n α):
 OpTo P B m H σ (.buildSlice t 0 #[]) ty (fun v m' H'=>m'=m∧H'=A5 v e ([]:List α)::H):=
 .ofRun trivial (by intro x hx;simp[Op.operands]at hx) fun w hw o ho _=>by
  subst hsz
  refine⟨.slice (some ⟨w.heap.size,0,none⟩) 0 0,w.alloc (.cells #[] e),.inl ?_,m,_,⟨rfl,rfl⟩,
   hw.push (Ext.alloc w _) _ ?_ (by simp[A5,row,Value.ownBlock]) (by simp[A5,row,Value.ownBlock])⟩
  ·simp[execOp,ho,Instr.buildSlice,hS.u,hS.s,Instr.fill,newRow,show Array.range 0=#[]from rfl]
  ·exact⟨by simp[flat],.inr ⟨w.heap.size,0,#[],rfl,Nat.zero_le _,heap_alloc_new w _,Nat.le_refl _,Nat.zero_le _,by simp,by simp[flat]⟩⟩
theorem Sl.sliced{α:Type}[Enc α]{m:Mem}{v:Value}{L:List α}(h:Sl m v L){l hi:Nat}(h1:l≤hi)(h2:hi≤L.length):
 ∃b n c,v= .slice b n c∧n=L.length∧n≤c∧∀mx,hi≤mx→mx≤c→Sl m (_root_.Go.sliced b l hi mx (Enc.sz α)) ((L.drop l).take (hi-l)):=by
 cases h with
 |nil=>
  simp at h2;subst h2
  have:l=0:=by omega
  subst this
  refine⟨none,0,0,rfl,rfl,Nat.le_refl _,fun mx _ h=>?_⟩
  have:mx=0:=by omega
  subst this
  simp[_root_.Go.sliced];exact .nil
 |some a _ cap hs hc hb hcap h=>
  refine⟨Option.some a,_,cap,rfl,rfl,hc,fun mx h3 h4=>?_⟩
  have hlen:((L.drop l).take (hi-l)).length=hi-l:=by simp;omega
  unfold Go.sliced
  by_cases he:mx=l
  ·rw[if_pos he]
   have h0:hi-l=0:=by omega
   have h00:mx-l=0:=by omega
   rw[h0,h00,List.take_zero]
   exact .some a [] 0 (fun h=>absurd rfl h) (Nat.zero_le _) (Nat.zero_le _) (Nat.zero_le _) (by simp)
  ·rw[if_neg he]
   have hg:=Sl.some (m:=m) (a.add (l*Enc.sz α)) ((L.drop l).take (hi-l)) (mx-l) (fun _=>by rw[B9 (hs (by omega))]) (by rw[hlen];omega) (by rw[hlen];omega) (by omega) (by
    intro i x hx
    rw[List.getElem?_take]at hx
    split at hx
    ·rw[List.getElem?_drop]at hx
     have:=h _ _ hx
     rw[B9 (hs (by omega))]
     rw[Nat.add_mul,←Nat.add_assoc]at this
     exact this
    ·cases hx)
   rw[hlen]at hg
   exact hg
theorem A4e{op:Op}{l:List Operand}(ho:op.operands=l.toArray)(h:∀x∈l,∃v,ev σ x=some v):defd σ op:=by
 intro y hy
 rw[ho]at hy
 exact h y (by simpa using hy)
theorem C7K{α:Type}[Enc α]{x y:Operand}{t e:TypeId}{v:Value}{L:List α}{i:Int}(l:Nat)(ht:P.underlying t=some (.slice e))
 (hz:∀w,(sizeOf e).run P w= .ok (Enc.sz α) w) (hx:ev σ x=some v) (hy:ev σ y=some (.int .i64 i)) (hs:Sl m v L) (hi:i=l) (h1:l≤L.length):
 E P B m H σ (.slice t x (some y) none none) ty (fun v=>v) (fun v=>Sl m v (L.drop l)):=by
 subst hi
 obtain⟨b,n,c,rfl,hn,hc,hk⟩:=hs.sliced h1 (Nat.le_refl _)
 have he:P.elem t=e:=by simp[Program.elem,ht]
 have ht':P.underlying t=some (.slice (P.elem t)):=by rw[he];exact ht
 refine⟨_root_.Go.sliced b l n c (Enc.sz α),.ofRun trivial (A4e (l:=[x,y]) rfl (by simp only[List.mem_cons,forall_eq_or_imp,List.not_mem_nil,false_imp_iff,implies_true,and_true];exact⟨⟨_,hx⟩,⟨_,hy⟩⟩)) fun w _ o ho _=>?_,by
  have:=hk c (by omega) (Nat.le_refl _);rw[←hn]at this;rwa [List.take_of_length_le (by simp;omega)]at this⟩
 have hr:=run_slice_l (P:=P) w t b n c ht' .i64 l (by omega) (by omega)
 rw[←run_sliceAt_slice (P:=P) w t _ _ _ _ ht',he,hz]at hr
 simp[execOp,ho,A6 hx,A6 hy,hr]
theorem C3C{α:Type}[Enc α]{x y z u:Operand}{t e:TypeId}{v:Value}{L:List α}{i j q:Int}(l h:Nat)(ht:P.underlying t=some (.slice e))
 (hz:∀w,(sizeOf e).run P w= .ok (Enc.sz α) w) (hx:ev σ x=some v) (hy:ev σ y=some (.int .i64 i)) (hw:ev σ z=some (.int .i64 j)) (hu:ev σ u=some (.int .i64 q)) (hs:Sl m v L)
 (hi:i=l) (hj:j=h) (hq:q=h) (h1:l≤h) (h2:h≤L.length):
 E P B m H σ (.slice t x (some y) (some z) (some u)) ty (fun v=>v) (fun v=>Sl m v ((L.drop l).take (h-l))∧∃b,v= .slice b (h-l) (h-l)):=by
 subst hi;subst hj;subst hq
 obtain⟨b,n,c,rfl,hn,hc,hk⟩:=hs.sliced h1 h2
 have he:P.elem t=e:=by simp[Program.elem,ht]
 have ht':P.underlying t=some (.slice (P.elem t)):=by rw[he];exact ht
 refine⟨_root_.Go.sliced b l h h (Enc.sz α),.ofRun trivial (A4e (l:=[x,y,z,u]) rfl (by simp only[List.mem_cons,forall_eq_or_imp,List.not_mem_nil,false_imp_iff,implies_true,and_true];exact⟨⟨_,hx⟩,⟨_,hy⟩,⟨_,hw⟩,⟨_,hu⟩⟩)) fun w _ o ho _=>?_,hk h (Nat.le_refl _) (by omega),_,rfl⟩
 have hr:=run_slice_lhm (P:=P) w t b n c ht' .i64 .i64 .i64 l h h (by omega) (by omega) (by omega) (by omega)
 rw[←run_sliceAt_slice (P:=P) w t _ _ _ _ ht',he,hz]at hr
 simp[execOp,ho,A6 hx,A6 hy,A6 hw,A6 hu,hr]
def P6(L:List Int):List Value:=L.map fun x=>.int .i64 x
theorem A4A(L:List Int):(P6 L).length=L.length:=by simp[P6]
theorem B4m{L:List Int}{i:Nat}(h:i<L.length)(tl:List Value):(P6 L++tl)[i]?=some (.int .i64 (gt L i)):=by
 rw[List.getElem?_append_left (by rw[A4A];exact h)]
 simp[P6,A0W h]
theorem B5Y{x y:Operand}{t e:TypeId}{n sz:Nat}{p:Addr}{i:Int}(k:Nat)(ht:P.underlying t=some (.array n e))
 (hz:∀w,(sizeOf e).run P w= .ok sz w) (hx:ev σ x=some (.pointer (some p))) (hy:ev σ y=some (.int .i64 i)) (hi:i=k) (h1:k<n):
 OpX P B m H σ (.indexAddr t x y) ty (.pointer (some (p.add (k*sz)))):=by
 subst hi
 exact .ofRun trivial (D0 rfl hx hy) fun w _ o ho _=>by
  have h1':(k:Int)<n:=by omega
  simp[execOp,ho,A6 hx,A6 hy,Instr.indexAt,Instr.sureAddr,asIntOf,run_underlying ht,hz,h1]
theorem A8C{x:Operand}{t:TypeId}{k b off:Nat}{T:TypeId}{L:List Int}{tl:List Value}(ha:∀w,(isAgg t).run P w= .ok false w)
 (hx:ev σ x=some (.pointer (some ⟨b,off,none⟩))) (hH:B2 H k=some (blk b T (P6 L++tl))) (hc:off<L.length):OpX P B m H σ (.load t x) ty (.int .i64 (gt L off)):=
 A7T ha hx hH (B4m hc tl)
theorem B1p{x y:Operand}{t:TypeId}{k b off:Nat}{T:TypeId}{L:List Int}{tl:List Value}{u:Int}(hz:∀w,(sizeOf t).run P w= .ok 1 w)
 (hx:ev σ x=some (.pointer (some ⟨b,off,none⟩))) (hy:ev σ y=some (.int .i64 u)) (hH:B2 H k=some (blk b T (P6 L++tl))) (hc:off<L.length):
 OpTo P B m H σ (.store t x y) ty (fun _ m' H'=>m'=m∧H'=H4 H k (blk b T (P6 (L.set off u)++tl))):=by
 have:=Kx.T.storeB (P:=P) (B:=B) (m:=m) (ty:=ty) hz hx hy hH rfl (by rw[List.length_append,A4A];omega)
 rw[List.set_append_left _ _ (by rw[A4A];exact hc)]at this
 have he:(P6 L).set off (.int .i64 u)=P6 (L.set off u):=by simp[P6,List.map_set]
 rwa [he]at this
theorem B8Z{x:Operand}{t:TypeId}{p:Addr}{off:Nat}{L:List Int}(ha:∀w,(isAgg t).run P w= .ok false w)
 (hx:ev σ x=some (.pointer (some (p.add off)))) (hp:Cells m p (P6 L)) (hc:off<L.length):OpX P B m H σ (.load t x) ty (.int .i64 (gt L off)):=
 .ofRun trivial (I8 rfl hx) fun w hw o ho _=>by
  have:=hp.cell hw.sub off (.int .i64 (gt L off)) (by have:=B4m hc [];simpa using this)
  simp[execOp,ho,A6 hx,Instr.loadAt,Instr.sureAddr,loadVar,ha,this]
theorem C8C{m:Mem}{p:Addr}{L:List Int}(h:Cells m p (P6 L)){off n c:Nat}(hc:off+c≤L.length)(hn:n≤c)(hb:c≤C8):Sl m (.slice (some (p.add off)) n c) ((L.drop off).take n):=by
 have hlen:((L.drop off).take n).length=n:=by simp;omega
 obtain⟨h0,cs,T,fz,h1,h2⟩:=h
 have:=Sl.some (m:=m) (p.add off) ((L.drop off).take n) c (fun _=>by rw[B9 h0]) (by rw[hlen];exact hn) (by rw[hlen];omega) (by unfold C8 at hb;unfold maxLen;omega) (by
  intro i x hx
  rw[List.getElem?_take]at hx
  split at hx
  ·rw[List.getElem?_drop]at hx
   rw[B9 h0]
   refine⟨[.int .i64 x],rfl,rfl,cs,T,fz,h1,?_⟩
   intro j v hv
   match j,hv with
   |0,hv=>
    simp at hv;subst hv
    have:=h2 (off+i) (.int .i64 x) (by simp[P6,hx])
    simp[Enc.sz,Flat.n]
    rw[←this];congr 1;omega
   |j+1,hv=>simp at hv
  ·cases hx)
 rwa [hlen]at this
theorem V1{x y:Operand}{t e:TypeId}{n sz b off:Nat}{i:Int}(k:Nat)(ht:P.underlying t=some (.array n e))
 (hz:∀w,(sizeOf e).run P w= .ok sz w) (hx:ev σ x=some (.pointer (some ⟨b,off,none⟩))) (hy:ev σ y=some (.int .i64 i)) (hi:i=k) (h1:k<n):
 OpX P B m H σ (.indexAddr t x y) ty (.pointer (some ⟨b,off+k*sz,none⟩)):=by
 have:=B5Y (P:=P) (B:=B) (m:=m) (H:=H) (ty:=ty) k ht hz hx hy hi h1
 rwa [B9 rfl]at this
theorem B4f{x y:Operand}{t e:TypeId}{n sz off:Nat}{p:Addr}{L:List Int}{i:Int}(hp:Cells m p (P6 L))(k:Nat)(ht:P.underlying t=some (.array n e))
 (hz:∀w,(sizeOf e).run P w= .ok sz w) (hx:ev σ x=some (.pointer (some (p.add off)))) (hy:ev σ y=some (.int .i64 i)) (hi:i=k) (h1:k<n):
 OpX P B m H σ (.indexAddr t x y) ty (.pointer (some (p.add (off+k*sz)))):=by
 have:=B5Y (P:=P) (B:=B) (m:=m) (H:=H) (ty:=ty) k ht hz hx hy hi h1
 rwa [show(p.add off).add (k*sz)=p.add (off+k*sz) by rw[B9 hp.1,B9 rfl,B9 hp.1,Nat.add_assoc]]at this
theorem B6w{α:Type}[Enc α]{v:Value}{e:TypeId}{xs:List Value}{L:List α}(k:Nat)(hX:B.X=[])(hH:B2 H k=some (row v e (Enc.sz α) L.length xs))(hx:RdL m xs L)(hl:L.length≤C8)
 {l:List Oper} (kk:∀m',m.le m'→Sl m' v L→WL M P N ops Q B m' (Z4 H k) σ l):WL M P N ops Q B m H σ l:=fun Ds w hw a ha=>
 N4 (K:=fun a w=>wpListIn (fen M) 0 P ops Q l a w) k hX hH hx hl kk Ds w hw a ha
theorem A4k{α:Type}[Flat α][Enc α][FlatEnc α]{v:Value}{e:TypeId}{L:List α}(k:Nat)(hX:B.X=[])(hH:B2 H k=some (A5 v e L))(hl:L.length≤C8)
 {l:List Oper} (kk:∀m',m.le m'→Sl m' v L→WL M P N ops Q B m' (Z4 H k) σ l):WL M P N ops Q B m H σ l:=
 B6w k hX (by rw[FlatEnc.sz];exact hH) (RdL.flat m L) hl kk
theorem C7x{α:Type}[Enc α]{b:Nat}{T':TypeId}{cs:List Value}{x:α}(k:Nat)(hX:B.X=[])(hH:B2 H k=some (blk b T' cs))(hx:Enc.rd m cs x)
 {l:List Oper} (kk:∀m',m.le m'→At m' ⟨b,0,none⟩ x→WL M P N ops Q B m' (Z4 H k) σ l):WL M P N ops Q B m H σ l:=fun Ds w hw a ha=>
 A6A (K:=fun a w=>wpListIn (fen M) 0 P ops Q l a w) k hX hH hx kk Ds w hw a ha
theorem A8A{P:Program}{o:BinOp}{t:TypeId}{x y:Operand}{xs ys:Array Value}(w:World)(hm:P.eqGuardType P.depth t=false):(eqGuard o t x y (.agg xs) (.agg ys)).run P w= .ok () w:=run_eqGuard_agg w o t x y xs ys hm
theorem A3s{α:Type}[Flat α][DecidableEq α]{x y:Operand}{t t':TypeId}{a b:α}(hm:P.eqGuardType P.depth t=false)
 (he:∀w,(Op.equalIn 10000 t (.agg (Flat.enc a).toArray) (.agg (Flat.enc b).toArray)).run P w= .ok (decide (a=b)) w)
 (hx:ev σ x=some (.agg (Flat.enc a).toArray)) (hy:ev σ y=some (.agg (Flat.enc b).toArray)):OpX P B m H σ (.binOp .eql t x y t') ty (.bool (decide (a=b))):=
 .ofRun trivial (D0 rfl hx hy) fun w _ o ho _=>by
  simp only[execOp,ho,A6 hx,A6 hy,Sem.run_bind,A8A w hm,Result.andThen_ok,run_eql_struct,he];rfl
theorem B3T{α:Type}[Flat α][DecidableEq α]{x y:Operand}{t t':TypeId}{a b:α}(hm:P.eqGuardType P.depth t=false)
 (he:∀w,(Op.equalIn 10000 t (.agg (Flat.enc a).toArray) (.agg (Flat.enc b).toArray)).run P w= .ok (decide (a=b)) w)
 (hx:ev σ x=some (.agg (Flat.enc a).toArray)) (hy:ev σ y=some (.agg (Flat.enc b).toArray)):OpX P B m H σ (.binOp .neq t x y t') ty (.bool (decide (¬a=b))):=
 .ofRun trivial (D0 rfl hx hy) fun w _ o ho _=>by
  simp only[execOp,ho,A6 hx,A6 hy,Sem.run_bind,A8A w hm,Result.andThen_ok,run_neq_struct,he]
  simp
def Own(P:Program)(f:FuncId)(args:Array Value)(m:Mem)(R:Mem→List Ent→Value→Prop):Prop:=Mut P f args m [] R
theorem J5{f:FuncId}{l:List Operand}{ts:Array TypeId}{vs:List Value}{R:Mem→List Ent→Value→Prop}(hf:Enters P f)(hl:Z5 σ l=some vs)(hc:Own P f vs.toArray m R):
 OpTo P B m H σ (.call (Call.mk (.value (.func f)) l.toArray ts)) ty (fun v m' H'=>m.le m'∧∃Es,R m' Es v∧H'=Es++H):=by
 refine⟨trivial,A0j rfl hl,fun M B w hw o a next Q ho ht kk=>M4 M ?_⟩
 rw[A1l hf hl w o ho]
 have hin:St ⟨w,B7 [],m⟩ m [] w:=by
  refine⟨rfl,rfl,rfl,Nat.le_refl _,fun _ _ _=>rfl,hw.sub,Mem.le_refl _,fun _ _=>rfl,by simp,by simp[B7],by simp[B7],by simp[B7]⟩
 refine(hc w hin).mono fun e' w' hr=>?_
 obtain⟨u,m',H',rfl,hs,hR⟩:=hr
 exact kk u m' _ w' ⟨hs.le,H',hR,rfl⟩ (St.handed (Es:=[]) (R:=H) hw hs)
end
end Go.Kx
namespace Go.Kx
theorem A1n{α:Type}[Inhabited α](x:α)(L:List α):gt (x::L) 0=x:=by simp[gt]
theorem A1D{α:Type}[Inhabited α](x:α)(L:List α)(i:Nat):gt (x::L) (i+1)=gt L i:=by simp[gt]
section
variable{Mo:Option Nat}{P:Program}{N:Nat}{ops:Array Oper}{Q:Exit→Act→World→Prop}{B:Base}{m:Mem}{H:List Ent}{σ:B5}{rest:List Oper}
 {d:Nat} {op:Op} {ty:TypeId} {pos:String} {after:Array Edge} {K:Act→World→Prop}
theorem WL.perm(H':List Ent)(hp:H'.Perm H){l:List Oper}(h:WL Mo P N ops Q B m H' σ l):WL Mo P N ops Q B m H σ l:=fun Ds w hw a ha=>h Ds w (hw.perm (hp.append_right _)) a ha
theorem WK.drop{H':List Ent}{K:Act→World→Prop}(hH:H'.Sublist H)(h:WK N B m H' σ K):WK N B m H σ K:=fun Ds w hw a ha=>h Ds w (hw.weaken (hH.append_right _)) a ha
theorem WL.drop{H':List Ent}{l:List Oper}(hH:H'.Sublist H)(h:WL Mo P N ops Q B m H' σ l):WL Mo P N ops Q B m H σ l:=fun Ds w hw a ha=>h Ds w (hw.weaken (hH.append_right _)) a ha
theorem F7{k:Nat}{v:Value}{e:TypeId}{sz n:Nat}{xs:List Value}(hH:B2 H k=some (row v e sz n xs)){l:List Oper}(kk:v.oneCell'=true→WL Mo P N ops Q B m H σ l):WL Mo P N ops Q B m H σ l:=fun Ds w hw a ha=>by
 refine kk ?_ Ds w hw a ha
 have hh:(row v e sz n xs).holds w:=C1 hw (U3 hH)
 rcases hh.2 with⟨rfl,_⟩|⟨g,cap,cur,rfl,_⟩ <;> rfl
theorem W4{s x:Operand}{t e:TypeId}{sz bytes:Nat}{z:Value}(hS:SlT P t e sz bytes z){k b:Nat}{T:TypeId}{v:Value}{n n' c cap:Nat}{xs news:List Value}{H1:List Ent}
 (hs:ev σ s=some v) (hx:ev σ x=some (.slice (some ⟨b,0,none⟩) c cap)) (hH1:H=blk b T news::H1) (hH:B2 H1 k=some (row v e sz n xs)) (hl:news.length=c*sz) (h1:∀u∈news,u.oneCell'=true)
 (hn:n+c=n') (hb:n'*bytes≤140737488355328) (h63:n'≤9223372036854775807):
 OpTo P B m H σ (.call (Call.mk (.builtin .append) #[s,x] #[t,t])) ty (fun v' m' H'=>m'=m∧H'=H4 H1 k (row v' e sz n' (xs++news))):=by
 subst hn;exact Kx.T.append hS hs hx hH1 hH hl h1 hb h63
end
end Go.Kx
namespace Go.Kx
open Go
def M2(Es:List Ent):Ent where
 ids:=B7 Es
 holds w:=∀e∈Es,e.holds w
 loc w w' h hw e he:=e.loc w w' (fun _ hb=>h _ (A2n he hb)) (hw e he)
 bound w hw b hb:=by
  obtain⟨e,he,hb'⟩:=A6M.1 hb
  exact e.bound w (hw e he) b hb'
theorem St.pack{B:Base}{m:Mem}{Es H:List Ent}{w:World}(h:St B m (Es++H) w):St B m (M2 Es::H) w:=by
 have hi:B7 (M2 Es::H)=B7 (Es++H):=by rw[E0];rfl
 refine{h with own:=?_,ids:=?_,avoid:=?_,nodup:=?_}
 ·intro e he
  rcases List.mem_cons.1 he with rfl|he
  ·exact fun e he=>h.own e (List.mem_append_left _ he)
  ·exact h.own e (List.mem_append_right _ he)
 ·rw[hi];exact h.ids
 ·rw[hi];exact h.avoid
 ·rw[hi];exact h.nodup
theorem St.unpack{B:Base}{m:Mem}{Es H:List Ent}{w:World}(h:St B m (M2 Es::H) w):St B m (Es++H) w:=by
 have hi:B7 (M2 Es::H)=B7 (Es++H):=by rw[E0];rfl
 refine{h with own:=?_,ids:=?_,avoid:=?_,nodup:=?_}
 ·intro e he
  rcases List.mem_append.1 he with he|he
  ·exact h.own _ (List.mem_cons_self ..) e he
  ·exact h.own e (List.mem_cons_of_mem _ he)
 ·rw[←hi];exact h.ids
 ·rw[←hi];exact h.avoid
 ·rw[←hi];exact h.nodup
section
variable{α:Type}[Flat α]
def J6(e:TypeId):List Value→List (List α)→List Ent
 |v::vs,L::M=>A5 v e L::J6 e vs M
 |_,_=>[]
theorem A6E{e:TypeId}:∀{vs:List Value} {M:List (List α)} {i:Nat},vs.length=M.length→i<M.length→
 (J6 e vs M).Perm (A5 (gt vs i) e (gt M i)::J6 e (vs.eraseIdx i) (M.eraseIdx i))
 | [],[],_,_,h=>by simp at h
 | [],_::_,_,h,_=>by simp at h
 |_::_,[],_,h,_=>by simp at h
 |v::vs,L::M,0,_,_=>by rw[A1n,A1n];exact .refl _
 |v::vs,L::M,i+1,h,hi=>by
  rw[A1D,A1D]
  simp only[J6,List.eraseIdx_cons_succ]
  exact((A6E (vs:=vs) (M:=M) (i:=i) (by simpa using h) (by simpa using hi)).cons _).trans (.swap _ _ _)
theorem B1R{β:Type}[Inhabited β]{L:List β}{i:Nat}(v:β)(h:i<L.length):gt (L.set i v) i=v:=by simp[gt,List.getD,h]
theorem B7S{e:TypeId}{vs:List Value}{M:List (List α)}{i:Nat}(v:Value)(L:List α)(h:vs.length=M.length)(hi:i<M.length):
 (J6 e (vs.set i v) (M.set i L)).Perm (A5 v e L::J6 e (vs.eraseIdx i) (M.eraseIdx i)):=by
 have:=A6E (e:=e) (vs:=vs.set i v) (M:=M.set i L) (i:=i) (by simpa using h) (by simpa using hi)
 rwa [B1R _ (by omega),B1R _ hi,List.eraseIdx_set_eq,List.eraseIdx_set_eq]at this
end
theorem U4:∀{H:List Ent} {k:Nat} {e:Ent},B2 H k=some e→∃A C,H=A++e::C∧(∀x,H4 H k x=A++x::C)∧Z4 H k=A++C
 | [],_,_,h=>by simp[B2]at h
 |a::H,0,e,h=>by
  simp only[B2,Option.some.injEq]at h;subst h
  exact⟨[],H,rfl,fun x=>rfl,rfl⟩
 |a::H,k+1,e,h=>by
  obtain⟨A,C,h1,h2,h3⟩:=U4 (H:=H) (k:=k) h
  exact⟨a::A,C,by rw[h1];rfl,fun x=>by rw[H4,h2 x];rfl,by rw[Z4,h3];rfl⟩
section
variable{N:Nat}{B:Base}{m:Mem}{H:List Ent}{σ:B5}{K:Act→World→Prop}
theorem WK.st{H':List Ent}(f:∀{Hm:List Ent} {w:World},St B m (H++Hm) w→St B m (H'++Hm) w)(h:WK N B m H' σ K):WK N B m H σ K:=fun Ds w hw a ha=>h Ds w (f hw) a ha
theorem B7g{k:Nat}{Es Es':List Ent}{e:Ent}(hH:B2 H k=some (M2 Es))(hp:Es.Perm (e::Es'))(h:WK N B m (e::H4 H k (M2 Es')) σ K):WK N B m H σ K:=by
 obtain⟨A,C,rfl,hu,_⟩:=U4 hH
 rw[hu]at h
 refine WK.st (fun{Hm w} hw=>?_) h
 have h1:St B m (Es++(A++C++Hm)) w:=(hw.perm (H':=M2 Es::(A++C++Hm)) (by simp only[List.append_assoc,List.cons_append];exact List.perm_middle.symm)).unpack
 have h2:St B m (Es'++(e::(A++C++Hm))) w:=h1.perm (by
  refine List.perm_middle.trans ?_
  exact(List.Perm.append_right _ hp.symm))
 exact h2.pack.perm (by
  show((e::(A++M2 Es'::C))++Hm).Perm (M2 Es'::e::(A++C++Hm))
  simp only[List.cons_append,List.append_assoc]
  exact(List.Perm.cons _ List.perm_middle).trans (.swap _ _ _))
theorem C1j{k:Nat}{Es Es':List Ent}{e:Ent}(hH:B2 H k=some (M2 Es'))(hp:Es.Perm (e::Es'))(h:WK N B m (H4 H k (M2 Es)) σ K):WK N B m (e::H) σ K:=by
 obtain⟨A,C,rfl,hu,_⟩:=U4 hH
 rw[hu]at h
 refine WK.st (fun{Hm w} hw=>?_) h
 have h1:St B m (Es'++(e::(A++C++Hm))) w:=(hw.perm (H':=M2 Es'::e::(A++C++Hm)) (by
  show(M2 Es'::e::(A++C++Hm)).Perm ((e::(A++M2 Es'::C))++Hm)
  simp only[List.cons_append,List.append_assoc]
  exact((List.Perm.cons _ List.perm_middle).trans (.swap _ _ _)).symm)).unpack
 have h2:St B m (Es++(A++C++Hm)) w:=h1.perm ((List.Perm.append_right _ hp).trans List.perm_middle.symm)
 exact h2.pack.perm (by simp only[List.append_assoc,List.cons_append];exact List.perm_middle)
variable{α:Type}[Flat α]
theorem B3B{k i:Nat}{e:TypeId}{vs:List Value}{M:List (List α)}(hH:B2 H k=some (M2 (J6 e vs M)))(hl:vs.length=M.length)(hi:i<M.length)
 (h:WK N B m (A5 (gt vs i) e (gt M i)::H4 H k (M2 (J6 e (vs.eraseIdx i) (M.eraseIdx i)))) σ K):WK N B m H σ K:=B7g hH (A6E hl hi) h
theorem B5L{k i:Nat}{e:TypeId}{vs:List Value}{M:List (List α)}{v:Value}{L:List α}(hH:B2 H k=some (M2 (J6 e (vs.eraseIdx i) (M.eraseIdx i))))(hl:vs.length=M.length)(hi:i<M.length)
 (h:WK N B m (H4 H k (M2 (J6 e (vs.set i v) (M.set i L)))) σ K):WK N B m (A5 v e L::H) σ K:=C1j hH (B7S v L hl hi) h
theorem B5s(α:Type)[Flat α](e:TypeId)(n:Nat)(h:WK N B m (M2 (J6 e (List.replicate n (.slice none 0 0)) (List.replicate n ([]:List α)))::H) σ K):WK N B m H σ K:=by
 refine WK.st (fun{Hm w} hw=>?_) h
 refine St.pack ?_
 clear h
 induction n with
 |zero=>exact hw
 |succ n ih=>
  simp only[List.replicate_succ,J6,List.cons_append]
  exact(ih).push (Ext.refl w) _ (World.ownsRow_nil w 0 e (Flat.n α)) (by simp[A5,row,Value.ownBlock]) (by simp[A5,row,Value.ownBlock])
theorem A5k{α:Type}[Flat α][Enc α][FlatEnc α]{e:TypeId}{A:List Ent}(hX:B.X=[]):∀{vs:List Value} {M:List (List α)} {m:Mem},vs.length=M.length→(∀L∈M,L.length≤C8)→
 (∀m',m.le m'→RdVs m' vs M∧(∀v∈vs,v.cells=#[v])→WK N B m' A σ K)→WK N B m (J6 e vs M++A) σ K
 | [],[],m,_,_,k=>by simpa[J6]using k m (Mem.le_refl _) ⟨trivial,by simp⟩
 | [],_::_,_,h,_,_=>by simp at h
 |_::_,[],_,h,_,_=>by simp at h
 |v::vs,L::M,m,h,hb,k=>by
  show WK N B m (A5 v e L::(J6 e vs M++A)) σ K
  refine E1 0 hX rfl (hb L (List.mem_cons_self ..)) fun m1 h1 h2=>?_
  refine A5k hX (vs:=vs) (M:=M) (by simpa using h) (fun L' hL=>hb L' (List.mem_cons_of_mem _ hL)) fun m2 h3 h4=>?_
  refine k m2 (Mem.le_trans h1 h3) ⟨⟨⟨[v],F4 h2.one,v,rfl,h2.mono h3⟩,h4.1⟩,?_⟩
  intro u hu
  cases hu with
  |head=>exact F4 h2.one
  |tail _ hu=>exact h4.2 u hu
theorem B6f{α:Type}[Flat α][Enc α][FlatEnc α]{e eo:TypeId}{H1:List Ent}{vo:Value}{n k:Nat}(hX:B.X=[]){vs:List Value}{M:List (List α)}(hH:B2 H1 k=some (M2 (J6 e vs M)))(hn:n=M.length)(hlen:vs.length=M.length)(hb:∀L∈M,L.length≤C8)(hM:M.length≤C8)
 (kk:∀m',m.le m'→Sl m' vo M→WK N B m' (Z4 H1 k) σ K):WK N B m (row vo eo 1 n vs::H1) σ K:=by
 subst hn
 obtain⟨A,C,rfl,hu,hd⟩:=U4 hH
 rw[hd]at kk
 refine WK.st (H':=J6 e vs M++(row vo eo 1 M.length vs::(A++C))) (fun{Hm w} hw=>?_) ?_
 ·have h1:=(hw.perm (H':=M2 (J6 e vs M)::(row vo eo 1 M.length vs::(A++C)++Hm)) (by
   simp only[List.cons_append,List.append_assoc]
   exact((List.Perm.cons _ List.perm_middle).trans (.swap _ _ _)).symm)).unpack
  simpa using h1
 ·refine A5k hX hlen hb fun m1 h1 hh=>?_
  have h2:=hh.1
  have h3:=hh.2
  clear hh
  have h4:=h2.rdl.1
  have h5:(vs.flatMap fun v=>v.cells.toList)=vs:=by
   clear h2 h4 hlen hH hu hd kk
   induction vs with
   |nil=>rfl
   |cons v vs ih=>rw[List.flatMap_cons,ih fun u hu=>h3 u (List.mem_cons_of_mem _ hu),h3 v (List.mem_cons_self ..)];rfl
  rw[h5]at h4
  exact N4 (α:=List α) 0 hX rfl h4 hM fun m2 h6 h7=>kk m2 (Mem.le_trans h1 h6) h7
end
end Go.Kx
