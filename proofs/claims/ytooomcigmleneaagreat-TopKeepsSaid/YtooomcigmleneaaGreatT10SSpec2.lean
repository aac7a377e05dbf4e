import Derived.Test.YtooomcigmleneaaGreatT10KWalk2
import Derived.Test.YtooomcigmleneaaGreatKxJ
import Derived.Test.YtooomcigmleneaaGreatKxL
import Derived.Test.YtooomcigmleneaaGreatT10Set
set_option linter.all false
namespace Go.Proofs.S10
open Tryz
open Go Go.Kx Go.Proofs.T10
def A1L(k i j:Nat)(f:Nat→Nat→Int):Nat→Nat→Int:=fun a b=>if a=i∧b=j then min (f i j) (f i k+f k j)else f a b
def A8L(k i:Nat)(f:Nat→Nat→Int):Nat→Nat→Nat→Int
 |0=>f
 |j+1=>A1L k i j (A8L k i f j)
def A5f(n k:Nat)(f:Nat→Nat→Int):Nat→Nat→Nat→Int
 |0=>f
 |i+1=>A8L k i (A5f n k f i) n
def A0W(n:Nat)(f:Nat→Nat→Int):Nat→Nat→Nat→Int
 |0=>f
 |k+1=>A5f n k (A0W n f k) n
def InB(n:Nat)(C:Int)(f:Nat→Nat→Int):Prop:=∀a b,a<n→b<n→0≤f a b∧f a b≤C
theorem InB.step{n:Nat}{C:Int}{f:Nat→Nat→Int}(h:InB n C f){k i j:Nat}(hk:k<n)(hi:i<n)(hj:j<n):InB n C (A1L k i j f):=by
 intro a b ha hb
 unfold A1L
 split
 ·have h1:=h i j hi hj;have h2:=h i k hi hk;have h3:=h k j hk hj;omega
 ·exact h a b ha hb
theorem InB.row{n:Nat}{C:Int}{f:Nat→Nat→Int}(h:InB n C f){k i:Nat}(hk:k<n)(hi:i<n):∀j,j≤n→InB n C (A8L k i f j)
 |0,_=>h
 |j+1,hj=>(InB.row h hk hi j (by omega)).step hk hi (by omega)
theorem InB.lay{n:Nat}{C:Int}{f:Nat→Nat→Int}(h:InB n C f){k:Nat}(hk:k<n):∀i,i≤n→InB n C (A5f n k f i)
 |0,_=>h
 |i+1,hi=>(InB.lay h hk i (by omega)).row hk (by omega) n (Nat.le_refl _)
theorem InB.all{n:Nat}{C:Int}{f:Nat→Nat→Int}(h:InB n C f):∀k,k≤n→InB n C (A0W n f k)
 |0,_=>h
 |k+1,hk=>(InB.all h k (by omega)).lay (by omega) n (Nat.le_refl _)
theorem U9{α:Type}[Inhabited α]{L:List α}{i j:Nat}{x:α}(hi:i<L.length):gt (L.set i x) j=if i=j then x else gt L j:=by
 unfold gt
 rw[List.getD_eq_getElem?_getD,List.getD_eq_getElem?_getD,List.getElem?_set]
 by_cases h:i=j
 ·subst h;simp[hi]
 ·simp[h]
def Mat(L:List Int)(f:Nat→Nat→Int):Prop:=L.length=1024∧∀a b,a<32→b<32→gt L (a*32+b)=f a b
theorem Mat.set{L:List Int}{f:Nat→Nat→Int}(h:Mat L f){i j:Nat}(hi:i<32)(hj:j<32)(x:Int):Mat (L.set (i*32+j) x) (fun a b=>if a=i∧b=j then x else f a b):=by
 refine⟨by rw[List.length_set];exact h.1,fun a b ha hb=>?_⟩
 rw[U9 (by rw[h.1];omega)]
 by_cases e:a=i∧b=j
 ·obtain⟨rfl,rfl⟩:=e;simp
 ·dsimp only;rw[if_neg (by omega),if_neg e];exact h.2 a b ha hb
theorem Mat.gt{L:List Int}{f:Nat→Nat→Int}(h:Mat L f){a b:Nat}(ha:a<32)(hb:b<32):Kx.gt L (a*32+b)=f a b:=h.2 a b ha hb
theorem Mat.congr{L:List Int}{f g:Nat→Nat→Int}(h:Mat L f)(hg:∀a b,a<32→b<32→f a b=g a b):Mat L g:=⟨h.1,fun a b ha hb=>by rw[h.2 a b ha hb,hg a b ha hb]⟩
structure Reg where
 B:List Int
 W:Wind
 L:List Station
 deriving DecidableEq,Inhabited
instance:Enc Reg where
 sz:=1027
 pos:=by decide
 rd m vs x:=∃v:Value,x.B.length=1024∧vs=P2 x.B++[J x.W.Fixed,J x.W.Each,v]∧Sl m v x.L
 len h:=by obtain⟨v,h1,rfl,_⟩:=h;simp[A4D,h1]
 mono hm h:=by obtain⟨v,h1,h2,h3⟩:=h;exact⟨v,h1,h2,h3.mono hm⟩
 one h:=by
  obtain⟨v,h1,rfl,h3⟩:=h
  intro u hu
  rcases List.mem_append.1 hu with hu|hu
  ·obtain⟨x,_,rfl⟩:=List.mem_map.1 hu;rfl
  ·simp at hu
   rcases hu with rfl|rfl|rfl
   ·rfl
   ·rfl
   ·exact h3.one
theorem B8t{m:Mem}{p:Addr}{us vs:List Value}(h:Cells m p (us++vs)):Cells m p us:=by
 obtain⟨h0,cs,T,fz,h1,h2⟩:=h
 exact⟨h0,cs,T,fz,h1,fun j v hj=>h2 j v (by rw[List.getElem?_append_left (List.getElem?_eq_some_iff.1 hj).1];exact hj)⟩
theorem Cells.post{m:Mem}{p:Addr}{us vs ws:List Value}{n:Nat}(h:Cells m p (us++(vs++ws)))(hn:us.length=n):Cells m (p.add n) vs:=by
 obtain⟨h0,cs,T,fz,h1,h2⟩:=h
 rw[B9 h0]
 exact⟨rfl,cs,T,fz,h1,fun j v hj=>by
  have:=h2 (n+j) v (by rw[List.getElem?_append_right (by omega),hn,Nat.add_sub_cancel_left,List.getElem?_append_left (List.getElem?_eq_some_iff.1 hj).1];exact hj)
  rw[←Nat.add_assoc]at this;exact this⟩
theorem C0s{m:Mem}{p:Addr}{x:Reg}(h:At m p x):Cells m p (P2 x.B):=by
 obtain⟨vs,⟨v,h1,rfl,h3⟩,hc⟩:=h
 exact B8t hc
def J3(w:Wind)(l:List Station):Int:=if(H8 l).1≠0 then(H8 l).1 else A1i w
theorem L4{w:Wind}{l:List Station}(h:J3 w l=0):(H8 l).1=0∧A1i w=0:=by
 unfold J3 at h;split at h
 ·rename_i h1;exact absurd h h1
 ·rename_i h1;exact⟨Decidable.of_not_not h1,h⟩
def A3u(w:Wind)(l:List Station)(a b:Nat):Int:=if a<l.length∧b<l.length then A0i w (gt l a) (gt l b)else 0
def P7(w:Wind)(l:List Station):Nat→Nat→Int:=A0W l.length (A3u w l) l.length
def A4q(w:Wind)(l:List Station):List Int:=(List.range 1024).map fun p=>P7 w l (p/32) (p%32)
def B6r(w:Wind)(l:List Station):Reg:=⟨A4q w l,w,l⟩
theorem U7{l:List Station}(h:(H8 l).1=0){k:Nat}(hk:k<l.length):H4 (gt l k)∧Z4 (gt l k).Heights:=
 ⟨(A6d ((Z9 h).2 k hk)).1,(A6d ((Z9 h).2 k hk)).2.2⟩
theorem B7A{w:Wind}{a b:Station}(hw:A1i w=0)(ha:H4 a)(hb:H4 b):0≤A0i w a b∧A0i w a b≤1000000000:=by
 have h1:=B4J hw ha hb
 have h2:=A5S hw
 unfold A0i;split <;> omega
theorem A7k{w:Wind}{l:List Station}(h:J3 w l=0):InB l.length 1000000000 (A3u w l):=by
 intro a b ha hb
 have hz:=L4 h
 rw[A3u,if_pos ⟨ha,hb⟩]
 exact B7A hz.2 (U7 hz.1 ha).1 (U7 hz.1 hb).1
theorem B1S{w:Wind}{l:List Station}(h:J3 w l=0):InB l.length 1000000000 (P7 w l):=(A7k h).all _ (Nat.le_refl _)
theorem A6z(w:Wind)(l:List Station):Mat (A4q w l) (P7 w l):=by
 refine⟨by simp[A4q],fun a b ha hb=>?_⟩
 have h1:a*32+b<1024:=by omega
 have h2:(a*32+b)/32=a:=by omega
 have h3:(a*32+b)%32=b:=by omega
 simp[A4q,gt,h1,h2,h3]
attribute [irreducible] A4q
theorem Mat.eq_reg{L:List Int}{w:Wind}{l:List Station}(h:Mat L (P7 w l)):L=A4q w l:=by
 apply A1D (by rw[h.1,(A6z w l).1])
 intro j hj
 rw[h.1]at hj
 have h1:=h.2 (j/32) (j%32) (by omega) (by omega)
 have h2:=(A6z w l).2 (j/32) (j%32) (by omega) (by omega)
 rw[show j/32*32+j%32=j by omega]at h1 h2
 rw[h1,h2]
def sqL(n:Nat)(f:Nat→Nat→Int):List (List Int):=(List.range n).map fun i=>(List.range n).map fun k=>f i k
theorem S3{α:Type}[Inhabited α]{n i:Nat}(f:Nat→α)(h:i<n):gt ((List.range n).map f) i=f i:=by simp[gt,h]
theorem A8S{α:Type}(k:Nat)(f:Nat→α):(List.range k).map f++[f k]=(List.range (k+1)).map f:=by rw[List.range_succ,List.map_append];rfl
theorem Mat.bd{L:List Int}{f:Nat→Nat→Int}{n:Nat}{C:Int}(h:Mat L f)(hn:n≤32)(hB:InB n C f){a b:Nat}(ha:a<n)(hb:b<n):0≤Kx.gt L (0+a*32+b*1)∧Kx.gt L (0+a*32+b*1)≤C:=by
 have:=hB a b ha hb
 rw[show 0+a*32+b*1=a*32+b by omega,h.2 a b (by omega) (by omega)];exact this
theorem B6Z{L:List Int}{f:Nat→Nat→Int}{k i j:Nat}(h:Mat L f)(hk:k<32)(hi:i<32)(hj:j<32):
 Mat (L.set (0+i*32+j*1) (min (gt L (0+i*32+j*1)) (gt L (0+i*32+k*1)+gt L (0+k*32+j*1)))) (A1L k i j f):=by
 have e:∀a b,0+a*32+b*1=a*32+b:=fun a b=>by omega
 rw[e,e,e,h.2 i j hi hj,h.2 i k hi hk,h.2 k j hk hj]
 exact h.set hi hj _
def A1H(w:Wind)(l:List Station)(i k:Nat)(a b:Nat):Int:=if(a<i∨(a=i∧b<k))∧b<l.length then A0i w (gt l a) (gt l b)else 0
theorem C5A(n k:Nat):gt (List.replicate n (0:Int)) k=0:=by
 unfold gt
 rw[List.getD_eq_getElem?_getD,List.getElem?_replicate]
 split <;> rfl
theorem B7F(w:Wind)(l:List Station):Mat (List.replicate 1024 0) (A1H w l 0 0):=by
 refine⟨List.length_replicate,fun a b ha hb=>?_⟩
 rw[A1H,if_neg (by omega),C5A]
theorem B7R{L:List Int}{w:Wind}{l:List Station}{i k:Nat}(h:Mat L (A1H w l i k))(hi:i<32)(hk:k<32)(hkl:k<l.length):
 Mat (L.set (0+i*32+k*1) (A0i w (gt l i) (gt l k))) (A1H w l i (k+1)):=by
 rw[show 0+i*32+k*1=i*32+k by omega]
 refine(h.set hi hk _).congr fun a b ha hb=>?_
 unfold A1H
 by_cases e:a=i∧b=k
 ·obtain⟨rfl,rfl⟩:=e;rw[if_pos ⟨rfl,rfl⟩,if_pos (by omega)]
 ·rw[if_neg e]
  by_cases e2:(a<i∨(a=i∧b<k))∧b<l.length
  ·rw[if_pos e2,if_pos (by omega)]
  ·rw[if_neg e2,if_neg (by omega)]
theorem C1p{L:List Int}{w:Wind}{l:List Station}{i k:Nat}(h:Mat L (A1H w l i k))(hk:l.length≤k):Mat L (A1H w l (i+1) 0):=
 h.congr fun a b _ _=>by
  unfold A1H
  by_cases e2:(a<i∨(a=i∧b<k))∧b<l.length
  ·rw[if_pos e2,if_pos (by omega)]
  ·rw[if_neg e2,if_neg (by omega)]
theorem C0R{L:List Int}{w:Wind}{l:List Station}{i:Nat}(h:Mat L (A1H w l i 0))(hi:i=l.length):Mat L (A3u w l):=
 h.congr fun a b _ _=>by
  subst hi
  unfold A1H A3u
  by_cases e2:(a<l.length∨(a=l.length∧b<0))∧b<l.length
  ·rw[if_pos e2,if_pos (by omega)]
  ·rw[if_neg e2,if_neg (by omega)]
theorem B8y{w:Wind}{l:List Station}(h1:(H8 l).1=0)(h2:A1i w=0):J3 w l=0:=by unfold J3;rw[if_neg (by simp[h1])];exact h2
theorem C1P(A:List Int)(hA:A.length=1024)(a b c f e v:Value)(hv:v.cells=#[v]):Instr.fill (fun i=>#[(0,1024),(1024,2),(1026,1)][i]?) (P2 A++[a,b,c]).toArray [(1,.agg #[f,e]),(2,v)]=some (P2 A++[f,e,v]).toArray:=by
 have hl:=A4D A
 simp only[Instr.fill,hv]
 simp[Value.cells,hl,hA]
theorem C3A(f e v:Value)(hv:v.cells=#[v]):Instr.fill (fun i=>#[(0,1024),(1024,2),(1026,1)][i]?) (Value.agg (P2 (List.replicate 1024 0)++[Value.int .i64 0,Value.int .i64 0,Value.slice none 0 0]).toArray).cells [(1,.agg #[f,e]),(2,v)]=some (P2 (List.replicate 1024 0)++[f,e,v]).toArray:=
 C1P _ List.length_replicate _ _ _ f e v hv
def MatL(n:Nat)(M:List (List Int))(f:Nat→Nat→Int):Prop:=M.length=n∧(∀i,i<n→(gt M i).length=n)∧∀i k,i<n→k<n→gt (gt M i) k=f i k
theorem C3x(n:Nat)(f:Nat→Nat→Int):MatL n (sqL n f) f:=
 ⟨by simp[sqL],fun i hi=>by rw[sqL,S3 _ hi];simp,fun i k hi hk=>by rw[sqL,S3 _ hi,S3 _ hk]⟩
theorem MatL.eq{n:Nat}{M:List (List Int)}{f:Nat→Nat→Int}(h:MatL n M f):M=sqL n f:=by
 have h2:=C3x n f
 refine A1D (by rw[h.1,h2.1]) fun i hi=>?_
 rw[h.1]at hi
 refine A1D (by rw[h.2.1 i hi,h2.2.1 i hi]) fun k hk=>?_
 rw[h.2.1 i hi]at hk
 rw[h.2.2 i k hi hk,h2.2.2 i k hi hk]
theorem MatL.set{n:Nat}{M:List (List Int)}{f:Nat→Nat→Int}(h:MatL n M f){i j:Nat}(hi:i<n)(hj:j<n)(x:Int):MatL n (M.set i ((gt M i).set j x)) (fun a b=>if a=i∧b=j then x else f a b):=by
 refine⟨by rw[List.length_set];exact h.1,fun a ha=>?_,fun a b ha hb=>?_⟩
 ·rw[U9 (by rw[h.1];exact hi)]
  split
  ·rw[List.length_set];exact h.2.1 i hi
  ·exact h.2.1 a ha
 ·rw[U9 (by rw[h.1];exact hi)]
  by_cases e:i=a
  ·subst e
   rw[if_pos rfl,U9 (by rw[h.2.1 i hi];exact hj)]
   by_cases e2:j=b
   ·subst e2;simp
   ·rw[if_neg e2];dsimp only;rw[if_neg (by omega)];exact h.2.2 i b ha hb
  ·rw[if_neg e];dsimp only;rw[if_neg (by omega)];exact h.2.2 a b ha hb
theorem MatL.bd{n:Nat}{M:List (List Int)}{f:Nat→Nat→Int}{C:Int}(h:MatL n M f)(hB:InB n C f){a b:Nat}(ha:a<n)(hb:b<n):0≤gt (gt M a) b∧gt (gt M a) b≤C:=by
 rw[h.2.2 a b ha hb];exact hB a b ha hb
theorem C5d{m:Mem}{L:List Int}{w:Wind}{l:List Station}{v:Value}(h1:L.length=1024)(h2:Sl m v l):Enc.rd m (P2 L++[J w.Fixed,J w.Each,v]) (⟨L,w,l⟩:Reg):=⟨v,h1,rfl,h2⟩
theorem C5t{m:Mem}{p:Addr}{L:List Int}{w:Wind}{l:List Station}(h:At m p (⟨L,w,l⟩:Reg))(hM:Mat L (P7 w l)):At m p (B6r w l):=by
 rw[hM.eq_reg]at h;exact h
theorem C7q(w:World):(zeroValue 323).run prog w= .ok (Value.agg (P2 (List.replicate 1024 0)++[Value.int .i64 0,Value.int .i64 0,Value.slice none 0 0]).toArray) w:=
 (zeroValue323 w).trans (by kernel_rfl)
end Go.Proofs.S10
namespace Go.Proofs.S10
open Tryz
open Go Go.Kx Go.Proofs.T10
def B6I(w:Wind)(l:List Station)(b i k:Nat):Prop:=i≠k∧A3u w l i k+P7 w l k b=P7 w l i b
instance(w:Wind)(l:List Station)(b i k:Nat):Decidable (B6I w l b i k):=by unfold B6I;exact inferInstance
def B7T(w:Wind)(l:List Station)(b:Nat):Nat→Nat→Bool
 |0,i=>decide (i=b)
 |m+1,i=>(List.range l.length).any fun k=>decide (B6I w l b i k)&&B7T w l b m k
theorem C2N{w:Wind}{l:List Station}{a b:Nat}(ha:a<32)(hb:b<32):gt (A4q w l) (0+a*32+b*1)=P7 w l a b:=by
 rw[show 0+a*32+b*1=a*32+b by omega];exact(A6z w l).2 a b ha hb
def Half(w:Wind)(l:List Station)(b j i:Nat)(L:List Bool):Prop:=L.length=l.length∧∀x,x<l.length→gt L x=(decide (x<i)&&B7T w l b (j+1) x)
structure WEnv(w:Wind)(l:List Station)(b lo:Nat){S:Type}(HS:S→List Ent)(I Ix:Nat→Mem→S→Prop)(Ok:Prop)(P0:List Int)(pb py prr pf pr:Addr)(m:Mem):Prop where
 reg:At m pr (B6r w l)
 ok:J3 w l=0
 hb:b<l.length
 cb:At m pb (b:Int)
 cy:Cells m py [.func (.yield lo) #[] #[]]
 cr:Cells m prr [.pointer (some pr)]
 cf:Cells m pf [.func (.func 101) #[] [.pointer (some pb),.pointer (some py),.pointer (some prr),.pointer (some pf)].toArray]
 yield:Ok→∀m1 s args,m.le m1→(∃v,args=#[v]∧Sl m1 v P0)→I 0 m1 s→A7H prog lo args m1 (HS s) (fun m' H'=>m1.le m'∧∃s',H'=HS s'∧I 1 m' s') (fun m' H'=>m1.le m'∧∃s',H'=HS s'∧Ix 1 m' s')
 once:∀i m' s,¬I (i+1) m' s
 mono:∀i m1 m2 s,m1.le m2→I i m1 s→I i m2 s
theorem WEnv.up{w:Wind}{l:List Station}{b lo:Nat}{S:Type}{HS:S→List Ent}{I Ix:Nat→Mem→S→Prop}{Ok:Prop}{P0:List Int}{pb py prr pf pr:Addr}{m m2:Mem}(h:WEnv w l b lo HS I Ix Ok P0 pb py prr pf pr m)(hm:m.le m2):WEnv w l b lo HS I Ix Ok P0 pb py prr pf pr m2:=
 ⟨h.reg.mono hm,h.ok,h.hb,h.cb.mono hm,h.cy.mono hm,h.cr.mono hm,h.cf.mono hm,fun ho m1 s args hle=>h.yield ho m1 s args (Mem.le_trans hm hle),h.once,h.mono⟩
def B5q(level h:Int):Nat→Nat→Int
 |0,_=> -1
 |n+1,k=>if A2F k h=level then k else B5q level h n (k+1)
attribute [irreducible] B5q
def A2T(s:Station)(week:Int):Nat→Span
 |0=>(gt s.Heights 0).Metres
 |n+1=>if(gt s.Heights n).Week≤week then(gt s.Heights n).Metres else A2T s week n
def W7(s:Station)(week:Int):Span:=A2T s week s.Heights.length
def B4b(L:List Height):Prop:=∀i,0<i→i<L.length→(gt L (i-1)).Week<(gt L i).Week
theorem A0U{L:List Height}(h:B4b L):∀{i j:Nat},i<j→j<L.length→(gt L i).Week<(gt L j).Week
 |i,0,h1,_=>by omega
 |i,j+1,h1,h2=>by
  have h3:=h (j+1) (by omega) h2
  rw[Nat.add_sub_cancel]at h3
  rcases Nat.lt_succ_iff_lt_or_eq.1 h1 with h4|h4
  ·have:=A0U h h4 (by omega);omega
  ·subst h4;exact h3
def A3A(L:List Height)(week:Int):Nat→Nat→Nat
 |0,i=>i
 |n+1,i=>if(gt L i).Week<week then A3A L week n (i+1)else i
def A6l(L:List Height)(week:Int):Nat:=A3A L week L.length 0
theorem B5o{L:List Height}{week:Int}:∀{n i k:Nat},i≤k→k≤i+n→(∀j,i≤j→j<k→(gt L j).Week<week)→(k<i+n→week≤(gt L k).Week)→A3A L week n i=k
 |0,i,k,h1,h2,_,_=>by rw[A3A];omega
 |n+1,i,k,h1,h2,h3,h4=>by
  rw[A3A]
  by_cases e:i=k
  ·subst e;rw[if_neg (by have:=h4 (by omega);omega)]
  ·rw[if_pos (h3 i (Nat.le_refl _) (by omega))]
   exact B5o (by omega) (by omega) (fun j hj=>h3 j (by omega)) (fun hk=>h4 (by omega))
theorem B5F{L:List Height}{week:Int}{k:Nat}(hk:k≤L.length)(h1:∀j,j<k→(gt L j).Week<week)(h2:k<L.length→week≤(gt L k).Week):A6l L week=k:=
 B5o (Nat.zero_le _) (by omega) (fun j _ hj=>h1 j hj) (fun h=>h2 (by omega))
theorem B1F{x y:Int}:T0 x y=0↔x=y:=by unfold T0;split <;> (try split) <;> omega
theorem B1C{L:List Height}{week:Int}:∀(n i:Nat),i≤A3A L week n i∧A3A L week n i≤i+n∧(∀j,i≤j→j<A3A L week n i→(gt L j).Week<week)∧(A3A L week n i<i+n→week≤(gt L (A3A L week n i)).Week)
 |0,i=>by rw[A3A];exact⟨Nat.le_refl _,Nat.le_refl _,fun j h1 h2=>by omega,fun h=>by omega⟩
 |n+1,i=>by
  rw[A3A]
  split
  ·rename_i h
   obtain⟨h1,h2,h3,h4⟩:=B1C (L:=L) (week:=week) n (i+1)
   refine⟨by omega,by omega,fun j h5 h6=>?_,fun h5=>h4 (by omega)⟩
   rcases Nat.lt_or_ge i j with h7|h7
   ·exact h3 j (by omega) h6
   ·have:j=i:=by omega
    subst this;exact h
  ·rename_i h
   exact⟨Nat.le_refl _,by omega,fun j h1 h2=>by omega,fun _=>by omega⟩
theorem B8B{L:List Height}{week:Int}{k:Nat}(h:A6l L week=k):k≤L.length∧(∀j,j<k→(gt L j).Week<week)∧(k<L.length→week≤(gt L k).Week):=by
 obtain⟨_,h2,h3,h4⟩:=B1C (L:=L) (week:=week) L.length 0
 unfold A6l at h
 rw[h]at h2 h3 h4
 exact⟨by omega,fun j hj=>h3 j (Nat.zero_le _) hj,fun hk=>h4 (by omega)⟩
theorem A3I{L:List Height}(h:Z4 L):B4b L:=fun i h1 h2=>(h.2 i h2).2.1 h1
theorem A5V{s:Station}{week:Int}{k:Nat}(hy:(gt s.Heights k).Week≤week):∀n,k<n→(∀j,k<j→j<n→week<(gt s.Heights j).Week)→A2T s week n=(gt s.Heights k).Metres
 |0,h,_=>by omega
 |n+1,h,hno=>by
  rw[A2T]
  by_cases e:k=n
  ·subst e;rw[if_pos hy]
  ·rw[if_neg (by have:=hno n (by omega) (by omega);omega)]
   exact A5V hy n (by omega) (fun j h1 h2=>hno j h1 (by omega))
theorem A7y{s:Station}{week:Int}{k:Nat}(hs:Z4 s.Heights)(hk:k<s.Heights.length)(hw:(gt s.Heights k).Week=week):W7 s week=(gt s.Heights k).Metres:=
 A5V (by omega) _ hk (fun j h1 h2=>by have:=A0U (A3I hs) h1 h2;omega)
theorem A6G{s:Station}{week:Int}{k:Nat}(hs:Z4 s.Heights)(h0:0<k)(hk:k≤s.Heights.length)(h1:(gt s.Heights (k-1)).Week<week)(h2:k<s.Heights.length→week<(gt s.Heights k).Week):W7 s week=(gt s.Heights (k-1)).Metres:=
 A5V (by omega) _ (by omega) (fun j h3 h4=>by
  have h5:=h2 (by omega)
  rcases Nat.lt_or_ge k j with h6|h6
  ·have:=A0U (A3I hs) h6 h4;omega
  ·have:j=k:=by omega
   subst this;exact h5)
theorem B0f{s:Station}{week:Int}(hs:Z4 s.Heights):∀n,n≤s.Heights.length→A4z (A2T s week n)
 |0,_=>by have h1:=hs.1;have:=hs.2 0 (by omega);unfold A0R at this;rw[A2T];unfold A4z;omega
 |n+1,h=>by
  rw[A2T]
  split
  ·have:=hs.2 n (by omega);unfold A0R at this;unfold A4z;omega
  ·exact B0f hs n (by omega)
theorem A9s{s:Station}{week:Int}(hs:Z4 s.Heights):A4z (W7 s week):=B0f hs _ (Nat.le_refl _)
def A2U(list:List Int)(i:Nat):Prop:=0≤gt list i∧gt list i≤12000
instance(list:List Int)(i:Nat):Decidable (A2U list i):=by unfold A2U;exact inferInstance
def K3(w:Wind)(l:List Station)(week:Int)(list:List Int):Int:=
 if J3 w l≠0 then J3 w l else if(0≤week∧week≤10000)∧list.length=l.length then(if∀i,i<l.length→A2U list i then 0 else 1)else 1
def A7E(l:List Station)(week:Int)(list:List Int)(i:Nat):Span:=C2u (gt list i) (W7 (gt l i) week)
def X5(l:List Station)(week:Int)(list:List Int):List Span:=(List.range l.length).map (A7E l week list)
def S7(w:Wind)(l:List Station)(week:Int)(list:List Int):List Span:=if K3 w l week list=0 then X5 l week list else[]
theorem A4v{w:Wind}{l:List Station}{week:Int}{list:List Int}(h:K3 w l week list=0):J3 w l=0∧(0≤week∧week≤10000)∧list.length=l.length∧∀i,i<l.length→A2U list i:=by
 unfold K3 at h
 split at h
 ·rename_i h1;exact absurd h h1
 ·rename_i h1
  split at h
  ·rename_i h2
   split at h
   ·rename_i h3;exact⟨Decidable.of_not_not h1,h2.1,h2.2,h3⟩
   ·cases h
  ·cases h
theorem A2W{w:Wind}{l:List Station}{week:Int}{list:List Int}(h:¬J3 w l=0):K3 w l week list=J3 w l:=by unfold K3;rw[if_pos h]
theorem A2Z{w:Wind}{l:List Station}{week:Int}{list:List Int}(h:J3 w l=0)(h2:¬((0≤week∧week≤10000)∧list.length=l.length)):K3 w l week list=1:=by unfold K3;rw[if_neg (by simp[h]),if_neg h2]
theorem A3f{w:Wind}{l:List Station}{week:Int}{list:List Int}{i:Nat}(h:J3 w l=0)(hi:i<l.length)(hb:¬A2U list i):K3 w l week list=1:=by
 unfold K3
 rw[if_neg (by simp[h])]
 split
 ·rw[if_neg (fun hh=>hb (hh i hi))]
 ·rfl
theorem B5P{w:Wind}{l:List Station}{week:Int}{list:List Int}(h:J3 w l=0)(h1:0≤week∧week≤10000)(h2:list.length=l.length)(h3:∀i,i<l.length→A2U list i):K3 w l week list=0:=by
 unfold K3;rw[if_neg (by simp[h]),if_pos ⟨h1,h2⟩,if_pos h3]
def B9p(w:Wind)(l:List Station)(S:List Span)(i k:Nat):Prop:=P7 w l i k<max ((gt S k).Lo-(gt S i).Hi) ((gt S i).Lo-(gt S k).Hi)
instance(w:Wind)(l:List Station)(S:List Span)(i k:Nat):Decidable (B9p w l S i k):=by unfold B9p;exact inferInstance
theorem B3n{w:Wind}{l:List Station}{week:Int}{list:List Int}(h:K3 w l week list=0){i:Nat}(hi:i<l.length):
 (0≤(gt (X5 l week list) i).Lo∧(gt (X5 l week list) i).Lo≤100000)∧(0≤(gt (X5 l week list) i).Hi∧(gt (X5 l week list) i).Hi≤100000):=by
 have hz:=A4v h
 have h1:=hz.2.2.2 i hi
 have h2:=A9s (week:=week) (U7 (L4 hz.1).1 hi).2
 unfold A2U at h1
 have h3:=h2.1
 have h4:=h2.2
 have h5:=B1c (l:=gt list i) (h:=(W7 (gt l i) week).Lo) (by omega) (by omega)
 have h6:=B1c (l:=gt list i) (h:=(W7 (gt l i) week).Hi) (by omega) (by omega)
 rw[X5,S3 _ hi,A7E,C2u]
 unfold A2F
 dsimp only
 omega
theorem C1O{α:Type}:∀{l:List α},l.length=1→∃x,l=[x]
 | [x],_=>⟨x,rfl⟩
end Go.Proofs.S10
namespace Go.Proofs.S10
open Tryz
open Go Go.Kx Go.Proofs.T10
structure Met(n:Nat)(f:Nat→Nat→Int):Prop where
 zero:∀i,i<n→f i i=0
 nn:∀i j,i<n→j<n→0≤f i j
theorem B4M{n k i:Nat}{f:Nat→Nat→Int}(h:Met n f)(hk:k<n)(hi:i<n):∀j,j≤n→∀a b,a<n→b<n→A8L k i f j a b=if a=i∧b<j then min (f i b) (f i k+f k b)else f a b
 |0,_,a,b,_,_=>by rw[A8L,if_neg (by omega)]
 |j+1,hj,a,b,ha,hb=>by
  have ih:=B4M h hk hi j (by omega)
  rw[A8L,A1L]
  by_cases e:a=i∧b=j
  ·obtain⟨rfl,rfl⟩:=e
   rw[if_pos ⟨rfl,rfl⟩,if_pos (by omega),ih a b ha hb,ih a k ha hk,ih k b hk hb,if_neg (by omega)]
   have hz:=h.zero k hk
   by_cases e1:a=k
   ·subst e1
    split <;> omega
   ·rw[if_neg (show¬(k=a∧b<b) by omega)]
    by_cases e2:k<b
    ·rw[if_pos ⟨rfl,e2⟩];omega
    ·rw[if_neg (by omega)]
  ·rw[if_neg e,ih a b ha hb]
   by_cases e2:a=i∧b<j
   ·rw[if_pos e2,if_pos (by omega)]
   ·rw[if_neg e2,if_neg (by omega)]
theorem B5h{n k:Nat}{f:Nat→Nat→Int}(h:Met n f)(hk:k<n):∀i,i≤n→(∀a b,a<n→b<n→A5f n k f i a b=if a<i then min (f a b) (f a k+f k b)else f a b)∧Met n (A5f n k f i)
 |0,_=>⟨fun a b _ _=>by rw[A5f,if_neg (by omega)],h⟩
 |i+1,hi=>by
  obtain⟨h1,h2⟩:=B5h h hk i (by omega)
  have h3:=B4M h2 hk (show i<n by omega) n (Nat.le_refl _)
  have key:∀a b,a<n→b<n→A5f n k f (i+1) a b=if a<i+1 then min (f a b) (f a k+f k b)else f a b:=by
   intro a b ha hb
   rw[A5f,h3 a b ha hb]
   have hz:=h.zero k hk
   have e1:=h1 a b ha hb;have e2:=h1 a k ha hk;have e3:=h1 k b hk hb
   by_cases e:a=i
   ·subst e
    rw[if_pos ⟨rfl,hb⟩,if_pos (by omega),e1,e2,e3,if_neg (by omega),if_neg (by omega)]
    split <;> omega
   ·rw[if_neg (by omega),e1]
    by_cases e4:a<i
    ·rw[if_pos e4,if_pos (by omega)]
    ·rw[if_neg e4,if_neg (by omega)]
  refine⟨key,fun a ha=>?_,fun a b ha hb=>?_⟩
  ·rw[key a a ha ha]
   have h4:=h.zero a ha;have h5:=h.nn a k ha hk;have h6:=h.nn k a hk ha
   split <;> omega
  ·rw[key a b ha hb]
   have h4:=h.nn a b ha hb;have h5:=h.nn a k ha hk;have h6:=h.nn k b hk hb
   split <;> omega
theorem A8I{n:Nat}{f:Nat→Nat→Int}(h:Met n f):∀k,k≤n→Met n (A0W n f k)∧(∀m i j,m<k→i<n→j<n→A0W n f k i j≤A0W n f k i m+A0W n f k m j)∧(∀i j,i<n→j<n→A0W n f k i j≤f i j)
 |0,_=>⟨h,fun m i j h1=>by omega,fun i j _ _=>Int.le_refl _⟩
 |k+1,hk=>by
  obtain⟨h1,h2,h3⟩:=A8I h k (by omega)
  obtain⟨h4,h5⟩:=B5h h1 (show k<n by omega) n (Nat.le_refl _)
  have e:∀i j,i<n→j<n→A0W n f (k+1) i j=min (A0W n f k i j) (A0W n f k i k+A0W n f k k j):=fun i j hi hj=>by rw[A0W,h4 i j hi hj,if_pos hi]
  refine⟨h5,fun m i j hm hi hj=>?_,fun i j hi hj=>?_⟩
  ·rw[e i j hi hj,e i m hi (by omega),e m j (by omega) hj]
   have hz:=h1.zero k (by omega)
   rcases Nat.lt_succ_iff_lt_or_eq.1 hm with h6|h6
   ·have a1:=h2 m i j h6 hi hj
    have a2:=h2 m k j h6 (by omega) hj
    have a3:=h2 m i k h6 hi (by omega)
    have a4:=h1.nn k m (by omega) (by omega)
    have a5:=h1.nn m k (by omega) (by omega)
    omega
   ·subst h6
    have a1:=h1.nn i m hi (by omega)
    omega
  ·rw[e i j hi hj]
   have:=h3 i j hi hj
   omega
theorem A9P{w:Wind}{l:List Station}(h:J3 w l=0):Met l.length (A3u w l):=
 ⟨fun i hi=>by rw[A3u,if_pos ⟨hi,hi⟩,A0i,if_pos rfl],fun i j hi hj=>(A7k h i j hi hj).1⟩
theorem B8D{w:Wind}{l:List Station}(h:J3 w l=0){i j m:Nat}(hi:i<l.length)(hj:j<l.length)(hm:m<l.length):P7 w l i j≤P7 w l i m+P7 w l m j:=
 (A8I (A9P h) l.length (Nat.le_refl _)).2.1 m i j hm hi hj
theorem B6U{w:Wind}{l:List Station}(h:J3 w l=0){i:Nat}(hi:i<l.length):P7 w l i i=0:=(A8I (A9P h) l.length (Nat.le_refl _)).1.zero i hi
end Go.Proofs.S10
namespace Go.Proofs.S10
open Tryz
open Go Go.Kx Go.Proofs.T10
def A6v(f:Nat→Int)(c:Int):Nat→Int
 |0=>c
 |n+1=>max (A6v f c n) (f n)
theorem A8G(f:Nat→Int)(c:Int):∀n,c≤A6v f c n∧∀k,k<n→f k≤A6v f c n
 |0=>⟨Int.le_refl _,fun k hk=>absurd hk (Nat.not_lt_zero _)⟩
 |n+1=>by
  obtain⟨h1,h2⟩:=A8G f c n
  rw[A6v]
  refine⟨by omega,fun k hk=>?_⟩
  rcases Nat.lt_succ_iff_lt_or_eq.1 hk with h|h
  ·have:=h2 k h;omega
  ·subst h;omega
theorem B4c{f:Nat→Int}{c d:Int}(hc:c≤d):∀n,(∀k,k<n→f k≤d)→A6v f c n≤d
 |0,_=>hc
 |n+1,h=>by
  have h1:=B4c hc n (fun k hk=>h k (by omega))
  have h2:=h n (by omega)
  rw[A6v];omega
structure TT(n:Nat)(t:Nat→Nat→Int):Prop where
 nn:∀i j,i<n→j<n→0≤t i j
 zero:∀i,i<n→t i i=0
 tri:∀i j m,i<n→j<n→m<n→t i j≤t i m+t m j
theorem B3r{w:Wind}{l:List Station}(h:J3 w l=0):TT l.length (P7 w l):=
 ⟨fun i j hi hj=>(B1S h i j hi hj).1,fun _ hi=>B6U h hi,fun _ _ _ hi hj hm=>B8D h hi hj hm⟩
def xF(lo:Nat→Int)(t:Nat→Nat→Int)(n i:Nat):Int:=A6v (fun k=>lo k-t k i) (lo i) n
section
variable{lo:Nat→Int}{t:Nat→Nat→Int}{n:Nat}
theorem C7j(i:Nat):lo i≤xF lo t n i:=(A8G _ _ n).1
theorem C2v{i k:Nat}(hk:k<n):lo k-t k i≤xF lo t n i:=(A8G (fun k=>lo k-t k i) (lo i) n).2 k hk
theorem B5T{i:Nat}{c:Int}(h0:lo i≤c)(h:∀k,k<n→lo k-t k i≤c):xF lo t n i≤c:=B4c h0 n h
theorem C3S(h:TT n t){i k:Nat}(hi:i<n)(hk:k<n):xF lo t n k-t k i≤xF lo t n i:=by
 have:xF lo t n k≤xF lo t n i+t k i:=by
  refine B5T ?_ fun j hj=>?_
  ·have:=C2v (lo:=lo) (t:=t) (i:=i) hk;omega
  ·have h1:=C2v (lo:=lo) (t:=t) (i:=i) hj
   have h2:=h.tri j i k hj hi hk
   omega
 omega
theorem C7z(h:TT n t){C:Int}(hC:∀k,k<n→lo k≤C){i:Nat}(hi:i<n):xF lo t n i≤C:=
 B5T (hC i hi) fun k hk=>by have:=hC k hk;have:=h.nn k i hk hi;omega
structure SOk(lo:Nat→Int)(t:Nat→Nat→Int)(n:Nat)(L:List Int):Prop where
 len:L.length=n
 bd:∀j,j<n→lo j≤gt L j∧gt L j≤xF lo t n j
def A3G(x:Nat→Int)(L:List Int):Nat→Nat
 |0=>0
 |n+1=>A3G x L n+(x n-gt L n).toNat
theorem A9r{x:Nat→Int}{L L':List Int}:∀n,(∀j,j<n→gt L j=gt L' j)→A3G x L n=A3G x L' n
 |0,_=>rfl
 |n+1,h=>by rw[A3G,A3G,A9r n (fun j hj=>h j (by omega)),h n (by omega)]
theorem B3K{x:Nat→Int}{L:List Int}{i:Nat}{v:Int}(hi:i<L.length)(h1:gt L i<v)(h2:v≤x i):∀n,i<n→A3G x (L.set i v) n<A3G x L n
 |0,h=>by omega
 |n+1,h=>by
  rw[A3G,A3G]
  by_cases e:i=n
  ·subst e
   have e1:A3G x (L.set i v) i=A3G x L i:=A9r i fun j hj=>by rw[U9 hi,if_neg (by omega)]
   have e2:gt (L.set i v) i=v:=by rw[U9 hi,if_pos rfl]
   rw[e1,e2];omega
  ·have:=B3K hi h1 h2 n (by omega)
   have e2:gt (L.set i v) n=gt L n:=by rw[U9 hi,if_neg e]
   rw[e2];omega
def sMu(lo:Nat→Int)(t:Nat→Nat→Int)(n:Nat)(L:List Int):Nat:=A3G (xF lo t n) L n
theorem SOk.set{L:List Int}(h:SOk lo t n L)(ht:TT n t){i k:Nat}{v:Int}(hi:i<n)(hk:k<n)(hv:v=gt L k-t k i)(hlt:gt L i<v):SOk lo t n (L.set i v)∧sMu lo t n (L.set i v)<sMu lo t n L:=by
 have h1:=(h.bd k hk).2
 have h2:=C3S (lo:=lo) ht hi hk
 have hil:i<L.length:=by rw[h.len];exact hi
 refine⟨⟨by rw[List.length_set];exact h.len,fun j hj=>?_⟩,B3K hil hlt (by omega) n hi⟩
 rw[U9 hil]
 by_cases e:i=j
 ·subst e
  rw[if_pos rfl]
  have:=(h.bd i hi).1
  omega
 ·rw[if_neg e];exact h.bd j hj
def SDn(t:Nat→Nat→Int)(n:Nat)(L:List Int)(i k:Nat):Prop:=∀a b,a<n→b<n→(a<i∨a=i∧b<k)→gt L b-t b a≤gt L a
theorem SDn.zero{L:List Int}:SDn t n L 0 0:=fun a b _ _ h=>by omega
theorem SDn.next{L:List Int}{i k:Nat}{v:Int}(h:SDn t n L i k)(hv:v=gt L k-t k i)(hn:¬gt L i<v):SDn t n L i (k+1):=fun a b ha hb hc=>by
 by_cases e:a=i∧b=k
 ·obtain⟨rfl,rfl⟩:=e;omega
 ·exact h a b ha hb (by omega)
theorem SDn.row{L:List Int}{i k:Nat}(h:SDn t n L i k)(hk:n≤k):SDn t n L (i+1) 0:=fun a b ha hb hc=>h a b ha hb (by omega)
theorem SOk.fix{L:List Int}{i:Nat}(h:SOk lo t n L)(hd:SDn t n L i 0)(hi:n≤i){j:Nat}(hj:j<n):gt L j=xF lo t n j:=by
 have h1:=h.bd j hj
 have h2:xF lo t n j≤gt L j:=B5T h1.1 fun k hk=>by
  have h3:=hd j k hj hk (by omega)
  have h4:=(h.bd k hk).1
  omega
 omega
end
def loS(l:List Station)(week:Int)(list:List Int)(k:Nat):Int:=(gt (X5 l week list) k).Lo
def xS(w:Wind)(l:List Station)(week:Int)(list:List Int)(i:Nat):Int:=xF (loS l week list) (P7 w l) l.length i
def A5Y(w:Wind)(l:List Station)(week:Int)(list:List Int):Prop:=∀i,i<l.length→xS w l week list i≤(gt (X5 l week list) i).Hi
instance(w:Wind)(l:List Station)(week:Int)(list:List Int):Decidable (A5Y w l week list):=by unfold A5Y;exact inferInstance
def A9g(w:Wind)(l:List Station)(week:Int)(list:List Int):List Int:=(List.range l.length).map (xS w l week list)
def A2z(w:Wind)(l:List Station)(week:Int)(list:List Int):List Int×Int:=
 if K3 w l week list≠0 then([],K3 w l week list)else if A5Y w l week list then(A9g w l week list,0)else([],3)
abbrev SeaOk(w:Wind)(l:List Station)(week:Int)(list:List Int)(L:List Int):Prop:=SOk (loS l week list) (P7 w l) l.length L
abbrev B6Y(w:Wind)(l:List Station)(L:List Int)(i k:Nat):Prop:=SDn (P7 w l) l.length L i k
abbrev A3V(w:Wind)(l:List Station)(week:Int)(list:List Int)(L:List Int):Nat:=sMu (loS l week list) (P7 w l) l.length L
theorem SeaOk.range{w:Wind}{l:List Station}{week:Int}{list L:List Int}(hz:K3 w l week list=0)(h:SeaOk w l week list L){j:Nat}(hj:j<l.length):0≤gt L j∧gt L j≤100000:=by
 have hb:=h.bd j hj
 have h1:=B3n hz hj
 have h2:=C7z (lo:=loS l week list) (B3r (A4v hz).1) (C:=100000) (fun k hk=>(B3n hz hk).1.2) hj
 unfold loS at*
 omega
theorem SeaOk.start{w:Wind}{l:List Station}{week:Int}{list L:List Int}(hl:L.length=l.length)(h:∀j,j<l.length→gt L j=(gt (X5 l week list) j).Lo):SeaOk w l week list L:=
 ⟨hl,fun j hj=>by rw[h j hj];exact⟨Int.le_refl _,C7j j⟩⟩
def SeaEnd(w:Wind)(l:List Station)(week:Int)(list L:List Int):Prop:=SeaOk w l week list L∧((∀j,j<l.length→gt L j=xS w l week list j)∨∃j,j<l.length∧(gt (X5 l week list) j).Hi<gt L j)
theorem SeaEnd.over{w:Wind}{l:List Station}{week:Int}{list L:List Int}(h:SeaEnd w l week list L){j:Nat}(hj:j<l.length)(hh:(gt (X5 l week list) j).Hi<gt L j):¬A5Y w l week list:=fun hf=>by
 have h1:=hf j hj
 have h2:=(h.1.bd j hj).2
 unfold xS at h1
 omega
theorem SeaEnd.all{w:Wind}{l:List Station}{week:Int}{list L:List Int}(h:SeaEnd w l week list L)(hh:∀j,j<l.length→gt L j≤(gt (X5 l week list) j).Hi):A5Y w l week list∧L=A9g w l week list:=by
 rcases h.2 with h2|⟨j,hj,h3⟩
 ·refine⟨fun i hi=>by rw[←h2 i hi];exact hh i hi,?_⟩
  refine A1D (by rw[h.1.len];simp[A9g]) fun j hj=>?_
  rw[h.1.len]at hj
  rw[A9g,S3 _ hj,h2 j hj]
 ·have:=hh j hj;omega
theorem B1W{w:Wind}{l:List Station}{week:Int}{list:List Int}(h:¬K3 w l week list=0):A2z w l week list=([],K3 w l week list):=by unfold A2z;rw[if_pos h]
theorem B2z{w:Wind}{l:List Station}{week:Int}{list:List Int}(h:K3 w l week list=0)(hf:¬A5Y w l week list):A2z w l week list=([],3):=by unfold A2z;rw[if_neg (by simp[h]),if_neg hf]
theorem B1D{w:Wind}{l:List Station}{week:Int}{list:List Int}(h:K3 w l week list=0)(hf:A5Y w l week list):A2z w l week list=(A9g w l week list,0):=by unfold A2z;rw[if_neg (by simp[h]),if_pos hf]
end Go.Proofs.S10
namespace Go.Proofs.T10
open Tryz
open Go Go.Kx
def B0U(q p:Nat):Bool:=decide (p≤8)&&(decide (q=0) || decide (2^p≤2*q))
theorem A7J{q p:Nat}(h:B0U q p=true):p≤8∧(1≤q→(2:Int)^p≤2*q):=by
 unfold B0U at h
 simp only[Bool.and_eq_true,Bool.or_eq_true,decide_eq_true_eq]at h
 refine⟨h.1,fun hq=>?_⟩
 rcases h.2 with h1|h1
 ·omega
 ·exact_mod_cast h1
theorem B0D{p:Nat}(n:Nat){x z c:Int}(hc:(2:Int)^n=c)(hp:(2:Int)^p≤2*x)(hz:x*c≤z)(h0:0≤c):(2:Int)^(n+p)≤2*z:=by
 have h1:(2:Int)^p*c≤2*x*c:=Int.mul_le_mul_of_nonneg_right hp h0
 have h2:(2:Int)^(n+p)=2^p*c:=by rw[Int.pow_add,hc,Int.mul_comm]
 have h3:2*x*c=2*(x*c):=Int.mul_assoc 2 x c
 omega
end Go.Proofs.T10
