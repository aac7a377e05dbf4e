import Derived.Test.YtooomcigmleneaaGreatT10KWalk2
import Derived.Test.YtooomcigmleneaaGreatKxJ
import Derived.Test.YtooomcigmleneaaGreatKxL
import Derived.Test.YtooomcigmleneaaGreatT10Set
set_option linter.all false
namespace Go.Proofs.S10
open Tryz
open Go Go.Kx Go.Proofs.T10
def A1X(k i j:Nat)(f:Nat→Nat→Int):Nat→Nat→Int:=fun a b=>if a=i∧b=j then min (f i j) (f i k+f k j)else f a b
def A9o(k i:Nat)(f:Nat→Nat→Int):Nat→Nat→Nat→Int
 |0=>f
 |j+1=>A1X k i j (A9o k i f j)
def A5n(n k:Nat)(f:Nat→Nat→Int):Nat→Nat→Nat→Int
 |0=>f
 |i+1=>A9o k i (A5n n k f i) n
def A0Z(n:Nat)(f:Nat→Nat→Int):Nat→Nat→Nat→Int
 |0=>f
 |k+1=>A5n n k (A0Z n f k) n
def InB(n:Nat)(C:Int)(f:Nat→Nat→Int):Prop:=∀a b,a<n→b<n→0≤f a b∧f a b≤C
theorem InB.step{n:Nat}{C:Int}{f:Nat→Nat→Int}(h:InB n C f){k i j:Nat}(hk:k<n)(hi:i<n)(hj:j<n):InB n C (A1X k i j f):=by
 intro a b ha hb
 unfold A1X
 split
 ·have h1:=h i j hi hj;have h2:=h i k hi hk;have h3:=h k j hk hj;omega
 ·exact h a b ha hb
theorem InB.row{n:Nat}{C:Int}{f:Nat→Nat→Int}(h:InB n C f){k i:Nat}(hk:k<n)(hi:i<n):∀j,j≤n→InB n C (A9o k i f j)
 |0,_=>h
 |j+1,hj=>(InB.row h hk hi j (by omega)).step hk hi (by omega)
theorem InB.lay{n:Nat}{C:Int}{f:Nat→Nat→Int}(h:InB n C f){k:Nat}(hk:k<n):∀i,i≤n→InB n C (A5n n k f i)
 |0,_=>h
 |i+1,hi=>(InB.lay h hk i (by omega)).row hk (by omega) n (Nat.le_refl _)
theorem InB.all{n:Nat}{C:Int}{f:Nat→Nat→Int}(h:InB n C f):∀k,k≤n→InB n C (A0Z n f k)
 |0,_=>h
 |k+1,hk=>(InB.all h k (by omega)).lay (by omega) n (Nat.le_refl _)
theorem V3{α:Type}[Inhabited α]{L:List α}{i j:Nat}{x:α}(hi:i<L.length):gt (L.set i x) j=if i=j then x else gt L j:=by
 unfold gt
 rw[List.getD_eq_getElem?_getD,List.getD_eq_getElem?_getD,List.getElem?_set]
 by_cases h:i=j
 ·subst h;simp[hi]
 ·simp[h]
def Mat(L:List Int)(f:Nat→Nat→Int):Prop:=L.length=1024∧∀a b,a<32→b<32→gt L (a*32+b)=f a b
theorem Mat.set{L:List Int}{f:Nat→Nat→Int}(h:Mat L f){i j:Nat}(hi:i<32)(hj:j<32)(x:Int):Mat (L.set (i*32+j) x) (fun a b=>if a=i∧b=j then x else f a b):=by
 refine⟨by rw[List.length_set];exact h.1,fun a b ha hb=>?_⟩
 rw[V3 (by rw[h.1];omega)]
 by_cases e:a=i∧b=j
 ·obtain⟨rfl,rfl⟩:=e;simp
 ·dsimp only;rw[if_neg (by omega),if_neg e];exact h.2 a b ha hb
theorem Mat.gt{L:List Int}{f:Nat→Nat→Int}(h:Mat L f){a b:Nat}(ha:a<32)(hb:b<32):Kx.gt L (a*32+b)=f a b:=h.2 a b ha hb
theorem Mat.congr{L:List Int}{f g:Nat→Nat→Int}(h:Mat L f)(hg:∀a b,a<32→b<32→f a b=g a b):Mat L g:=⟨h.1,fun a b ha hb=>by rw[h.2 a b ha hb,hg a b ha hb]⟩
structure Reg where
 B:List Int
 W:Wind
 L:List Station
 deriving DecidableEq,Inhabited
instance:Enc Reg where
 sz:=1027
 pos:=by decide
 rd m vs x:=∃v:Value,x.B.length=1024∧vs=P6 x.B++[J x.W.Fixed,J x.W.Each,v]∧Sl m v x.L
 len h:=by obtain⟨v,h1,rfl,_⟩:=h;simp[A4A,h1]
 mono hm h:=by obtain⟨v,h1,h2,h3⟩:=h;exact⟨v,h1,h2,h3.mono hm⟩
 one h:=by
  obtain⟨v,h1,rfl,h3⟩:=h
  intro u hu
  rcases List.mem_append.1 hu with hu|hu
  ·obtain⟨x,_,rfl⟩:=List.mem_map.1 hu;rfl
  ·simp at hu
   rcases hu with rfl|rfl|rfl
   ·rfl
   ·rfl
   ·exact h3.one
theorem B8f{m:Mem}{p:Addr}{us vs:List Value}(h:Cells m p (us++vs)):Cells m p us:=by
 obtain⟨h0,cs,T,fz,h1,h2⟩:=h
 exact⟨h0,cs,T,fz,h1,fun j v hj=>h2 j v (by rw[List.getElem?_append_left (List.getElem?_eq_some_iff.1 hj).1];exact hj)⟩
theorem Cells.post{m:Mem}{p:Addr}{us vs ws:List Value}{n:Nat}(h:Cells m p (us++(vs++ws)))(hn:us.length=n):Cells m (p.add n) vs:=by
 obtain⟨h0,cs,T,fz,h1,h2⟩:=h
 rw[B9 h0]
 exact⟨rfl,cs,T,fz,h1,fun j v hj=>by
  have:=h2 (n+j) v (by rw[List.getElem?_append_right (by omega),hn,Nat.add_sub_cancel_left,List.getElem?_append_left (List.getElem?_eq_some_iff.1 hj).1];exact hj)
  rw[←Nat.add_assoc]at this;exact this⟩
theorem C1g{m:Mem}{p:Addr}{x:Reg}(h:At m p x):Cells m p (P6 x.B):=by
 obtain⟨vs,⟨v,h1,rfl,h3⟩,hc⟩:=h
 exact B8f hc
def J3(w:Wind)(l:List Station):Int:=if(H8 l).1≠0 then(H8 l).1 else A1z w
theorem K0{w:Wind}{l:List Station}(h:J3 w l=0):(H8 l).1=0∧A1z w=0:=by
 unfold J3 at h;split at h
 ·rename_i h1;exact absurd h h1
 ·rename_i h1;exact⟨Decidable.of_not_not h1,h⟩
def A3q(w:Wind)(l:List Station)(a b:Nat):Int:=if a<l.length∧b<l.length then A0p w (gt l a) (gt l b)else 0
def P2(w:Wind)(l:List Station):Nat→Nat→Int:=A0Z l.length (A3q w l) l.length
def A4v(w:Wind)(l:List Station):List Int:=(List.range 1024).map fun p=>P2 w l (p/32) (p%32)
def B7q(w:Wind)(l:List Station):Reg:=⟨A4v w l,w,l⟩
theorem R6{l:List Station}(h:(H8 l).1=0){k:Nat}(hk:k<l.length):H5 (gt l k)∧Z3 (gt l k).Heights:=
 ⟨(A6e ((A0c h).2 k hk)).1,(A6e ((A0c h).2 k hk)).2.2⟩
theorem B8V{w:Wind}{a b:Station}(hw:A1z w=0)(ha:H5 a)(hb:H5 b):0≤A0p w a b∧A0p w a b≤1000000000:=by
 have h1:=B5D hw ha hb
 have h2:=A5O hw
 unfold A0p;split <;> omega
theorem A6S{w:Wind}{l:List Station}(h:J3 w l=0):InB l.length 1000000000 (A3q w l):=by
 intro a b ha hb
 have hz:=K0 h
 rw[A3q,if_pos ⟨ha,hb⟩]
 exact B8V hz.2 (R6 hz.1 ha).1 (R6 hz.1 hb).1
theorem B1q{w:Wind}{l:List Station}(h:J3 w l=0):InB l.length 1000000000 (P2 w l):=(A6S h).all _ (Nat.le_refl _)
theorem A6x(w:Wind)(l:List Station):Mat (A4v w l) (P2 w l):=by
 refine⟨by simp[A4v],fun a b ha hb=>?_⟩
 have h1:a*32+b<1024:=by omega
 have h2:(a*32+b)/32=a:=by omega
 have h3:(a*32+b)%32=b:=by omega
 simp[A4v,gt,h1,h2,h3]
attribute [irreducible] A4v
theorem Mat.eq_reg{L:List Int}{w:Wind}{l:List Station}(h:Mat L (P2 w l)):L=A4v w l:=by
 apply A1P (by rw[h.1,(A6x w l).1])
 intro j hj
 rw[h.1]at hj
 have h1:=h.2 (j/32) (j%32) (by omega) (by omega)
 have h2:=(A6x w l).2 (j/32) (j%32) (by omega) (by omega)
 rw[show j/32*32+j%32=j by omega]at h1 h2
 rw[h1,h2]
def sqL(n:Nat)(f:Nat→Nat→Int):List (List Int):=(List.range n).map fun i=>(List.range n).map fun k=>f i k
theorem S6{α:Type}[Inhabited α]{n i:Nat}(f:Nat→α)(h:i<n):gt ((List.range n).map f) i=f i:=by simp[gt,h]
theorem A8F{α:Type}(k:Nat)(f:Nat→α):(List.range k).map f++[f k]=(List.range (k+1)).map f:=by rw[List.range_succ,List.map_append];rfl
theorem Mat.bd{L:List Int}{f:Nat→Nat→Int}{n:Nat}{C:Int}(h:Mat L f)(hn:n≤32)(hB:InB n C f){a b:Nat}(ha:a<n)(hb:b<n):0≤Kx.gt L (0+a*32+b*1)∧Kx.gt L (0+a*32+b*1)≤C:=by
 have:=hB a b ha hb
 rw[show 0+a*32+b*1=a*32+b by omega,h.2 a b (by omega) (by omega)];exact this
theorem B6C{L:List Int}{f:Nat→Nat→Int}{k i j:Nat}(h:Mat L f)(hk:k<32)(hi:i<32)(hj:j<32):
 Mat (L.set (0+i*32+j*1) (min (gt L (0+i*32+j*1)) (gt L (0+i*32+k*1)+gt L (0+k*32+j*1)))) (A1X k i j f):=by
 have e:∀a b,0+a*32+b*1=a*32+b:=fun a b=>by omega
 rw[e,e,e,h.2 i j hi hj,h.2 i k hi hk,h.2 k j hk hj]
 exact h.set hi hj _
def A1W(w:Wind)(l:List Station)(i k:Nat)(a b:Nat):Int:=if(a<i∨(a=i∧b<k))∧b<l.length then A0p w (gt l a) (gt l b)else 0
theorem C6d(n k:Nat):gt (List.replicate n (0:Int)) k=0:=by
 unfold gt
 rw[List.getD_eq_getElem?_getD,List.getElem?_replicate]
 split <;> rfl
theorem B8N(w:Wind)(l:List Station):Mat (List.replicate 1024 0) (A1W w l 0 0):=by
 refine⟨List.length_replicate,fun a b ha hb=>?_⟩
 rw[A1W,if_neg (by omega),C6d]
theorem B8O{L:List Int}{w:Wind}{l:List Station}{i k:Nat}(h:Mat L (A1W w l i k))(hi:i<32)(hk:k<32)(hkl:k<l.length):
 Mat (L.set (0+i*32+k*1) (A0p w (gt l i) (gt l k))) (A1W w l i (k+1)):=by
 rw[show 0+i*32+k*1=i*32+k by omega]
 refine(h.set hi hk _).congr fun a b ha hb=>?_
 unfold A1W
 by_cases e:a=i∧b=k
 ·obtain⟨rfl,rfl⟩:=e;rw[if_pos ⟨rfl,rfl⟩,if_pos (by omega)]
 ·rw[if_neg e]
  by_cases e2:(a<i∨(a=i∧b<k))∧b<l.length
  ·rw[if_pos e2,if_pos (by omega)]
  ·rw[if_neg e2,if_neg (by omega)]
theorem C1u{L:List Int}{w:Wind}{l:List Station}{i k:Nat}(h:Mat L (A1W w l i k))(hk:l.length≤k):Mat L (A1W w l (i+1) 0):=
 h.congr fun a b _ _=>by
  unfold A1W
  by_cases e2:(a<i∨(a=i∧b<k))∧b<l.length
  ·rw[if_pos e2,if_pos (by omega)]
  ·rw[if_neg e2,if_neg (by omega)]
theorem C1A{L:List Int}{w:Wind}{l:List Station}{i:Nat}(h:Mat L (A1W w l i 0))(hi:i=l.length):Mat L (A3q w l):=
 h.congr fun a b _ _=>by
  subst hi
  unfold A1W A3q
  by_cases e2:(a<l.length∨(a=l.length∧b<0))∧b<l.length
  ·rw[if_pos e2,if_pos (by omega)]
  ·rw[if_neg e2,if_neg (by omega)]
theorem B9h{w:Wind}{l:List Station}(h1:(H8 l).1=0)(h2:A1z w=0):J3 w l=0:=by unfold J3;rw[if_neg (by simp[h1])];exact h2
theorem C0F(A:List Int)(hA:A.length=1024)(a b c f e v:Value)(hv:v.cells=#[v]):Instr.fill (fun i=>#[(0,1024),(1024,2),(1026,1)][i]?) (P6 A++[a,b,c]).toArray [(1,.agg #[f,e]),(2,v)]=some (P6 A++[f,e,v]).toArray:=by
 have hl:=A4A A
 simp only[Instr.fill,hv]
 simp[Value.cells,hl,hA]
theorem C4x(f e v:Value)(hv:v.cells=#[v]):Instr.fill (fun i=>#[(0,1024),(1024,2),(1026,1)][i]?) (Value.agg (P6 (List.replicate 1024 0)++[Value.int .i64 0,Value.int .i64 0,Value.slice none 0 0]).toArray).cells [(1,.agg #[f,e]),(2,v)]=some (P6 (List.replicate 1024 0)++[f,e,v]).toArray:=
 C0F _ List.length_replicate _ _ _ f e v hv
def MatL(n:Nat)(M:List (List Int))(f:Nat→Nat→Int):Prop:=M.length=n∧(∀i,i<n→(gt M i).length=n)∧∀i k,i<n→k<n→gt (gt M i) k=f i k
theorem C4e(n:Nat)(f:Nat→Nat→Int):MatL n (sqL n f) f:=
 ⟨by simp[sqL],fun i hi=>by rw[sqL,S6 _ hi];simp,fun i k hi hk=>by rw[sqL,S6 _ hi,S6 _ hk]⟩
theorem MatL.eq{n:Nat}{M:List (List Int)}{f:Nat→Nat→Int}(h:MatL n M f):M=sqL n f:=by
 have h2:=C4e n f
 refine A1P (by rw[h.1,h2.1]) fun i hi=>?_
 rw[h.1]at hi
 refine A1P (by rw[h.2.1 i hi,h2.2.1 i hi]) fun k hk=>?_
 rw[h.2.1 i hi]at hk
 rw[h.2.2 i k hi hk,h2.2.2 i k hi hk]
theorem MatL.set{n:Nat}{M:List (List Int)}{f:Nat→Nat→Int}(h:MatL n M f){i j:Nat}(hi:i<n)(hj:j<n)(x:Int):MatL n (M.set i ((gt M i).set j x)) (fun a b=>if a=i∧b=j then x else f a b):=by
 refine⟨by rw[List.length_set];exact h.1,fun a ha=>?_,fun a b ha hb=>?_⟩
 ·rw[V3 (by rw[h.1];exact hi)]
  split
  ·rw[List.length_set];exact h.2.1 i hi
  ·exact h.2.1 a ha
 ·rw[V3 (by rw[h.1];exact hi)]
  by_cases e:i=a
  ·subst e
   rw[if_pos rfl,V3 (by rw[h.2.1 i hi];exact hj)]
   by_cases e2:j=b
   ·subst e2;simp
   ·rw[if_neg e2];dsimp only;rw[if_neg (by omega)];exact h.2.2 i b ha hb
  ·rw[if_neg e];dsimp only;rw[if_neg (by omega)];exact h.2.2 a b ha hb
theorem MatL.bd{n:Nat}{M:List (List Int)}{f:Nat→Nat→Int}{C:Int}(h:MatL n M f)(hB:InB n C f){a b:Nat}(ha:a<n)(hb:b<n):0≤gt (gt M a) b∧gt (gt M a) b≤C:=by
 rw[h.2.2 a b ha hb];exact hB a b ha hb
theorem C6f{m:Mem}{L:List Int}{w:Wind}{l:List Station}{v:Value}(h1:L.length=1024)(h2:Sl m v l):Enc.rd m (P6 L++[J w.Fixed,J w.Each,v]) (⟨L,w,l⟩:Reg):=⟨v,h1,rfl,h2⟩
theorem C5f{m:Mem}{p:Addr}{L:List Int}{w:Wind}{l:List Station}(h:At m p (⟨L,w,l⟩:Reg))(hM:Mat L (P2 w l)):At m p (B7q w l):=by
 rw[hM.eq_reg]at h;exact h
theorem C7M(w:World):(zeroValue 323).run prog w= .ok (Value.agg (P6 (List.replicate 1024 0)++[Value.int .i64 0,Value.int .i64 0,Value.slice none 0 0]).toArray) w:=
 (zeroValue323 w).trans (by kernel_rfl)
end Go.Proofs.S10
namespace Go.Proofs.S10
open Tryz
open Go Go.Kx Go.Proofs.T10
def B6l(w:Wind)(l:List Station)(b i k:Nat):Prop:=i≠k∧A3q w l i k+P2 w l k b=P2 w l i b
instance(w:Wind)(l:List Station)(b i k:Nat):Decidable (B6l w l b i k):=by unfold B6l;exact inferInstance
def B8v(w:Wind)(l:List Station)(b:Nat):Nat→Nat→Bool
 |0,i=>decide (i=b)
 |m+1,i=>(List.range l.length).any fun k=>decide (B6l w l b i k)&&B8v w l b m k
theorem C4i{w:Wind}{l:List Station}{a b:Nat}(ha:a<32)(hb:b<32):gt (A4v w l) (0+a*32+b*1)=P2 w l a b:=by
 rw[show 0+a*32+b*1=a*32+b by omega];exact(A6x w l).2 a b ha hb
def Half(w:Wind)(l:List Station)(b j i:Nat)(L:List Bool):Prop:=L.length=l.length∧∀x,x<l.length→gt L x=(decide (x<i)&&B8v w l b (j+1) x)
structure WEnv(w:Wind)(l:List Station)(b lo:Nat){S:Type}(HS:S→List Ent)(I Ix:Nat→Mem→S→Prop)(Ok:Prop)(P0:List Int)(pb py prr pf pr:Addr)(m:Mem):Prop where
 reg:At m pr (B7q w l)
 ok:J3 w l=0
 hb:b<l.length
 cb:At m pb (b:Int)
 cy:Cells m py [.func (.yield lo) #[] #[]]
 cr:Cells m prr [.pointer (some pr)]
 cf:Cells m pf [.func (.func 101) #[] [.pointer (some pb),.pointer (some py),.pointer (some prr),.pointer (some pf)].toArray]
 yield:Ok→∀m1 s args,m.le m1→(∃v,args=#[v]∧Sl m1 v P0)→I 0 m1 s→A8b prog lo args m1 (HS s) (fun m' H'=>m1.le m'∧∃s',H'=HS s'∧I 1 m' s') (fun m' H'=>m1.le m'∧∃s',H'=HS s'∧Ix 1 m' s')
 once:∀i m' s,¬I (i+1) m' s
 mono:∀i m1 m2 s,m1.le m2→I i m1 s→I i m2 s
theorem WEnv.up{w:Wind}{l:List Station}{b lo:Nat}{S:Type}{HS:S→List Ent}{I Ix:Nat→Mem→S→Prop}{Ok:Prop}{P0:List Int}{pb py prr pf pr:Addr}{m m2:Mem}(h:WEnv w l b lo HS I Ix Ok P0 pb py prr pf pr m)(hm:m.le m2):WEnv w l b lo HS I Ix Ok P0 pb py prr pf pr m2:=
 ⟨h.reg.mono hm,h.ok,h.hb,h.cb.mono hm,h.cy.mono hm,h.cr.mono hm,h.cf.mono hm,fun ho m1 s args hle=>h.yield ho m1 s args (Mem.le_trans hm hle),h.once,h.mono⟩
theorem B9O{h a b:Int}(hh:0≤h)(_ha:0≤a)(hab:a<b):A0n a h<A0n b h:=by
 unfold A0n
 have h1:a*h≤b*h:=Int.mul_le_mul_of_nonneg_right (by omega) hh
 have h2:a*h/8000≤b*h/8000:=Int.ediv_le_ediv (by omega) h1
 omega
theorem B5w{h a b:Int}(hh:0≤h)(ha:0≤a)(hab:a≤b):A0n a h≤A0n b h:=by
 rcases Int.lt_or_eq_of_le hab with h1|h1
 ·exact Int.le_of_lt (B9O hh ha h1)
 ·subst h1;exact Int.le_refl _
def B5J(level h:Int):Nat→Nat→Int
 |0,_=> -1
 |n+1,k=>if A0n k h=level then k else B5J level h n (k+1)
attribute [irreducible] B5J
def A2V(s:Station)(week:Int):Nat→Span
 |0=>(gt s.Heights 0).Metres
 |n+1=>if(gt s.Heights n).Week≤week then(gt s.Heights n).Metres else A2V s week n
def O8(s:Station)(week:Int):Span:=A2V s week s.Heights.length
def B4c(L:List Height):Prop:=∀i,0<i→i<L.length→(gt L (i-1)).Week<(gt L i).Week
theorem A1f{L:List Height}(h:B4c L):∀{i j:Nat},i<j→j<L.length→(gt L i).Week<(gt L j).Week
 |i,0,h1,_=>by omega
 |i,j+1,h1,h2=>by
  have h3:=h (j+1) (by omega) h2
  rw[Nat.add_sub_cancel]at h3
  rcases Nat.lt_succ_iff_lt_or_eq.1 h1 with h4|h4
  ·have:=A1f h h4 (by omega);omega
  ·subst h4;exact h3
def A3Q(L:List Height)(week:Int):Nat→Nat→Nat
 |0,i=>i
 |n+1,i=>if(gt L i).Week<week then A3Q L week n (i+1)else i
def A6j(L:List Height)(week:Int):Nat:=A3Q L week L.length 0
theorem B5U{L:List Height}{week:Int}:∀{n i k:Nat},i≤k→k≤i+n→(∀j,i≤j→j<k→(gt L j).Week<week)→(k<i+n→week≤(gt L k).Week)→A3Q L week n i=k
 |0,i,k,h1,h2,_,_=>by rw[A3Q];omega
 |n+1,i,k,h1,h2,h3,h4=>by
  rw[A3Q]
  by_cases e:i=k
  ·subst e;rw[if_neg (by have:=h4 (by omega);omega)]
  ·rw[if_pos (h3 i (Nat.le_refl _) (by omega))]
   exact B5U (by omega) (by omega) (fun j hj=>h3 j (by omega)) (fun hk=>h4 (by omega))
theorem B5E{L:List Height}{week:Int}{k:Nat}(hk:k≤L.length)(h1:∀j,j<k→(gt L j).Week<week)(h2:k<L.length→week≤(gt L k).Week):A6j L week=k:=
 B5U (Nat.zero_le _) (by omega) (fun j _ hj=>h1 j hj) (fun h=>h2 (by omega))
theorem B1T{x y:Int}:S7 x y=0↔x=y:=by unfold S7;split <;> (try split) <;> omega
theorem B1E{L:List Height}{week:Int}:∀(n i:Nat),i≤A3Q L week n i∧A3Q L week n i≤i+n∧(∀j,i≤j→j<A3Q L week n i→(gt L j).Week<week)∧(A3Q L week n i<i+n→week≤(gt L (A3Q L week n i)).Week)
 |0,i=>by rw[A3Q];exact⟨Nat.le_refl _,Nat.le_refl _,fun j h1 h2=>by omega,fun h=>by omega⟩
 |n+1,i=>by
  rw[A3Q]
  split
  ·rename_i h
   obtain⟨h1,h2,h3,h4⟩:=B1E (L:=L) (week:=week) n (i+1)
   refine⟨by omega,by omega,fun j h5 h6=>?_,fun h5=>h4 (by omega)⟩
   rcases Nat.lt_or_ge i j with h7|h7
   ·exact h3 j (by omega) h6
   ·have:j=i:=by omega
    subst this;exact h
  ·rename_i h
   exact⟨Nat.le_refl _,by omega,fun j h1 h2=>by omega,fun _=>by omega⟩
theorem B8l{L:List Height}{week:Int}{k:Nat}(h:A6j L week=k):k≤L.length∧(∀j,j<k→(gt L j).Week<week)∧(k<L.length→week≤(gt L k).Week):=by
 obtain⟨_,h2,h3,h4⟩:=B1E (L:=L) (week:=week) L.length 0
 unfold A6j at h
 rw[h]at h2 h3 h4
 exact⟨by omega,fun j hj=>h3 j (Nat.zero_le _) hj,fun hk=>h4 (by omega)⟩
theorem A3P{L:List Height}(h:Z3 L):B4c L:=fun i h1 h2=>(h.2 i h2).2.1 h1
theorem A6F{s:Station}{week:Int}{k:Nat}(hy:(gt s.Heights k).Week≤week):∀n,k<n→(∀j,k<j→j<n→week<(gt s.Heights j).Week)→A2V s week n=(gt s.Heights k).Metres
 |0,h,_=>by omega
 |n+1,h,hno=>by
  rw[A2V]
  by_cases e:k=n
  ·subst e;rw[if_pos hy]
  ·rw[if_neg (by have:=hno n (by omega) (by omega);omega)]
   exact A6F hy n (by omega) (fun j h1 h2=>hno j h1 (by omega))
theorem A7p{s:Station}{week:Int}{k:Nat}(hs:Z3 s.Heights)(hk:k<s.Heights.length)(hw:(gt s.Heights k).Week=week):O8 s week=(gt s.Heights k).Metres:=
 A6F (by omega) _ hk (fun j h1 h2=>by have:=A1f (A3P hs) h1 h2;omega)
theorem A6P{s:Station}{week:Int}{k:Nat}(hs:Z3 s.Heights)(h0:0<k)(hk:k≤s.Heights.length)(h1:(gt s.Heights (k-1)).Week<week)(h2:k<s.Heights.length→week<(gt s.Heights k).Week):O8 s week=(gt s.Heights (k-1)).Metres:=
 A6F (by omega) _ (by omega) (fun j h3 h4=>by
  have h5:=h2 (by omega)
  rcases Nat.lt_or_ge k j with h6|h6
  ·have:=A1f (A3P hs) h6 h4;omega
  ·have:j=k:=by omega
   subst this;exact h5)
theorem A9P{s:Station}{week:Int}(hs:Z3 s.Heights):∀n,n≤s.Heights.length→A3F (A2V s week n)
 |0,_=>by have h1:=hs.1;have:=hs.2 0 (by omega);unfold A0Y at this;rw[A2V];unfold A3F;omega
 |n+1,h=>by
  rw[A2V]
  split
  ·have:=hs.2 n (by omega);unfold A0Y at this;unfold A3F;omega
  ·exact A9P hs n (by omega)
theorem A6b{s:Station}{week:Int}(hs:Z3 s.Heights):A3F (O8 s week):=A9P hs _ (Nat.le_refl _)
def A1j(list:List Int)(i:Nat):Prop:=0≤gt list i∧gt list i≤12000
instance(list:List Int)(i:Nat):Decidable (A1j list i):=by unfold A1j;exact inferInstance
def I4(w:Wind)(l:List Station)(week:Int)(list:List Int):Int:=
 if J3 w l≠0 then J3 w l else if(0≤week∧week≤10000)∧list.length=l.length then(if∀i,i<l.length→A1j list i then 0 else 1)else 1
def A6y(l:List Station)(week:Int)(list:List Int)(i:Nat):Span:=C2A (gt list i) (O8 (gt l i) week)
def N0(l:List Station)(week:Int)(list:List Int):List Span:=(List.range l.length).map (A6y l week list)
def T1(w:Wind)(l:List Station)(week:Int)(list:List Int):List Span:=if I4 w l week list=0 then N0 l week list else[]
theorem A1g{w:Wind}{l:List Station}{week:Int}{list:List Int}(h:I4 w l week list=0):J3 w l=0∧(0≤week∧week≤10000)∧list.length=l.length∧∀i,i<l.length→A1j list i:=by
 unfold I4 at h
 split at h
 ·rename_i h1;exact absurd h h1
 ·rename_i h1
  split at h
  ·rename_i h2
   split at h
   ·rename_i h3;exact⟨Decidable.of_not_not h1,h2.1,h2.2,h3⟩
   ·cases h
  ·cases h
theorem A3e{w:Wind}{l:List Station}{week:Int}{list:List Int}(h:¬J3 w l=0):I4 w l week list=J3 w l:=by unfold I4;rw[if_pos h]
theorem A3h{w:Wind}{l:List Station}{week:Int}{list:List Int}(h:J3 w l=0)(h2:¬((0≤week∧week≤10000)∧list.length=l.length)):I4 w l week list=1:=by unfold I4;rw[if_neg (by simp[h]),if_neg h2]
theorem A3o{w:Wind}{l:List Station}{week:Int}{list:List Int}{i:Nat}(h:J3 w l=0)(hi:i<l.length)(hb:¬A1j list i):I4 w l week list=1:=by
 unfold I4
 rw[if_neg (by simp[h])]
 split
 ·rw[if_neg (fun hh=>hb (hh i hi))]
 ·rfl
theorem B0q{w:Wind}{l:List Station}{week:Int}{list:List Int}(h:J3 w l=0)(h1:0≤week∧week≤10000)(h2:list.length=l.length)(h3:∀i,i<l.length→A1j list i):I4 w l week list=0:=by
 unfold I4;rw[if_neg (by simp[h]),if_pos ⟨h1,h2⟩,if_pos h3]
def B9i(w:Wind)(l:List Station)(S:List Span)(i k:Nat):Prop:=P2 w l i k<max ((gt S k).Lo-(gt S i).Hi) ((gt S i).Lo-(gt S k).Hi)
instance(w:Wind)(l:List Station)(S:List Span)(i k:Nat):Decidable (B9i w l S i k):=by unfold B9i;exact inferInstance
theorem B3U{w:Wind}{l:List Station}{week:Int}{list:List Int}(h:I4 w l week list=0){i:Nat}(hi:i<l.length):
 (0≤(gt (N0 l week list) i).Lo∧(gt (N0 l week list) i).Lo≤100000)∧(0≤(gt (N0 l week list) i).Hi∧(gt (N0 l week list) i).Hi≤100000):=by
 have hz:=A1g h
 have h1:=hz.2.2.2 i hi
 have h2:=A6b (week:=week) (R6 (K0 hz.1).1 hi).2
 unfold A1j at h1
 have h3:=h2.1
 have h4:=h2.2
 have h5:=B0A (l:=gt list i) (h:=(O8 (gt l i) week).Lo) (by omega) (by omega)
 have h6:=B0A (l:=gt list i) (h:=(O8 (gt l i) week).Hi) (by omega) (by omega)
 rw[N0,S6 _ hi,A6y,C2A]
 unfold A0n
 dsimp only
 omega
theorem C0W{α:Type}:∀{l:List α},l.length=1→∃x,l=[x]
 | [x],_=>⟨x,rfl⟩
end Go.Proofs.S10
namespace Go.Proofs.S10
open Tryz
open Go Go.Kx Go.Proofs.T10
structure Met(n:Nat)(f:Nat→Nat→Int):Prop where
 zero:∀i,i<n→f i i=0
 nn:∀i j,i<n→j<n→0≤f i j
theorem B5h{n k i:Nat}{f:Nat→Nat→Int}(h:Met n f)(hk:k<n)(hi:i<n):∀j,j≤n→∀a b,a<n→b<n→A9o k i f j a b=if a=i∧b<j then min (f i b) (f i k+f k b)else f a b
 |0,_,a,b,_,_=>by rw[A9o,if_neg (by omega)]
 |j+1,hj,a,b,ha,hb=>by
  have ih:=B5h h hk hi j (by omega)
  rw[A9o,A1X]
  by_cases e:a=i∧b=j
  ·obtain⟨rfl,rfl⟩:=e
   rw[if_pos ⟨rfl,rfl⟩,if_pos (by omega),ih a b ha hb,ih a k ha hk,ih k b hk hb,if_neg (by omega)]
   have hz:=h.zero k hk
   by_cases e1:a=k
   ·subst e1
    split <;> omega
   ·rw[if_neg (show¬(k=a∧b<b) by omega)]
    by_cases e2:k<b
    ·rw[if_pos ⟨rfl,e2⟩];omega
    ·rw[if_neg (by omega)]
  ·rw[if_neg e,ih a b ha hb]
   by_cases e2:a=i∧b<j
   ·rw[if_pos e2,if_pos (by omega)]
   ·rw[if_neg e2,if_neg (by omega)]
theorem B6c{n k:Nat}{f:Nat→Nat→Int}(h:Met n f)(hk:k<n):∀i,i≤n→(∀a b,a<n→b<n→A5n n k f i a b=if a<i then min (f a b) (f a k+f k b)else f a b)∧Met n (A5n n k f i)
 |0,_=>⟨fun a b _ _=>by rw[A5n,if_neg (by omega)],h⟩
 |i+1,hi=>by
  obtain⟨h1,h2⟩:=B6c h hk i (by omega)
  have h3:=B5h h2 hk (show i<n by omega) n (Nat.le_refl _)
  have key:∀a b,a<n→b<n→A5n n k f (i+1) a b=if a<i+1 then min (f a b) (f a k+f k b)else f a b:=by
   intro a b ha hb
   rw[A5n,h3 a b ha hb]
   have hz:=h.zero k hk
   have e1:=h1 a b ha hb;have e2:=h1 a k ha hk;have e3:=h1 k b hk hb
   by_cases e:a=i
   ·subst e
    rw[if_pos ⟨rfl,hb⟩,if_pos (by omega),e1,e2,e3,if_neg (by omega),if_neg (by omega)]
    split <;> omega
   ·rw[if_neg (by omega),e1]
    by_cases e4:a<i
    ·rw[if_pos e4,if_pos (by omega)]
    ·rw[if_neg e4,if_neg (by omega)]
  refine⟨key,fun a ha=>?_,fun a b ha hb=>?_⟩
  ·rw[key a a ha ha]
   have h4:=h.zero a ha;have h5:=h.nn a k ha hk;have h6:=h.nn k a hk ha
   split <;> omega
  ·rw[key a b ha hb]
   have h4:=h.nn a b ha hb;have h5:=h.nn a k ha hk;have h6:=h.nn k b hk hb
   split <;> omega
theorem A8T{n:Nat}{f:Nat→Nat→Int}(h:Met n f):∀k,k≤n→Met n (A0Z n f k)∧(∀m i j,m<k→i<n→j<n→A0Z n f k i j≤A0Z n f k i m+A0Z n f k m j)∧(∀i j,i<n→j<n→A0Z n f k i j≤f i j)
 |0,_=>⟨h,fun m i j h1=>by omega,fun i j _ _=>Int.le_refl _⟩
 |k+1,hk=>by
  obtain⟨h1,h2,h3⟩:=A8T h k (by omega)
  obtain⟨h4,h5⟩:=B6c h1 (show k<n by omega) n (Nat.le_refl _)
  have e:∀i j,i<n→j<n→A0Z n f (k+1) i j=min (A0Z n f k i j) (A0Z n f k i k+A0Z n f k k j):=fun i j hi hj=>by rw[A0Z,h4 i j hi hj,if_pos hi]
  refine⟨h5,fun m i j hm hi hj=>?_,fun i j hi hj=>?_⟩
  ·rw[e i j hi hj,e i m hi (by omega),e m j (by omega) hj]
   have hz:=h1.zero k (by omega)
   rcases Nat.lt_succ_iff_lt_or_eq.1 hm with h6|h6
   ·have a1:=h2 m i j h6 hi hj
    have a2:=h2 m k j h6 (by omega) hj
    have a3:=h2 m i k h6 hi (by omega)
    have a4:=h1.nn k m (by omega) (by omega)
    have a5:=h1.nn m k (by omega) (by omega)
    omega
   ·subst h6
    have a1:=h1.nn i m hi (by omega)
    omega
  ·rw[e i j hi hj]
   have:=h3 i j hi hj
   omega
theorem B0d{w:Wind}{l:List Station}(h:J3 w l=0):Met l.length (A3q w l):=
 ⟨fun i hi=>by rw[A3q,if_pos ⟨hi,hi⟩,A0p,if_pos rfl],fun i j hi hj=>(A6S h i j hi hj).1⟩
theorem B9j{w:Wind}{l:List Station}(h:J3 w l=0){i j m:Nat}(hi:i<l.length)(hj:j<l.length)(hm:m<l.length):P2 w l i j≤P2 w l i m+P2 w l m j:=
 (A8T (B0d h) l.length (Nat.le_refl _)).2.1 m i j hm hi hj
theorem B7e{w:Wind}{l:List Station}(h:J3 w l=0){i:Nat}(hi:i<l.length):P2 w l i i=0:=(A8T (B0d h) l.length (Nat.le_refl _)).1.zero i hi
end Go.Proofs.S10
namespace Go.Proofs.S10
open Tryz
open Go Go.Kx Go.Proofs.T10
def A6c(f:Nat→Int)(c:Int):Nat→Int
 |0=>c
 |n+1=>max (A6c f c n) (f n)
theorem A9g(f:Nat→Int)(c:Int):∀n,c≤A6c f c n∧∀k,k<n→f k≤A6c f c n
 |0=>⟨Int.le_refl _,fun k hk=>absurd hk (Nat.not_lt_zero _)⟩
 |n+1=>by
  obtain⟨h1,h2⟩:=A9g f c n
  rw[A6c]
  refine⟨by omega,fun k hk=>?_⟩
  rcases Nat.lt_succ_iff_lt_or_eq.1 hk with h|h
  ·have:=h2 k h;omega
  ·subst h;omega
theorem B3y{f:Nat→Int}{c d:Int}(hc:c≤d):∀n,(∀k,k<n→f k≤d)→A6c f c n≤d
 |0,_=>hc
 |n+1,h=>by
  have h1:=B3y hc n (fun k hk=>h k (by omega))
  have h2:=h n (by omega)
  rw[A6c];omega
structure TT(n:Nat)(t:Nat→Nat→Int):Prop where
 nn:∀i j,i<n→j<n→0≤t i j
 zero:∀i,i<n→t i i=0
 tri:∀i j m,i<n→j<n→m<n→t i j≤t i m+t m j
theorem B3q{w:Wind}{l:List Station}(h:J3 w l=0):TT l.length (P2 w l):=
 ⟨fun i j hi hj=>(B1q h i j hi hj).1,fun _ hi=>B7e h hi,fun _ _ _ hi hj hm=>B9j h hi hj hm⟩
def xF(lo:Nat→Int)(t:Nat→Nat→Int)(n i:Nat):Int:=A6c (fun k=>lo k-t k i) (lo i) n
section
variable{lo:Nat→Int}{t:Nat→Nat→Int}{n:Nat}
theorem C2G(i:Nat):lo i≤xF lo t n i:=(A9g _ _ n).1
theorem B7a{i k:Nat}(hk:k<n):lo k-t k i≤xF lo t n i:=(A9g (fun k=>lo k-t k i) (lo i) n).2 k hk
theorem B2x{i:Nat}{c:Int}(h0:lo i≤c)(h:∀k,k<n→lo k-t k i≤c):xF lo t n i≤c:=B3y h0 n h
theorem C3E(h:TT n t){i k:Nat}(hi:i<n)(hk:k<n):xF lo t n k-t k i≤xF lo t n i:=by
 have:xF lo t n k≤xF lo t n i+t k i:=by
  refine B2x ?_ fun j hj=>?_
  ·have:=B7a (lo:=lo) (t:=t) (i:=i) hk;omega
  ·have h1:=B7a (lo:=lo) (t:=t) (i:=i) hj
   have h2:=h.tri j i k hj hi hk
   omega
 omega
theorem C6T(h:TT n t){C:Int}(hC:∀k,k<n→lo k≤C){i:Nat}(hi:i<n):xF lo t n i≤C:=
 B2x (hC i hi) fun k hk=>by have:=hC k hk;have:=h.nn k i hk hi;omega
structure SOk(lo:Nat→Int)(t:Nat→Nat→Int)(n:Nat)(L:List Int):Prop where
 len:L.length=n
 bd:∀j,j<n→lo j≤gt L j∧gt L j≤xF lo t n j
def A3M(x:Nat→Int)(L:List Int):Nat→Nat
 |0=>0
 |n+1=>A3M x L n+(x n-gt L n).toNat
theorem A9D{x:Nat→Int}{L L':List Int}:∀n,(∀j,j<n→gt L j=gt L' j)→A3M x L n=A3M x L' n
 |0,_=>rfl
 |n+1,h=>by rw[A3M,A3M,A9D n (fun j hj=>h j (by omega)),h n (by omega)]
theorem B4q{x:Nat→Int}{L:List Int}{i:Nat}{v:Int}(hi:i<L.length)(h1:gt L i<v)(h2:v≤x i):∀n,i<n→A3M x (L.set i v) n<A3M x L n
 |0,h=>by omega
 |n+1,h=>by
  rw[A3M,A3M]
  by_cases e:i=n
  ·subst e
   have e1:A3M x (L.set i v) i=A3M x L i:=A9D i fun j hj=>by rw[V3 hi,if_neg (by omega)]
   have e2:gt (L.set i v) i=v:=by rw[V3 hi,if_pos rfl]
   rw[e1,e2];omega
  ·have:=B4q hi h1 h2 n (by omega)
   have e2:gt (L.set i v) n=gt L n:=by rw[V3 hi,if_neg e]
   rw[e2];omega
def sMu(lo:Nat→Int)(t:Nat→Nat→Int)(n:Nat)(L:List Int):Nat:=A3M (xF lo t n) L n
theorem SOk.set{L:List Int}(h:SOk lo t n L)(ht:TT n t){i k:Nat}{v:Int}(hi:i<n)(hk:k<n)(hv:v=gt L k-t k i)(hlt:gt L i<v):SOk lo t n (L.set i v)∧sMu lo t n (L.set i v)<sMu lo t n L:=by
 have h1:=(h.bd k hk).2
 have h2:=C3E (lo:=lo) ht hi hk
 have hil:i<L.length:=by rw[h.len];exact hi
 refine⟨⟨by rw[List.length_set];exact h.len,fun j hj=>?_⟩,B4q hil hlt (by omega) n hi⟩
 rw[V3 hil]
 by_cases e:i=j
 ·subst e
  rw[if_pos rfl]
  have:=(h.bd i hi).1
  omega
 ·rw[if_neg e];exact h.bd j hj
def SDn(t:Nat→Nat→Int)(n:Nat)(L:List Int)(i k:Nat):Prop:=∀a b,a<n→b<n→(a<i∨a=i∧b<k)→gt L b-t b a≤gt L a
theorem SDn.zero{L:List Int}:SDn t n L 0 0:=fun a b _ _ h=>by omega
theorem SDn.next{L:List Int}{i k:Nat}{v:Int}(h:SDn t n L i k)(hv:v=gt L k-t k i)(hn:¬gt L i<v):SDn t n L i (k+1):=fun a b ha hb hc=>by
 by_cases e:a=i∧b=k
 ·obtain⟨rfl,rfl⟩:=e;omega
 ·exact h a b ha hb (by omega)
theorem SDn.row{L:List Int}{i k:Nat}(h:SDn t n L i k)(hk:n≤k):SDn t n L (i+1) 0:=fun a b ha hb hc=>h a b ha hb (by omega)
theorem SOk.fix{L:List Int}{i:Nat}(h:SOk lo t n L)(hd:SDn t n L i 0)(hi:n≤i){j:Nat}(hj:j<n):gt L j=xF lo t n j:=by
 have h1:=h.bd j hj
 have h2:xF lo t n j≤gt L j:=B2x h1.1 fun k hk=>by
  have h3:=hd j k hj hk (by omega)
  have h4:=(h.bd k hk).1
  omega
 omega
end
def loS(l:List Station)(week:Int)(list:List Int)(k:Nat):Int:=(gt (N0 l week list) k).Lo
def xS(w:Wind)(l:List Station)(week:Int)(list:List Int)(i:Nat):Int:=xF (loS l week list) (P2 w l) l.length i
def A1Z(w:Wind)(l:List Station)(week:Int)(list:List Int):Prop:=∀i,i<l.length→xS w l week list i≤(gt (N0 l week list) i).Hi
instance(w:Wind)(l:List Station)(week:Int)(list:List Int):Decidable (A1Z w l week list):=by unfold A1Z;exact inferInstance
def A9J(w:Wind)(l:List Station)(week:Int)(list:List Int):List Int:=(List.range l.length).map (xS w l week list)
def A0y(w:Wind)(l:List Station)(week:Int)(list:List Int):List Int×Int:=
 if I4 w l week list≠0 then([],I4 w l week list)else if A1Z w l week list then(A9J w l week list,0)else([],3)
abbrev SeaOk(w:Wind)(l:List Station)(week:Int)(list:List Int)(L:List Int):Prop:=SOk (loS l week list) (P2 w l) l.length L
abbrev B7p(w:Wind)(l:List Station)(L:List Int)(i k:Nat):Prop:=SDn (P2 w l) l.length L i k
abbrev A4l(w:Wind)(l:List Station)(week:Int)(list:List Int)(L:List Int):Nat:=sMu (loS l week list) (P2 w l) l.length L
theorem SeaOk.range{w:Wind}{l:List Station}{week:Int}{list L:List Int}(hz:I4 w l week list=0)(h:SeaOk w l week list L){j:Nat}(hj:j<l.length):0≤gt L j∧gt L j≤100000:=by
 have hb:=h.bd j hj
 have h1:=B3U hz hj
 have h2:=C6T (lo:=loS l week list) (B3q (A1g hz).1) (C:=100000) (fun k hk=>(B3U hz hk).1.2) hj
 unfold loS at*
 omega
theorem SeaOk.start{w:Wind}{l:List Station}{week:Int}{list L:List Int}(hl:L.length=l.length)(h:∀j,j<l.length→gt L j=(gt (N0 l week list) j).Lo):SeaOk w l week list L:=
 ⟨hl,fun j hj=>by rw[h j hj];exact⟨Int.le_refl _,C2G j⟩⟩
def SeaEnd(w:Wind)(l:List Station)(week:Int)(list L:List Int):Prop:=SeaOk w l week list L∧((∀j,j<l.length→gt L j=xS w l week list j)∨∃j,j<l.length∧(gt (N0 l week list) j).Hi<gt L j)
theorem SeaEnd.over{w:Wind}{l:List Station}{week:Int}{list L:List Int}(h:SeaEnd w l week list L){j:Nat}(hj:j<l.length)(hh:(gt (N0 l week list) j).Hi<gt L j):¬A1Z w l week list:=fun hf=>by
 have h1:=hf j hj
 have h2:=(h.1.bd j hj).2
 unfold xS at h1
 omega
theorem SeaEnd.all{w:Wind}{l:List Station}{week:Int}{list L:List Int}(h:SeaEnd w l week list L)(hh:∀j,j<l.length→gt L j≤(gt (N0 l week list) j).Hi):A1Z w l week list∧L=A9J w l week list:=by
 rcases h.2 with h2|⟨j,hj,h3⟩
 ·refine⟨fun i hi=>by rw[←h2 i hi];exact hh i hi,?_⟩
  refine A1P (by rw[h.1.len];simp[A9J]) fun j hj=>?_
  rw[h.1.len]at hj
  rw[A9J,S6 _ hj,h2 j hj]
 ·have:=hh j hj;omega
theorem A7h{w:Wind}{l:List Station}{week:Int}{list:List Int}(h:¬I4 w l week list=0):A0y w l week list=([],I4 w l week list):=by unfold A0y;rw[if_pos h]
theorem A9a{w:Wind}{l:List Station}{week:Int}{list:List Int}(h:I4 w l week list=0)(hf:¬A1Z w l week list):A0y w l week list=([],3):=by unfold A0y;rw[if_neg (by simp[h]),if_neg hf]
theorem A6W{w:Wind}{l:List Station}{week:Int}{list:List Int}(h:I4 w l week list=0)(hf:A1Z w l week list):A0y w l week list=(A9J w l week list,0):=by unfold A0y;rw[if_neg (by simp[h]),if_pos hf]
end Go.Proofs.S10
namespace Go.Proofs.T10
open Tryz
open Go Go.Kx
def B1c(q p:Nat):Bool:=decide (p≤8)&&(decide (q=0) || decide (2^p≤2*q))
theorem A8a{q p:Nat}(h:B1c q p=true):p≤8∧(1≤q→(2:Int)^p≤2*q):=by
 unfold B1c at h
 simp only[Bool.and_eq_true,Bool.or_eq_true,decide_eq_true_eq]at h
 refine⟨h.1,fun hq=>?_⟩
 rcases h.2 with h1|h1
 ·omega
 ·exact_mod_cast h1
theorem B1e{p:Nat}(n:Nat){x z c:Int}(hc:(2:Int)^n=c)(hp:(2:Int)^p≤2*x)(hz:x*c≤z)(h0:0≤c):(2:Int)^(n+p)≤2*z:=by
 have h1:(2:Int)^p*c≤2*x*c:=Int.mul_le_mul_of_nonneg_right hp h0
 have h2:(2:Int)^(n+p)=2^p*c:=by rw[Int.pow_add,hc,Int.mul_comm]
 have h3:2*x*c=2*(x*c):=Int.mul_assoc 2 x c
 omega
end Go.Proofs.T10
