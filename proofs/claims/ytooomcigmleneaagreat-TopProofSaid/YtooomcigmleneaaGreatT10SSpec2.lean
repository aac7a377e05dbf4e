import Derived.Test.YtooomcigmleneaaGreatT10KSet
import Derived.Test.YtooomcigmleneaaGreatKyS
set_option linter.all false
namespace Go.Proofs.S10
open Tryz Go Go.Kx Go.Proofs.T10
section
def DG(k i j:Nat)(f:Nat→Nat→Int):Nat→Nat→Int:=fun a b=>if a=i∧b=j then min (f i j) (f i k+f k j)else f a b
def On(k i:Nat)(f:Nat→Nat→Int):Nat→Nat→Nat→Int
 |0=>f
 |j+1=>DG k i j (On k i f j)
def IJ(n k:Nat)(f:Nat→Nat→Int):Nat→Nat→Nat→Int
 |0=>f
 |i+1=>On k i (IJ n k f i) n
def V6(n:Nat)(f:Nat→Nat→Int):Nat→Nat→Nat→Int
 |0=>f
 |k+1=>IJ n k (V6 n f k) n
def InB(n:Nat)(C:Int)(f:Nat→Nat→Int):Prop:=∀a b,a<n→b<n→0≤f a b∧f a b≤C
theorem InB.step{n:Nat}{C:Int}{f:Nat→Nat→Int}(h:InB n C f){k i j:Nat}(hk:k<n)(hi:i<n)(hj:j<n):InB n C (DG k i j f):=by
 intro a b c d
 unfold DG
 split
 ·have g:=h i j hi hj;have l:=h i k hi hk;have m:=h k j hk hj;omega
 ·exact h a b c d
theorem InB.row{n:Nat}{C:Int}{f:Nat→Nat→Int}(h:InB n C f){k i:Nat}(hk:k<n)(hi:i<n):∀j,j≤n→InB n C (On k i f j)
 |0,_=>h
 |j+1,hj=>(InB.row h hk hi j (by omega)).step hk hi (by omega)
theorem InB.lay{n:Nat}{C:Int}{f:Nat→Nat→Int}(h:InB n C f){k:Nat}(hk:k<n):∀i,i≤n→InB n C (IJ n k f i)
 |0,_=>h
 |i+1,hi=>(InB.lay h hk i (by omega)).row hk (by omega) n (E' _)
theorem InB.all{n:Nat}{C:Int}{f:Nat→Nat→Int}(h:InB n C f):∀k,k≤n→InB n C (V6 n f k)
 |0,_=>h
 |k+1,hk=>(InB.all h k (by omega)).lay (by omega) n (E' _)
theorem Ac{α:Type}[Inhabited α]{L:List α}{i j:Nat}{x:α}(hi:i<L.length):gt (L.set i x) j=if i=j then x else gt L j:=by
 unfold gt
 rw[Tx,Tx,SR]
 by_cases h:i=j
 ·subst h;simp[hi]
 ·simp[h]
def Mat(L:List Int)(f:Nat→Nat→Int):Prop:=L.length=1024∧∀a b,a<32→b<32→gt L (a*32+b)=f a b
theorem Mat.set{L:List Int}{f:Nat→Nat→Int}(h:Mat L f){i j:Nat}(hi:i<32)(hj:j<32)(x:Int):Mat (L.set (i*32+j) x) (fun a b=>if a=i∧b=j then x else f a b):=by
 refine⟨by rw[I'];exact h.1,fun a b c d=>?_⟩
 rw[Ac (by rw[h.1];omega)]
 by_cases e:a=i∧b=j
 ·obtain⟨rfl,rfl⟩:=e;simp
 ·dsimp only;rw[A' (by omega),A' e];exact h.2 a b c d
theorem Mat.gt{L:List Int}{f:Nat→Nat→Int}(h:Mat L f){a b:Nat}(ha:a<32)(hb:b<32):Kx.gt L (a*32+b)=f a b:=h.2 a b ha hb
theorem B6N{L:List Int}{f g:Nat→Nat→Int}(h:Mat L f)(hg:∀a b,a<32→b<32→f a b=g a b):Mat L g:=⟨h.1,fun a b c d=>by rw[h.2 a b c d,hg a b c d]⟩
structure Reg where
 B:List Int
 W:Wind
 L:List Station
 deriving DecidableEq,Inhabited
instance:Enc Reg where
 sz:=1027
 pos:=by decide
 rd m vs x:=∃v:Value,x.B.length=1024∧vs=A0x x.B++[J x.W.Fixed,J x.W.Each,v]∧Sl m v x.L
 len h:=by obtain⟨v,b,rfl,_⟩:=h;simp[A8f,b]
 mono hm h:=by obtain⟨v,b,d,c⟩:=h;exact⟨v,b,d,c.mono hm⟩
 one h:=by
  obtain⟨v,b,rfl,c⟩:=h
  intro u a
  rcases Sa.1 a with a|a
  ·obtain⟨x,_,rfl⟩:=Sh.1 a;rfl
  ·simp at a
   rcases a with rfl|rfl|rfl
   ·rfl
   ·rfl
   ·exact c.one
theorem B6L{m:Mem}{p:Addr}{us vs:List Value}(h:Cells m p (us++vs)):Cells m p us:=by
 obtain⟨b,cs,T,fz,c,d⟩:=h
 exact⟨b,cs,T,fz,c,fun j v a=>d j v (by rw[SK (Sq.1 a).1];exact a)⟩
theorem Cells.post{m:Mem}{p:Addr}{us vs ws:List Value}{n:Nat}(h:Cells m p (us++(vs++ws)))(hn:us.length=n):Cells m (p.add n) vs:=by
 obtain⟨b,cs,T,fz,c,d⟩:=h
 rw[C9 b]
 exact⟨rfl,cs,T,fz,c,fun j v a=>by
  have:=d (n+j) v (by rw[SL (by omega),hn,Uf,SK (Sq.1 a).1];exact a)
  rw[←SX]at this;exact this⟩
def Al(w:Wind)(l:List Station):Int:=if(K3 l).1≠0 then(K3 l).1 else DF w
theorem IK{w:Wind}{l:List Station}(h:Al w l=0):(K3 l).1=0∧DF w=0:=by
 unfold Al at h;split at h
 ·rename_i h1;exact absurd h h1
 ·rename_i h1;exact⟨Su h1,h⟩
def GN(w:Wind)(l:List Station)(a b:Nat):Int:=if a<l.length∧b<l.length then IX w (gt l a) (gt l b)else 0
def Bo(w:Wind)(l:List Station):Nat→Nat→Int:=V6 l.length (GN w l) l.length
def B4d(w:Wind)(l:List Station):List Int:=(List.range 1024).map fun p=>Bo w l (p/32) (p%32)
def B7u(w:Wind)(l:List Station):Reg:=⟨B4d w l,w,l⟩
theorem CH{l:List Station}(h:(K3 l).1=0){k:Nat}(hk:k<l.length):N1 (gt l k)∧CA (gt l k).Heights:=
 ⟨(HK ((Ef h).2 k hk)).1,(HK ((Ef h).2 k hk)).2.2⟩
theorem A4U{w:Wind}{a b:Station}(hw:DF w=0)(ha:N1 a)(hb:N1 b):0≤IX w a b∧IX w a b≤1000000000:=by
 have c:=B2Q hw ha hb
 have d:=MI hw
 unfold IX;split <;> omega
theorem PY{w:Wind}{l:List Station}(h:Al w l=0):InB l.length 1000000000 (GN w l):=by
 intro a b d f
 have c:=IK h
 rw[GN,D' ⟨d,f⟩]
 exact A4U c.2 (CH c.1 d).1 (CH c.1 f).1
theorem A5C{w:Wind}{l:List Station}(h:Al w l=0):InB l.length 1000000000 (Bo w l):=(PY h).all _ (E' _)
attribute [irreducible] B4d
def sqL(n:Nat)(f:Nat→Nat→Int):List (List Int):=(List.range n).map fun i=>(List.range n).map fun k=>f i k
theorem T8{α:Type}[Inhabited α]{n i:Nat}(f:Nat→α)(h:i<n):gt ((List.range n).map f) i=f i:=by simp[gt,h]
theorem Rx{α:Type}(k:Nat)(f:Nat→α):(List.range k).map f++[f k]=(List.range (k+1)).map f:=by rw[List.range_succ,List.map_append];rfl
theorem Mat.bd{L:List Int}{f:Nat→Nat→Int}{n:Nat}{C:Int}(h:Mat L f)(hn:n≤32)(hB:InB n C f){a b:Nat}(ha:a<n)(hb:b<n):0≤Kx.gt L (0+a*32+b*1)∧Kx.gt L (0+a*32+b*1)≤C:=by
 have:=hB a b ha hb
 rw[show 0+a*32+b*1=a*32+b by omega,h.2 a b (by omega) (by omega)];exact this
def MatL(n:Nat)(M:List (List Int))(f:Nat→Nat→Int):Prop:=M.length=n∧(∀i,i<n→(gt M i).length=n)∧∀i k,i<n→k<n→gt (gt M i) k=f i k
theorem B1x(n:Nat)(f:Nat→Nat→Int):MatL n (sqL n f) f:=
 ⟨by simp[sqL],fun i hi=>by rw[sqL,T8 _ hi];simp,fun i k hi a=>by rw[sqL,T8 _ hi,T8 _ a]⟩
theorem MatL.eq{n:Nat}{M:List (List Int)}{f:Nat→Nat→Int}(h:MatL n M f):M=sqL n f:=by
 have b:=B1x n f
 refine Dy (by rw[h.1,b.1]) fun i hi=>?_
 rw[h.1]at hi
 refine Dy (by rw[h.2.1 i hi,b.2.1 i hi]) fun k a=>?_
 rw[h.2.1 i hi]at a
 rw[h.2.2 i k hi a,b.2.2 i k hi a]
theorem MatL.set{n:Nat}{M:List (List Int)}{f:Nat→Nat→Int}(h:MatL n M f){i j:Nat}(hi:i<n)(hj:j<n)(x:Int):MatL n (M.set i ((gt M i).set j x)) (fun a b=>if a=i∧b=j then x else f a b):=by
 refine⟨by rw[I'];exact h.1,fun a c=>?_,fun a b c d=>?_⟩
 ·rw[Ac (by rw[h.1];exact hi)]
  split
  ·rw[I'];exact h.2.1 i hi
  ·exact h.2.1 a c
 ·rw[Ac (by rw[h.1];exact hi)]
  by_cases e:i=a
  ·subst e
   rw[D' rfl,Ac (by rw[h.2.1 i hi];exact hj)]
   by_cases g:j=b
   ·subst g;simp
   ·rw[A' g];dsimp only;rw[A' (by omega)];exact h.2.2 i b c d
  ·rw[A' e];dsimp only;rw[A' (by omega)];exact h.2.2 a b c d
theorem MatL.bd{n:Nat}{M:List (List Int)}{f:Nat→Nat→Int}{C:Int}(h:MatL n M f)(hB:InB n C f){a b:Nat}(ha:a<n)(hb:b<n):0≤gt (gt M a) b∧gt (gt M a) b≤C:=by
 rw[h.2.2 a b ha hb];exact hB a b ha hb
end
section
def A4b(w:Wind)(l:List Station)(b i k:Nat):Prop:=i≠k∧GN w l i k+Bo w l k b=Bo w l i b
instance(w:Wind)(l:List Station)(b i k:Nat):Decidable (A4b w l b i k):=by unfold A4b;exact inferInstance
def A4O(w:Wind)(l:List Station)(b:Nat):Nat→Nat→Bool
 |0,i=>decide (i=b)
 |m+1,i=>(List.range l.length).any fun k=>decide (A4b w l b i k)&&A4O w l b m k
def Half(w:Wind)(l:List Station)(b j i:Nat)(L:List Bool):Prop:=L.length=l.length∧∀x,x<l.length→gt L x=(decide (x<i)&&A4O w l b (j+1) x)
structure WEnv(w:Wind)(l:List Station)(b lo:Nat){S:Type}(HS:S→List Ent)(I Ix:Nat→Mem→S→Prop)(Ok:Prop)(P0:List Int)(pb py prr pf pr:Addr)(m:Mem):Prop where
 reg:At m pr (B7u w l)
 ok:Al w l=0
 hb:b<l.length
 cb:At m pb (b:Int)
 cy:Cells m py [.func (.yield lo) #[] #[]]
 cr:Cells m prr [.pointer (some pr)]
 cf:Cells m pf [.func (.func 101) #[] [.pointer (some pb),.pointer (some py),.pointer (some prr),.pointer (some pf)].toArray]
 yield:Ok→∀m1 s args,m.le m1→(∃v,args=#[v]∧Sl m1 v P0)→I 0 m1 s→JU prog lo args m1 (HS s) (fun m' H'=>m1.le m'∧∃s',H'=HS s'∧I 1 m' s') (fun m' H'=>m1.le m'∧∃s',H'=HS s'∧Ix 1 m' s')
 once:∀i m' s,¬I (i+1) m' s
 mono:∀i m1 m2 s,m1.le m2→I i m1 s→I i m2 s
theorem WEnv.up{w:Wind}{l:List Station}{b lo:Nat}{S:Type}{HS:S→List Ent}{I Ix:Nat→Mem→S→Prop}{Ok:Prop}{P0:List Int}{pb py prr pf pr:Addr}{m m2:Mem}(h:WEnv w l b lo HS I Ix Ok P0 pb py prr pf pr m)(hm:m.le m2):WEnv w l b lo HS I Ix Ok P0 pb py prr pf pr m2:=
 ⟨h.reg.mono hm,h.ok,h.hb,h.cb.mono hm,h.cy.mono hm,h.cr.mono hm,h.cf.mono hm,fun d f s a c=>h.yield d f s a (Mem.le_trans hm c),h.once,h.mono⟩
def A2v(level h:Int):Nat→Nat→Int
 |0,_=> -1
 |n+1,k=>if A3x k h=level then k else A2v level h n (k+1)
attribute [irreducible] A2v
def Hg(s:Station)(week:Int):Nat→Span
 |0=>(gt s.Heights 0).Metres
 |n+1=>if(gt s.Heights n).Week≤week then(gt s.Heights n).Metres else Hg s week n
def Kk(s:Station)(week:Int):Span:=Hg s week s.Heights.length
theorem A6u{x y:Int}:V7 x y=0↔x=y:=by unfold V7;split <;> (try split) <;> omega
theorem Mu{s:Station}{week:Int}(hs:CA s.Heights):∀n,n≤s.Heights.length→GZ (Hg s week n)
 |0,_=>by have h1:=hs.1;have:=hs.2 0 (by omega);unfold BQ at this;rw[Hg];unfold GZ;omega
 |n+1,h=>by
  rw[Hg]
  split
  ·have:=hs.2 n (by omega);unfold BQ at this;unfold GZ;omega
  ·exact Mu hs n (by omega)
theorem A4f{s:Station}{week:Int}(hs:CA s.Heights):GZ (Kk s week):=Mu hs _ (E' _)
def QS(list:List Int)(i:Nat):Prop:=0≤gt list i∧gt list i≤12000
instance(list:List Int)(i:Nat):Decidable (QS list i):=by unfold QS;exact inferInstance
def Fm(w:Wind)(l:List Station)(week:Int)(list:List Int):Int:=
 if Al w l≠0 then Al w l else if(0≤week∧week≤10000)∧list.length=l.length then(if∀i,i<l.length→QS list i then 0 else 1)else 1
def B0e(l:List Station)(week:Int)(list:List Int)(i:Nat):Span:=B0w (gt list i) (Kk (gt l i) week)
def DJ(l:List Station)(week:Int)(list:List Int):List Span:=(List.range l.length).map (B0e l week list)
theorem Jv{w:Wind}{l:List Station}{week:Int}{list:List Int}(h:Fm w l week list=0):Al w l=0∧(0≤week∧week≤10000)∧list.length=l.length∧∀i,i<l.length→QS list i:=by
 unfold Fm at h
 split at h
 ·rename_i h1;exact absurd h h1
 ·rename_i h1
  split at h
  ·rename_i h2
   split at h
   ·rename_i h3;exact⟨Su h1,h2.1,h2.2,h3⟩
   ·cases h
  ·cases h
def A6O(w:Wind)(l:List Station)(S:List Span)(i k:Nat):Prop:=Bo w l i k<max ((gt S k).Lo-(gt S i).Hi) ((gt S i).Lo-(gt S k).Hi)
instance(w:Wind)(l:List Station)(S:List Span)(i k:Nat):Decidable (A6O w l S i k):=by unfold A6O;exact inferInstance
theorem A0o{w:Wind}{l:List Station}{week:Int}{list:List Int}(h:Fm w l week list=0){i:Nat}(hi:i<l.length):
 (0≤(gt (DJ l week list) i).Lo∧(gt (DJ l week list) i).Lo≤100000)∧(0≤(gt (DJ l week list) i).Hi∧(gt (DJ l week list) i).Hi≤100000):=by
 have a:=Jv h
 have c:=a.2.2.2 i hi
 have b:=A4f (week:=week) (CH (IK a.1).1 hi).2
 unfold QS at c
 have d:=b.1
 have f:=b.2
 have g:=A1X (l:=gt list i) (h:=(Kk (gt l i) week).Lo) (by omega) (by omega)
 have k:=A1X (l:=gt list i) (h:=(Kk (gt l i) week).Hi) (by omega) (by omega)
 rw[DJ,T8 _ hi,B0e,B0w]
 unfold A3x
 dsimp only
 omega
theorem len1{α:Type}:∀{l:List α},l.length=1→∃x,l=[x]
 | [x],_=>⟨x,rfl⟩
theorem A8O{α:Type}:∀{l:List α},l.length=2→∃x y,l=[x,y]
 | [x,y],_=>⟨x,y,rfl⟩
end
structure Met(n:Nat)(f:Nat→Nat→Int):Prop where
 zero:∀i,i<n→f i i=0
 nn:∀i j,i<n→j<n→0≤f i j
theorem A1A{n k i:Nat}{f:Nat→Nat→Int}(h:Met n f)(hk:k<n)(hi:i<n):∀j,j≤n→∀a b,a<n→b<n→On k i f j a b=if a=i∧b<j then min (f i b) (f i k+f k b)else f a b
 |0,_,a,b,_,_=>by rw[On,A' (by omega)]
 |j+1,hj,a,b,ha,hb=>by
  have ih:=A1A h hk hi j (by omega)
  rw[On,DG]
  by_cases e:a=i∧b=j
  ·obtain⟨rfl,rfl⟩:=e
   rw[D' ⟨rfl,rfl⟩,D' (by omega),ih a b ha hb,ih a k ha hk,ih k b hk hb,A' (by omega)]
   have g:=h.zero k hk
   by_cases d:a=k
   ·subst d
    split <;> omega
   ·rw[A' (show¬(k=a∧b<b) by omega)]
    by_cases c:k<b
    ·rw[D' ⟨rfl,c⟩];omega
    ·rw[A' (by omega)]
  ·rw[A' e,ih a b ha hb]
   by_cases c:a=i∧b<j
   ·rw[D' c,D' (by omega)]
   ·rw[A' c,A' (by omega)]
theorem A1C{n k:Nat}{f:Nat→Nat→Int}(h:Met n f)(hk:k<n):∀i,i≤n→(∀a b,a<n→b<n→IJ n k f i a b=if a<i then min (f a b) (f a k+f k b)else f a b)∧Met n (IJ n k f i)
 |0,_=>⟨fun a b _ _=>by rw[IJ,A' (by omega)],h⟩
 |i+1,hi=>by
  obtain⟨h1,h2⟩:=A1C h hk i (by omega)
  have m:=A1A h2 hk (show i<n by omega) n (E' _)
  have key:∀a b,a<n→b<n→IJ n k f (i+1) a b=if a<i+1 then min (f a b) (f a k+f k b)else f a b:=by
   intro a b c d
   rw[IJ,m a b c d]
   have t:=h.zero k hk
   have g:=h1 a b c d;have o:=h1 a k c hk;have p:=h1 k b hk d
   by_cases e:a=i
   ·subst e
    rw[D' ⟨rfl,d⟩,D' (by omega),g,o,p,A' (by omega),A' (by omega)]
    split <;> omega
   ·rw[A' (by omega),g]
    by_cases l:a<i
    ·rw[D' l,D' (by omega)]
    ·rw[A' l,A' (by omega)]
  refine⟨key,fun a c=>?_,fun a b c d=>?_⟩
  ·rw[key a a c c]
   have q:=h.zero a c;have r:=h.nn a k c hk;have s:=h.nn k a hk c
   split <;> omega
  ·rw[key a b c d]
   have q:=h.nn a b c d;have r:=h.nn a k c hk;have s:=h.nn k b hk d
   split <;> omega
theorem Lc{n:Nat}{f:Nat→Nat→Int}(h:Met n f):∀k,k≤n→Met n (V6 n f k)∧(∀m i j,m<k→i<n→j<n→V6 n f k i j≤V6 n f k i m+V6 n f k m j)∧(∀i j,i<n→j<n→V6 n f k i j≤f i j)
 |0,_=>⟨h,fun m i j h1=>by omega,fun i j _ _=>Si _⟩
 |k+1,hk=>by
  obtain⟨h1,h2,h3⟩:=Lc h k (by omega)
  obtain⟨d,g⟩:=A1C h1 (show k<n by omega) n (E' _)
  have e:∀i j,i<n→j<n→V6 n f (k+1) i j=min (V6 n f k i j) (V6 n f k i k+V6 n f k k j):=fun i j hi a=>by rw[V6,d i j hi a,D' hi]
  refine⟨g,fun m i j b hi a=>?_,fun i j hi a=>?_⟩
  ·rw[e i j hi a,e i m hi (by omega),e m j (by omega) a]
   have l:=h1.zero k (by omega)
   rcases Sc.1 b with h6|h6
   ·have c:=h2 m i j h6 hi a
    have o:=h2 m k j h6 (by omega) a
    have p:=h2 m i k h6 hi (by omega)
    have q:=h1.nn k m (by omega) (by omega)
    have r:=h1.nn m k (by omega) (by omega)
    omega
   ·subst h6
    have c:=h1.nn i m hi (by omega)
    omega
  ·rw[e i j hi a]
   have:=h3 i j hi a
   omega
theorem ML{w:Wind}{l:List Station}(h:Al w l=0):Met l.length (GN w l):=
 ⟨fun i hi=>by rw[GN,D' ⟨hi,hi⟩,IX,D' rfl],fun i j hi a=>(PY h i j hi a).1⟩
theorem A6s{w:Wind}{l:List Station}(h:Al w l=0){i j m:Nat}(hi:i<l.length)(hj:j<l.length)(hm:m<l.length):Bo w l i j≤Bo w l i m+Bo w l m j:=
 (Lc (ML h) l.length (E' _)).2.1 m i j hm hi hj
theorem A3P{w:Wind}{l:List Station}(h:Al w l=0){i:Nat}(hi:i<l.length):Bo w l i i=0:=(Lc (ML h) l.length (E' _)).1.zero i hi
def HV(f:Nat→Int)(c:Int):Nat→Int
 |0=>c
 |n+1=>max (HV f c n) (f n)
theorem Ld(f:Nat→Int)(c:Int):∀n,c≤HV f c n∧∀k,k<n→f k≤HV f c n
 |0=>⟨Si _,fun k hk=>absurd hk (R' _)⟩
 |n+1=>by
  obtain⟨h1,h2⟩:=Ld f c n
  rw[HV]
  refine⟨by omega,fun k hk=>?_⟩
  rcases Sc.1 hk with h|h
  ·have:=h2 k h;omega
  ·subst h;omega
theorem A0i{f:Nat→Int}{c d:Int}(hc:c≤d):∀n,(∀k,k<n→f k≤d)→HV f c n≤d
 |0,_=>hc
 |n+1,h=>by
  have h1:=A0i hc n (fun k a=>h k (by omega))
  have b:=h n (by omega)
  rw[HV];omega
structure TT(n:Nat)(t:Nat→Nat→Int):Prop where
 nn:∀i j,i<n→j<n→0≤t i j
 zero:∀i,i<n→t i i=0
 tri:∀i j m,i<n→j<n→m<n→t i j≤t i m+t m j
theorem A6Y{w:Wind}{l:List Station}(h:Al w l=0):TT l.length (Bo w l):=
 ⟨fun i j hi a=>(A5C h i j hi a).1,fun _ hi=>A3P h hi,fun _ _ _ hi a b=>A6s h hi a b⟩
def xF(lo:Nat→Int)(t:Nat→Nat→Int)(n i:Nat):Int:=HV (fun k=>lo k-t k i) (lo i) n
section
variable{lo:Nat→Int}{t:Nat→Nat→Int}{n:Nat}
theorem B6H(i:Nat):lo i≤xF lo t n i:=(Ld _ _ n).1
theorem B0z{i k:Nat}(hk:k<n):lo k-t k i≤xF lo t n i:=(Ld (fun k=>lo k-t k i) (lo i) n).2 k hk
theorem B0k{i:Nat}{c:Int}(h0:lo i≤c)(h:∀k,k<n→lo k-t k i≤c):xF lo t n i≤c:=A0i h0 n h
theorem B1q(h:TT n t){i k:Nat}(hi:i<n)(hk:k<n):xF lo t n k-t k i≤xF lo t n i:=by
 have:xF lo t n k≤xF lo t n i+t k i:=by
  refine B0k ?_ fun j a=>?_
  ·have:=B0z (lo:=lo) (t:=t) (i:=i) hk;omega
  ·have b:=B0z (lo:=lo) (t:=t) (i:=i) a
   have c:=h.tri j i k a hi hk
   omega
 omega
theorem B6t(h:TT n t){C:Int}(hC:∀k,k<n→lo k≤C){i:Nat}(hi:i<n):xF lo t n i≤C:=
 B0k (hC i hi) fun k a=>by have:=hC k a;have:=h.nn k i a hi;omega
structure SOk(lo:Nat→Int)(t:Nat→Nat→Int)(n:Nat)(L:List Int):Prop where
 len:L.length=n
 bd:∀j,j<n→lo j≤gt L j∧gt L j≤xF lo t n j
def EQ(x:Nat→Int)(L:List Int):Nat→Nat
 |0=>0
 |n+1=>EQ x L n+(x n-gt L n).toNat
theorem Na{x:Nat→Int}{L L':List Int}:∀n,(∀j,j<n→gt L j=gt L' j)→EQ x L n=EQ x L' n
 |0,_=>rfl
 |n+1,h=>by rw[EQ,EQ,Na n (fun j hj=>h j (by omega)),h n (by omega)]
theorem QM{x:Nat→Int}{L:List Int}{i:Nat}{v:Int}(hi:i<L.length)(h1:gt L i<v)(h2:v≤x i):∀n,i<n→EQ x (L.set i v) n<EQ x L n
 |0,h=>by omega
 |n+1,h=>by
  rw[EQ,EQ]
  by_cases e:i=n
  ·subst e
   have e1:EQ x (L.set i v) i=EQ x L i:=Na i fun j b=>by rw[Ac hi,A' (by omega)]
   have a:gt (L.set i v) i=v:=by rw[Ac hi,D' rfl]
   rw[e1,a];omega
  ·have:=QM hi h1 h2 n (by omega)
   have a:gt (L.set i v) n=gt L n:=by rw[Ac hi,A' e]
   rw[a];omega
def sMu(lo:Nat→Int)(t:Nat→Nat→Int)(n:Nat)(L:List Int):Nat:=EQ (xF lo t n) L n
theorem SOk.set{L:List Int}(h:SOk lo t n L)(ht:TT n t){i k:Nat}{v:Int}(hi:i<n)(hk:k<n)(hv:v=gt L k-t k i)(hlt:gt L i<v):SOk lo t n (L.set i v)∧sMu lo t n (L.set i v)<sMu lo t n L:=by
 have c:=(h.bd k hk).2
 have d:=B1q (lo:=lo) ht hi hk
 have a:i<L.length:=by rw[h.len];exact hi
 refine⟨⟨by rw[I'];exact h.len,fun j b=>?_⟩,QM a hlt (by omega) n hi⟩
 rw[Ac a]
 by_cases e:i=j
 ·subst e
  rw[D' rfl]
  have:=(h.bd i hi).1
  omega
 ·rw[A' e];exact h.bd j b
def SDn(t:Nat→Nat→Int)(n:Nat)(L:List Int)(i k:Nat):Prop:=∀a b,a<n→b<n→(a<i∨a=i∧b<k)→gt L b-t b a≤gt L a
theorem SDn.zero{L:List Int}:SDn t n L 0 0:=fun a b _ _ h=>by omega
theorem B7a{L:List Int}{i k:Nat}{v:Int}(h:SDn t n L i k)(hv:v=gt L k-t k i)(hn:¬gt L i<v):SDn t n L i (k+1):=fun a b c d f=>by
 by_cases e:a=i∧b=k
 ·obtain⟨rfl,rfl⟩:=e;omega
 ·exact h a b c d (by omega)
theorem SDn.row{L:List Int}{i k:Nat}(h:SDn t n L i k)(hk:n≤k):SDn t n L (i+1) 0:=fun a b c d f=>h a b c d (by omega)
end
def loS(l:List Station)(week:Int)(list:List Int)(k:Nat):Int:=(gt (DJ l week list) k).Lo
def xS(w:Wind)(l:List Station)(week:Int)(list:List Int)(i:Nat):Int:=xF (loS l week list) (Bo w l) l.length i
def Nh(w:Wind)(l:List Station)(week:Int)(list:List Int):Prop:=∀i,i<l.length→xS w l week list i≤(gt (DJ l week list) i).Hi
instance(w:Wind)(l:List Station)(week:Int)(list:List Int):Decidable (Nh w l week list):=by unfold Nh;exact inferInstance
def Qs(w:Wind)(l:List Station)(week:Int)(list:List Int):List Int:=(List.range l.length).map (xS w l week list)
def B6w(w:Wind)(l:List Station)(week:Int)(list:List Int):List Int×Int:=
 if Fm w l week list≠0 then([],Fm w l week list)else if Nh w l week list then(Qs w l week list,0)else([],3)
abbrev SeaOk(w:Wind)(l:List Station)(week:Int)(list:List Int)(L:List Int):Prop:=SOk (loS l week list) (Bo w l) l.length L
theorem SeaOk.range{w:Wind}{l:List Station}{week:Int}{list L:List Int}(hz:Fm w l week list=0)(h:SeaOk w l week list L){j:Nat}(hj:j<l.length):0≤gt L j∧gt L j≤100000:=by
 have b:=h.bd j hj
 have c:=A0o hz hj
 have d:=B6t (lo:=loS l week list) (A6Y (Jv hz).1) (C:=100000) (fun k a=>(A0o hz a).1.2) hj
 unfold loS at*
 omega
theorem SeaOk.start{w:Wind}{l:List Station}{week:Int}{list L:List Int}(hl:L.length=l.length)(h:∀j,j<l.length→gt L j=(gt (DJ l week list) j).Lo):SeaOk w l week list L:=
 ⟨hl,fun j a=>by rw[h j a];exact⟨Si _,B6H j⟩⟩
def SeaEnd(w:Wind)(l:List Station)(week:Int)(list L:List Int):Prop:=SeaOk w l week list L∧((∀j,j<l.length→gt L j=xS w l week list j)∨∃j,j<l.length∧(gt (DJ l week list) j).Hi<gt L j)
theorem SeaEnd.over{w:Wind}{l:List Station}{week:Int}{list L:List Int}(h:SeaEnd w l week list L){j:Nat}(hj:j<l.length)(hh:(gt (DJ l week list) j).Hi<gt L j):¬Nh w l week list:=fun a=>by
 have b:=a j hj
 have c:=(h.1.bd j hj).2
 unfold xS at b
 omega
theorem SeaEnd.all{w:Wind}{l:List Station}{week:Int}{list L:List Int}(h:SeaEnd w l week list L)(hh:∀j,j<l.length→gt L j≤(gt (DJ l week list) j).Hi):Nh w l week list∧L=Qs w l week list:=by
 rcases h.2 with h2|⟨j,a,h3⟩
 ·refine⟨fun i hi=>by rw[←h2 i hi];exact hh i hi,?_⟩
  refine Dy (by rw[h.1.len];simp[Qs]) fun j a=>?_
  rw[h.1.len]at a
  rw[Qs,T8 _ a,h2 j a]
 ·have:=hh j a;omega
end Go.Proofs.S10
namespace Go.Proofs.T10
open Tryz Go Go.Kx
def OI(q p:Nat):Bool:=decide (p≤8)&&(decide (q=0) || decide (2^p≤2*q))
theorem JN{q p:Nat}(h:OI q p=true):p≤8∧(1≤q→(2:Int)^p≤2*q):=by
 unfold OI at h
 simp only[SN,Tw,decide_eq_true_eq]at h
 refine⟨h.1,fun a=>?_⟩
 rcases h.2 with h1|h1
 ·omega
 ·exact_mod_cast h1
theorem Oj{p:Nat}(n:Nat){x z c:Int}(hc:(2:Int)^n=c)(hp:(2:Int)^p≤2*x)(hz:x*c≤z)(h0:0≤c):(2:Int)^(n+p)≤2*z:=by
 have a:(2:Int)^p*c≤2*x*c:=TN hp h0
 have b:(2:Int)^(n+p)=2^p*c:=by rw[Int.pow_add,hc,Int.mul_comm]
 have d:2*x*c=2*(x*c):=Int.mul_assoc 2 x c
 omega
structure EdgeT where
 To:Int
 Change:Span
 deriving DecidableEq,Inhabited
instance:Flat EdgeT:=⟨3,by decide,fun x=>[J x.To,J x.Change.Lo,J x.Change.Hi],fun _=>rfl,fun x v a=>by simp at a;rcases a with rfl|rfl|rfl <;> rfl⟩
instance:Enc EdgeT:=G8 EdgeT
instance:FlatEnc EdgeT:=⟨rfl,fun _ _=>rfl⟩
theorem Fd{m:Mem}{p:Addr}{x:EdgeT}(h:At m p x):At m (p.add 0) x.To:=by
 obtain⟨vs,h,b⟩:=h
 obtain rfl:=h
 exact⟨[J x.To],rfl,b.part 0 (by intro j v a;match j,a with
  |0,a=>exact a
  |j+1,a=>simp at a)⟩
theorem DE{m:Mem}{p:Addr}{x:EdgeT}(h:At m p x):At m (p.add 1) x.Change:=by
 obtain⟨vs,h,b⟩:=h
 obtain rfl:=h
 exact⟨[J x.Change.Lo,J x.Change.Hi],rfl,b.part 1 (by intro j v a;match j,a with
  |0,a=>exact a
  |1,a=>exact a
  |j+2,a=>simp at a)⟩
structure NodeT where
 Allowed:List Span
 Next:List EdgeT
 deriving DecidableEq,Inhabited
instance:Enc NodeT where
 sz:=2
 pos:=by decide
 rd m vs x:=∃a b:Value,vs=[a,b]∧Sl m a x.Allowed∧Sl m b x.Next
 len h:=by obtain⟨a,b,rfl,c,d⟩:=h;rfl
 mono hm h:=by obtain⟨a,b,g,c,d⟩:=h;exact⟨a,b,g,c.mono hm,d.mono hm⟩
 one h:=by
  obtain⟨a,b,rfl,c,d⟩:=h
  intro u f
  simp at f
  rcases f with rfl|rfl <;> first|rfl|exact c.one|exact d.one
theorem Fj{m:Mem}{p:Addr}{x:NodeT}(h:At m p x):At m (p.add 0) x.Allowed:=by
 obtain⟨vs,h,b⟩:=h
 obtain⟨c,f,rfl,d,g⟩:=h
 exact⟨[c],⟨_,rfl,d⟩,b.part 0 (by intro j v a;match j,a with
  |0,a=>exact a
  |j+1,a=>simp at a)⟩
theorem Mx{m:Mem}{p:Addr}{x:NodeT}(h:At m p x):At m (p.add 1) x.Next:=by
 obtain⟨vs,h,b⟩:=h
 obtain⟨f,c,rfl,g,d⟩:=h
 exact⟨[c],⟨_,rfl,d⟩,b.part 1 (by intro j v a;match j,a with
  |0,a=>exact a
  |j+1,a=>simp at a)⟩
structure HopT where
 fr:Int
 to:Int
 deriving DecidableEq,Inhabited
instance:Flat HopT:=⟨2,by decide,fun x=>[J x.fr,J x.to],fun _=>rfl,fun x v a=>by simp at a;rcases a with rfl|rfl <;> rfl⟩
instance:Enc HopT:=G8 HopT
instance:FlatEnc HopT:=⟨rfl,fun _ _=>rfl⟩
structure TrackT where
 Stages:List (List NodeT)
 deriving DecidableEq,Inhabited
instance:Enc TrackT where
 sz:=1
 pos:=by decide
 rd m vs x:=∃a:Value,vs=[a]∧Sl m a x.Stages
 len h:=by obtain⟨a,rfl,b⟩:=h;rfl
 mono hm h:=by obtain⟨a,d,b⟩:=h;exact⟨a,d,b.mono hm⟩
 one h:=by
  obtain⟨a,rfl,b⟩:=h
  intro u c
  simp at c
  rcases c with rfl <;> first|rfl|exact b.one
theorem G0{m:Mem}{p:Addr}{x:TrackT}(h:At m p x):At m (p.add 0) x.Stages:=by
 obtain⟨vs,h,b⟩:=h
 obtain⟨c,rfl,d⟩:=h
 exact⟨[c],⟨_,rfl,d⟩,b.part 0 (by intro j v a;match j,a with
  |0,a=>exact a
  |j+1,a=>simp at a)⟩
structure ProofT where
 Sets:List (List (List Span))
 deriving DecidableEq,Inhabited
instance:Enc ProofT where
 sz:=1
 pos:=by decide
 rd m vs x:=∃a:Value,vs=[a]∧Sl m a x.Sets
 len h:=by obtain⟨a,rfl,b⟩:=h;rfl
 mono hm h:=by obtain⟨a,d,b⟩:=h;exact⟨a,d,b.mono hm⟩
 one h:=by
  obtain⟨a,rfl,b⟩:=h
  intro u c
  simp at c
  rcases c with rfl <;> first|rfl|exact b.one
theorem L3{m:Mem}{p:Addr}{x:ProofT}(h:At m p x):At m (p.add 0) x.Sets:=by
 obtain⟨vs,h,b⟩:=h
 obtain⟨c,rfl,d⟩:=h
 exact⟨[c],⟨_,rfl,d⟩,b.part 0 (by intro j v a;match j,a with
  |0,a=>exact a
  |j+1,a=>simp at a)⟩
theorem Qf(fs:Array Field)(h:prog.underlying 155=some (.struct fs))(w:World):(fs.mapM fun f=>do pure (f.offset,←sizeOf f.type):Sem _).run prog w= .ok #[(0,1),(1,2)] w:=by
 rw[underlying155]at h;cases h;simp[sizeOf3,sizeOf23]
theorem A6U(fs:Array Field)(h:prog.underlying 152=some (.struct fs))(w:World):(fs.mapM fun f=>do pure (f.offset,←sizeOf f.type):Sem _).run prog w= .ok #[(0,1),(1,1)] w:=by
 rw[underlying152]at h;cases h;simp[sizeOf28,sizeOf150]
theorem OV(fs:Array Field)(h:prog.underlying 349=some (.struct fs))(w:World):(fs.mapM fun f=>do pure (f.offset,←sizeOf f.type):Sem _).run prog w= .ok #[(0,1),(1,1)] w:=by
 rw[underlying349]at h;cases h;simp[sizeOf3]
theorem A0a(fs:Array Field)(h:prog.underlying 84=some (.struct fs))(w:World):(fs.mapM fun f=>do pure (f.offset,←sizeOf f.type):Sem _).run prog w= .ok #[(0,1)] w:=by
 rw[underlying84]at h;cases h;simp[sizeOf82]
theorem BI(fs:Array Field)(h:prog.underlying 246=some (.struct fs))(w:World):(fs.mapM fun f=>do pure (f.offset,←sizeOf f.type):Sem _).run prog w= .ok #[(0,1),(1,1),(2,1)] w:=by
 rw[underlying246]at h;cases h;simp[sizeOf3]
theorem PJ(fs:Array Field)(h:prog.underlying 255=some (.struct fs))(w:World):(fs.mapM fun f=>do pure (f.offset,←sizeOf f.type):Sem _).run prog w= .ok #[(0,1)] w:=by
 rw[underlying255]at h;cases h;simp[sizeOf79]
theorem A4T(fs:Array Field)(h:prog.underlying 433=some (.struct fs))(w:World):(fs.mapM fun f=>do pure (f.offset,←sizeOf f.type):Sem _).run prog w= .ok #[(0,1)] w:=by
 rw[underlying433]at h;cases h;simp[sizeOf79]
theorem B6j:prog.underlying 246=some (.struct (prog.fieldsOf 246)):=by simp only[Program.fieldsOf,underlying246]
theorem B6q:prog.stoodInHeld 246=false:=by kernel_rfl
theorem B4r(d:Nat)(a b:StateT)(w:World):(Op.equalIn (d+2) 246 (.agg (Flat.enc a).toArray) (.agg (Flat.enc b).toArray)).run prog w= .ok (decide (a=b)) w:=by
 obtain⟨c,f,g⟩:=a
 obtain⟨k,l,m⟩:=b
 simp only[Flat.enc,run_equalIn_agg w (d+1) 246 _ _ B6j B6q,Program.fieldsOf,underlying246]
 simp[Op.eqFields,part,sizeOf3,isAgg3,run_equalIn_int _ _ _ _ _ _ _ underlying3]
 repeat' split
 all_goals simp_all
theorem A0G:KeyT prog 246 StateT where
 und:=⟨_,runUnderlying246⟩
 chk em k w:=by
  have c:∀(n:Nat) (i:Int),(Instr.checkKey em (n+1) 3 (J i)).run prog w= .ok () w:=fun n i=>by simp[Instr.checkKey,runUnderlying3]
  have h:∀n:Nat,(Instr.checkKey em (n+1+1) 246 (.agg (Flat.enc k).toArray)).run prog w= .ok () w:=fun n=>by
   rw[Instr.checkKey]
   simp[runUnderlying246,part,isAgg3,Flat.enc,c]
  exact h 9998
 eq a b w:=B4r 9998 a b w
 bits k:=by simp[Instr.sameBits,Flat.enc]
end Go.Proofs.T10
