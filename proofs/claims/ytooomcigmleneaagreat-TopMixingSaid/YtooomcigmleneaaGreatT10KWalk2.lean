import Derived.Test.YtooomcigmleneaaGreatT10KSpec
import Derived.Test.YtooomcigmleneaaGreatT10Drawn
import Derived.Test.YtooomcigmleneaaGreatKxU
import Derived.Test.YtooomcigmleneaaGreatT10Ty
import Derived.Test.YtooomcigmleneaaGreatKxS
set_option linter.all false
namespace Go.Proofs.T10
open Go Go.Kx
def A5V(c:Clk)(l:List Int)(j:Nat):Prop:=((gt c.at_ j).Lo≤gt l j∧gt l j≤(gt c.at_ j).Hi)∧(0<j→(gt c.gaps (j-1)).Lo≤gt l j-gt l (j-1)∧gt l j-gt l (j-1)≤(gt c.gaps (j-1)).Hi)
instance(c:Clk)(l:List Int)(j:Nat):Decidable (A5V c l j):=by unfold A5V;exact inferInstance
def B0v(c:Clk)(l:List Int):Prop:=l.length=c.at_.length∧∀j,j<c.at_.length→A5V c l j
instance(c:Clk)(l:List Int):Decidable (B0v c l):=by unfold B0v;exact inferInstance
theorem A8y{d:Drum}{m:List Mark}{l:List Int}:B0v ⟨A0s d,atL d m⟩ l↔A5S d m l:=by
 unfold B0v A5S A5V
 dsimp only
 rw[A7R]
 constructor
 ·rintro⟨h1,h2⟩
  refine⟨h1,fun i hi=>?_,fun i hi=>?_⟩
  ·have:=(h2 i hi).1;rwa [A9U (by omega)]at this
  ·have:=(h2 (i+1) (by omega)).2 (by omega);rw[Nat.add_sub_cancel,A3c hi]at this;exact this
 ·rintro⟨h1,h2,h3⟩
  refine⟨h1,fun j hj=>⟨?_,fun h0=>?_⟩⟩
  ·rw[A9U (by omega)];exact h2 j hj
  ·have:=h3 (j-1) (by omega);rw[show j-1+1=j by omega]at this;rw[A3c (by omega)];exact this
theorem A4V{d:Drum}{m:List Mark}{cs ts:List Int}(h:N2 d m cs ts≠0):B0u d m cs ts=⟨[],[]⟩:=by rw[B0u,if_neg h]
theorem B3z{d:Drum}{m:List Mark}{cs ts:List Int}(h:N2 d m cs ts=0):B0u d m cs ts=A5Q d m:=by rw[B0u,if_pos h];rfl
def hiL(c:Clk)(X:Nat→Span):List Int:=(List.range (c.gaps.length+1)).map fun j=>(X j).Hi
def C6g(c:Clk)(i k a b:Nat):Int:=if(a<i∨(a=i∧b<k))∧b<c.gaps.length+1 then mos (gt c.gaps) (gt c.at_) c.gaps.length a b else 0
def Tab(L:List Int)(f:Nat→Nat→Int):Prop:=L.length=40401∧∀a b,a<201→b<201→gt L (a*201+b)=f a b
def C5S(c:Clk):List Int:=(List.range 40401).map fun q=>C6g c (c.gaps.length+1) 0 (q/201) (q%201)
theorem Tab.eq{c:Clk}{L:List Int}(h:Tab L (C6g c (c.gaps.length+1) 0)):L=C5S c:=by
 refine A5G h.1 fun q hq=>?_
 have:=h.2 (q/201) (q%201) (by omega) (by omega)
 rwa [show q/201*201+q%201=q by omega]at this
attribute [irreducible] C5S
end Go.Proofs.T10
namespace Go.Proofs.T10
open Go Go.Kx
theorem C5j(d:Drum)(m:List Mark):(A5Q d m).gaps.length=d.Rates.length:=A0e d
theorem C6n(d:Drum)(m:List Mark):(A5Q d m).at_.length=d.Rates.length+1:=A9d d m
theorem A9i{d:Drum}{c:Int}(h:Y9 d≠0):A2X d c=(⟨0,0⟩,Y9 d):=by rw[A2X,if_pos h]
theorem A8M{d:Drum}{c:Int}(h:Y9 d=0)(h1:¬(0≤c∧c≤(d.Rates.length:Int)-1)):A2X d c=(⟨0,0⟩,1):=by rw[A2X,if_neg (by omega),if_neg h1]
theorem B1m{d:Drum}{c:Int}(h:Y9 d=0)(h1:0≤c∧c≤(d.Rates.length:Int)-1):A2X d c=(gt (A0s d) c.toNat,0):=by rw[A2X,if_neg (by omega),if_pos h1,A3c (by omega)]
theorem A5Z{d:Drum}{m:List Mark}(h:N2 d m [] []≠0):A5m d m=([],N2 d m [] []):=by rw[A5m,if_pos h]
theorem A7Z{d:Drum}{m:List Mark}(h:N2 d m [] []=0):A5m d m=(B6v (A5Q d m).at_,0):=by rw[A5m,if_neg (by omega)];rfl
end Go.Proofs.T10
namespace Go.Proofs.T10
open Go Go.Kx
theorem C0W{α:Type}{l:List α}(h:l.length=1):∃x,l=[x]:=List.length_eq_one_iff.1 h
theorem C6C:B3u [⟨0,2⟩,⟨5,5⟩] [⟨2,4⟩]=[⟨0,5⟩]:=by decide+kernel
theorem C3F:B4r [⟨0,2⟩,⟨5,5⟩] [⟨2,4⟩]=0:=by decide+kernel
theorem C6G:A6m ⟨1,⟨0,0⟩,9⟩ 5 [5,7,4]=[5,6,5]:=by decide+kernel
theorem C3l:A0S ⟨1,⟨0,0⟩,9⟩ 5 [5,7,4]=0:=by decide+kernel
theorem C6q:(A5m ⟨[⟨2,3⟩],[]⟩ [⟨1,⟨5,5⟩⟩]).1=[2,5]:=by decide+kernel
theorem C3D:(A5m ⟨[⟨2,3⟩],[]⟩ [⟨1,⟨5,5⟩⟩]).2=0:=by decide+kernel
def C5x(i:Nat)(x:Value×Nat×List Value):Prop:=(i=0∧x=(.slice none 0 0,0,[]))∨(i=1∧x.2.1=1∧Bk x.2.2∧x.1.oneCell'=true)
theorem B9n:C5x 0 (.slice none 0 0,0,[]):=.inl ⟨rfl,rfl⟩
theorem C6y{ys:List Value}{k:Nat}(hk:k=0):∀j u,ys[j]?=some u→ys[k*64+j]?=some u:=fun j u h=>by subst hk;simpa using h
end Go.Proofs.T10
namespace Go.Proofs.T10
open Go Go.Kx
def G8(l:List Moment)(n:Nat):List Int:=E8 n (fun i=>(gt l i).Shown)
def M1(l:List Moment)(n:Nat):List Int:=E8 n (fun i=>(gt l i).Real)
def A4G(p:Pen)(l:List Moment):Int:=
 if O9 p (G8 l l.length)≠0 then O9 p (G8 l l.length)
 else if J4 (M1 l l.length)≠0 then J4 (M1 l l.length)
 else if A0S p (gt (G8 l l.length) 0) (M1 l l.length)≠0∨A6m p (gt (G8 l l.length) 0) (M1 l l.length)≠G8 l l.length then 31 else 0
theorem B4M{p:Pen}{l:List Moment}(h:O9 p (G8 l l.length)≠0):A4G p l=O9 p (G8 l l.length):=if_pos h
theorem B8t{p:Pen}{l:List Moment}(h:¬O9 p (G8 l l.length)≠0)(h1:J4 (M1 l l.length)≠0):A4G p l=J4 (M1 l l.length):=by rw[A4G,if_neg h,if_pos h1]
theorem C0E{p:Pen}{l:List Moment}(h:¬O9 p (G8 l l.length)≠0)(h1:¬J4 (M1 l l.length)≠0)(h2:A0S p (gt (G8 l l.length) 0) (M1 l l.length)≠0∨A6m p (gt (G8 l l.length) 0) (M1 l l.length)≠G8 l l.length):A4G p l=31:=by rw[A4G,if_neg h,if_neg h1,if_pos h2]
theorem C4L{p:Pen}{l:List Moment}(h:¬O9 p (G8 l l.length)≠0)(h1:¬J4 (M1 l l.length)≠0)(h2:¬A0S p (gt (G8 l l.length) 0) (M1 l l.length)≠0)(h3:A6m p (gt (G8 l l.length) 0) (M1 l l.length)=G8 l l.length):A4G p l=0:=by rw[A4G,if_neg h,if_neg h1,if_neg (fun h4=>h4.elim h2 (fun h5=>h5 h3))]
theorem C3Q{l:List Span}{n:Int}:(¬∀i,i<l.length→¬((gt l i).Lo≤n∧n≤(gt l i).Hi))↔inP l n:=
 ⟨fun h=>Classical.byContradiction fun hn=>h fun i hi hp=>hn ⟨i,hi,hp⟩,fun⟨i,hi,hp⟩ h=>h i hi hp⟩
end Go.Proofs.T10
namespace Go.Proofs.T10
open Go Go.Kx
def I1(l:List ReadT)(st:Int):Nat→List ReadT
 |0=>[]
 |k+1=>if(gt l k).Station=st then I1 l st k++[gt l k]else I1 l st k
theorem A6L{l:List ReadT}{st:Int}{k:Nat}(h:(gt l k).Station=st):I1 l st k++[gt l k]=I1 l st (k+1):=(if_pos h).symm
theorem A6U{l:List ReadT}{st:Int}{k:Nat}(h:¬(gt l k).Station=st):I1 l st k=I1 l st (k+1):=(if_neg h).symm
theorem A3w{l:List ReadT}{st:Int}:∀k,(I1 l st k).length≤k
 |0=>Nat.le_refl _
 |k+1=>by have:=A3w (l:=l) (st:=st) k;rw[I1];split <;> simp <;> omega
def A2v(d:Drum)(n:Nat):List Span:=E8 n (fun i=>(A2X d (i:Int)).1)
def A5q(p:Pen)(n:Nat):List Int:=E8 n (fun i=>p.Zero.Lo+(i:Int))
def A2Q(p:Pen):Nat:=(p.Zero.Hi-p.Zero.Lo+1).toNat
def A7y(w:WeekT)(f:FiledT)(st:Int)(ix:RawV):Chart:=⟨f.Sheet,f.Marks,I1 w.Reads st w.Reads.length,w.Base.Ticks,A0R f.Sheet.Paper f.Sheet.Trace f.Sheet.Blots,A2v f.Sheet.Drum f.Sheet.Drum.Rates.length,[],ix,A5q f.Sheet.Pen (A2Q f.Sheet.Pen)⟩
end Go.Proofs.T10
namespace Go.Proofs.T10
open Go Go.Kx
def A1d(x:Course)(n:Nat):List Moment:=E8 n (fun t=>⟨gt x.Shown t,gt x.Levels t-x.Zero⟩)
def B6K(c:Chart)(x:Course):Prop:=(c.Sheet.Pen.Zero.Lo≤x.Zero∧x.Zero≤c.Sheet.Pen.Zero.Hi)∧(∀i,i<x.Ticks.length→0≤gt x.Ticks i∧gt x.Ticks i≤c.ticks)∧keepE c.Sheet.Drum c.marks x.Ticks=0
instance(c:Chart)(x:Course):Decidable (B6K c x):=by unfold B6K;exact inferInstance
def A9m(x:Course)(t:Nat):Prop:=(0≤gt x.Shown t∧gt x.Shown t≤12000)∧(0≤gt x.Levels t∧gt x.Levels t≤12000)
instance(x:Course)(t:Nat):Decidable (A9m x t):=by unfold A9m;exact inferInstance
def B4o(c:Chart)(x:Course)(i:Nat):Prop:=0<(gt c.ink i).length→inP (gt c.ink i) (gt x.Shown (gt x.Ticks i).toNat)
instance(c:Chart)(x:Course)(i:Nat):Decidable (B4o c x i):=by unfold B4o;exact inferInstance
def A5b(x:Course)(r:ReadT):Prop:=r.Levels.Lo≤gt x.Levels r.Tick.toNat∧gt x.Levels r.Tick.toNat≤r.Levels.Hi
instance(x:Course)(r:ReadT):Decidable (A5b x r):=by unfold A5b;exact inferInstance
def A7t(c:Chart)(x:Course):Prop:=B6K c x∧((x.Shown.length:Int)=c.ticks+1∧(x.Levels.length:Int)=c.ticks+1)∧(∀t,t<x.Shown.length→A9m x t)∧(∀i,i<x.Ticks.length→B4o c x i)∧(∀i,i<c.reads.length→A5b x (gt c.reads i))∧A4G c.Sheet.Pen (A1d x x.Shown.length)=0
instance(c:Chart)(x:Course):Decidable (A7t c x):=by unfold A7t;exact inferInstance
structure ChOk(c:Chart):Prop where
 pen:Y3 c.Sheet.Pen
 ticks:0≤c.ticks∧c.ticks≤400
 ink:c.ink.length=c.Sheet.Drum.Rates.length+1
 reads:∀i,i<c.reads.length→0≤(gt c.reads i).Tick∧(gt c.reads i).Tick≤c.ticks
theorem B9e{d:Drum}{m:List Mark}{l:List Int}(h:keepE d m l=0):l.length=d.Rates.length+1:=by
 unfold keepE at h;split at h
 ·contradiction
 ·split at h
  ·rename_i h1;exact h1.1
  ·cases h
theorem B4w{n:Nat}{p:Nat→Prop}[∀i,Decidable (p i)](h:¬¬∀i,i<n→¬¬p i):∀i,i<n→p i:=fun i hi=>Classical.not_not.1 (Classical.not_not.1 h i hi)
theorem B3b{n:Nat}{p:Nat→Prop}(h:¬∀i,i<n→¬¬p i)(h1:∀i,i<n→p i):False:=h fun i hi hn=>hn (h1 i hi)
end Go.Proofs.T10
namespace Go.Proofs.S10
open Go Go.Kx Go.Proofs.T10
def A1z(w:Wind):Int:=if(0≤w.Fixed∧w.Fixed≤12000)∧(0≤w.Each∧w.Each≤10000)then 0 else 1
def A0Y(l:List Height)(i:Nat):Prop:=
 (i=0→(gt l i).Week=0)∧(0<i→(gt l (i-1)).Week<(gt l i).Week)∧(gt l i).Week≤10000∧0≤(gt l i).Metres.Lo∧(gt l i).Metres.Lo≤(gt l i).Metres.Hi∧(gt l i).Metres.Hi≤4000
instance(l:List Height)(i:Nat):Decidable (A0Y l i):=by unfold A0Y;exact inferInstance
def Z3(l:List Height):Prop:=(1≤l.length∧l.length≤16)∧∀i,i<l.length→A0Y l i
instance(l:List Height):Decidable (Z3 l):=by unfold Z3;exact inferInstance
def H5(s:Station):Prop:=(1≤s.ID∧s.ID≤65535)∧(0≤s.X∧s.X≤2000)∧(0≤s.Y∧s.Y≤2000)
instance(s:Station):Decidable (H5 s):=by unfold H5;exact inferInstance
def U2(l:List Station)(i:Nat):Int:=
 if¬H5 (gt l i)∨(0<i∧(gt l i).ID≤(gt l (i-1)).ID)then 50 else if¬Z3 (gt l i).Heights then 51 else 0
def Y6(l:List Station):Nat→Nat→Int×Int
 |0,_=>(0,0)
 |n+1,i=>if U2 l i≠0 then(U2 l i,i)else Y6 l n (i+1)
def H8(l:List Station):Int×Int:=if 32<l.length then(2,0)else Y6 l l.length 0
theorem A3d(l:List Station):∀(k n i:Nat),(∀j,i≤j→j<i+k→U2 l j=0)→Y6 l (n+k) i=Y6 l n (i+k)
 |0,n,i,_=>rfl
 |k+1,n,i,h=>by
  rw[show n+(k+1)=(n+k)+1 by omega,Y6,if_neg (by simp[h i (Nat.le_refl _) (by omega)])]
  rw[A3d l k n (i+1) (fun j h1 h2=>h j (by omega) (by omega)),show i+1+k=i+(k+1) by omega]
theorem A4c{l:List Station}{k:Nat}(h32:¬32<l.length)(hk:k<l.length)(h:∀j,j<k→U2 l j=0)(hb:U2 l k≠0):H8 l=(U2 l k,(k:Int)):=by
 rw[H8,if_neg h32,show l.length=(l.length-k)+k by omega,A3d l k _ 0 (fun j _ h2=>h j (by omega))]
 rw[show l.length-k=(l.length-k-1)+1 by omega,Y6,if_pos (by simpa using hb)]
 simp
theorem B8z{l:List Station}(h32:¬32<l.length)(h:∀j,j<l.length→U2 l j=0):H8 l=(0,0):=by
 rw[H8,if_neg h32]
 have:=A3d l l.length 0 0 (fun j _ h2=>h j (by omega))
 simpa[Y6]using this
theorem B7s{l:List Station}(h32:32<l.length):H8 l=(2,0):=by rw[H8,if_pos h32]
def V7:Nat→Nat
 |0=>0
 |n+1=>if n+1≤V7 n*V7 n then V7 n else V7 n+1
theorem C4C(n:Nat):n≤V7 n*V7 n:=by
 induction n with
 |zero=>exact Nat.le_refl _
 |succ n ih=>
  unfold V7
  split
  ·assumption
  ·rw[Nat.add_mul,Nat.mul_add];omega
theorem B7u(n:Nat):∀d,d<V7 n→d*d<n:=by
 induction n with
 |zero=>intro d h;simp[V7]at h
 |succ n ih=>
  intro d h
  unfold V7 at h
  split at h
  ·exact Nat.lt_succ_of_lt (ih d h)
  ·rename_i hn
   have:d*d≤V7 n*V7 n:=Nat.mul_le_mul (by omega) (by omega)
   omega
def Q3(a b:Station):Int:=(a.X-b.X)*(a.X-b.X)+(a.Y-b.Y)*(a.Y-b.Y)
def A4g(a b:Station):Int:=V7 (Q3 a b).toNat
def A0p(w:Wind)(a b:Station):Int:=if a.ID=b.ID then 0 else w.Fixed+w.Each*A4g a b/100
def A2d(s:Station):Int:=(H8 [s]).1
def A3G:List Station→Int
 | []=>0
 |s::l=>if A2d s≠0 then A2d s else A3G l
theorem A9I:∀{l:List Station} {k:Nat},k<l.length→(∀j,j<k→A2d (gt l j)=0)→A2d (gt l k)≠0→A3G l=A2d (gt l k)
 |s::l,0,_,_,hb=>by rw[A3G,if_pos (by simpa[gt]using hb)];simp[gt]
 |s::l,k+1,hk,h,hb=>by
  have h0:A2d s=0:=by simpa[gt]using h 0 (by omega)
  rw[A3G,if_neg (by simp[h0])]
  have hs:∀j,gt (s::l) (j+1)=gt l j:=fun j=>by simp[gt]
  rw[hs]at hb⊢
  exact A9I (by simpa using hk) (fun j hj=>by have:=h (j+1) (by omega);rwa [hs]at this) hb
theorem B1F:∀{l:List Station},(∀j,j<l.length→A2d (gt l j)=0)→A3G l=0
 | [],_=>rfl
 |s::l,h=>by
  have h0:A2d s=0:=by simpa[gt]using h 0 (by simp)
  rw[A3G,if_neg (by simp[h0])]
  exact B1F fun j hj=>by have:=h (j+1) (by simp;omega);simpa[gt]using this
theorem A6e{l:List Station}{i:Nat}(h:U2 l i=0):H5 (gt l i)∧(0<i→(gt l (i-1)).ID<(gt l i).ID)∧Z3 (gt l i).Heights:=by
 unfold U2 at h
 split at h
 ·cases h
 ·rename_i h1
  split at h
  ·cases h
  ·rename_i h2
   refine⟨?_,?_,Decidable.of_not_not h2⟩
   ·exact Decidable.of_not_not fun hp=>h1 (.inl hp)
   ·intro hi;exact Int.lt_of_not_ge fun hge=>h1 (.inr ⟨hi,hge⟩)
theorem A5B(l:List Station):∀(n i:Nat),(Y6 l n i).1=0→∀j,i≤j→j<i+n→U2 l j=0
 |0,i,_,j,h1,h2=>by omega
 |n+1,i,h,j,h1,h2=>by
  rw[Y6]at h
  split at h
  ·rename_i hb;simp at h;exact absurd h hb
  ·rename_i hb
   by_cases e:j=i
   ·subst e;exact Decidable.of_not_not hb
   ·exact A5B l n (i+1) h j (by omega) (by omega)
theorem A0c{l:List Station}(h:(H8 l).1=0):l.length≤32∧∀j,j<l.length→U2 l j=0:=by
 unfold H8 at h
 split at h
 ·cases h
 ·exact⟨by omega,fun j hj=>A5B l l.length 0 h j (Nat.zero_le _) (by omega)⟩
theorem B9s{s:Station}(h:A2d s=0):H5 s∧Z3 s.Heights:=by
 have:=A6e ((A0c h).2 0 (by simp))
 simpa[gt]using⟨this.1,this.2.2⟩
theorem A5O{w:Wind}(h:A1z w=0):(0≤w.Fixed∧w.Fixed≤12000)∧(0≤w.Each∧w.Each≤10000):=by
 unfold A1z at h;split at h
 ·assumption
 ·cases h
theorem B0D(n:Nat):V7 n≤n:=by
 induction n with
 |zero=>exact Nat.le_refl _
 |succ n ih=>unfold V7;split <;> omega
theorem A6V{x y A C:Int}(h1:0≤x)(h2:x≤A)(h3:0≤y)(h4:y≤C):0≤x*y∧x*y≤A*C:=
 ⟨Int.mul_nonneg h1 h3,Int.mul_le_mul h2 h4 h3 (Int.le_trans h1 h2)⟩
theorem B2u{x:Int}(h1: -2000≤x)(h2:x≤2000):0≤x*x∧x*x≤4000000:=by
 rcases Int.le_total 0 x with h|h
 ·have:=A6V h h2 h h2;omega
 ·have:=A6V (x:= -x) (y:= -x) (by omega) (show-x≤2000 by omega) (by omega) (show-x≤2000 by omega)
  rw[Int.neg_mul_neg]at this;omega
theorem A8Z{a b:Station}(ha:H5 a)(hb:H5 b):0≤Q3 a b∧Q3 a b≤8000000:=by
 obtain⟨_,h1,h2⟩:=ha
 obtain⟨_,h3,h4⟩:=hb
 have:=B2u (x:=a.X-b.X) (by omega) (by omega)
 have:=B2u (x:=a.Y-b.Y) (by omega) (by omega)
 unfold Q3;omega
theorem C1G{a b:Station}(ha:H5 a)(hb:H5 b):0≤A4g a b∧A4g a b≤8000000:=by
 have:=A8Z ha hb
 have:=B0D (Q3 a b).toNat
 unfold A4g;omega
theorem B5D{w:Wind}{a b:Station}(hw:A1z w=0)(ha:H5 a)(hb:H5 b):0≤w.Each*A4g a b∧w.Each*A4g a b≤80000000000:=by
 have h1:=A5O hw
 have h2:=C1G ha hb
 have:=A6V h1.2.1 h1.2.2 h2.1 h2.2;omega
theorem B1Q{a b:Station}{k:Nat}(_h0:0≤Q3 a b)(h:(k:Int)*k<Q3 a b):k<V7 (Q3 a b).toNat:=by
 rcases Nat.lt_or_ge k (V7 (Q3 a b).toNat)with h1|h1
 ·exact h1
 ·have h2:=C4C (Q3 a b).toNat
  have h3:V7 (Q3 a b).toNat*V7 (Q3 a b).toNat≤k*k:=Nat.mul_le_mul h1 h1
  have h4:((k*k:Nat):Int)=(k:Int)*k:=Int.natCast_mul ..
  omega
theorem C2g{a b:Station}{k:Nat}(_h0:0≤Q3 a b)(hk:k≤V7 (Q3 a b).toNat)(h:¬(k:Int)*k<Q3 a b):(k:Int)=A4g a b:=by
 rcases Nat.lt_or_ge k (V7 (Q3 a b).toNat)with h1|h1
 ·have h2:=B7u (Q3 a b).toNat k h1
  have h4:((k*k:Nat):Int)=(k:Int)*k:=Int.natCast_mul ..
  omega
 ·unfold A4g;omega
theorem C5R{a b:Station}{k:Nat}(ha:H5 a)(hb:H5 b)(hk:k≤V7 (Q3 a b).toNat):0≤(k:Int)*k∧(k:Int)*k≤64000000000000:=by
 have h1:=A8Z ha hb
 have h2:=B0D (Q3 a b).toNat
 have:=A6V (x:=(k:Int)) (y:=(k:Int)) (by omega) (show(k:Int)≤8000000 by omega) (by omega) (show(k:Int)≤8000000 by omega)
 omega
def A0n(level height:Int):Int:=level+level*height/8000
def C2A(level:Int)(h:Span):Span:=⟨A0n level h.Lo,A0n level h.Hi⟩
theorem B0A{l h:Int}(h1:0≤l∧l≤12001)(h2:0≤h∧h≤4000):0≤l*h∧l*h≤48004000:=by
 have:=A6V h1.1 h1.2 h2.1 h2.2;omega
def A3F(s:Span):Prop:=(0≤s.Lo∧s.Lo≤s.Hi)∧s.Hi≤4000
instance(s:Span):Decidable (A3F s):=by unfold A3F;exact inferInstance
def C2J(l:List Station):Prop:=(l.length≤10∨32<l.length∧l.length≤60)∧∀i,i<l.length→(gt l i).Heights.length≤40
instance(l:List Station):Decidable (C2J l):=by unfold C2J;exact inferInstance
end Go.Proofs.S10
