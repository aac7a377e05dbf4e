import Derived.Test.YtooomcigmleneaaGreatT10KSpec
import Derived.Test.YtooomcigmleneaaGreatT10Drawn
import Derived.Test.YtooomcigmleneaaGreatKxU
import Derived.Test.YtooomcigmleneaaGreatT10Ty
import Derived.Test.YtooomcigmleneaaGreatKxS
set_option linter.all false
namespace Go.Proofs.T10
open Go Go.Kx
def A5J(c:Clk)(l:List Int)(j:Nat):Prop:=((gt c.at_ j).Lo≤gt l j∧gt l j≤(gt c.at_ j).Hi)∧(0<j→(gt c.gaps (j-1)).Lo≤gt l j-gt l (j-1)∧gt l j-gt l (j-1)≤(gt c.gaps (j-1)).Hi)
instance(c:Clk)(l:List Int)(j:Nat):Decidable (A5J c l j):=by unfold A5J;exact inferInstance
def A9B(c:Clk)(l:List Int):Prop:=l.length=c.at_.length∧∀j,j<c.at_.length→A5J c l j
instance(c:Clk)(l:List Int):Decidable (A9B c l):=by unfold A9B;exact inferInstance
theorem A7U{d:Drum}{m:List Mark}{l:List Int}:A9B ⟨A0h d,atL d m⟩ l↔A6u d m l:=by
 unfold A9B A6u A5J
 dsimp only
 rw[A7M]
 constructor
 ·rintro⟨h1,h2⟩
  refine⟨h1,fun i hi=>?_,fun i hi=>?_⟩
  ·have:=(h2 i hi).1;rwa [B0c (by omega)]at this
  ·have:=(h2 (i+1) (by omega)).2 (by omega);rw[Nat.add_sub_cancel,A2E hi]at this;exact this
 ·rintro⟨h1,h2,h3⟩
  refine⟨h1,fun j hj=>⟨?_,fun h0=>?_⟩⟩
  ·rw[B0c (by omega)];exact h2 j hj
  ·have:=h3 (j-1) (by omega);rw[show j-1+1=j by omega]at this;rw[A2E (by omega)];exact this
theorem A4L{d:Drum}{m:List Mark}{cs ts:List Int}(h:M7 d m cs ts≠0):A9w d m cs ts=⟨[],[]⟩:=by rw[A9w,if_neg h]
theorem B2G{d:Drum}{m:List Mark}{cs ts:List Int}(h:M7 d m cs ts=0):A9w d m cs ts=A5X d m:=by rw[A9w,if_pos h];rfl
def hiL(c:Clk)(X:Nat→Span):List Int:=(List.range (c.gaps.length+1)).map fun j=>(X j).Hi
def C5Q(c:Clk)(i k a b:Nat):Int:=if(a<i∨(a=i∧b<k))∧b<c.gaps.length+1 then mos (gt c.gaps) (gt c.at_) c.gaps.length a b else 0
def Tab(L:List Int)(f:Nat→Nat→Int):Prop:=L.length=40401∧∀a b,a<201→b<201→gt L (a*201+b)=f a b
def C6d(c:Clk):List Int:=(List.range 40401).map fun q=>C5Q c (c.gaps.length+1) 0 (q/201) (q%201)
theorem Tab.eq{c:Clk}{L:List Int}(h:Tab L (C5Q c (c.gaps.length+1) 0)):L=C6d c:=by
 refine A5y h.1 fun q hq=>?_
 have:=h.2 (q/201) (q%201) (by omega) (by omega)
 rwa [show q/201*201+q%201=q by omega]at this
attribute [irreducible] C6d
end Go.Proofs.T10
namespace Go.Proofs.T10
open Go Go.Kx
theorem C4R(d:Drum)(m:List Mark):(A5X d m).gaps.length=d.Rates.length:=Z6 d
theorem C5U(d:Drum)(m:List Mark):(A5X d m).at_.length=d.Rates.length+1:=A8J d m
theorem A8R{d:Drum}{c:Int}(h:Y7 d≠0):A2H d c=(⟨0,0⟩,Y7 d):=by rw[A2H,if_pos h]
theorem A8H{d:Drum}{c:Int}(h:Y7 d=0)(h1:¬(0≤c∧c≤(d.Rates.length:Int)-1)):A2H d c=(⟨0,0⟩,1):=by rw[A2H,if_neg (by omega),if_neg h1]
theorem B0p{d:Drum}{c:Int}(h:Y7 d=0)(h1:0≤c∧c≤(d.Rates.length:Int)-1):A2H d c=(gt (A0h d) c.toNat,0):=by rw[A2H,if_neg (by omega),if_pos h1,A2E (by omega)]
theorem A6y{d:Drum}{m:List Mark}(h:M7 d m [] []≠0):A5l d m=([],M7 d m [] []):=by rw[A5l,if_pos h]
theorem A7B{d:Drum}{m:List Mark}(h:M7 d m [] []=0):A5l d m=(B6A (A5X d m).at_,0):=by rw[A5l,if_neg (by omega)];rfl
end Go.Proofs.T10
namespace Go.Proofs.T10
open Go Go.Kx
theorem C1O{α:Type}{l:List α}(h:l.length=1):∃x,l=[x]:=List.length_eq_one_iff.1 h
theorem C4K:B4l [⟨0,2⟩,⟨5,5⟩] [⟨2,4⟩]=[⟨0,5⟩]:=by decide+kernel
theorem C3p:B2p [⟨0,2⟩,⟨5,5⟩] [⟨2,4⟩]=0:=by decide+kernel
theorem C5I:A5I ⟨1,⟨0,0⟩,9⟩ 5 [5,7,4]=[5,6,5]:=by decide+kernel
theorem C3V:A0I ⟨1,⟨0,0⟩,9⟩ 5 [5,7,4]=0:=by decide+kernel
theorem C4Y:(A5l ⟨[⟨2,3⟩],[]⟩ [⟨1,⟨5,5⟩⟩]).1=[2,5]:=by decide+kernel
theorem C4s:(A5l ⟨[⟨2,3⟩],[]⟩ [⟨1,⟨5,5⟩⟩]).2=0:=by decide+kernel
def C5N(i:Nat)(x:Value×Nat×List Value):Prop:=(i=0∧x=(.slice none 0 0,0,[]))∨(i=1∧x.2.1=1∧Bk x.2.2∧x.1.oneCell'=true)
theorem B8b:C5N 0 (.slice none 0 0,0,[]):=.inl ⟨rfl,rfl⟩
theorem C5h{ys:List Value}{k:Nat}(hk:k=0):∀j u,ys[j]?=some u→ys[k*64+j]?=some u:=fun j u h=>by subst hk;simpa using h
end Go.Proofs.T10
namespace Go.Proofs.T10
open Go Go.Kx
def G6(l:List Moment)(n:Nat):List Int:=E9 n (fun i=>(gt l i).Shown)
def L9(l:List Moment)(n:Nat):List Int:=E9 n (fun i=>(gt l i).Real)
def A4y(p:Pen)(l:List Moment):Int:=
 if O8 p (G6 l l.length)≠0 then O8 p (G6 l l.length)
 else if J1 (L9 l l.length)≠0 then J1 (L9 l l.length)
 else if A0I p (gt (G6 l l.length) 0) (L9 l l.length)≠0∨A5I p (gt (G6 l l.length) 0) (L9 l l.length)≠G6 l l.length then 31 else 0
theorem B4B{p:Pen}{l:List Moment}(h:O8 p (G6 l l.length)≠0):A4y p l=O8 p (G6 l l.length):=if_pos h
theorem B8Y{p:Pen}{l:List Moment}(h:¬O8 p (G6 l l.length)≠0)(h1:J1 (L9 l l.length)≠0):A4y p l=J1 (L9 l l.length):=by rw[A4y,if_neg h,if_pos h1]
theorem C0p{p:Pen}{l:List Moment}(h:¬O8 p (G6 l l.length)≠0)(h1:¬J1 (L9 l l.length)≠0)(h2:A0I p (gt (G6 l l.length) 0) (L9 l l.length)≠0∨A5I p (gt (G6 l l.length) 0) (L9 l l.length)≠G6 l l.length):A4y p l=31:=by rw[A4y,if_neg h,if_neg h1,if_pos h2]
theorem C3U{p:Pen}{l:List Moment}(h:¬O8 p (G6 l l.length)≠0)(h1:¬J1 (L9 l l.length)≠0)(h2:¬A0I p (gt (G6 l l.length) 0) (L9 l l.length)≠0)(h3:A5I p (gt (G6 l l.length) 0) (L9 l l.length)=G6 l l.length):A4y p l=0:=by rw[A4y,if_neg h,if_neg h1,if_neg (fun h4=>h4.elim h2 (fun h5=>h5 h3))]
theorem C3s{l:List Span}{n:Int}:(¬∀i,i<l.length→¬((gt l i).Lo≤n∧n≤(gt l i).Hi))↔inP l n:=
 ⟨fun h=>Classical.byContradiction fun hn=>h fun i hi hp=>hn ⟨i,hi,hp⟩,fun⟨i,hi,hp⟩ h=>h i hi hp⟩
end Go.Proofs.T10
namespace Go.Proofs.T10
open Go Go.Kx
def I1(l:List ReadT)(st:Int):Nat→List ReadT
 |0=>[]
 |k+1=>if(gt l k).Station=st then I1 l st k++[gt l k]else I1 l st k
theorem A6x{l:List ReadT}{st:Int}{k:Nat}(h:(gt l k).Station=st):I1 l st k++[gt l k]=I1 l st (k+1):=(if_pos h).symm
theorem A7p{l:List ReadT}{st:Int}{k:Nat}(h:¬(gt l k).Station=st):I1 l st k=I1 l st (k+1):=(if_neg h).symm
theorem A3x{l:List ReadT}{st:Int}:∀k,(I1 l st k).length≤k
 |0=>Nat.le_refl _
 |k+1=>by have:=A3x (l:=l) (st:=st) k;rw[I1];split <;> simp <;> omega
def A2v(d:Drum)(n:Nat):List Span:=E9 n (fun i=>(A2H d (i:Int)).1)
def A5i(p:Pen)(n:Nat):List Int:=E9 n (fun i=>p.Zero.Lo+(i:Int))
def A2Q(p:Pen):Nat:=(p.Zero.Hi-p.Zero.Lo+1).toNat
def A6W(w:WeekT)(f:FiledT)(st:Int)(ix:RawV):Chart:=⟨f.Sheet,f.Marks,I1 w.Reads st w.Reads.length,w.Base.Ticks,A0J f.Sheet.Paper f.Sheet.Trace f.Sheet.Blots,A2v f.Sheet.Drum f.Sheet.Drum.Rates.length,[],ix,A5i f.Sheet.Pen (A2Q f.Sheet.Pen)⟩
end Go.Proofs.T10
namespace Go.Proofs.T10
open Go Go.Kx
def A0V(x:Course)(n:Nat):List Moment:=E9 n (fun t=>⟨gt x.Shown t,gt x.Levels t-x.Zero⟩)
def B6o(c:Chart)(x:Course):Prop:=(c.Sheet.Pen.Zero.Lo≤x.Zero∧x.Zero≤c.Sheet.Pen.Zero.Hi)∧(∀i,i<x.Ticks.length→0≤gt x.Ticks i∧gt x.Ticks i≤c.ticks)∧keepE c.Sheet.Drum c.marks x.Ticks=0
instance(c:Chart)(x:Course):Decidable (B6o c x):=by unfold B6o;exact inferInstance
def A8M(x:Course)(t:Nat):Prop:=(0≤gt x.Shown t∧gt x.Shown t≤12000)∧(0≤gt x.Levels t∧gt x.Levels t≤12000)
instance(x:Course)(t:Nat):Decidable (A8M x t):=by unfold A8M;exact inferInstance
def B3l(c:Chart)(x:Course)(i:Nat):Prop:=0<(gt c.ink i).length→inP (gt c.ink i) (gt x.Shown (gt x.Ticks i).toNat)
instance(c:Chart)(x:Course)(i:Nat):Decidable (B3l c x i):=by unfold B3l;exact inferInstance
def A4U(x:Course)(r:ReadT):Prop:=r.Levels.Lo≤gt x.Levels r.Tick.toNat∧gt x.Levels r.Tick.toNat≤r.Levels.Hi
instance(x:Course)(r:ReadT):Decidable (A4U x r):=by unfold A4U;exact inferInstance
def A6M(c:Chart)(x:Course):Prop:=B6o c x∧((x.Shown.length:Int)=c.ticks+1∧(x.Levels.length:Int)=c.ticks+1)∧(∀t,t<x.Shown.length→A8M x t)∧(∀i,i<x.Ticks.length→B3l c x i)∧(∀i,i<c.reads.length→A4U x (gt c.reads i))∧A4y c.Sheet.Pen (A0V x x.Shown.length)=0
instance(c:Chart)(x:Course):Decidable (A6M c x):=by unfold A6M;exact inferInstance
structure ChOk(c:Chart):Prop where
 pen:X7 c.Sheet.Pen
 ticks:0≤c.ticks∧c.ticks≤400
 ink:c.ink.length=c.Sheet.Drum.Rates.length+1
 reads:∀i,i<c.reads.length→0≤(gt c.reads i).Tick∧(gt c.reads i).Tick≤c.ticks
theorem B8Q{d:Drum}{m:List Mark}{l:List Int}(h:keepE d m l=0):l.length=d.Rates.length+1:=by
 unfold keepE at h;split at h
 ·contradiction
 ·split at h
  ·rename_i h1;exact h1.1
  ·cases h
theorem B3p{n:Nat}{p:Nat→Prop}[∀i,Decidable (p i)](h:¬¬∀i,i<n→¬¬p i):∀i,i<n→p i:=fun i hi=>Classical.not_not.1 (Classical.not_not.1 h i hi)
theorem B2K{n:Nat}{p:Nat→Prop}(h:¬∀i,i<n→¬¬p i)(h1:∀i,i<n→p i):False:=h fun i hi hn=>hn (h1 i hi)
end Go.Proofs.T10
namespace Go.Proofs.S10
open Go Go.Kx Go.Proofs.T10
def A1i(w:Wind):Int:=if(0≤w.Fixed∧w.Fixed≤12000)∧(0≤w.Each∧w.Each≤10000)then 0 else 1
def A0R(l:List Height)(i:Nat):Prop:=
 (i=0→(gt l i).Week=0)∧(0<i→(gt l (i-1)).Week<(gt l i).Week)∧(gt l i).Week≤10000∧0≤(gt l i).Metres.Lo∧(gt l i).Metres.Lo≤(gt l i).Metres.Hi∧(gt l i).Metres.Hi≤4000
instance(l:List Height)(i:Nat):Decidable (A0R l i):=by unfold A0R;exact inferInstance
def Z4(l:List Height):Prop:=(1≤l.length∧l.length≤16)∧∀i,i<l.length→A0R l i
instance(l:List Height):Decidable (Z4 l):=by unfold Z4;exact inferInstance
def H4(s:Station):Prop:=(1≤s.ID∧s.ID≤65535)∧(0≤s.X∧s.X≤2000)∧(0≤s.Y∧s.Y≤2000)
instance(s:Station):Decidable (H4 s):=by unfold H4;exact inferInstance
def T8(l:List Station)(i:Nat):Int:=
 if¬H4 (gt l i)∨(0<i∧(gt l i).ID≤(gt l (i-1)).ID)then 50 else if¬Z4 (gt l i).Heights then 51 else 0
def Z0(l:List Station):Nat→Nat→Int×Int
 |0,_=>(0,0)
 |n+1,i=>if T8 l i≠0 then(T8 l i,i)else Z0 l n (i+1)
def H8(l:List Station):Int×Int:=if 32<l.length then(2,0)else Z0 l l.length 0
theorem A2I(l:List Station):∀(k n i:Nat),(∀j,i≤j→j<i+k→T8 l j=0)→Z0 l (n+k) i=Z0 l n (i+k)
 |0,n,i,_=>rfl
 |k+1,n,i,h=>by
  rw[show n+(k+1)=(n+k)+1 by omega,Z0,if_neg (by simp[h i (Nat.le_refl _) (by omega)])]
  rw[A2I l k n (i+1) (fun j h1 h2=>h j (by omega) (by omega)),show i+1+k=i+(k+1) by omega]
theorem A3T{l:List Station}{k:Nat}(h32:¬32<l.length)(hk:k<l.length)(h:∀j,j<k→T8 l j=0)(hb:T8 l k≠0):H8 l=(T8 l k,(k:Int)):=by
 rw[H8,if_neg h32,show l.length=(l.length-k)+k by omega,A2I l k _ 0 (fun j _ h2=>h j (by omega))]
 rw[show l.length-k=(l.length-k-1)+1 by omega,Z0,if_pos (by simpa using hb)]
 simp
theorem B9w{l:List Station}(h32:¬32<l.length)(h:∀j,j<l.length→T8 l j=0):H8 l=(0,0):=by
 rw[H8,if_neg h32]
 have:=A2I l l.length 0 0 (fun j _ h2=>h j (by omega))
 simpa[Z0]using this
theorem B6c{l:List Station}(h32:32<l.length):H8 l=(2,0):=by rw[H8,if_pos h32]
def V2:Nat→Nat
 |0=>0
 |n+1=>if n+1≤V2 n*V2 n then V2 n else V2 n+1
theorem C3J(n:Nat):n≤V2 n*V2 n:=by
 induction n with
 |zero=>exact Nat.le_refl _
 |succ n ih=>
  unfold V2
  split
  ·assumption
  ·rw[Nat.add_mul,Nat.mul_add];omega
theorem B6M(n:Nat):∀d,d<V2 n→d*d<n:=by
 induction n with
 |zero=>intro d h;simp[V2]at h
 |succ n ih=>
  intro d h
  unfold V2 at h
  split at h
  ·exact Nat.lt_succ_of_lt (ih d h)
  ·rename_i hn
   have:d*d≤V2 n*V2 n:=Nat.mul_le_mul (by omega) (by omega)
   omega
def P8(a b:Station):Int:=(a.X-b.X)*(a.X-b.X)+(a.Y-b.Y)*(a.Y-b.Y)
def A3O(a b:Station):Int:=V2 (P8 a b).toNat
def A0i(w:Wind)(a b:Station):Int:=if a.ID=b.ID then 0 else w.Fixed+w.Each*A3O a b/100
def A1R(s:Station):Int:=(H8 [s]).1
def A3y:List Station→Int
 | []=>0
 |s::l=>if A1R s≠0 then A1R s else A3y l
theorem A9W:∀{l:List Station} {k:Nat},k<l.length→(∀j,j<k→A1R (gt l j)=0)→A1R (gt l k)≠0→A3y l=A1R (gt l k)
 |s::l,0,_,_,hb=>by rw[A3y,if_pos (by simpa[gt]using hb)];simp[gt]
 |s::l,k+1,hk,h,hb=>by
  have h0:A1R s=0:=by simpa[gt]using h 0 (by omega)
  rw[A3y,if_neg (by simp[h0])]
  have hs:∀j,gt (s::l) (j+1)=gt l j:=fun j=>by simp[gt]
  rw[hs]at hb⊢
  exact A9W (by simpa using hk) (fun j hj=>by have:=h (j+1) (by omega);rwa [hs]at this) hb
theorem B1f:∀{l:List Station},(∀j,j<l.length→A1R (gt l j)=0)→A3y l=0
 | [],_=>rfl
 |s::l,h=>by
  have h0:A1R s=0:=by simpa[gt]using h 0 (by simp)
  rw[A3y,if_neg (by simp[h0])]
  exact B1f fun j hj=>by have:=h (j+1) (by simp;omega);simpa[gt]using this
theorem A6d{l:List Station}{i:Nat}(h:T8 l i=0):H4 (gt l i)∧(0<i→(gt l (i-1)).ID<(gt l i).ID)∧Z4 (gt l i).Heights:=by
 unfold T8 at h
 split at h
 ·cases h
 ·rename_i h1
  split at h
  ·cases h
  ·rename_i h2
   refine⟨?_,?_,Decidable.of_not_not h2⟩
   ·exact Decidable.of_not_not fun hp=>h1 (.inl hp)
   ·intro hi;exact Int.lt_of_not_ge fun hge=>h1 (.inr ⟨hi,hge⟩)
theorem A5C(l:List Station):∀(n i:Nat),(Z0 l n i).1=0→∀j,i≤j→j<i+n→T8 l j=0
 |0,i,_,j,h1,h2=>by omega
 |n+1,i,h,j,h1,h2=>by
  rw[Z0]at h
  split at h
  ·rename_i hb;simp at h;exact absurd h hb
  ·rename_i hb
   by_cases e:j=i
   ·subst e;exact Decidable.of_not_not hb
   ·exact A5C l n (i+1) h j (by omega) (by omega)
theorem Z9{l:List Station}(h:(H8 l).1=0):l.length≤32∧∀j,j<l.length→T8 l j=0:=by
 unfold H8 at h
 split at h
 ·cases h
 ·exact⟨by omega,fun j hj=>A5C l l.length 0 h j (Nat.zero_le _) (by omega)⟩
theorem B9B{s:Station}(h:A1R s=0):H4 s∧Z4 s.Heights:=by
 have:=A6d ((Z9 h).2 0 (by simp))
 simpa[gt]using⟨this.1,this.2.2⟩
theorem A5S{w:Wind}(h:A1i w=0):(0≤w.Fixed∧w.Fixed≤12000)∧(0≤w.Each∧w.Each≤10000):=by
 unfold A1i at h;split at h
 ·assumption
 ·cases h
theorem B0s(n:Nat):V2 n≤n:=by
 induction n with
 |zero=>exact Nat.le_refl _
 |succ n ih=>unfold V2;split <;> omega
theorem A6O{x y A C:Int}(h1:0≤x)(h2:x≤A)(h3:0≤y)(h4:y≤C):0≤x*y∧x*y≤A*C:=
 ⟨Int.mul_nonneg h1 h3,Int.mul_le_mul h2 h4 h3 (Int.le_trans h1 h2)⟩
theorem B2i{x:Int}(h1: -2000≤x)(h2:x≤2000):0≤x*x∧x*x≤4000000:=by
 rcases Int.le_total 0 x with h|h
 ·have:=A6O h h2 h h2;omega
 ·have:=A6O (x:= -x) (y:= -x) (by omega) (show-x≤2000 by omega) (by omega) (show-x≤2000 by omega)
  rw[Int.neg_mul_neg]at this;omega
theorem A8V{a b:Station}(ha:H4 a)(hb:H4 b):0≤P8 a b∧P8 a b≤8000000:=by
 obtain⟨_,h1,h2⟩:=ha
 obtain⟨_,h3,h4⟩:=hb
 have:=B2i (x:=a.X-b.X) (by omega) (by omega)
 have:=B2i (x:=a.Y-b.Y) (by omega) (by omega)
 unfold P8;omega
theorem C0z{a b:Station}(ha:H4 a)(hb:H4 b):0≤A3O a b∧A3O a b≤8000000:=by
 have:=A8V ha hb
 have:=B0s (P8 a b).toNat
 unfold A3O;omega
theorem B4J{w:Wind}{a b:Station}(hw:A1i w=0)(ha:H4 a)(hb:H4 b):0≤w.Each*A3O a b∧w.Each*A3O a b≤80000000000:=by
 have h1:=A5S hw
 have h2:=C0z ha hb
 have:=A6O h1.2.1 h1.2.2 h2.1 h2.2;omega
theorem B1m{a b:Station}{k:Nat}(_h0:0≤P8 a b)(h:(k:Int)*k<P8 a b):k<V2 (P8 a b).toNat:=by
 rcases Nat.lt_or_ge k (V2 (P8 a b).toNat)with h1|h1
 ·exact h1
 ·have h2:=C3J (P8 a b).toNat
  have h3:V2 (P8 a b).toNat*V2 (P8 a b).toNat≤k*k:=Nat.mul_le_mul h1 h1
  have h4:((k*k:Nat):Int)=(k:Int)*k:=Int.natCast_mul ..
  omega
theorem C0a{a b:Station}{k:Nat}(_h0:0≤P8 a b)(hk:k≤V2 (P8 a b).toNat)(h:¬(k:Int)*k<P8 a b):(k:Int)=A3O a b:=by
 rcases Nat.lt_or_ge k (V2 (P8 a b).toNat)with h1|h1
 ·have h2:=B6M (P8 a b).toNat k h1
  have h4:((k*k:Nat):Int)=(k:Int)*k:=Int.natCast_mul ..
  omega
 ·unfold A3O;omega
theorem C6m{a b:Station}{k:Nat}(ha:H4 a)(hb:H4 b)(hk:k≤V2 (P8 a b).toNat):0≤(k:Int)*k∧(k:Int)*k≤64000000000000:=by
 have h1:=A8V ha hb
 have h2:=B0s (P8 a b).toNat
 have:=A6O (x:=(k:Int)) (y:=(k:Int)) (by omega) (show(k:Int)≤8000000 by omega) (by omega) (show(k:Int)≤8000000 by omega)
 omega
def A2F(level height:Int):Int:=level+level*height/8000
def C2u(level:Int)(h:Span):Span:=⟨A2F level h.Lo,A2F level h.Hi⟩
theorem B1c{l h:Int}(h1:0≤l∧l≤12001)(h2:0≤h∧h≤4000):0≤l*h∧l*h≤48004000:=by
 have:=A6O h1.1 h1.2 h2.1 h2.2;omega
def A4z(s:Span):Prop:=(0≤s.Lo∧s.Lo≤s.Hi)∧s.Hi≤4000
instance(s:Span):Decidable (A4z s):=by unfold A4z;exact inferInstance
def C2s(l:List Station):Prop:=(l.length≤10∨32<l.length∧l.length≤60)∧∀i,i<l.length→(gt l i).Heights.length≤40
instance(l:List Station):Decidable (C2s l):=by unfold C2s;exact inferInstance
end Go.Proofs.S10
