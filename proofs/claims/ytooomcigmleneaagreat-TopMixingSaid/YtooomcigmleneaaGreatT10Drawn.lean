import Derived.Test.YtooomcigmleneaaGreatT10Ink2
import Derived.Test.YtooomcigmleneaaGreatT10Set
set_option linter.all false
namespace Go.Proofs.T10
open Go Go.Kx
def S8(d:Drum)(i:Nat):Nat→Span
 |0=>gt d.Rates i
 |k+1=>if(gt d.Stops k).Column=i then⟨wr ((S8 d i k).Lo+(gt d.Stops k).Ticks.Lo),wr ((S8 d i k).Hi+(gt d.Stops k).Ticks.Hi)⟩else S8 d i k
theorem A8L{d:Drum}{i k:Nat}(h:(gt d.Stops k).Column=i):S8 d i (k+1)=⟨wr ((S8 d i k).Lo+(gt d.Stops k).Ticks.Lo),wr ((S8 d i k).Hi+(gt d.Stops k).Ticks.Hi)⟩:=if_pos h
theorem B0F{d:Drum}{i k:Nat}(h:¬(gt d.Stops k).Column=i):S8 d i (k+1)=S8 d i k:=if_neg h
def B0e(x:Sheet)(ticks:Int)(c:Course):Prop:=((c.Ticks.length=x.Drum.Rates.length+1∧(c.Shown.length:Int)=ticks+1)∧((c.Levels.length:Int)=ticks+1∧x.Pen.Zero.Lo≤c.Zero∧c.Zero≤x.Pen.Zero.Hi))∧A2z x.Paper x.Trace x.Blots=0∧(A0R x.Paper x.Trace x.Blots).length=c.Ticks.length
instance(x:Sheet)(t:Int)(c:Course):Decidable (B0e x t c):=by unfold B0e;exact inferInstance
def A5e(x:Sheet)(ticks:Int)(c:Course)(i:Nat):Prop:=(0≤gt c.Ticks i∧gt c.Ticks i≤ticks)∧(0<(gt (A0R x.Paper x.Trace x.Blots) i).length→inP (gt (A0R x.Paper x.Trace x.Blots) i) (gt c.Shown (gt c.Ticks i).toNat))∧(0<i→(S8 x.Drum (i-1) x.Drum.Stops.length).Lo≤gt c.Ticks i-gt c.Ticks (i-1)∧gt c.Ticks i-gt c.Ticks (i-1)≤(S8 x.Drum (i-1) x.Drum.Stops.length).Hi)
instance(x:Sheet)(t:Int)(c:Course)(i:Nat):Decidable (A5e x t c i):=by unfold A5e;exact inferInstance
def A6C(x:Sheet)(c:Course)(t:Nat):Prop:=((0≤gt c.Shown t∧gt c.Shown t≤12000)∧(0≤gt c.Levels t∧gt c.Levels t≤12000)∧gt c.Levels t-c.Zero-gt c.Shown t≤x.Pen.Band∧gt c.Shown t-(gt c.Levels t-c.Zero)≤x.Pen.Band)∧(0<t→(gt c.Levels t-gt c.Levels (t-1)≤x.Pen.Rate∧-(gt c.Levels t-gt c.Levels (t-1))≤x.Pen.Rate)∧gt c.Shown t=Z6 x.Pen.Band (gt c.Shown (t-1)) (gt c.Levels t-c.Zero))
instance(x:Sheet)(c:Course)(t:Nat):Decidable (A6C x c t):=by unfold A6C;exact inferInstance
def A4E(x:Sheet)(ticks:Int)(c:Course):Prop:=B0e x ticks c∧(∀i,i<c.Ticks.length→A5e x ticks c i)∧(∀t,t<(ticks+1).toNat→A6C x c t)
instance(x:Sheet)(t:Int)(c:Course):Decidable (A4E x t c):=by unfold A4E;exact inferInstance
end Go.Proofs.T10
namespace Go.Proofs.T10
open Go Go.Kx
def T5(b first:Int)(L:List Int):Nat→Int
 |0=>first
 |k+1=>Z6 b (T5 b first L k) (gt L (k+1))
def A3u(p:Pen)(m:Moment):Prop:=A3H m.Real m.Shown≤p.Band
instance(p:Pen)(m:Moment):Decidable (A3u p m):=by unfold A3u;exact inferInstance
def A3Y(p:Pen)(m:Moment)(r:Int):Prop:=A3u p m∧A3H r m.Real≤p.Rate
instance(p:Pen)(m:Moment)(r:Int):Decidable (A3Y p m r):=by unfold A3Y;exact inferInstance
def A1X(p:Pen)(m:Moment)(r:Int):Moment:=if A3Y p m r then⟨Z6 p.Band m.Shown r,r⟩else⟨0,0⟩
theorem A7g{p:Pen}{m:Moment}{r:Int}(h:A3Y p m r):A1X p m r=⟨Z6 p.Band m.Shown r,r⟩:=if_pos h
theorem B3w{p:Pen}{m:Moment}{r:Int}(h:¬A3Y p m r):A1X p m r=⟨0,0⟩:=if_neg h
def okM(p:Pen)(first:Int)(L:List Int):Nat→Bool
 |0=>decide (A3u p ⟨first,gt L 0⟩)
 |k+1=>okM p first L k&&decide (A3Y p ⟨T5 p.Band first L k,gt L k⟩ (gt L (k+1)))
def Y0(p:Pen)(first:Int)(L:List Int):Nat→Nat
 |0=>0
 |k+1=>if okM p first L k=true then k+1 else Y0 p first L k
theorem A9V{p:Pen}{first:Int}{L:List Int}:∀{k j:Nat},j≤k→okM p first L k=true→okM p first L j=true
 |0,j,h,h1=>by
  obtain rfl:j=0:=by omega
  exact h1
 |k+1,j,h,h1=>by
  rcases Nat.lt_or_eq_of_le h with h2|h2
  ·rw[okM,Bool.and_eq_true]at h1
   exact A9V (by omega) h1.1
  ·subst h2;exact h1
theorem B1Z{p:Pen}{first:Int}{L:List Int}{i:Nat}(h:okM p first L i=false)(h1:∀j,j<i→okM p first L j=true):∀n,i≤n→Y0 p first L n=i
 |0,hn=>by
  obtain rfl:i=0:=by omega
  rfl
 |n+1,hn=>by
  rw[Y0]
  rcases Nat.lt_or_eq_of_le hn with h2|h2
  ·rw[if_neg (fun h3=>by have:=A9V (j:=i) (by omega) h3;rw[h]at this;cases this)]
   exact B1Z h h1 n (by omega)
  ·subst h2;rw[if_pos (h1 n (by omega))]
theorem B1v{p:Pen}{first:Int}{L:List Int}{n:Nat}(h:okM p first L n=true):Y0 p first L (n+1)=n+1:=if_pos h
theorem A5y{p:Pen}{first:Int}{L:List Int}:∀n,Y0 p first L n≤n
 |0=>Nat.le_refl _
 |n+1=>by have:=A5y (p:=p) (first:=first) (L:=L) n;rw[Y0];split <;> omega
theorem B5g{p:Pen}{first:Int}{L:List Int}{i n:Nat}(h:okM p first L i=true)(hi:i<n):i<Y0 p first L n:=by
 induction n with
 |zero=>omega
 |succ n ih=>
  rw[Y0]
  split
  ·omega
  ·rcases Nat.lt_succ_iff_lt_or_eq.1 hi with h1|h1
   ·exact ih h1
   ·subst h1;contradiction
def C1U(p:Pen)(first:Int)(L:List Int):Nat→Mem→Array Value→Prop:=fun i _ args=>args=#[.agg [J (T5 p.Band first L i),J (gt L i)].toArray]
theorem B1N{b s r:Int}(hb:0≤b):r-b≤Z6 b s r∧Z6 b s r≤r+b:=by unfold Z6;omega
theorem C6p{p:Pen}(hp:Y3 p){first:Int}(hf: -50000≤first∧first≤50000){L:List Int}(hL:A2A L):∀k,k<L.length→-60000≤T5 p.Band first L k∧T5 p.Band first L k≤60000
 |0,_=>by rw[T5];omega
 |k+1,h=>by
  have h1:=hL (k+1) h
  have h2:=hp.1
  have h3:=B1N (b:=p.Band) (s:=T5 p.Band first L k) (r:=gt L (k+1)) h2.1
  rw[T5];omega
def shL(b first:Int)(L:List Int):List Int:=E8 L.length (T5 b first L)
def A0S(p:Pen)(first:Int)(L:List Int):Int:=if T2 p [first]≠0 then T2 p [first]else if J4 L≠0 then J4 L else if Y0 p first L L.length<L.length then 31 else 0
def A6m(p:Pen)(first:Int)(L:List Int):List Int:=if A0S p first L≠0 then[]else shL p.Band first L
theorem B3K{p:Pen}{first:Int}{L:List Int}(h:T2 p [first]≠0):A0S p first L=T2 p [first]:=if_pos h
theorem B1M{p:Pen}{first:Int}{L:List Int}(h:¬T2 p [first]≠0)(h1:J4 L≠0):A0S p first L=J4 L:=by rw[A0S,if_neg h,if_pos h1]
theorem A6G{p:Pen}{first:Int}{L:List Int}(h:¬T2 p [first]≠0)(h1:¬J4 L≠0)(h2:Y0 p first L L.length<L.length):A0S p first L=31:=by rw[A0S,if_neg h,if_neg h1,if_pos h2]
theorem B5n{p:Pen}{first:Int}{L:List Int}(h:¬T2 p [first]≠0)(h1:¬J4 L≠0)(h2:¬Y0 p first L L.length<L.length):A0S p first L=0:=by rw[A0S,if_neg h,if_neg h1,if_neg h2]
theorem A8B{p:Pen}{first:Int}{L:List Int}(h:A0S p first L≠0):A6m p first L=[]:=if_pos h
theorem B0W{p:Pen}{first:Int}{L:List Int}(h:A0S p first L=0):A6m p first L=shL p.Band first L:=if_neg (fun h1=>h1 h)
theorem C3k{p:Pen}{first:Int}(h:T2 p [first]=0):Y3 p∧-50000≤first∧first≤50000:=by
 unfold T2 at h
 split at h
 ·contradiction
 ·split at h
  ·rename_i h1 h2;exact⟨A4s (by omega),h2 0 (by simp)⟩
  ·cases h
theorem L4{α:Type}(n:Nat)(f:Nat→α):E8 (n+1) f=E8 n f++[f n]:=by unfold E8;rw[List.range_succ,List.map_append];rfl
end Go.Proofs.T10
namespace Go.Proofs.T10
open Go Go.Kx
def A4R(l:List Span):Nat→Int
 |0=> -100002
 |k+1=>(gt l k).Hi
def B3r(l:List Span):Prop:=∀i,i<l.length→A4R l i+2≤(gt l i).Lo∧(gt l i).Lo≤(gt l i).Hi∧(gt l i).Hi≤100000
instance(l:List Span):Decidable (B3r l):=by unfold B3r;exact inferInstance
def N9(l:List Span):Prop:=l.length≤64∧B3r l
instance(l:List Span):Decidable (N9 l):=by unfold N9;exact inferInstance
theorem A9e{l:List Span}{k:Nat}(h:∀i,i<k→A4R l i+2≤(gt l i).Lo∧(gt l i).Lo≤(gt l i).Hi∧(gt l i).Hi≤100000):∀i,i≤k→-100002≤A4R l i∧A4R l i≤100000
 |0,_=>by rw[A4R];omega
 |i+1,hi=>by
  have h1:=h i (by omega)
  have h2:=A9e h i (by omega)
  rw[A4R];omega
def spV(l:List Span):Prop:=∀s∈l,-1000000000≤s.Lo∧s.Lo≤s.Hi∧s.Hi≤1000000000
theorem C4D:spV []:=fun _ h=>by cases h
theorem C4p{l r:List Span}(h:spV l)(h':spV r):spV (l++r):=fun s hs=>(List.mem_append.1 hs).elim (h s) (h' s)
theorem B9u{l:List Span}(h:spV l):∀s∈l,s.Lo≤s.Hi:=fun s hs=>(h s hs).2.1
theorem C3A{l:List Span}(h:spV l):bdS l:=B0c fun s hs=>by have:=h s hs;omega
theorem B3t{l r:List Span}(h:spV l)(hp:r.Perm l):spV r:=fun s hs=>h s (hp.mem_iff.1 hs)
theorem B9B{l:List Span}(h:spV l){i:Nat}(hi:i<l.length): -1000000000≤(gt l i).Lo∧(gt l i).Lo≤(gt l i).Hi∧(gt l i).Hi≤1000000000:=h _ (A2P hi)
theorem C2q{L:List Span}{x:Span}(h:spV L)(hx: -1000000000≤x.Lo∧x.Lo≤x.Hi∧x.Hi≤1000000000):spV (A0E L x):=by
 unfold A0E
 split
 ·rename_i h1
  have h2:=B9B h (i:=L.length-1) (by omega)
  intro s hs
  rcases List.mem_or_eq_of_mem_set hs with h3|rfl
  ·exact h s h3
  ·dsimp only;omega
 ·intro s hs
  rcases List.mem_append.1 hs with h3|h3
  ·exact h s h3
  ·rw[List.mem_singleton.1 h3];exact hx
theorem B4y{l:List Span}(h:spV l):spV (D2 l)∧(D2 l).length≤l.length:=by
 induction hn:l.length generalizing l with
 |zero=>obtain rfl:=List.length_eq_zero_iff.1 hn;exact⟨C4D,Nat.le_refl _⟩
 |succ n ih=>
  obtain⟨r,x,rfl⟩:=A4h l (by omega)
  have h1:=ih (l:=r) (fun s hs=>h s (List.mem_append_left _ hs)) (by simpa using hn)
  rw[A3p]
  have h2:=B3d (D2 r) x
  exact⟨C2q h1.1 (h x (by simp)),by omega⟩
theorem B6M{l:List Span}(h:spV l):(Z8 l).length≤l.length:=by
 have:=(B4y (B3t h (A1u l))).2
 rw[(A1u l).length_eq]at this;exact this
theorem B2Y{l:List Span}(h:B3r l):spV l:=fun s hs=>by
 obtain⟨i,hi,rfl⟩:=A4m hs
 have h1:=h i hi
 have h2:=A9e (l:=l) (k:=i) (fun j hj=>h j (by omega)) i (Nat.le_refl _)
 omega
def spA(L:List Span):Nat→Mem→Array Value→Prop:=fun i _ args=>args=#[.agg [J (gt L i).Lo,J (gt L i).Hi].toArray]
def S7(x y:Int):Int:=if x<y then-1 else if y<x then 1 else 0
theorem C4k{x y:Int}(h:x<y):S7 x y= -1:=if_pos h
theorem C4z{x y:Int}(h:¬x<y)(h1:y<x):S7 x y=1:=by rw[S7,if_neg h,if_pos h1]
theorem C4O{x y:Int}(h:¬x<y)(h1:¬y<x):S7 x y=0:=by rw[S7,if_neg h,if_neg h1]
theorem A4z{x y:Int}:S7 x y<0↔x<y:=by unfold S7;split <;> (try split) <;> omega
theorem C2X{α:Type}[Inhabited α](L:List α):E8 L.length (gt L)=L:=by
 apply List.ext_getElem?
 intro j
 by_cases hj:j<L.length
 ·simp[E8,hj,gt,List.getD]
 ·rw[List.getElem?_eq_none (by rw[C4];omega),List.getElem?_eq_none (by omega)]
def B4r(a b:List Span):Int:=if N9 a∧N9 b then 0 else 1
def B3u(a b:List Span):List Span:=if N9 a∧N9 b then Z8 (a++b)else[]
theorem B5T{a b:List Span}(h:¬(N9 a∧N9 b)):B4r a b=1:=if_neg h
theorem B5N{a b:List Span}(h:¬(N9 a∧N9 b)):B3u a b=[]:=if_neg h
theorem C2j{a b:List Span}(h:N9 a∧N9 b):B4r a b=0:=if_pos h
theorem C0w{a b:List Span}(h:N9 a∧N9 b):B3u a b=Z8 (a++b):=if_pos h
end Go.Proofs.T10
namespace Go.Proofs.T10
open Go Go.Kx
def Z2(c:Course)(n:Nat):List Int:=E8 n (fun t=>gt c.Levels t-c.Zero)
theorem B9M(c:Course)(n:Nat):(Z2 c n).length=n:=C4 _ _
theorem A0f{c:Course}{n t:Nat}(h:t<n):gt (Z2 c n) t=gt c.Levels t-c.Zero:=V4 _ h
theorem B6q{p:Pen}{l:List Int}(hp:Y3 p)(hl:1≤l.length∧l.length≤401)(hv:A2A l):O9 p l=0:=by
 unfold O9;rw[A8E hp,if_neg (fun h=>h rfl)];unfold J4;rw[if_pos ⟨hl,hv⟩]
end Go.Proofs.T10
namespace Go.Proofs.T10
open Go Go.Kx
def B0K(p:Nat→Prop)[DecidablePred p]:Nat→Nat→Nat
 |0,k=>k
 |f+1,k=>if p k then k else B0K p f (k+1)
def first(p:Nat→Prop)[DecidablePred p](n:Nat):Nat:=B0K p n 0
theorem B5k{p:Nat→Prop}[DecidablePred p]:∀{f a k:Nat},a≤k→k<a+f→(∀j,a≤j→j<k→¬p j)→p k→B0K p f a=k
 |0,a,k,h1,h2,_,_=>by omega
 |f+1,a,k,h1,h2,h,hp=>by
  unfold B0K
  rcases Nat.lt_or_ge a k with h3|h3
  ·rw[if_neg (h a (Nat.le_refl _) h3)]
   exact B5k h3 (by omega) (fun j hj=>h j (by omega)) hp
  ·have:a=k:=by omega
   subst this
   rw[if_pos hp]
theorem B5t{p:Nat→Prop}[DecidablePred p]:∀{f a:Nat},(∀j,a≤j→j<a+f→¬p j)→B0K p f a=a+f
 |0,a,_=>rfl
 |f+1,a,h=>by
  unfold B0K
  rw[if_neg (h a (Nat.le_refl _) (by omega)),B5t (fun j h1 h2=>h j (by omega) (by omega))]
  omega
theorem B3c{p:Nat→Prop}[DecidablePred p]{n k:Nat}(hk:k<n)(h:∀j,j<k→¬p j)(hp:p k):first p n=k:=
 B5k (Nat.zero_le _) (by omega) (fun j _ hj=>h j hj) hp
theorem A8K{p:Nat→Prop}[DecidablePred p]{n:Nat}(h:∀j,j<n→¬p j):first p n=n:=by
 have:=B5t (p:=p) (f:=n) (a:=0) (fun j _ hj=>h j (by omega))
 simpa[first]using this
theorem A1O(p:Nat→Prop)[DecidablePred p](n:Nat):(first p n=n∧∀j,j<n→¬p j)∨(first p n<n∧p (first p n)∧∀j,j<first p n→¬p j):=by
 by_cases h:∀j,j<n→¬p j
 ·exact .inl ⟨A8K h,h⟩
 ·right
  have:∃k,k<n∧p k∧∀j,j<k→¬p j:=by
   have hex:∃j,j<n∧p j:=by
    by_cases he:∃j,j<n∧p j
    ·exact he
    ·exact absurd (fun j hj hp=>he ⟨j,hj,hp⟩) h
   obtain⟨j0,hj0⟩:=hex
   have key:∀b,(∃j,j≤b∧j<n∧p j)→∃k,k<n∧p k∧∀j,j<k→¬p j:=by
    intro b
    induction b with
    |zero=>
     rintro⟨j,h1,h2,h3⟩;obtain rfl:j=0:=by omega
     exact⟨0,h2,h3,fun i hi=>absurd hi (Nat.not_lt_zero _)⟩
    |succ b ih=>
     rintro⟨j,h1,h2,h3⟩
     by_cases hb:∃j,j≤b∧j<n∧p j
     ·exact ih hb
     ·have hj:j=b+1:=by
       rcases Nat.lt_or_ge b j with h4|h4
       ·omega
       ·exact absurd ⟨j,h4,h2,h3⟩ hb
      subst hj
      exact⟨b+1,h2,h3,fun i hi hp=>hb ⟨i,by omega,by omega,hp⟩⟩
   exact key j0 ⟨j0,Nat.le_refl _,hj0⟩
  obtain⟨k,hk,hp,hm⟩:=this
  have:=B3c hk hm hp
  exact⟨by omega,by rw[this];exact hp,by rw[this];exact hm⟩
theorem A8F{α:Type}(f:Nat→α)(n:Nat):(List.range n).map f++[f n]=(List.range (n+1)).map f:=by rw[List.range_succ];simp
theorem A4q{α:Type}(f:Nat→α)(n:Nat):((List.range n).map f).length=n:=by simp
theorem S6{α:Type}[Inhabited α]{f:Nat→α}{n i:Nat}(h:i<n):gt ((List.range n).map f) i=f i:=by
 have:((List.range n).map f)[i]?=some (f i):=by rw[List.getElem?_map,List.getElem?_range h];rfl
 simp[gt,this]
theorem V3{α:Type}[Inhabited α](L:List α){a b:Nat}(x:α)(hb:b<L.length):gt (L.set a x) b=if a=b then x else gt L b:=by
 simp only[gt,List.getD,List.getElem?_set]
 split
 ·subst_vars;simp[hb]
 ·rfl
theorem B8D{α:Type}[Inhabited α](L:List α):(List.range L.length).map (gt L)=L:=by
 refine A1P (by simp) fun j hj=>?_
 rw[S6 (by simpa using hj)]
theorem A3E{α:Type}{f g:Nat→α}{n:Nat}(h:∀i,i<n→f i=g i):(List.range n).map f=(List.range n).map g:=by
 apply List.map_congr_left
 intro a ha
 exact h a (by simpa using ha)
theorem A5G{α:Type}[Inhabited α]{L:List α}{f:Nat→α}{n:Nat}(hl:L.length=n)(h:∀i,i<n→gt L i=f i):L=(List.range n).map f:=by
 subst hl
 rw[←A3E h,B8D]
theorem C3v{α:Type}(x:α)(n:Nat):List.replicate n x=(List.range n).map fun _=>x:=by
 rw[List.map_const',List.length_range]
def V8(p:Nat→Prop)[DecidablePred p](n:Nat):Int:=if first p n<n then(first p n:Int)else-1
theorem A0K{p:Nat→Prop}[DecidablePred p]{n k:Nat}(hk:k<n)(h:∀j,j<k→¬p j)(hp:p k):V8 p n=(k:Int):=by
 have:=B3c hk h hp
 rw[V8,if_pos (by omega),this]
theorem A0t{p:Nat→Prop}[DecidablePred p]{n:Nat}(h:∀j,j<n→¬p j):V8 p n= -1:=by
 have:=A8K h
 rw[V8,if_neg (by omega)]
theorem B4t{p:Nat→Prop}[DecidablePred p]{n:Nat}(h:V8 p n<0):∀j,j<n→¬p j:=by
 rcases A1O p n with h1|h1
 ·exact h1.2
 ·rw[V8,if_pos h1.1]at h;omega
theorem A5I(p:Nat→Prop)[DecidablePred p](n:Nat):0≤V8 p n↔¬∀i,i<n→¬p i:=by
 rcases A1O p n with h1|h1
 ·rw[A0t h1.2];exact⟨fun h=>absurd h (by omega),fun h=>absurd h1.2 h⟩
 ·rw[V8,if_pos h1.1];exact⟨fun _ h=>h _ h1.1 h1.2.1,fun _=>by omega⟩
theorem B7C{p:Nat→Prop}[DecidablePred p]{n:Nat}(h:0≤V8 p n):V8 p n=(first p n:Int)∧first p n<n:=by
 rcases A1O p n with h1|h1
 ·rw[A0t h1.2]at h;omega
 ·rw[V8,if_pos h1.1];exact⟨rfl,h1.1⟩
end Go.Proofs.T10
namespace Go.Proofs.T10
open Go Go.Kx
def A2R(a b:Span):Span:=⟨max a.Lo b.Lo,min a.Hi b.Hi⟩
theorem C4f(a b:Span):(A2R a b).Lo=max a.Lo b.Lo:=rfl
theorem C3R(a b:Span):(A2R a b).Hi=min a.Hi b.Hi:=rfl
theorem A7O{a b:Span}(h1:a.Lo=b.Lo)(h2:a.Hi=b.Hi):a=b:=by cases a;cases b;simp_all
def fw(g a:Nat→Span):Nat→Span
 |0=>a 0
 |k+1=>A2R (a (k+1)) ⟨(fw g a k).Lo+(g k).Lo,(fw g a k).Hi+(g k).Hi⟩
def bw(g f:Nat→Span)(n:Nat):Nat→Span
 |0=>f n
 |j+1=>A2R (f (n-(j+1))) ⟨(bw g f n j).Lo-(g (n-(j+1))).Hi,(bw g f n j).Hi-(g (n-(j+1))).Lo⟩
def st(g a:Nat→Span)(n i:Nat):Span:=bw g (fw g a) n (n-i)
theorem A9r(g a:Nat→Span)(k:Nat):(fw g a (k+1)).Lo=max (a (k+1)).Lo ((fw g a k).Lo+(g k).Lo):=rfl
theorem B0t(g a:Nat→Span)(k:Nat):(fw g a (k+1)).Hi=min (a (k+1)).Hi ((fw g a k).Hi+(g k).Hi):=rfl
theorem A2q(g a:Nat→Span)(n:Nat):st g a n n=fw g a n:=by unfold st;rw[Nat.sub_self];rfl
theorem A5d(g a:Nat→Span){n i:Nat}(h:i<n):(st g a n i).Lo=max (fw g a i).Lo ((st g a n (i+1)).Lo-(g i).Hi):=by
 unfold st
 rw[show n-i=(n-(i+1))+1 by omega,bw,show n-(n-(i+1)+1)=i by omega];rfl
theorem A4U(g a:Nat→Span){n i:Nat}(h:i<n):(st g a n i).Hi=min (fw g a i).Hi ((st g a n (i+1)).Hi-(g i).Lo):=by
 unfold st
 rw[show n-i=(n-(i+1))+1 by omega,bw,show n-(n-(i+1)+1)=i by omega];rfl
theorem C7F(g a:Nat→Span):∀k,(a k).Lo≤(fw g a k).Lo∧(fw g a k).Hi≤(a k).Hi
 |0=>⟨Int.le_refl _,Int.le_refl _⟩
 |k+1=>by rw[A9r,B0t];omega
theorem C2L(g a:Nat→Span){n i:Nat}(h:i≤n):(fw g a i).Lo≤(st g a n i).Lo∧(st g a n i).Hi≤(fw g a i).Hi:=by
 rcases Nat.lt_or_ge i n with h1|h1
 ·rw[A5d g a h1,A4U g a h1];omega
 ·obtain rfl:i=n:=by omega
  rw[A2q];omega
theorem C2M(g a:Nat→Span){n i:Nat}(h:i≤n):(a i).Lo≤(st g a n i).Lo∧(st g a n i).Hi≤(a i).Hi:=by
 have h1:=C7F g a i
 have h2:=C2L g a h
 omega
def B2m(g:Nat→Span)(n:Nat):Prop:=∀i,i<n→(g i).Lo≤(g i).Hi
theorem B8s{g:Nat→Span}{n:Nat}(hg:B2m g n)(a:Nat→Span){i:Nat}(h:i<n):
 ((st g a n i).Lo+(g i).Lo≤(st g a n (i+1)).Lo∧(st g a n (i+1)).Lo≤(st g a n i).Lo+(g i).Hi)∧((st g a n i).Hi+(g i).Lo≤(st g a n (i+1)).Hi∧(st g a n (i+1)).Hi≤(st g a n i).Hi+(g i).Hi):=by
 have h1:=C2L g a (n:=n) (i:=i+1) (by omega)
 have h2:=hg i h
 rw[A9r,B0t]at h1
 rw[A5d g a h,A4U g a h]
 omega
def Rd(g a:Nat→Span)(n:Nat)(x:Nat→Int):Prop:=(∀i,i≤n→(a i).Lo≤x i∧x i≤(a i).Hi)∧∀i,i<n→(g i).Lo≤x (i+1)-x i∧x (i+1)-x i≤(g i).Hi
theorem B6Q{g a:Nat→Span}{n:Nat}{x:Nat→Int}(ha:∀i,i≤n→x i≤(a i).Hi)(hx:∀i,i<n→(g i).Lo≤x (i+1)-x i∧x (i+1)-x i≤(g i).Hi):∀k,k≤n→x k≤(fw g a k).Hi
 |0,h=>ha 0 h
 |k+1,h=>by have h1:=B6Q ha hx k (by omega);have h2:=ha (k+1) h;have h3:=hx k h;rw[B0t];omega
theorem C7D{g a:Nat→Span}{n:Nat}{x:Nat→Int}(ha:∀i,i≤n→x i≤(a i).Hi)(hx:∀i,i<n→(g i).Lo≤x (i+1)-x i∧x (i+1)-x i≤(g i).Hi){i:Nat}(hi:i≤n):x i≤(st g a n i).Hi:=by
 have key:∀j i,i+j=n→x i≤(st g a n i).Hi:=by
  intro j
  induction j with
  |zero=>
   intro i h;obtain rfl:i=n:=by omega
   rw[A2q];exact B6Q ha hx i (Nat.le_refl _)
  |succ j ih=>
   intro i h
   have h1:=ih (i+1) (by omega);have h2:=B6Q ha hx i (by omega);have h3:=hx i (by omega)
   rw[A4U g a (by omega)];omega
 exact key (n-i) i (by omega)
theorem B6Z{g a:Nat→Span}{n:Nat}{x:Nat→Int}(ha:∀i,i≤n→(a i).Lo≤x i)(hx:∀i,i<n→(g i).Lo≤x (i+1)-x i∧x (i+1)-x i≤(g i).Hi):∀k,k≤n→(fw g a k).Lo≤x k
 |0,h=>ha 0 h
 |k+1,h=>by have h1:=B6Z ha hx k (by omega);have h2:=ha (k+1) h;have h3:=hx k h;rw[A9r];omega
theorem C7l{g a:Nat→Span}{n:Nat}{x:Nat→Int}(ha:∀i,i≤n→(a i).Lo≤x i)(hx:∀i,i<n→(g i).Lo≤x (i+1)-x i∧x (i+1)-x i≤(g i).Hi){i:Nat}(hi:i≤n):(st g a n i).Lo≤x i:=by
 have key:∀j i,i+j=n→(st g a n i).Lo≤x i:=by
  intro j
  induction j with
  |zero=>
   intro i h;obtain rfl:i=n:=by omega
   rw[A2q];exact B6Z ha hx i (Nat.le_refl _)
  |succ j ih=>
   intro i h
   have h1:=ih (i+1) (by omega);have h2:=B6Z ha hx i (by omega);have h3:=hx i (by omega)
   rw[A5d g a (by omega)];omega
 exact key (n-i) i (by omega)
theorem Rd.st{g a:Nat→Span}{n:Nat}{x:Nat→Int}(h:Rd g a n x){i:Nat}(hi:i≤n):(T10.st g a n i).Lo≤x i∧x i≤(T10.st g a n i).Hi:=
 ⟨C7l (fun i hi=>(h.1 i hi).1) h.2 hi,C7D (fun i hi=>(h.1 i hi).2) h.2 hi⟩
def okP(g a:Nat→Span)(n:Nat):Prop:=∀i,i<n+1→(st g a n i).Lo≤(st g a n i).Hi
instance(g a:Nat→Span)(n:Nat):Decidable (okP g a n):=by unfold okP;exact inferInstance
theorem Rd.ok{g a:Nat→Span}{n:Nat}{x:Nat→Int}(h:Rd g a n x):okP g a n:=fun i hi=>by have:=h.st (i:=i) (by omega);omega
theorem B6W{g:Nat→Span}{n:Nat}(hg:B2m g n)(a:Nat→Span):∀k,k≤n→fw g (st g a n) k=st g a n k
 |0,_=>rfl
 |k+1,h=>by
  have h1:=B6W hg a k (by omega)
  have h2:=B8s hg a (i:=k) (by omega)
  refine A7O ?_ ?_
  ·rw[A9r,h1];omega
  ·rw[B0t,h1];omega
theorem C7q{g:Nat→Span}{n:Nat}(hg:B2m g n)(a:Nat→Span){i:Nat}(hi:i≤n):st g (st g a n) n i=st g a n i:=by
 have key:∀j i,i+j=n→st g (st g a n) n i=st g a n i:=by
  intro j
  induction j with
  |zero=>
   intro i h;obtain rfl:i=n:=by omega
   rw[A2q,B6W hg a i (Nat.le_refl _)]
  |succ j ih=>
   intro i h
   have h1:=ih (i+1) (by omega)
   have h2:=B6W hg a i (by omega)
   have h3:=B8s hg a (i:=i) (by omega)
   refine A7O ?_ ?_
   ·rw[A5d g _ (by omega),h1,h2];omega
   ·rw[A4U g _ (by omega),h1,h2];omega
 exact key (n-i) i (by omega)
theorem A8U{g h a b:Nat→Span}:∀{k:Nat},(∀i,i<k→g i=h i)→(∀i,i≤k→a i=b i)→fw g a k=fw h b k
 |0,_,hab=>hab 0 (Nat.le_refl _)
 |k+1,hgh,hab=>by rw[fw,fw,A8U (fun i hi=>hgh i (by omega)) (fun i hi=>hab i (by omega)),hab (k+1) (Nat.le_refl _),hgh k (by omega)]
theorem B3e{g h a b:Nat→Span}{n:Nat}(hgh:∀i,i<n→g i=h i)(hab:∀i,i≤n→a i=b i){i:Nat}(hi:i≤n):st g a n i=st h b n i:=by
 have key:∀j i,i+j=n→st g a n i=st h b n i:=by
  intro j
  induction j with
  |zero=>
   intro i h;obtain rfl:i=n:=by omega
   rw[A2q,A2q,A8U hgh hab]
  |succ j ih=>
   intro i h'
   have h1:=ih (i+1) (by omega)
   have h2:=A8U (k:=i) (fun q hq=>hgh q (by omega)) (fun q hq=>hab q (by omega))
   have h3:=hgh i (by omega)
   refine A7O ?_ ?_
   ·rw[A5d g _ (by omega),A5d h _ (by omega),h1,h2,h3]
   ·rw[A4U g _ (by omega),A4U h _ (by omega),h1,h2,h3]
 exact key (n-i) i (by omega)
end Go.Proofs.T10
