import Derived.Test.YtooomcigmleneaaGreatT10Ink2
import Derived.Test.YtooomcigmleneaaGreatT10Set
set_option linter.all false
namespace Go.Proofs.T10
open Go Go.Kx
def T1(d:Drum)(i:Nat):Nat→Span
 |0=>gt d.Rates i
 |k+1=>if(gt d.Stops k).Column=i then⟨wr ((T1 d i k).Lo+(gt d.Stops k).Ticks.Lo),wr ((T1 d i k).Hi+(gt d.Stops k).Ticks.Hi)⟩else T1 d i k
theorem A8v{d:Drum}{i k:Nat}(h:(gt d.Stops k).Column=i):T1 d i (k+1)=⟨wr ((T1 d i k).Lo+(gt d.Stops k).Ticks.Lo),wr ((T1 d i k).Hi+(gt d.Stops k).Ticks.Hi)⟩:=if_pos h
theorem B0O{d:Drum}{i k:Nat}(h:¬(gt d.Stops k).Column=i):T1 d i (k+1)=T1 d i k:=if_neg h
def A9D(x:Sheet)(ticks:Int)(c:Course):Prop:=((c.Ticks.length=x.Drum.Rates.length+1∧(c.Shown.length:Int)=ticks+1)∧((c.Levels.length:Int)=ticks+1∧x.Pen.Zero.Lo≤c.Zero∧c.Zero≤x.Pen.Zero.Hi))∧A2C x.Paper x.Trace x.Blots=0∧(A0J x.Paper x.Trace x.Blots).length=c.Ticks.length
instance(x:Sheet)(t:Int)(c:Course):Decidable (A9D x t c):=by unfold A9D;exact inferInstance
def A4Q(x:Sheet)(ticks:Int)(c:Course)(i:Nat):Prop:=(0≤gt c.Ticks i∧gt c.Ticks i≤ticks)∧(0<(gt (A0J x.Paper x.Trace x.Blots) i).length→inP (gt (A0J x.Paper x.Trace x.Blots) i) (gt c.Shown (gt c.Ticks i).toNat))∧(0<i→(T1 x.Drum (i-1) x.Drum.Stops.length).Lo≤gt c.Ticks i-gt c.Ticks (i-1)∧gt c.Ticks i-gt c.Ticks (i-1)≤(T1 x.Drum (i-1) x.Drum.Stops.length).Hi)
instance(x:Sheet)(t:Int)(c:Course)(i:Nat):Decidable (A4Q x t c i):=by unfold A4Q;exact inferInstance
def A5O(x:Sheet)(c:Course)(t:Nat):Prop:=((0≤gt c.Shown t∧gt c.Shown t≤12000)∧(0≤gt c.Levels t∧gt c.Levels t≤12000)∧gt c.Levels t-c.Zero-gt c.Shown t≤x.Pen.Band∧gt c.Shown t-(gt c.Levels t-c.Zero)≤x.Pen.Band)∧(0<t→(gt c.Levels t-gt c.Levels (t-1)≤x.Pen.Rate∧-(gt c.Levels t-gt c.Levels (t-1))≤x.Pen.Rate)∧gt c.Shown t=Y4 x.Pen.Band (gt c.Shown (t-1)) (gt c.Levels t-c.Zero))
instance(x:Sheet)(c:Course)(t:Nat):Decidable (A5O x c t):=by unfold A5O;exact inferInstance
def A4B(x:Sheet)(ticks:Int)(c:Course):Prop:=A9D x ticks c∧(∀i,i<c.Ticks.length→A4Q x ticks c i)∧(∀t,t<(ticks+1).toNat→A5O x c t)
instance(x:Sheet)(t:Int)(c:Course):Decidable (A4B x t c):=by unfold A4B;exact inferInstance
end Go.Proofs.T10
namespace Go.Proofs.T10
open Go Go.Kx
def T2(b first:Int)(L:List Int):Nat→Int
 |0=>first
 |k+1=>Y4 b (T2 b first L k) (gt L (k+1))
def A3n(p:Pen)(m:Moment):Prop:=A3k m.Real m.Shown≤p.Band
instance(p:Pen)(m:Moment):Decidable (A3n p m):=by unfold A3n;exact inferInstance
def A3M(p:Pen)(m:Moment)(r:Int):Prop:=A3n p m∧A3k r m.Real≤p.Rate
instance(p:Pen)(m:Moment)(r:Int):Decidable (A3M p m r):=by unfold A3M;exact inferInstance
def A1L(p:Pen)(m:Moment)(r:Int):Moment:=if A3M p m r then⟨Y4 p.Band m.Shown r,r⟩else⟨0,0⟩
theorem A6L{p:Pen}{m:Moment}{r:Int}(h:A3M p m r):A1L p m r=⟨Y4 p.Band m.Shown r,r⟩:=if_pos h
theorem B3Y{p:Pen}{m:Moment}{r:Int}(h:¬A3M p m r):A1L p m r=⟨0,0⟩:=if_neg h
def okM(p:Pen)(first:Int)(L:List Int):Nat→Bool
 |0=>decide (A3n p ⟨first,gt L 0⟩)
 |k+1=>okM p first L k&&decide (A3M p ⟨T2 p.Band first L k,gt L k⟩ (gt L (k+1)))
def X0(p:Pen)(first:Int)(L:List Int):Nat→Nat
 |0=>0
 |k+1=>if okM p first L k=true then k+1 else X0 p first L k
theorem B0d{p:Pen}{first:Int}{L:List Int}:∀{k j:Nat},j≤k→okM p first L k=true→okM p first L j=true
 |0,j,h,h1=>by
  obtain rfl:j=0:=by omega
  exact h1
 |k+1,j,h,h1=>by
  rcases Nat.lt_or_eq_of_le h with h2|h2
  ·rw[okM,Bool.and_eq_true]at h1
   exact B0d (by omega) h1.1
  ·subst h2;exact h1
theorem B1z{p:Pen}{first:Int}{L:List Int}{i:Nat}(h:okM p first L i=false)(h1:∀j,j<i→okM p first L j=true):∀n,i≤n→X0 p first L n=i
 |0,hn=>by
  obtain rfl:i=0:=by omega
  rfl
 |n+1,hn=>by
  rw[X0]
  rcases Nat.lt_or_eq_of_le hn with h2|h2
  ·rw[if_neg (fun h3=>by have:=B0d (j:=i) (by omega) h3;rw[h]at this;cases this)]
   exact B1z h h1 n (by omega)
  ·subst h2;rw[if_pos (h1 n (by omega))]
theorem B1h{p:Pen}{first:Int}{L:List Int}{n:Nat}(h:okM p first L n=true):X0 p first L (n+1)=n+1:=if_pos h
theorem A5x{p:Pen}{first:Int}{L:List Int}:∀n,X0 p first L n≤n
 |0=>Nat.le_refl _
 |n+1=>by have:=A5x (p:=p) (first:=first) (L:=L) n;rw[X0];split <;> omega
theorem B4P{p:Pen}{first:Int}{L:List Int}{i n:Nat}(h:okM p first L i=true)(hi:i<n):i<X0 p first L n:=by
 induction n with
 |zero=>omega
 |succ n ih=>
  rw[X0]
  split
  ·omega
  ·rcases Nat.lt_succ_iff_lt_or_eq.1 hi with h1|h1
   ·exact ih h1
   ·subst h1;contradiction
def B9J(p:Pen)(first:Int)(L:List Int):Nat→Mem→Array Value→Prop:=fun i _ args=>args=#[.agg [J (T2 p.Band first L i),J (gt L i)].toArray]
theorem B1Q{b s r:Int}(hb:0≤b):r-b≤Y4 b s r∧Y4 b s r≤r+b:=by unfold Y4;omega
theorem C5B{p:Pen}(hp:X7 p){first:Int}(hf: -50000≤first∧first≤50000){L:List Int}(hL:A2r L):∀k,k<L.length→-60000≤T2 p.Band first L k∧T2 p.Band first L k≤60000
 |0,_=>by rw[T2];omega
 |k+1,h=>by
  have h1:=hL (k+1) h
  have h2:=hp.1
  have h3:=B1Q (b:=p.Band) (s:=T2 p.Band first L k) (r:=gt L (k+1)) h2.1
  rw[T2];omega
def shL(b first:Int)(L:List Int):List Int:=E9 L.length (T2 b first L)
def A0I(p:Pen)(first:Int)(L:List Int):Int:=if S6 p [first]≠0 then S6 p [first]else if J1 L≠0 then J1 L else if X0 p first L L.length<L.length then 31 else 0
def A5I(p:Pen)(first:Int)(L:List Int):List Int:=if A0I p first L≠0 then[]else shL p.Band first L
theorem B3w{p:Pen}{first:Int}{L:List Int}(h:S6 p [first]≠0):A0I p first L=S6 p [first]:=if_pos h
theorem B1N{p:Pen}{first:Int}{L:List Int}(h:¬S6 p [first]≠0)(h1:J1 L≠0):A0I p first L=J1 L:=by rw[A0I,if_neg h,if_pos h1]
theorem A6h{p:Pen}{first:Int}{L:List Int}(h:¬S6 p [first]≠0)(h1:¬J1 L≠0)(h2:X0 p first L L.length<L.length):A0I p first L=31:=by rw[A0I,if_neg h,if_neg h1,if_pos h2]
theorem B5w{p:Pen}{first:Int}{L:List Int}(h:¬S6 p [first]≠0)(h1:¬J1 L≠0)(h2:¬X0 p first L L.length<L.length):A0I p first L=0:=by rw[A0I,if_neg h,if_neg h1,if_neg h2]
theorem A8T{p:Pen}{first:Int}{L:List Int}(h:A0I p first L≠0):A5I p first L=[]:=if_pos h
theorem B0r{p:Pen}{first:Int}{L:List Int}(h:A0I p first L=0):A5I p first L=shL p.Band first L:=if_neg (fun h1=>h1 h)
theorem C4t{p:Pen}{first:Int}(h:S6 p [first]=0):X7 p∧-50000≤first∧first≤50000:=by
 unfold S6 at h
 split at h
 ·contradiction
 ·split at h
  ·rename_i h1 h2;exact⟨A4e (by omega),h2 0 (by simp)⟩
  ·cases h
theorem O5{α:Type}(n:Nat)(f:Nat→α):E9 (n+1) f=E9 n f++[f n]:=by unfold E9;rw[List.range_succ,List.map_append];rfl
end Go.Proofs.T10
namespace Go.Proofs.T10
open Go Go.Kx
def A4R(l:List Span):Nat→Int
 |0=> -100002
 |k+1=>(gt l k).Hi
def B2m(l:List Span):Prop:=∀i,i<l.length→A4R l i+2≤(gt l i).Lo∧(gt l i).Lo≤(gt l i).Hi∧(gt l i).Hi≤100000
instance(l:List Span):Decidable (B2m l):=by unfold B2m;exact inferInstance
def N7(l:List Span):Prop:=l.length≤64∧B2m l
instance(l:List Span):Decidable (N7 l):=by unfold N7;exact inferInstance
theorem A8w{l:List Span}{k:Nat}(h:∀i,i<k→A4R l i+2≤(gt l i).Lo∧(gt l i).Lo≤(gt l i).Hi∧(gt l i).Hi≤100000):∀i,i≤k→-100002≤A4R l i∧A4R l i≤100000
 |0,_=>by rw[A4R];omega
 |i+1,hi=>by
  have h1:=h i (by omega)
  have h2:=A8w h i (by omega)
  rw[A4R];omega
def spV(l:List Span):Prop:=∀s∈l,-1000000000≤s.Lo∧s.Lo≤s.Hi∧s.Hi≤1000000000
theorem C2J:spV []:=fun _ h=>by cases h
theorem C3k{l r:List Span}(h:spV l)(h':spV r):spV (l++r):=fun s hs=>(List.mem_append.1 hs).elim (h s) (h' s)
theorem B7U{l:List Span}(h:spV l):∀s∈l,s.Lo≤s.Hi:=fun s hs=>(h s hs).2.1
theorem C3b{l:List Span}(h:spV l):bdS l:=A9X fun s hs=>by have:=h s hs;omega
theorem B2S{l r:List Span}(h:spV l)(hp:r.Perm l):spV r:=fun s hs=>h s (hp.mem_iff.1 hs)
theorem B8W{l:List Span}(h:spV l){i:Nat}(hi:i<l.length): -1000000000≤(gt l i).Lo∧(gt l i).Lo≤(gt l i).Hi∧(gt l i).Hi≤1000000000:=h _ (A2K hi)
theorem C1A{L:List Span}{x:Span}(h:spV L)(hx: -1000000000≤x.Lo∧x.Lo≤x.Hi∧x.Hi≤1000000000):spV (A0u L x):=by
 unfold A0u
 split
 ·rename_i h1
  have h2:=B8W h (i:=L.length-1) (by omega)
  intro s hs
  rcases List.mem_or_eq_of_mem_set hs with h3|rfl
  ·exact h s h3
  ·dsimp only;omega
 ·intro s hs
  rcases List.mem_append.1 hs with h3|h3
  ·exact h s h3
  ·rw[List.mem_singleton.1 h3];exact hx
theorem B4a{l:List Span}(h:spV l):spV (D2 l)∧(D2 l).length≤l.length:=by
 induction hn:l.length generalizing l with
 |zero=>obtain rfl:=List.length_eq_zero_iff.1 hn;exact⟨C2J,Nat.le_refl _⟩
 |succ n ih=>
  obtain⟨r,x,rfl⟩:=A3U l (by omega)
  have h1:=ih (l:=r) (fun s hs=>h s (List.mem_append_left _ hs)) (by simpa using hn)
  rw[A3m]
  have h2:=B2V (D2 r) x
  exact⟨C1A h1.1 (h x (by simp)),by omega⟩
theorem B6n{l:List Span}(h:spV l):(Y3 l).length≤l.length:=by
 have:=(B4a (B2S h (A1s l))).2
 rw[(A1s l).length_eq]at this;exact this
theorem B3c{l:List Span}(h:B2m l):spV l:=fun s hs=>by
 obtain⟨i,hi,rfl⟩:=A4f hs
 have h1:=h i hi
 have h2:=A8w (l:=l) (k:=i) (fun j hj=>h j (by omega)) i (Nat.le_refl _)
 omega
def spA(L:List Span):Nat→Mem→Array Value→Prop:=fun i _ args=>args=#[.agg [J (gt L i).Lo,J (gt L i).Hi].toArray]
def T0(x y:Int):Int:=if x<y then-1 else if y<x then 1 else 0
theorem C3m{x y:Int}(h:x<y):T0 x y= -1:=if_pos h
theorem C3D{x y:Int}(h:¬x<y)(h1:y<x):T0 x y=1:=by rw[T0,if_neg h,if_pos h1]
theorem C2S{x y:Int}(h:¬x<y)(h1:¬y<x):T0 x y=0:=by rw[T0,if_neg h,if_neg h1]
theorem A4x{x y:Int}:T0 x y<0↔x<y:=by unfold T0;split <;> (try split) <;> omega
theorem C3Q{α:Type}[Inhabited α](L:List α):E9 L.length (gt L)=L:=by
 apply List.ext_getElem?
 intro j
 by_cases hj:j<L.length
 ·simp[E9,hj,gt,List.getD]
 ·rw[List.getElem?_eq_none (by rw[C8];omega),List.getElem?_eq_none (by omega)]
def B2p(a b:List Span):Int:=if N7 a∧N7 b then 0 else 1
def B4l(a b:List Span):List Span:=if N7 a∧N7 b then Y3 (a++b)else[]
theorem B4T{a b:List Span}(h:¬(N7 a∧N7 b)):B2p a b=1:=if_neg h
theorem B4N{a b:List Span}(h:¬(N7 a∧N7 b)):B4l a b=[]:=if_neg h
theorem C0m{a b:List Span}(h:N7 a∧N7 b):B2p a b=0:=if_pos h
theorem C1x{a b:List Span}(h:N7 a∧N7 b):B4l a b=Y3 (a++b):=if_pos h
end Go.Proofs.T10
namespace Go.Proofs.T10
open Go Go.Kx
def Y8(c:Course)(n:Nat):List Int:=E9 n (fun t=>gt c.Levels t-c.Zero)
theorem B7p(c:Course)(n:Nat):(Y8 c n).length=n:=C8 _ _
theorem A0b{c:Course}{n t:Nat}(h:t<n):gt (Y8 c n) t=gt c.Levels t-c.Zero:=A0e _ h
theorem B6t{p:Pen}{l:List Int}(hp:X7 p)(hl:1≤l.length∧l.length≤401)(hv:A2r l):O8 p l=0:=by
 unfold O8;rw[A8F hp,if_neg (fun h=>h rfl)];unfold J1;rw[if_pos ⟨hl,hv⟩]
end Go.Proofs.T10
namespace Go.Proofs.T10
open Go Go.Kx
def B0Y(p:Nat→Prop)[DecidablePred p]:Nat→Nat→Nat
 |0,k=>k
 |f+1,k=>if p k then k else B0Y p f (k+1)
def first(p:Nat→Prop)[DecidablePred p](n:Nat):Nat:=B0Y p n 0
theorem B5G{p:Nat→Prop}[DecidablePred p]:∀{f a k:Nat},a≤k→k<a+f→(∀j,a≤j→j<k→¬p j)→p k→B0Y p f a=k
 |0,a,k,h1,h2,_,_=>by omega
 |f+1,a,k,h1,h2,h,hp=>by
  unfold B0Y
  rcases Nat.lt_or_ge a k with h3|h3
  ·rw[if_neg (h a (Nat.le_refl _) h3)]
   exact B5G h3 (by omega) (fun j hj=>h j (by omega)) hp
  ·have:a=k:=by omega
   subst this
   rw[if_pos hp]
theorem B4V{p:Nat→Prop}[DecidablePred p]:∀{f a:Nat},(∀j,a≤j→j<a+f→¬p j)→B0Y p f a=a+f
 |0,a,_=>rfl
 |f+1,a,h=>by
  unfold B0Y
  rw[if_neg (h a (Nat.le_refl _) (by omega)),B4V (fun j h1 h2=>h j (by omega) (by omega))]
  omega
theorem B3S{p:Nat→Prop}[DecidablePred p]{n k:Nat}(hk:k<n)(h:∀j,j<k→¬p j)(hp:p k):first p n=k:=
 B5G (Nat.zero_le _) (by omega) (fun j _ hj=>h j hj) hp
theorem A8A{p:Nat→Prop}[DecidablePred p]{n:Nat}(h:∀j,j<n→¬p j):first p n=n:=by
 have:=B4V (p:=p) (f:=n) (a:=0) (fun j _ hj=>h j (by omega))
 simpa[first]using this
theorem A1x(p:Nat→Prop)[DecidablePred p](n:Nat):(first p n=n∧∀j,j<n→¬p j)∨(first p n<n∧p (first p n)∧∀j,j<first p n→¬p j):=by
 by_cases h:∀j,j<n→¬p j
 ·exact .inl ⟨A8A h,h⟩
 ·right
  have:∃k,k<n∧p k∧∀j,j<k→¬p j:=by
   have hex:∃j,j<n∧p j:=by
    by_cases he:∃j,j<n∧p j
    ·exact he
    ·exact absurd (fun j hj hp=>he ⟨j,hj,hp⟩) h
   obtain⟨j0,hj0⟩:=hex
   have key:∀b,(∃j,j≤b∧j<n∧p j)→∃k,k<n∧p k∧∀j,j<k→¬p j:=by
    intro b
    induction b with
    |zero=>
     rintro⟨j,h1,h2,h3⟩;obtain rfl:j=0:=by omega
     exact⟨0,h2,h3,fun i hi=>absurd hi (Nat.not_lt_zero _)⟩
    |succ b ih=>
     rintro⟨j,h1,h2,h3⟩
     by_cases hb:∃j,j≤b∧j<n∧p j
     ·exact ih hb
     ·have hj:j=b+1:=by
       rcases Nat.lt_or_ge b j with h4|h4
       ·omega
       ·exact absurd ⟨j,h4,h2,h3⟩ hb
      subst hj
      exact⟨b+1,h2,h3,fun i hi hp=>hb ⟨i,by omega,by omega,hp⟩⟩
   exact key j0 ⟨j0,Nat.le_refl _,hj0⟩
  obtain⟨k,hk,hp,hm⟩:=this
  have:=B3S hk hm hp
  exact⟨by omega,by rw[this];exact hp,by rw[this];exact hm⟩
theorem A8S{α:Type}(f:Nat→α)(n:Nat):(List.range n).map f++[f n]=(List.range (n+1)).map f:=by rw[List.range_succ];simp
theorem A4j{α:Type}(f:Nat→α)(n:Nat):((List.range n).map f).length=n:=by simp
theorem S3{α:Type}[Inhabited α]{f:Nat→α}{n i:Nat}(h:i<n):gt ((List.range n).map f) i=f i:=by
 have:((List.range n).map f)[i]?=some (f i):=by rw[List.getElem?_map,List.getElem?_range h];rfl
 simp[gt,this]
theorem U9{α:Type}[Inhabited α](L:List α){a b:Nat}(x:α)(hb:b<L.length):gt (L.set a x) b=if a=b then x else gt L b:=by
 simp only[gt,List.getD,List.getElem?_set]
 split
 ·subst_vars;simp[hb]
 ·rfl
theorem B8j{α:Type}[Inhabited α](L:List α):(List.range L.length).map (gt L)=L:=by
 refine A1D (by simp) fun j hj=>?_
 rw[S3 (by simpa using hj)]
theorem A3h{α:Type}{f g:Nat→α}{n:Nat}(h:∀i,i<n→f i=g i):(List.range n).map f=(List.range n).map g:=by
 apply List.map_congr_left
 intro a ha
 exact h a (by simpa using ha)
theorem A5y{α:Type}[Inhabited α]{L:List α}{f:Nat→α}{n:Nat}(hl:L.length=n)(h:∀i,i<n→gt L i=f i):L=(List.range n).map f:=by
 subst hl
 rw[←A3h h,B8j]
theorem C3e{α:Type}(x:α)(n:Nat):List.replicate n x=(List.range n).map fun _=>x:=by
 rw[List.map_const',List.length_range]
def V3(p:Nat→Prop)[DecidablePred p](n:Nat):Int:=if first p n<n then(first p n:Int)else-1
theorem A0v{p:Nat→Prop}[DecidablePred p]{n k:Nat}(hk:k<n)(h:∀j,j<k→¬p j)(hp:p k):V3 p n=(k:Int):=by
 have:=B3S hk h hp
 rw[V3,if_pos (by omega),this]
theorem A0l{p:Nat→Prop}[DecidablePred p]{n:Nat}(h:∀j,j<n→¬p j):V3 p n= -1:=by
 have:=A8A h
 rw[V3,if_neg (by omega)]
theorem B2Q{p:Nat→Prop}[DecidablePred p]{n:Nat}(h:V3 p n<0):∀j,j<n→¬p j:=by
 rcases A1x p n with h1|h1
 ·exact h1.2
 ·rw[V3,if_pos h1.1]at h;omega
theorem A5F(p:Nat→Prop)[DecidablePred p](n:Nat):0≤V3 p n↔¬∀i,i<n→¬p i:=by
 rcases A1x p n with h1|h1
 ·rw[A0l h1.2];exact⟨fun h=>absurd h (by omega),fun h=>absurd h1.2 h⟩
 ·rw[V3,if_pos h1.1];exact⟨fun _ h=>h _ h1.1 h1.2.1,fun _=>by omega⟩
theorem B7n{p:Nat→Prop}[DecidablePred p]{n:Nat}(h:0≤V3 p n):V3 p n=(first p n:Int)∧first p n<n:=by
 rcases A1x p n with h1|h1
 ·rw[A0l h1.2]at h;omega
 ·rw[V3,if_pos h1.1];exact⟨rfl,h1.1⟩
end Go.Proofs.T10
namespace Go.Proofs.T10
open Go Go.Kx
def A2J(a b:Span):Span:=⟨max a.Lo b.Lo,min a.Hi b.Hi⟩
theorem C2Q(a b:Span):(A2J a b).Lo=max a.Lo b.Lo:=rfl
theorem C2T(a b:Span):(A2J a b).Hi=min a.Hi b.Hi:=rfl
theorem A7N{a b:Span}(h1:a.Lo=b.Lo)(h2:a.Hi=b.Hi):a=b:=by cases a;cases b;simp_all
def fw(g a:Nat→Span):Nat→Span
 |0=>a 0
 |k+1=>A2J (a (k+1)) ⟨(fw g a k).Lo+(g k).Lo,(fw g a k).Hi+(g k).Hi⟩
def bw(g f:Nat→Span)(n:Nat):Nat→Span
 |0=>f n
 |j+1=>A2J (f (n-(j+1))) ⟨(bw g f n j).Lo-(g (n-(j+1))).Hi,(bw g f n j).Hi-(g (n-(j+1))).Lo⟩
def st(g a:Nat→Span)(n i:Nat):Span:=bw g (fw g a) n (n-i)
theorem A9T(g a:Nat→Span)(k:Nat):(fw g a (k+1)).Lo=max (a (k+1)).Lo ((fw g a k).Lo+(g k).Lo):=rfl
theorem B0h(g a:Nat→Span)(k:Nat):(fw g a (k+1)).Hi=min (a (k+1)).Hi ((fw g a k).Hi+(g k).Hi):=rfl
theorem A2d(g a:Nat→Span)(n:Nat):st g a n n=fw g a n:=by unfold st;rw[Nat.sub_self];rfl
theorem A4P(g a:Nat→Span){n i:Nat}(h:i<n):(st g a n i).Lo=max (fw g a i).Lo ((st g a n (i+1)).Lo-(g i).Hi):=by
 unfold st
 rw[show n-i=(n-(i+1))+1 by omega,bw,show n-(n-(i+1)+1)=i by omega];rfl
theorem A4K(g a:Nat→Span){n i:Nat}(h:i<n):(st g a n i).Hi=min (fw g a i).Hi ((st g a n (i+1)).Hi-(g i).Lo):=by
 unfold st
 rw[show n-i=(n-(i+1))+1 by omega,bw,show n-(n-(i+1)+1)=i by omega];rfl
theorem C6S(g a:Nat→Span):∀k,(a k).Lo≤(fw g a k).Lo∧(fw g a k).Hi≤(a k).Hi
 |0=>⟨Int.le_refl _,Int.le_refl _⟩
 |k+1=>by rw[A9T,B0h];omega
theorem C2m(g a:Nat→Span){n i:Nat}(h:i≤n):(fw g a i).Lo≤(st g a n i).Lo∧(st g a n i).Hi≤(fw g a i).Hi:=by
 rcases Nat.lt_or_ge i n with h1|h1
 ·rw[A4P g a h1,A4K g a h1];omega
 ·obtain rfl:i=n:=by omega
  rw[A2d];omega
theorem C2q(g a:Nat→Span){n i:Nat}(h:i≤n):(a i).Lo≤(st g a n i).Lo∧(st g a n i).Hi≤(a i).Hi:=by
 have h1:=C6S g a i
 have h2:=C2m g a h
 omega
def B1Z(g:Nat→Span)(n:Nat):Prop:=∀i,i<n→(g i).Lo≤(g i).Hi
theorem B9y{g:Nat→Span}{n:Nat}(hg:B1Z g n)(a:Nat→Span){i:Nat}(h:i<n):
 ((st g a n i).Lo+(g i).Lo≤(st g a n (i+1)).Lo∧(st g a n (i+1)).Lo≤(st g a n i).Lo+(g i).Hi)∧((st g a n i).Hi+(g i).Lo≤(st g a n (i+1)).Hi∧(st g a n (i+1)).Hi≤(st g a n i).Hi+(g i).Hi):=by
 have h1:=C2m g a (n:=n) (i:=i+1) (by omega)
 have h2:=hg i h
 rw[A9T,B0h]at h1
 rw[A4P g a h,A4K g a h]
 omega
def Rd(g a:Nat→Span)(n:Nat)(x:Nat→Int):Prop:=(∀i,i≤n→(a i).Lo≤x i∧x i≤(a i).Hi)∧∀i,i<n→(g i).Lo≤x (i+1)-x i∧x (i+1)-x i≤(g i).Hi
theorem B6z{g a:Nat→Span}{n:Nat}{x:Nat→Int}(ha:∀i,i≤n→x i≤(a i).Hi)(hx:∀i,i<n→(g i).Lo≤x (i+1)-x i∧x (i+1)-x i≤(g i).Hi):∀k,k≤n→x k≤(fw g a k).Hi
 |0,h=>ha 0 h
 |k+1,h=>by have h1:=B6z ha hx k (by omega);have h2:=ha (k+1) h;have h3:=hx k h;rw[B0h];omega
theorem C6P{g a:Nat→Span}{n:Nat}{x:Nat→Int}(ha:∀i,i≤n→x i≤(a i).Hi)(hx:∀i,i<n→(g i).Lo≤x (i+1)-x i∧x (i+1)-x i≤(g i).Hi){i:Nat}(hi:i≤n):x i≤(st g a n i).Hi:=by
 have key:∀j i,i+j=n→x i≤(st g a n i).Hi:=by
  intro j
  induction j with
  |zero=>
   intro i h;obtain rfl:i=n:=by omega
   rw[A2d];exact B6z ha hx i (Nat.le_refl _)
  |succ j ih=>
   intro i h
   have h1:=ih (i+1) (by omega);have h2:=B6z ha hx i (by omega);have h3:=hx i (by omega)
   rw[A4K g a (by omega)];omega
 exact key (n-i) i (by omega)
theorem B6L{g a:Nat→Span}{n:Nat}{x:Nat→Int}(ha:∀i,i≤n→(a i).Lo≤x i)(hx:∀i,i<n→(g i).Lo≤x (i+1)-x i∧x (i+1)-x i≤(g i).Hi):∀k,k≤n→(fw g a k).Lo≤x k
 |0,h=>ha 0 h
 |k+1,h=>by have h1:=B6L ha hx k (by omega);have h2:=ha (k+1) h;have h3:=hx k h;rw[A9T];omega
theorem C6G{g a:Nat→Span}{n:Nat}{x:Nat→Int}(ha:∀i,i≤n→(a i).Lo≤x i)(hx:∀i,i<n→(g i).Lo≤x (i+1)-x i∧x (i+1)-x i≤(g i).Hi){i:Nat}(hi:i≤n):(st g a n i).Lo≤x i:=by
 have key:∀j i,i+j=n→(st g a n i).Lo≤x i:=by
  intro j
  induction j with
  |zero=>
   intro i h;obtain rfl:i=n:=by omega
   rw[A2d];exact B6L ha hx i (Nat.le_refl _)
  |succ j ih=>
   intro i h
   have h1:=ih (i+1) (by omega);have h2:=B6L ha hx i (by omega);have h3:=hx i (by omega)
   rw[A4P g a (by omega)];omega
 exact key (n-i) i (by omega)
theorem Rd.st{g a:Nat→Span}{n:Nat}{x:Nat→Int}(h:Rd g a n x){i:Nat}(hi:i≤n):(T10.st g a n i).Lo≤x i∧x i≤(T10.st g a n i).Hi:=
 ⟨C6G (fun i hi=>(h.1 i hi).1) h.2 hi,C6P (fun i hi=>(h.1 i hi).2) h.2 hi⟩
def okP(g a:Nat→Span)(n:Nat):Prop:=∀i,i<n+1→(st g a n i).Lo≤(st g a n i).Hi
instance(g a:Nat→Span)(n:Nat):Decidable (okP g a n):=by unfold okP;exact inferInstance
theorem Rd.ok{g a:Nat→Span}{n:Nat}{x:Nat→Int}(h:Rd g a n x):okP g a n:=fun i hi=>by have:=h.st (i:=i) (by omega);omega
theorem B5O{g:Nat→Span}{n:Nat}(hg:B1Z g n)(a:Nat→Span):∀k,k≤n→fw g (st g a n) k=st g a n k
 |0,_=>rfl
 |k+1,h=>by
  have h1:=B5O hg a k (by omega)
  have h2:=B9y hg a (i:=k) (by omega)
  refine A7N ?_ ?_
  ·rw[A9T,h1];omega
  ·rw[B0h,h1];omega
theorem C7i{g:Nat→Span}{n:Nat}(hg:B1Z g n)(a:Nat→Span){i:Nat}(hi:i≤n):st g (st g a n) n i=st g a n i:=by
 have key:∀j i,i+j=n→st g (st g a n) n i=st g a n i:=by
  intro j
  induction j with
  |zero=>
   intro i h;obtain rfl:i=n:=by omega
   rw[A2d,B5O hg a i (Nat.le_refl _)]
  |succ j ih=>
   intro i h
   have h1:=ih (i+1) (by omega)
   have h2:=B5O hg a i (by omega)
   have h3:=B9y hg a (i:=i) (by omega)
   refine A7N ?_ ?_
   ·rw[A4P g _ (by omega),h1,h2];omega
   ·rw[A4K g _ (by omega),h1,h2];omega
 exact key (n-i) i (by omega)
theorem A9c{g h a b:Nat→Span}:∀{k:Nat},(∀i,i<k→g i=h i)→(∀i,i≤k→a i=b i)→fw g a k=fw h b k
 |0,_,hab=>hab 0 (Nat.le_refl _)
 |k+1,hgh,hab=>by rw[fw,fw,A9c (fun i hi=>hgh i (by omega)) (fun i hi=>hab i (by omega)),hab (k+1) (Nat.le_refl _),hgh k (by omega)]
theorem B2C{g h a b:Nat→Span}{n:Nat}(hgh:∀i,i<n→g i=h i)(hab:∀i,i≤n→a i=b i){i:Nat}(hi:i≤n):st g a n i=st h b n i:=by
 have key:∀j i,i+j=n→st g a n i=st h b n i:=by
  intro j
  induction j with
  |zero=>
   intro i h;obtain rfl:i=n:=by omega
   rw[A2d,A2d,A9c hgh hab]
  |succ j ih=>
   intro i h'
   have h1:=ih (i+1) (by omega)
   have h2:=A9c (k:=i) (fun q hq=>hgh q (by omega)) (fun q hq=>hab q (by omega))
   have h3:=hgh i (by omega)
   refine A7N ?_ ?_
   ·rw[A4P g _ (by omega),A4P h _ (by omega),h1,h2,h3]
   ·rw[A4K g _ (by omega),A4K h _ (by omega),h1,h2,h3]
 exact key (n-i) i (by omega)
end Go.Proofs.T10
