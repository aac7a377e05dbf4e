import Derived.Test.YtooomcigmleneaaGreatT10Data
import Derived.Test.YtooomcigmleneaaGreatT10Seg
import Derived.Test.YtooomcigmleneaaGreatKxQ
set_option linter.all false
namespace Go.Proofs.T10
open Go Go.Kx
def A2b(l:List Span)(n:Int):Prop:=∃s∈l,s.Lo≤n∧n≤s.Hi
theorem A3b(n:Int):¬A2b [] n:=fun⟨_,h,_⟩=>by cases h
theorem A0w{s:Span}{l:List Span}{n:Int}:A2b (s::l) n↔(s.Lo≤n∧n≤s.Hi)∨A2b l n:=by
 constructor
 ·rintro⟨x,hx,h⟩
  rcases List.mem_cons.1 hx with rfl|hx
  ·exact .inl h
  ·exact .inr ⟨x,hx,h⟩
 ·rintro(h|⟨x,hx,h⟩)
  ·exact⟨s,List.mem_cons_self ..,h⟩
  ·exact⟨x,List.mem_cons_of_mem _ hx,h⟩
theorem A0d{l r:List Span}{n:Int}:A2b (l++r) n↔A2b l n∨A2b r n:=by
 constructor
 ·rintro⟨x,hx,h⟩
  rcases List.mem_append.1 hx with hx|hx
  ·exact .inl ⟨x,hx,h⟩
  ·exact .inr ⟨x,hx,h⟩
 ·rintro(⟨x,hx,h⟩|⟨x,hx,h⟩)
  ·exact⟨x,List.mem_append_left _ hx,h⟩
  ·exact⟨x,List.mem_append_right _ hx,h⟩
theorem B8T{l r:List Span}(h:l.Perm r){n:Int}:A2b l n↔A2b r n:=
 ⟨fun⟨x,hx,hn⟩=>⟨x,h.mem_iff.1 hx,hn⟩,fun⟨x,hx,hn⟩=>⟨x,h.mem_iff.2 hx,hn⟩⟩
def Can:List Span→Prop
 | []=>True
 | [s]=>s.Lo≤s.Hi
 |s::t::r=>s.Lo≤s.Hi∧s.Hi+1<t.Lo∧Can (t::r)
theorem Can.head{s:Span}{r:List Span}(h:Can (s::r)):s.Lo≤s.Hi:=by
 cases r with
 |nil=>exact h
 |cons t r=>exact h.1
theorem Can.tail{s:Span}{r:List Span}(h:Can (s::r)):Can r:=by
 cases r with
 |nil=>trivial
 |cons t r=>exact h.2.2
theorem A4S{s:Span}:∀{r:List Span},Can (s::r)→∀n,A2b r n→s.Hi+1<n
 | [],_,n,hn=>absurd hn (A3b n)
 |t::r,h,n,hn=>by
  have h1:=h.2.1
  rcases A0w.1 hn with h2|h2
  ·omega
  ·have h3:=A4S h.2.2 n h2
   have h4:=h.2.2.head
   omega
theorem B5I:∀{l r:List Span},Can l→Can r→(∀n,A2b l n↔A2b r n)→l=r
 | [],[],_,_,_=>rfl
 | [],t::r,_,hr,h=>absurd ((h t.Lo).2 (A0w.2 (.inl ⟨Int.le_refl _,hr.head⟩))) (A3b _)
 |s::l,[],hl,_,h=>absurd ((h s.Lo).1 (A0w.2 (.inl ⟨Int.le_refl _,hl.head⟩))) (A3b _)
 |s::l,t::r,hl,hr,h=>by
  have hs:=hl.head
  have ht:=hr.head
  have al:=A4S hl
  have ar:=A4S hr
  have e:∀n,((s.Lo≤n∧n≤s.Hi)∨A2b l n)↔((t.Lo≤n∧n≤t.Hi)∨A2b r n):=fun n=>by rw[←A0w,←A0w];exact h n
  have e1:s.Lo=t.Lo:=by
   have h1:=(e s.Lo).1 (.inl ⟨Int.le_refl _,hs⟩)
   have h2:=(e t.Lo).2 (.inl ⟨Int.le_refl _,ht⟩)
   have h3:=al t.Lo
   have h4:=ar s.Lo
   rcases h1 with h1|h1 <;> rcases h2 with h2|h2
   ·omega
   ·have:=h3 h2;omega
   ·have:=h4 h1;omega
   ·have:=h3 h2;have:=h4 h1;omega
  have e2:s.Hi=t.Hi:=by
   rcases Int.lt_trichotomy s.Hi t.Hi with h1|h1|h1
   ·rcases(e (s.Hi+1)).2 (.inl ⟨by omega,by omega⟩)with h2|h2
    ·omega
    ·have:=al _ h2;omega
   ·exact h1
   ·rcases(e (t.Hi+1)).1 (.inl ⟨by omega,by omega⟩)with h2|h2
    ·omega
    ·have:=ar _ h2;omega
  obtain rfl:s=t:=by cases s;cases t;simp only at e1 e2;rw[e1,e2]
  rw[B5I hl.tail hr.tail fun n=>by
   have h1:=e n
   constructor
   ·intro h2
    rcases h1.1 (.inr h2)with h3|h3
    ·have:=al n h2;omega
    ·exact h3
   ·intro h2
    rcases h1.2 (.inr h2)with h3|h3
    ·have:=ar n h2;omega
    ·exact h3]
def A0E(l:List Span)(x:Span):List Span:=if 0<l.length∧x.Lo≤(gt l (l.length-1)).Hi+1 then l.set (l.length-1) ⟨(gt l (l.length-1)).Lo,max (gt l (l.length-1)).Hi x.Hi⟩else l++[x]
def D2(l:List Span):List Span:=l.foldl A0E []
theorem A3p(l:List Span)(x:Span):D2 (l++[x])=A0E (D2 l) x:=by unfold D2;rw[List.foldl_append];rfl
theorem A6p:∀{l:List Span} {x:Span},Can (l++[x])↔Can l∧x.Lo≤x.Hi∧(0<l.length→(gt l (l.length-1)).Hi+1<x.Lo)
 | [],x=>⟨fun h=>⟨trivial,h,fun h=>absurd h (Nat.lt_irrefl _)⟩,fun h=>h.2.1⟩
 | [s],x=>⟨fun h=>⟨h.1,h.2.2,fun _=>h.2.1⟩,fun h=>⟨h.1,h.2.2 (by simp),h.2.1⟩⟩
 |s::t::r,x=>by
  have ih:=A6p (l:=t::r) (x:=x)
  have e:(gt (s::t::r) ((s::t::r).length-1))=gt (t::r) ((t::r).length-1):=rfl
  rw[e]
  constructor
  ·intro h
   have h1:=ih.1 h.2.2
   exact⟨⟨h.1,h.2.1,h1.1⟩,h1.2.1,fun _=>h1.2.2 (by simp)⟩
  ·intro h
   exact⟨h.1.1,h.1.2.1,ih.2 ⟨h.1.2.2,h.2.1,fun _=>h.2.2 (by simp)⟩⟩
theorem A4h{α:Type}[Inhabited α](l:List α)(h:0<l.length):∃r x,l=r++[x]:=by
 rcases List.eq_nil_or_concat l with rfl|⟨r,x,rfl⟩
 ·simp at h
 ·exact⟨r,x,by simp⟩
theorem A7Y{α:Type}[Inhabited α](r:List α)(x:α):gt (r++[x]) ((r++[x]).length-1)=x:=by
 simp[gt,List.getD]
theorem C1P{α:Type}(r:List α)(x y:α):(r++[x]).set ((r++[x]).length-1) y=r++[y]:=by
 simp
structure MrgI(l d:List Span):Prop where
 can:Can d
 has:∀n,A2b d n↔A2b l n
 low:∀s,0<d.length→(∀x∈l,x.Lo≤s)→(gt d (d.length-1)).Lo≤s
theorem C0X:MrgI [] []:=⟨trivial,fun _=>.rfl,fun _ h=>absurd h (Nat.lt_irrefl _)⟩
theorem B9y{l d:List Span}{x:Span}(h:MrgI l d)(hx:x.Lo≤x.Hi)(hs:∀y∈l,y.Lo≤x.Lo):MrgI (l++[x]) (A0E d x):=by
 have hx0:∀s,(∀y∈l++[x],y.Lo≤s)→x.Lo≤s:=fun s hy=>hy x (by simp)
 unfold A0E
 by_cases h0:0<d.length
 ·have hlow:=h.low x.Lo h0 hs
  obtain⟨r,z,rfl⟩:=A4h d h0
  rw[A7Y,C1P]at*
  have hc:=A6p.1 h.can
  split
  ·rename_i h1
   refine⟨A6p.2 ⟨hc.1,by show z.Lo≤max z.Hi x.Hi;omega,hc.2.2⟩,fun n=>?_,fun s _ hy=>?_⟩
   ·rw[A0d,A0d,←h.has n,A0d,A0w,A0w,A0w]
    constructor
    ·rintro(h2|h2|h2)
     ·exact .inl (.inl h2)
     ·have h2':z.Lo≤n∧n≤max z.Hi x.Hi:=h2
      by_cases h3:n≤z.Hi
      ·exact .inl (.inr (.inl ⟨h2'.1,h3⟩))
      ·exact .inr (.inl (by omega))
     ·exact absurd h2 (A3b _)
    ·rintro((h2|h2|h2)|h2|h2)
     ·exact .inl h2
     ·exact .inr (.inl (show z.Lo≤n∧n≤max z.Hi x.Hi by omega))
     ·exact absurd h2 (A3b _)
     ·exact .inr (.inl (show z.Lo≤n∧n≤max z.Hi x.Hi by omega))
     ·exact absurd h2 (A3b _)
   ·rw[A7Y];have:=hx0 s hy;show z.Lo≤s;omega
  ·rename_i h1
   refine⟨A6p.2 ⟨h.can,hx,fun _=>by rw[A7Y];omega⟩,fun n=>?_,fun s _ hy=>?_⟩
   ·rw[A0d,A0d (l:=l),h.has n]
   ·rw[A7Y];exact hx0 s hy
 ·obtain rfl:d=[]:=by cases d with
   |nil=>rfl
   |cons _ _=>simp at h0
  rw[if_neg (fun h1=>h0 h1.1)]
  refine⟨hx,fun n=>?_,fun s _ hy=>hx0 s hy⟩
  exact(A0d.trans (or_congr_left (h.has n))).trans A0d.symm
theorem A8I{R:List Span}(hv:∀s∈R,s.Lo≤s.Hi)(hs:R.Pairwise (fun a b=>a.Lo≤b.Lo)):MrgI R (D2 R):=by
 induction hn:R.length generalizing R with
 |zero=>obtain rfl:=List.length_eq_zero_iff.1 hn;exact C0X
 |succ n ih=>
  obtain⟨r,x,rfl⟩:=A4h R (by omega)
  rw[A3p]
  have hp:=List.pairwise_append.1 hs
  exact B9y (ih (fun s h=>hv s (List.mem_append_left _ h)) hp.1 (by simpa using hn)) (hv x (by simp)) fun y hy=>hp.2.2 y hy x (by simp)
def B0L(x:Span):List Span→List Span
 | []=>[x]
 |y::r=>if x.Lo≤y.Lo then x::y::r else y::B0L x r
def B0f:List Span→List Span
 | []=>[]
 |x::r=>B0L x (B0f r)
theorem A7q(x:Span):∀l,(B0L x l).Perm (x::l)
 | []=>.refl _
 |y::r=>by
  unfold B0L
  split
  ·exact .refl _
  ·exact((A7q x r).cons y).trans (.swap ..)
theorem A1u:∀l,(B0f l).Perm l
 | []=>.refl _
 |x::r=>(A7q x _).trans ((A1u r).cons x)
theorem A8r{x:Span}:∀{l:List Span},l.Pairwise (fun a b=>a.Lo≤b.Lo)→(B0L x l).Pairwise (fun a b=>a.Lo≤b.Lo)
 | [],_=>List.pairwise_singleton _ _
 |y::r,h=>by
  unfold B0L
  have h1:=List.pairwise_cons.1 h
  split
  ·rename_i h2
   refine List.pairwise_cons.2 ⟨fun z hz=>?_,h⟩
   rcases List.mem_cons.1 hz with rfl|hz
   ·exact h2
   ·have:=h1.1 z hz;omega
  ·rename_i h2
   refine List.pairwise_cons.2 ⟨fun z hz=>?_,A8r h1.2⟩
   rcases List.mem_cons.1 ((A7q x r).mem_iff.1 hz)with rfl|hz
   ·omega
   ·exact h1.1 z hz
theorem A6Z:∀l,(B0f l).Pairwise (fun a b=>a.Lo≤b.Lo)
 | []=>.nil
 |_::r=>A8r (A6Z r)
def Z8(l:List Span):List Span:=D2 (B0f l)
theorem B2E{l:List Span}(hv:∀s∈l,s.Lo≤s.Hi):MrgI (B0f l) (Z8 l):=A8I (fun s h=>hv s ((A1u l).mem_iff.1 h)) (A6Z l)
theorem B6e{l:List Span}(hv:∀s∈l,s.Lo≤s.Hi):Can (Z8 l):=(B2E hv).can
theorem B0g{l R:List Span}(hp:R.Perm l)(hs:Srt Span.Lo R 0 R.length)(hv:∀s∈l,s.Lo≤s.Hi):D2 R=Z8 l:=by
 have hs':R.Pairwise (fun a b=>a.Lo≤b.Lo):=by
  rw[List.pairwise_iff_getElem]
  intro i j hi hj hij
  have h1:=hs i j (Nat.zero_le _) hij hj
  have ei:gt R i=R[i]:=by simp[gt,List.getD,hi]
  have ej:gt R j=R[j]:=by simp[gt,List.getD,hj]
  rwa [ei,ej]at h1
 have h1:=A8I (fun s h=>hv s (hp.mem_iff.1 h)) hs'
 have h2:=B2E hv
 exact B5I h1.can h2.can fun n=>(h1.has n).trans ((B8T (hp.trans (A1u l).symm)).trans (h2.has n).symm)
theorem A7A:∀{l:List Span},Can l→∀s∈l,s.Lo≤s.Hi
 | [],_,_,h=>by cases h
 |x::r,hc,s,h=>by
  rcases List.mem_cons.1 h with rfl|h
  ·exact hc.head
  ·exact A7A hc.tail s h
def bdS(L:List Span):Prop:=∀q,-1000000000≤(gt L q).Lo∧(gt L q).Lo≤1000000000
def B3h(a b:Span):Int:=wr (a.Lo-b.Lo)
theorem B2R{a b:Span}(ha: -1000000000≤a.Lo∧a.Lo≤1000000000)(hb: -1000000000≤b.Lo∧b.Lo≤1000000000):B3h a b<0↔a.Lo<b.Lo:=by
 unfold B3h
 rw[A9q (by omega) (by omega)]
 omega
theorem cl{R:List Span}(h:bdS R){i j:Nat}:B3h (gt R i) (gt R j)<0↔(gt R i).Lo<(gt R j).Lo:=B2R (h i) (h j)
theorem B0c{L:List Span}(h:∀s∈L,-1000000000≤s.Lo∧s.Lo≤1000000000):bdS L:=fun q=>by
 by_cases hq:q<L.length
 ·exact h _ (A2P hq)
 ·have:gt L q=default:=by simp[gt,List.getD,List.getElem?_eq_none (Nat.le_of_not_lt hq)]
  rw[this];decide
theorem J0{L R:List Span}(h:bdS L)(hp:R.Perm L):bdS R:=B0c fun s hs=>by
 obtain⟨i,_,e⟩:=A4m (hp.mem_iff.1 hs)
 rw[←e];exact h i
theorem A1I{L:List Span}(h:bdS L)(i j:Nat):bdS (sw L i j):=B0c fun s hs=>by
 rcases List.mem_or_eq_of_mem_set hs with h1|rfl
 ·rcases List.mem_or_eq_of_mem_set h1 with h2|rfl
  ·obtain⟨i,_,e⟩:=A4m h2;rw[←e];exact h i
  ·exact h j
 ·exact h i
end Go.Proofs.T10
namespace Go.Proofs.T10
open Go Go.Kx
section
variable{α:Type}
def A3K [Inhabited α](Ls:List (List α)):Nat→List α
 |0=>[]
 |k+1=>A3K Ls k++gt Ls k
variable[Inhabited α]
def B0E(Ls:List (List α))(k:Nat):Nat:=(A3K Ls k).length
theorem B1B(Ls:List (List α))(k:Nat):B0E Ls (k+1)=B0E Ls k+(gt Ls k).length:=by unfold B0E;rw[A3K,List.length_append]
theorem B1j{Ls:List (List α)}{c:Nat}(h:∀i,i<Ls.length→(gt Ls i).length≤c):∀k,k≤Ls.length→B0E Ls k≤c*k
 |0,_=>Nat.zero_le _
 |k+1,hk=>by have h1:=B1j h k (by omega);have h2:=h k (by omega);rw[B1B,Nat.mul_succ];omega
theorem B2W(A B:List α):A3K [A,B] 2=A++B:=by show([]++A)++B=A++B;rw[List.nil_append]
end
end Go.Proofs.T10
namespace Go.Proofs.T10
open Go Go.Kx
def Y3(p:Pen):Prop:=(0≤p.Band∧p.Band≤8)∧(-200≤p.Zero.Lo∧p.Zero.Lo≤p.Zero.Hi)∧p.Zero.Hi≤200∧p.Zero.Hi-p.Zero.Lo≤40∧0≤p.Rate∧p.Rate≤12000
instance(p:Pen):Decidable (Y3 p):=by unfold Y3;exact inferInstance
def A5l(p:Pen):Int:=if Y3 p then 0 else 30
theorem A8E{p:Pen}(h:Y3 p):A5l p=0:=if_pos h
theorem C3Z{p:Pen}(h:¬Y3 p):A5l p=30:=if_neg h
theorem A4s{p:Pen}(h:A5l p=0):Y3 p:=by
 unfold A5l at h;split at h
 ·assumption
 ·cases h
def A2A(l:List Int):Prop:=∀i,i<l.length→-50000≤gt l i∧gt l i≤50000
instance(l:List Int):Decidable (A2A l):=by unfold A2A;exact inferInstance
def J4(l:List Int):Int:=if(1≤l.length∧l.length≤401)∧A2A l then 0 else 1
theorem B3Z{l:List Int}(h:J4 l=0):(1≤l.length∧l.length≤401)∧A2A l:=by
 unfold J4 at h;split at h
 ·assumption
 ·cases h
def O9(p:Pen)(l:List Int):Int:=if A5l p≠0 then A5l p else J4 l
def T2(p:Pen)(l:List Int):Int:=if A5l p≠0 then A5l p else if A2A l then 0 else 1
def A3H(a b:Int):Int:=max (a-b) (b-a)
def inP(l:List Span)(n:Int):Prop:=∃i,i<l.length∧(gt l i).Lo≤n∧n≤(gt l i).Hi
instance(l:List Span)(n:Int):Decidable (inP l n):=by unfold inP;exact inferInstance
def C5o(x:Sheet):Prop:=(x.Trace.length≤12∧x.Blots.length≤8∧x.Drum.Rates.length≤5∧x.Drum.Stops.length≤4∧x.Pen.Band≤2∧x.Pen.Zero.Hi-x.Pen.Zero.Lo≤2)∧(∀i,i<x.Trace.length→(gt x.Trace i).Half≤2000)∧x.Paper.Height≤20000∧x.Paper.Pitch≤5000
instance(x:Sheet):Decidable (C5o x):=by unfold C5o;exact inferInstance
end Go.Proofs.T10
namespace Go.Proofs.T10
open Go Go.Kx
def B1n(l:List Int):Nat→Nat→Int
 |0,_=> -1
 |n+1,i=>if-50000≤gt l i∧gt l i≤50000 then B1n l n (i+1)else i
def A7H(l:List Int):Int:=B1n l l.length 0
theorem B4j{l:List Int}{k:Nat}(hb:¬(-50000≤gt l k∧gt l k≤50000)):∀n i,i≤k→k<i+n→(∀j,i≤j→j<k→-50000≤gt l j∧gt l j≤50000)→B1n l n i=k
 |0,i,h1,h2,_=>by omega
 |n+1,i,h1,h2,h3=>by
  rw[B1n]
  by_cases hi:i=k
  ·subst hi;rw[if_neg hb]
  ·rw[if_pos (h3 i (Nat.le_refl _) (by omega))]
   exact B4j hb n (i+1) (by omega) (by omega) fun j hj=>h3 j (by omega)
theorem B5m{l:List Int}:∀n i,(∀j,i≤j→j<i+n→-50000≤gt l j∧gt l j≤50000)→B1n l n i= -1
 |0,_,_=>rfl
 |n+1,i,h=>by rw[B1n,if_pos (h i (Nat.le_refl _) (by omega))];exact B5m n (i+1) fun j h1 h2=>h j (by omega) (by omega)
theorem A2E{l:List Int}{k:Nat}(hk:k<l.length)(ha:∀j,j<k→-50000≤gt l j∧gt l j≤50000)(hb:¬(-50000≤gt l k∧gt l k≤50000)):A7H l=k:=B4j hb _ 0 (Nat.zero_le _) (by omega) fun j _=>ha j
theorem A3r{l:List Int}(ha:∀j,j<l.length→-50000≤gt l j∧gt l j≤50000):A7H l= -1:=B5m _ 0 fun j _ h=>ha j (by omega)
theorem A9L(l:List Int):0≤A7H l↔¬A2A l:=by
 constructor
 ·intro h hl;rw[A3r hl]at h;omega
 ·intro h
  have:∃k,k<l.length∧(∀j,j<k→-50000≤gt l j∧gt l j≤50000)∧¬(-50000≤gt l k∧gt l k≤50000):=by
   apply Classical.byContradiction
   intro hn
   have:∀n,n≤l.length→∀j,j<n→-50000≤gt l j∧gt l j≤50000:=by
    intro n
    induction n with
    |zero=>intro _ j hj;omega
    |succ n ih=>
     intro hl j hj
     rcases Nat.lt_succ_iff_lt_or_eq.1 hj with h1|h1
     ·exact ih (by omega) j h1
     ·subst h1;exact Classical.byContradiction fun hb=>hn ⟨j,by omega,ih (by omega),hb⟩
   exact h fun i hi=>this _ (Nat.le_refl _) i hi
  obtain⟨k,h1,h2,h3⟩:=this
  rw[A2E h1 h2 h3];omega
end Go.Proofs.T10
namespace Go.Proofs.T10
open Go Go.Kx
theorem A2C{a b c d:Int}(h1:a=c)(h2:b=d):Value.agg #[J a,J b]= .agg #[J c,J d]:=by rw[h1,h2]
theorem B1X{a b:Int}(hb:0<b)(h:a.tmod b<0):a.tdiv b-1=a/b:=by
 have ha:a<0:=Classical.byContradiction fun hn=>by have:=Int.tmod_nonneg b (show 0≤a by omega);omega
 rw[Int.tdiv_eq_ediv,if_neg (fun hn=>by
  rcases hn with h1|h1
  ·omega
  ·have:=Int.tmod_eq_zero_of_dvd h1;omega),Int.sign_eq_one_of_pos hb]
 omega
theorem B2G{a b:Int}(h:¬a.tmod b<0):a.tdiv b=a/b:=by
 rw[Int.tdiv_eq_ediv,if_pos (by
  by_cases h1:0≤a
  ·exact .inl h1
  ·right
   apply Int.dvd_of_tmod_eq_zero
   have:=Int.tmod_nonneg b (show 0≤-a by omega)
   rw[Int.neg_tmod]at this
   omega)]
 omega
theorem C2S{a b B:Int}(h: -B≤a∧a≤B): -B≤a.tdiv b∧a.tdiv b≤B:=by
 have:=Int.natAbs_tdiv_le_natAbs a b
 omega
theorem A5z{a b B:Int}(h: -B≤a∧a≤B)(hb:0<b)(hB:0≤B): -B≤a/b∧a/b≤B:=by
 constructor
 ·exact Int.le_ediv_of_mul_le hb (by
   have: -B*b≤-B*1:=Int.mul_le_mul_of_nonpos_left (by omega) (by omega)
   omega)
 ·exact Int.ediv_le_of_le_mul hb (by
   have:B*1≤B*b:=Int.mul_le_mul_of_nonneg_left (by omega) hB
   omega)
def A2l(s:Span):Prop:=(900≤s.Lo∧s.Lo≤s.Hi)∧s.Hi≤1100
instance(s:Span):Decidable (A2l s):=by unfold A2l;exact inferInstance
def I6(p:Paper):Prop:=((1≤p.Pitch∧p.Pitch≤10000)∧(1≤p.Height∧p.Height≤400000)∧(p.Radius=0∨(p.Height≤p.Radius∧p.Radius≤4000000)))∧(0≤p.Low∧p.Low<p.High∧p.High≤12000∧p.High-p.Low≤p.Height)∧(1≤p.Columns∧p.Columns≤200)∧A2l p.Along∧A2l p.Across
instance(p:Paper):Decidable (I6 p):=by unfold I6;exact inferInstance
def A1c(p:Paper):Int:=if I6 p then 0 else 10
theorem B7x{p:Paper}(h:I6 p):A1c p=0:=if_pos h
theorem B8X{p:Paper}(h:¬I6 p):A1c p=10:=if_neg h
theorem B8a{p:Paper}(h:A1c p=0):I6 p:=by
 unfold A1c at h;split at h
 ·assumption
 ·cases h
def N6(t:Point):Prop:=(0≤t.X∧t.X≤400000)∧(0≤t.Y∧t.Y≤400000)∧(0≤t.Half∧t.Half≤5000)
instance(t:Point):Decidable (N6 t):=by unfold N6;exact inferInstance
def A2J(l:List Point):Prop:=∀i,i<l.length→N6 (gt l i)
instance(l:List Point):Decidable (A2J l):=by unfold A2J;exact inferInstance
def A1R(l:List Point):Int:=if 2000<l.length then 2 else if A2J l then 0 else 11
theorem B6k{l:List Point}(h:2000<l.length):A1R l=2:=if_pos h
theorem B6H{l:List Point}(h:¬2000<l.length)(h1:A2J l):A1R l=0:=by rw[A1R,if_neg h,if_pos h1]
theorem B7Y{l:List Point}(h:¬2000<l.length)(h1:¬A2J l):A1R l=11:=by rw[A1R,if_neg h,if_neg h1]
theorem B8R{l:List Point}(h:A1R l=0):l.length≤2000∧A2J l:=by
 unfold A1R at h;split at h
 ·cases h
 ·split at h
  ·exact⟨by omega,by assumption⟩
  ·cases h
def E3(n half:Int)(s:Span):Span:=⟨max 0 ((n-half)*1000/s.Hi),(n+half)*1000/s.Lo⟩
def A5p(f:Paper)(y:Int):Int:=if f.Radius=0 then 0 else y*(f.Height-y)/(2*f.Radius)
def Q6(f:Paper)(y:Int):Int:=f.Low+y*(f.High-f.Low)/f.Height
theorem B0G{f:Paper}(h:I6 f){y:Int}(hy:0≤y∧y≤f.Height):0≤y*(f.Height-y)∧y*(f.Height-y)≤160000000000:=by
 have hH:=h.1.2.1
 refine⟨Int.mul_nonneg hy.1 (by omega),?_⟩
 have h1:y*(f.Height-y)≤400000*(f.Height-y):=Int.mul_le_mul_of_nonneg_right (by omega) (by omega)
 omega
theorem B3E{f:Paper}(h:I6 f){y:Int}(hy:0≤y∧y≤f.Height):0≤A5p f y∧A5p f y≤160000000000:=by
 have hn:=B0G h hy
 unfold A5p
 split
 ·omega
 ·have hr:0<2*f.Radius:=by have:=h.1;omega
  have h1:=A5z (B:=160000000000) (by omega: -160000000000≤y*(f.Height-y)∧y*(f.Height-y)≤160000000000) hr (by omega)
  exact⟨Int.ediv_nonneg hn.1 (by omega),h1.2⟩
theorem A7s{f:Paper}(h:I6 f){y:Int}(hy:0≤y∧y≤f.Height):0≤y*(f.High-f.Low)∧y*(f.High-f.Low)≤4800000000∧y*(f.High-f.Low)≤f.Height*(f.High-f.Low):=by
 have hH:=h.1.2.1
 have hL:=h.2.1
 refine⟨Int.mul_nonneg hy.1 (by omega),?_,Int.mul_le_mul_of_nonneg_right hy.2 (by omega)⟩
 have h1:y*(f.High-f.Low)≤400000*(f.High-f.Low):=Int.mul_le_mul_of_nonneg_right (by omega) (by omega)
 omega
theorem B0I{f:Paper}(h:I6 f){y:Int}(hy:0≤y∧y≤f.Height):0≤y*(f.High-f.Low)/f.Height∧y*(f.High-f.Low)/f.Height≤f.High-f.Low:=by
 have hn:=A7s h hy
 have hH:=h.1.2.1
 refine⟨Int.ediv_nonneg hn.1 (by omega),?_⟩
 have:=Int.ediv_le_ediv (show 0<f.Height by omega) hn.2.2
 rwa [Int.mul_ediv_cancel_left _ (by omega)]at this
theorem B3i{f:Paper}(h:I6 f){y:Int}(hy:0≤y∧y≤f.Height):0≤Q6 f y∧Q6 f y≤12000:=by
 have hq:=B0I h hy
 have hL:=h.2.1
 unfold Q6;omega
theorem X2{n half:Int}{s:Span}(hn:0≤n∧n≤400000)(hh:0≤half∧half≤5000)(hs:A2l s):(0≤(E3 n half s).Lo∧(E3 n half s).Lo≤405000000)∧(0≤(E3 n half s).Hi∧(E3 n half s).Hi≤405000000):=by
 unfold A2l at hs
 have h1:=A5z (a:=(n-half)*1000) (b:=s.Hi) (B:=405000000) (by omega) (by omega) (by omega)
 have h2:=A5z (a:=(n+half)*1000) (b:=s.Lo) (B:=405000000) (by omega) (by omega) (by omega)
 have h3:0≤(n+half)*1000/s.Lo:=Int.ediv_nonneg (by omega) (by omega)
 unfold E3;dsimp only
 omega
end Go.Proofs.T10
namespace Go.Proofs.T10
open Go Go.Kx
theorem B7c{p:Pen}{l:List Int}(h:O9 p l=0):Y3 p∧(1≤l.length∧l.length≤401)∧A2A l:=by
 unfold O9 at h
 split at h
 ·contradiction
 ·exact⟨A4s (by omega),B3Z h⟩
end Go.Proofs.T10
namespace Go.Proofs.T10
open Go Go.Kx
def spB(L:List Span):Prop:=∀s∈L,(0≤s.Lo∧s.Lo≤12000)∧0≤s.Hi∧s.Hi≤12000
theorem B2P{L:List Span}(h:spB L){i:Nat}(hi:i<L.length):(0≤(gt L i).Lo∧(gt L i).Lo≤12000)∧0≤(gt L i).Hi∧(gt L i).Hi≤12000:=h _ (A2P hi)
theorem B6d:spB []:=fun _ h=>by simp at h
theorem C1R{L:List Span}{s:Span}(h:spB L)(hs:(0≤s.Lo∧s.Lo≤12000)∧0≤s.Hi∧s.Hi≤12000):spB (L++[s]):=fun x hx=>by
 rcases List.mem_append.1 hx with h1|h1
 ·exact h x h1
 ·rw[List.mem_singleton.1 h1];exact hs
theorem C3Y{L:List Span}{s:Span}{i:Nat}(h:spB L)(hs:(0≤s.Lo∧s.Lo≤12000)∧0≤s.Hi∧s.Hi≤12000):spB (L.set i s):=fun x hx=>by
 rcases List.mem_or_eq_of_mem_set hx with h1|h1
 ·exact h x h1
 ·rw[h1];exact hs
theorem B0Y{L M:List Span}(h:spB L)(h':spB M):spB (L++M):=fun x hx=>by
 rcases List.mem_append.1 hx with h1|h1
 ·exact h x h1
 ·exact h' x h1
theorem B3P{L M:List Span}(h:spB L)(hp:M.Perm L):spB M:=fun x hx=>h x (hp.mem_iff.1 hx)
end Go.Proofs.T10
namespace Go.Proofs.T10
open Go Go.Kx
def yLo(f:Paper)(t:Point):Int:=(E3 t.Y t.Half f.Across).Lo
def yHi(f:Paper)(t:Point):Int:=min (E3 t.Y t.Half f.Across).Hi f.Height
def P1(f:Paper)(t:Point):Nat:=(yHi f t+1-yLo f t).toNat
def A2a(f:Paper)(t:Point)(y:Int):Span:=⟨((E3 t.X t.Half f.Along).Lo-A5p f y)/f.Pitch,((E3 t.X t.Half f.Along).Hi-A5p f y)/f.Pitch⟩
abbrev yK(f:Paper)(t:Point)(i:Nat):Int:=yLo f t+(i:Int)
abbrev Y1(f:Paper)(t:Point)(i:Nat):Span:=A2a f t (yK f t i)
def B2p(f:Paper)(t:Point):Nat→Mem→Array Value→Prop:=fun i _ args=>args=#[J (yLo f t+i),.agg [J (A2a f t (yLo f t+i)).Lo,J (A2a f t (yLo f t+i)).Hi].toArray]
theorem C1T{f:Paper}{t:Point}{k:Nat}{y a b:Int}(h1:y=yLo f t+k)(h2:a=(A2a f t y).Lo)(h3:b=(A2a f t y).Hi)(m:Mem):B2p f t k m #[J y,.agg [J a,J b].toArray]:=by subst h1 h2 h3;rfl
theorem B9Q{f:Paper}{t:Point}(hf:I6 f)(ht:N6 t):0≤yLo f t∧yLo f t≤405000000∧yHi f t≤f.Height:=by
 unfold N6 at ht
 have h:=X2 ht.2.1 ht.2.2 hf.2.2.2.2
 unfold yLo yHi
 omega
theorem B8H{f:Paper}{t:Point}(hf:I6 f)(ht:N6 t){k:Nat}(hk:k<P1 f t):0≤yLo f t+k∧yLo f t+k≤f.Height:=by
 have:=B9Q hf ht
 unfold P1 at hk
 omega
theorem C4a{f:Paper}{t:Point}(hf:I6 f)(ht:N6 t){y:Int}(hy:0≤y∧y≤f.Height):(-1000000000000≤(A2a f t y).Lo∧(A2a f t y).Lo≤1000000000000)∧(-1000000000000≤(A2a f t y).Hi∧(A2a f t y).Hi≤1000000000000):=by
 have ha:=B3E hf hy
 unfold N6 at ht
 have h:=X2 ht.1 ht.2.2 hf.2.2.2.1
 have hp:=hf.1.1
 unfold A2a
 exact⟨A5z (by omega) (by omega) (by omega),A5z (by omega) (by omega) (by omega)⟩
def A0z(p:Paper)(l:List Point):Int:=if A1c p≠0 then A1c p else A1R l
theorem B1U{p:Paper}{l:List Point}(h:A1c p≠0):A0z p l=A1c p:=if_pos h
theorem C0H{p:Paper}{l:List Point}(h:¬A1c p≠0):A0z p l=A1R l:=if_neg h
theorem C1f{p:Paper}{l:List Point}(h:A0z p l=0):I6 p∧l.length≤2000∧A2J l:=by
 unfold A0z at h
 split at h
 ·contradiction
 ·exact⟨B8a (by omega),B8R h⟩
end Go.Proofs.T10
