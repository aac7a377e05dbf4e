import Derived.Test.YtooomcigmleneaaGreatT10Data
import Derived.Test.YtooomcigmleneaaGreatT10Seg
import Derived.Test.YtooomcigmleneaaGreatKxQ
set_option linter.all false
namespace Go.Proofs.T10
open Go Go.Kx
def A1P(l:List Span)(n:Int):Prop:=∃s∈l,s.Lo≤n∧n≤s.Hi
theorem A2P(n:Int):¬A1P [] n:=fun⟨_,h,_⟩=>by cases h
theorem A0p{s:Span}{l:List Span}{n:Int}:A1P (s::l) n↔(s.Lo≤n∧n≤s.Hi)∨A1P l n:=by
 constructor
 ·rintro⟨x,hx,h⟩
  rcases List.mem_cons.1 hx with rfl|hx
  ·exact .inl h
  ·exact .inr ⟨x,hx,h⟩
 ·rintro(h|⟨x,hx,h⟩)
  ·exact⟨s,List.mem_cons_self ..,h⟩
  ·exact⟨x,List.mem_cons_of_mem _ hx,h⟩
theorem Z8{l r:List Span}{n:Int}:A1P (l++r) n↔A1P l n∨A1P r n:=by
 constructor
 ·rintro⟨x,hx,h⟩
  rcases List.mem_append.1 hx with hx|hx
  ·exact .inl ⟨x,hx,h⟩
  ·exact .inr ⟨x,hx,h⟩
 ·rintro(⟨x,hx,h⟩|⟨x,hx,h⟩)
  ·exact⟨x,List.mem_append_left _ hx,h⟩
  ·exact⟨x,List.mem_append_right _ hx,h⟩
theorem B9A{l r:List Span}(h:l.Perm r){n:Int}:A1P l n↔A1P r n:=
 ⟨fun⟨x,hx,hn⟩=>⟨x,h.mem_iff.1 hx,hn⟩,fun⟨x,hx,hn⟩=>⟨x,h.mem_iff.2 hx,hn⟩⟩
def Can:List Span→Prop
 | []=>True
 | [s]=>s.Lo≤s.Hi
 |s::t::r=>s.Lo≤s.Hi∧s.Hi+1<t.Lo∧Can (t::r)
theorem Can.head{s:Span}{r:List Span}(h:Can (s::r)):s.Lo≤s.Hi:=by
 cases r with
 |nil=>exact h
 |cons t r=>exact h.1
theorem Can.tail{s:Span}{r:List Span}(h:Can (s::r)):Can r:=by
 cases r with
 |nil=>trivial
 |cons t r=>exact h.2.2
theorem A4M{s:Span}:∀{r:List Span},Can (s::r)→∀n,A1P r n→s.Hi+1<n
 | [],_,n,hn=>absurd hn (A2P n)
 |t::r,h,n,hn=>by
  have h1:=h.2.1
  rcases A0p.1 hn with h2|h2
  ·omega
  ·have h3:=A4M h.2.2 n h2
   have h4:=h.2.2.head
   omega
theorem B5E:∀{l r:List Span},Can l→Can r→(∀n,A1P l n↔A1P r n)→l=r
 | [],[],_,_,_=>rfl
 | [],t::r,_,hr,h=>absurd ((h t.Lo).2 (A0p.2 (.inl ⟨Int.le_refl _,hr.head⟩))) (A2P _)
 |s::l,[],hl,_,h=>absurd ((h s.Lo).1 (A0p.2 (.inl ⟨Int.le_refl _,hl.head⟩))) (A2P _)
 |s::l,t::r,hl,hr,h=>by
  have hs:=hl.head
  have ht:=hr.head
  have al:=A4M hl
  have ar:=A4M hr
  have e:∀n,((s.Lo≤n∧n≤s.Hi)∨A1P l n)↔((t.Lo≤n∧n≤t.Hi)∨A1P r n):=fun n=>by rw[←A0p,←A0p];exact h n
  have e1:s.Lo=t.Lo:=by
   have h1:=(e s.Lo).1 (.inl ⟨Int.le_refl _,hs⟩)
   have h2:=(e t.Lo).2 (.inl ⟨Int.le_refl _,ht⟩)
   have h3:=al t.Lo
   have h4:=ar s.Lo
   rcases h1 with h1|h1 <;> rcases h2 with h2|h2
   ·omega
   ·have:=h3 h2;omega
   ·have:=h4 h1;omega
   ·have:=h3 h2;have:=h4 h1;omega
  have e2:s.Hi=t.Hi:=by
   rcases Int.lt_trichotomy s.Hi t.Hi with h1|h1|h1
   ·rcases(e (s.Hi+1)).2 (.inl ⟨by omega,by omega⟩)with h2|h2
    ·omega
    ·have:=al _ h2;omega
   ·exact h1
   ·rcases(e (t.Hi+1)).1 (.inl ⟨by omega,by omega⟩)with h2|h2
    ·omega
    ·have:=ar _ h2;omega
  obtain rfl:s=t:=by cases s;cases t;simp only at e1 e2;rw[e1,e2]
  rw[B5E hl.tail hr.tail fun n=>by
   have h1:=e n
   constructor
   ·intro h2
    rcases h1.1 (.inr h2)with h3|h3
    ·have:=al n h2;omega
    ·exact h3
   ·intro h2
    rcases h1.2 (.inr h2)with h3|h3
    ·have:=ar n h2;omega
    ·exact h3]
def A0u(l:List Span)(x:Span):List Span:=if 0<l.length∧x.Lo≤(gt l (l.length-1)).Hi+1 then l.set (l.length-1) ⟨(gt l (l.length-1)).Lo,max (gt l (l.length-1)).Hi x.Hi⟩else l++[x]
def D2(l:List Span):List Span:=l.foldl A0u []
theorem A3m(l:List Span)(x:Span):D2 (l++[x])=A0u (D2 l) x:=by unfold D2;rw[List.foldl_append];rfl
theorem A6j:∀{l:List Span} {x:Span},Can (l++[x])↔Can l∧x.Lo≤x.Hi∧(0<l.length→(gt l (l.length-1)).Hi+1<x.Lo)
 | [],x=>⟨fun h=>⟨trivial,h,fun h=>absurd h (Nat.lt_irrefl _)⟩,fun h=>h.2.1⟩
 | [s],x=>⟨fun h=>⟨h.1,h.2.2,fun _=>h.2.1⟩,fun h=>⟨h.1,h.2.2 (by simp),h.2.1⟩⟩
 |s::t::r,x=>by
  have ih:=A6j (l:=t::r) (x:=x)
  have e:(gt (s::t::r) ((s::t::r).length-1))=gt (t::r) ((t::r).length-1):=rfl
  rw[e]
  constructor
  ·intro h
   have h1:=ih.1 h.2.2
   exact⟨⟨h.1,h.2.1,h1.1⟩,h1.2.1,fun _=>h1.2.2 (by simp)⟩
  ·intro h
   exact⟨h.1.1,h.1.2.1,ih.2 ⟨h.1.2.2,h.2.1,fun _=>h.2.2 (by simp)⟩⟩
theorem A3U{α:Type}[Inhabited α](l:List α)(h:0<l.length):∃r x,l=r++[x]:=by
 rcases List.eq_nil_or_concat l with rfl|⟨r,x,rfl⟩
 ·simp at h
 ·exact⟨r,x,by simp⟩
theorem A7D{α:Type}[Inhabited α](r:List α)(x:α):gt (r++[x]) ((r++[x]).length-1)=x:=by
 simp[gt,List.getD]
theorem C0l{α:Type}(r:List α)(x y:α):(r++[x]).set ((r++[x]).length-1) y=r++[y]:=by
 simp
structure MrgI(l d:List Span):Prop where
 can:Can d
 has:∀n,A1P d n↔A1P l n
 low:∀s,0<d.length→(∀x∈l,x.Lo≤s)→(gt d (d.length-1)).Lo≤s
theorem C1l:MrgI [] []:=⟨trivial,fun _=>.rfl,fun _ h=>absurd h (Nat.lt_irrefl _)⟩
theorem B7t{l d:List Span}{x:Span}(h:MrgI l d)(hx:x.Lo≤x.Hi)(hs:∀y∈l,y.Lo≤x.Lo):MrgI (l++[x]) (A0u d x):=by
 have hx0:∀s,(∀y∈l++[x],y.Lo≤s)→x.Lo≤s:=fun s hy=>hy x (by simp)
 unfold A0u
 by_cases h0:0<d.length
 ·have hlow:=h.low x.Lo h0 hs
  obtain⟨r,z,rfl⟩:=A3U d h0
  rw[A7D,C0l]at*
  have hc:=A6j.1 h.can
  split
  ·rename_i h1
   refine⟨A6j.2 ⟨hc.1,by show z.Lo≤max z.Hi x.Hi;omega,hc.2.2⟩,fun n=>?_,fun s _ hy=>?_⟩
   ·rw[Z8,Z8,←h.has n,Z8,A0p,A0p,A0p]
    constructor
    ·rintro(h2|h2|h2)
     ·exact .inl (.inl h2)
     ·have h2':z.Lo≤n∧n≤max z.Hi x.Hi:=h2
      by_cases h3:n≤z.Hi
      ·exact .inl (.inr (.inl ⟨h2'.1,h3⟩))
      ·exact .inr (.inl (by omega))
     ·exact absurd h2 (A2P _)
    ·rintro((h2|h2|h2)|h2|h2)
     ·exact .inl h2
     ·exact .inr (.inl (show z.Lo≤n∧n≤max z.Hi x.Hi by omega))
     ·exact absurd h2 (A2P _)
     ·exact .inr (.inl (show z.Lo≤n∧n≤max z.Hi x.Hi by omega))
     ·exact absurd h2 (A2P _)
   ·rw[A7D];have:=hx0 s hy;show z.Lo≤s;omega
  ·rename_i h1
   refine⟨A6j.2 ⟨h.can,hx,fun _=>by rw[A7D];omega⟩,fun n=>?_,fun s _ hy=>?_⟩
   ·rw[Z8,Z8 (l:=l),h.has n]
   ·rw[A7D];exact hx0 s hy
 ·obtain rfl:d=[]:=by cases d with
   |nil=>rfl
   |cons _ _=>simp at h0
  rw[if_neg (fun h1=>h0 h1.1)]
  refine⟨hx,fun n=>?_,fun s _ hy=>hx0 s hy⟩
  exact(Z8.trans (or_congr_left (h.has n))).trans Z8.symm
theorem A9b{R:List Span}(hv:∀s∈R,s.Lo≤s.Hi)(hs:R.Pairwise (fun a b=>a.Lo≤b.Lo)):MrgI R (D2 R):=by
 induction hn:R.length generalizing R with
 |zero=>obtain rfl:=List.length_eq_zero_iff.1 hn;exact C1l
 |succ n ih=>
  obtain⟨r,x,rfl⟩:=A3U R (by omega)
  rw[A3m]
  have hp:=List.pairwise_append.1 hs
  exact B7t (ih (fun s h=>hv s (List.mem_append_left _ h)) hp.1 (by simpa using hn)) (hv x (by simp)) fun y hy=>hp.2.2 y hy x (by simp)
def B0I(x:Span):List Span→List Span
 | []=>[x]
 |y::r=>if x.Lo≤y.Lo then x::y::r else y::B0I x r
def A9j:List Span→List Span
 | []=>[]
 |x::r=>B0I x (A9j r)
theorem A7b(x:Span):∀l,(B0I x l).Perm (x::l)
 | []=>.refl _
 |y::r=>by
  unfold B0I
  split
  ·exact .refl _
  ·exact((A7b x r).cons y).trans (.swap ..)
theorem A1s:∀l,(A9j l).Perm l
 | []=>.refl _
 |x::r=>(A7b x _).trans ((A1s r).cons x)
theorem A8c{x:Span}:∀{l:List Span},l.Pairwise (fun a b=>a.Lo≤b.Lo)→(B0I x l).Pairwise (fun a b=>a.Lo≤b.Lo)
 | [],_=>List.pairwise_singleton _ _
 |y::r,h=>by
  unfold B0I
  have h1:=List.pairwise_cons.1 h
  split
  ·rename_i h2
   refine List.pairwise_cons.2 ⟨fun z hz=>?_,h⟩
   rcases List.mem_cons.1 hz with rfl|hz
   ·exact h2
   ·have:=h1.1 z hz;omega
  ·rename_i h2
   refine List.pairwise_cons.2 ⟨fun z hz=>?_,A8c h1.2⟩
   rcases List.mem_cons.1 ((A7b x r).mem_iff.1 hz)with rfl|hz
   ·omega
   ·exact h1.1 z hz
theorem A6P:∀l,(A9j l).Pairwise (fun a b=>a.Lo≤b.Lo)
 | []=>.nil
 |_::r=>A8c (A6P r)
def Y3(l:List Span):List Span:=D2 (A9j l)
theorem B3L{l:List Span}(hv:∀s∈l,s.Lo≤s.Hi):MrgI (A9j l) (Y3 l):=A9b (fun s h=>hv s ((A1s l).mem_iff.1 h)) (A6P l)
theorem B6b{l:List Span}(hv:∀s∈l,s.Lo≤s.Hi):Can (Y3 l):=(B3L hv).can
theorem A9k{l R:List Span}(hp:R.Perm l)(hs:Srt Span.Lo R 0 R.length)(hv:∀s∈l,s.Lo≤s.Hi):D2 R=Y3 l:=by
 have hs':R.Pairwise (fun a b=>a.Lo≤b.Lo):=by
  rw[List.pairwise_iff_getElem]
  intro i j hi hj hij
  have h1:=hs i j (Nat.zero_le _) hij hj
  have ei:gt R i=R[i]:=by simp[gt,List.getD,hi]
  have ej:gt R j=R[j]:=by simp[gt,List.getD,hj]
  rwa [ei,ej]at h1
 have h1:=A9b (fun s h=>hv s (hp.mem_iff.1 h)) hs'
 have h2:=B3L hv
 exact B5E h1.can h2.can fun n=>(h1.has n).trans ((B9A (hp.trans (A1s l).symm)).trans (h2.has n).symm)
theorem A7d:∀{l:List Span},Can l→∀s∈l,s.Lo≤s.Hi
 | [],_,_,h=>by cases h
 |x::r,hc,s,h=>by
  rcases List.mem_cons.1 h with rfl|h
  ·exact hc.head
  ·exact A7d hc.tail s h
def bdS(L:List Span):Prop:=∀q,-1000000000≤(gt L q).Lo∧(gt L q).Lo≤1000000000
def B3I(a b:Span):Int:=wr (a.Lo-b.Lo)
theorem B3x{a b:Span}(ha: -1000000000≤a.Lo∧a.Lo≤1000000000)(hb: -1000000000≤b.Lo∧b.Lo≤1000000000):B3I a b<0↔a.Lo<b.Lo:=by
 unfold B3I
 rw[A9v (by omega) (by omega)]
 omega
theorem cl{R:List Span}(h:bdS R){i j:Nat}:B3I (gt R i) (gt R j)<0↔(gt R i).Lo<(gt R j).Lo:=B3x (h i) (h j)
theorem A9X{L:List Span}(h:∀s∈L,-1000000000≤s.Lo∧s.Lo≤1000000000):bdS L:=fun q=>by
 by_cases hq:q<L.length
 ·exact h _ (A2K hq)
 ·have:gt L q=default:=by simp[gt,List.getD,List.getElem?_eq_none (Nat.le_of_not_lt hq)]
  rw[this];decide
theorem J0{L R:List Span}(h:bdS L)(hp:R.Perm L):bdS R:=A9X fun s hs=>by
 obtain⟨i,_,e⟩:=A4f (hp.mem_iff.1 hs)
 rw[←e];exact h i
theorem A1B{L:List Span}(h:bdS L)(i j:Nat):bdS (sw L i j):=A9X fun s hs=>by
 rcases List.mem_or_eq_of_mem_set hs with h1|rfl
 ·rcases List.mem_or_eq_of_mem_set h1 with h2|rfl
  ·obtain⟨i,_,e⟩:=A4f h2;rw[←e];exact h i
  ·exact h j
 ·exact h i
end Go.Proofs.T10
namespace Go.Proofs.T10
open Go Go.Kx
section
variable{α:Type}
def A3F [Inhabited α](Ls:List (List α)):Nat→List α
 |0=>[]
 |k+1=>A3F Ls k++gt Ls k
variable[Inhabited α]
def B0B(Ls:List (List α))(k:Nat):Nat:=(A3F Ls k).length
theorem B1r(Ls:List (List α))(k:Nat):B0B Ls (k+1)=B0B Ls k+(gt Ls k).length:=by unfold B0B;rw[A3F,List.length_append]
theorem B0z{Ls:List (List α)}{c:Nat}(h:∀i,i<Ls.length→(gt Ls i).length≤c):∀k,k≤Ls.length→B0B Ls k≤c*k
 |0,_=>Nat.zero_le _
 |k+1,hk=>by have h1:=B0z h k (by omega);have h2:=h k (by omega);rw[B1r,Nat.mul_succ];omega
theorem B4g(A B:List α):A3F [A,B] 2=A++B:=by show([]++A)++B=A++B;rw[List.nil_append]
end
end Go.Proofs.T10
namespace Go.Proofs.T10
open Go Go.Kx
def X7(p:Pen):Prop:=(0≤p.Band∧p.Band≤8)∧(-200≤p.Zero.Lo∧p.Zero.Lo≤p.Zero.Hi)∧p.Zero.Hi≤200∧p.Zero.Hi-p.Zero.Lo≤40∧0≤p.Rate∧p.Rate≤12000
instance(p:Pen):Decidable (X7 p):=by unfold X7;exact inferInstance
def A5c(p:Pen):Int:=if X7 p then 0 else 30
theorem A8F{p:Pen}(h:X7 p):A5c p=0:=if_pos h
theorem C3W{p:Pen}(h:¬X7 p):A5c p=30:=if_neg h
theorem A4e{p:Pen}(h:A5c p=0):X7 p:=by
 unfold A5c at h;split at h
 ·assumption
 ·cases h
def A2r(l:List Int):Prop:=∀i,i<l.length→-50000≤gt l i∧gt l i≤50000
instance(l:List Int):Decidable (A2r l):=by unfold A2r;exact inferInstance
def J1(l:List Int):Int:=if(1≤l.length∧l.length≤401)∧A2r l then 0 else 1
theorem B2q{l:List Int}(h:J1 l=0):(1≤l.length∧l.length≤401)∧A2r l:=by
 unfold J1 at h;split at h
 ·assumption
 ·cases h
def O8(p:Pen)(l:List Int):Int:=if A5c p≠0 then A5c p else J1 l
def S6(p:Pen)(l:List Int):Int:=if A5c p≠0 then A5c p else if A2r l then 0 else 1
def A3k(a b:Int):Int:=max (a-b) (b-a)
def inP(l:List Span)(n:Int):Prop:=∃i,i<l.length∧(gt l i).Lo≤n∧n≤(gt l i).Hi
instance(l:List Span)(n:Int):Decidable (inP l n):=by unfold inP;exact inferInstance
def C4Z(x:Sheet):Prop:=(x.Trace.length≤12∧x.Blots.length≤8∧x.Drum.Rates.length≤5∧x.Drum.Stops.length≤4∧x.Pen.Band≤2∧x.Pen.Zero.Hi-x.Pen.Zero.Lo≤2)∧(∀i,i<x.Trace.length→(gt x.Trace i).Half≤2000)∧x.Paper.Height≤20000∧x.Paper.Pitch≤5000
instance(x:Sheet):Decidable (C4Z x):=by unfold C4Z;exact inferInstance
end Go.Proofs.T10
namespace Go.Proofs.T10
open Go Go.Kx
def B0q(l:List Int):Nat→Nat→Int
 |0,_=> -1
 |n+1,i=>if-50000≤gt l i∧gt l i≤50000 then B0q l n (i+1)else i
def A7a(l:List Int):Int:=B0q l l.length 0
theorem B3e{l:List Int}{k:Nat}(hb:¬(-50000≤gt l k∧gt l k≤50000)):∀n i,i≤k→k<i+n→(∀j,i≤j→j<k→-50000≤gt l j∧gt l j≤50000)→B0q l n i=k
 |0,i,h1,h2,_=>by omega
 |n+1,i,h1,h2,h3=>by
  rw[B0q]
  by_cases hi:i=k
  ·subst hi;rw[if_neg hb]
  ·rw[if_pos (h3 i (Nat.le_refl _) (by omega))]
   exact B3e hb n (i+1) (by omega) (by omega) fun j hj=>h3 j (by omega)
theorem B4Q{l:List Int}:∀n i,(∀j,i≤j→j<i+n→-50000≤gt l j∧gt l j≤50000)→B0q l n i= -1
 |0,_,_=>rfl
 |n+1,i,h=>by rw[B0q,if_pos (h i (Nat.le_refl _) (by omega))];exact B4Q n (i+1) fun j h1 h2=>h j (by omega) (by omega)
theorem A2D{l:List Int}{k:Nat}(hk:k<l.length)(ha:∀j,j<k→-50000≤gt l j∧gt l j≤50000)(hb:¬(-50000≤gt l k∧gt l k≤50000)):A7a l=k:=B3e hb _ 0 (Nat.zero_le _) (by omega) fun j _=>ha j
theorem A3p{l:List Int}(ha:∀j,j<l.length→-50000≤gt l j∧gt l j≤50000):A7a l= -1:=B4Q _ 0 fun j _ h=>ha j (by omega)
theorem A9K(l:List Int):0≤A7a l↔¬A2r l:=by
 constructor
 ·intro h hl;rw[A3p hl]at h;omega
 ·intro h
  have:∃k,k<l.length∧(∀j,j<k→-50000≤gt l j∧gt l j≤50000)∧¬(-50000≤gt l k∧gt l k≤50000):=by
   apply Classical.byContradiction
   intro hn
   have:∀n,n≤l.length→∀j,j<n→-50000≤gt l j∧gt l j≤50000:=by
    intro n
    induction n with
    |zero=>intro _ j hj;omega
    |succ n ih=>
     intro hl j hj
     rcases Nat.lt_succ_iff_lt_or_eq.1 hj with h1|h1
     ·exact ih (by omega) j h1
     ·subst h1;exact Classical.byContradiction fun hb=>hn ⟨j,by omega,ih (by omega),hb⟩
   exact h fun i hi=>this _ (Nat.le_refl _) i hi
  obtain⟨k,h1,h2,h3⟩:=this
  rw[A2D h1 h2 h3];omega
end Go.Proofs.T10
namespace Go.Proofs.T10
open Go Go.Kx
theorem A2m{a b c d:Int}(h1:a=c)(h2:b=d):Value.agg #[J a,J b]= .agg #[J c,J d]:=by rw[h1,h2]
theorem B1V{a b:Int}(hb:0<b)(h:a.tmod b<0):a.tdiv b-1=a/b:=by
 have ha:a<0:=Classical.byContradiction fun hn=>by have:=Int.tmod_nonneg b (show 0≤a by omega);omega
 rw[Int.tdiv_eq_ediv,if_neg (fun hn=>by
  rcases hn with h1|h1
  ·omega
  ·have:=Int.tmod_eq_zero_of_dvd h1;omega),Int.sign_eq_one_of_pos hb]
 omega
theorem B2I{a b:Int}(h:¬a.tmod b<0):a.tdiv b=a/b:=by
 rw[Int.tdiv_eq_ediv,if_pos (by
  by_cases h1:0≤a
  ·exact .inl h1
  ·right
   apply Int.dvd_of_tmod_eq_zero
   have:=Int.tmod_nonneg b (show 0≤-a by omega)
   rw[Int.neg_tmod]at this
   omega)]
 omega
theorem C4u{a b B:Int}(h: -B≤a∧a≤B): -B≤a.tdiv b∧a.tdiv b≤B:=by
 have:=Int.natAbs_tdiv_le_natAbs a b
 omega
theorem A5H{a b B:Int}(h: -B≤a∧a≤B)(hb:0<b)(hB:0≤B): -B≤a/b∧a/b≤B:=by
 constructor
 ·exact Int.le_ediv_of_mul_le hb (by
   have: -B*b≤-B*1:=Int.mul_le_mul_of_nonpos_left (by omega) (by omega)
   omega)
 ·exact Int.ediv_le_of_le_mul hb (by
   have:B*1≤B*b:=Int.mul_le_mul_of_nonneg_left (by omega) hB
   omega)
def A1Z(s:Span):Prop:=(900≤s.Lo∧s.Lo≤s.Hi)∧s.Hi≤1100
instance(s:Span):Decidable (A1Z s):=by unfold A1Z;exact inferInstance
def I4(p:Paper):Prop:=((1≤p.Pitch∧p.Pitch≤10000)∧(1≤p.Height∧p.Height≤400000)∧(p.Radius=0∨(p.Height≤p.Radius∧p.Radius≤4000000)))∧(0≤p.Low∧p.Low<p.High∧p.High≤12000∧p.High-p.Low≤p.Height)∧(1≤p.Columns∧p.Columns≤200)∧A1Z p.Along∧A1Z p.Across
instance(p:Paper):Decidable (I4 p):=by unfold I4;exact inferInstance
def A0X(p:Paper):Int:=if I4 p then 0 else 10
theorem B6a{p:Paper}(h:I4 p):A0X p=0:=if_pos h
theorem B7J{p:Paper}(h:¬I4 p):A0X p=10:=if_neg h
theorem B8T{p:Paper}(h:A0X p=0):I4 p:=by
 unfold A0X at h;split at h
 ·assumption
 ·cases h
def N3(t:Point):Prop:=(0≤t.X∧t.X≤400000)∧(0≤t.Y∧t.Y≤400000)∧(0≤t.Half∧t.Half≤5000)
instance(t:Point):Decidable (N3 t):=by unfold N3;exact inferInstance
def A2q(l:List Point):Prop:=∀i,i<l.length→N3 (gt l i)
instance(l:List Point):Decidable (A2q l):=by unfold A2q;exact inferInstance
def A1A(l:List Point):Int:=if 2000<l.length then 2 else if A2q l then 0 else 11
theorem B5Y{l:List Point}(h:2000<l.length):A1A l=2:=if_pos h
theorem B5K{l:List Point}(h:¬2000<l.length)(h1:A2q l):A1A l=0:=by rw[A1A,if_neg h,if_pos h1]
theorem B8p{l:List Point}(h:¬2000<l.length)(h1:¬A2q l):A1A l=11:=by rw[A1A,if_neg h,if_neg h1]
theorem B7q{l:List Point}(h:A1A l=0):l.length≤2000∧A2q l:=by
 unfold A1A at h;split at h
 ·cases h
 ·split at h
  ·exact⟨by omega,by assumption⟩
  ·cases h
def E3(n half:Int)(s:Span):Span:=⟨max 0 ((n-half)*1000/s.Hi),(n+half)*1000/s.Lo⟩
def A5q(f:Paper)(y:Int):Int:=if f.Radius=0 then 0 else y*(f.Height-y)/(2*f.Radius)
def Q1(f:Paper)(y:Int):Int:=f.Low+y*(f.High-f.Low)/f.Height
theorem B0A{f:Paper}(h:I4 f){y:Int}(hy:0≤y∧y≤f.Height):0≤y*(f.Height-y)∧y*(f.Height-y)≤160000000000:=by
 have hH:=h.1.2.1
 refine⟨Int.mul_nonneg hy.1 (by omega),?_⟩
 have h1:y*(f.Height-y)≤400000*(f.Height-y):=Int.mul_le_mul_of_nonneg_right (by omega) (by omega)
 omega
theorem B3W{f:Paper}(h:I4 f){y:Int}(hy:0≤y∧y≤f.Height):0≤A5q f y∧A5q f y≤160000000000:=by
 have hn:=B0A h hy
 unfold A5q
 split
 ·omega
 ·have hr:0<2*f.Radius:=by have:=h.1;omega
  have h1:=A5H (B:=160000000000) (by omega: -160000000000≤y*(f.Height-y)∧y*(f.Height-y)≤160000000000) hr (by omega)
  exact⟨Int.ediv_nonneg hn.1 (by omega),h1.2⟩
theorem A6S{f:Paper}(h:I4 f){y:Int}(hy:0≤y∧y≤f.Height):0≤y*(f.High-f.Low)∧y*(f.High-f.Low)≤4800000000∧y*(f.High-f.Low)≤f.Height*(f.High-f.Low):=by
 have hH:=h.1.2.1
 have hL:=h.2.1
 refine⟨Int.mul_nonneg hy.1 (by omega),?_,Int.mul_le_mul_of_nonneg_right hy.2 (by omega)⟩
 have h1:y*(f.High-f.Low)≤400000*(f.High-f.Low):=Int.mul_le_mul_of_nonneg_right (by omega) (by omega)
 omega
theorem B1b{f:Paper}(h:I4 f){y:Int}(hy:0≤y∧y≤f.Height):0≤y*(f.High-f.Low)/f.Height∧y*(f.High-f.Low)/f.Height≤f.High-f.Low:=by
 have hn:=A6S h hy
 have hH:=h.1.2.1
 refine⟨Int.ediv_nonneg hn.1 (by omega),?_⟩
 have:=Int.ediv_le_ediv (show 0<f.Height by omega) hn.2.2
 rwa [Int.mul_ediv_cancel_left _ (by omega)]at this
theorem B2J{f:Paper}(h:I4 f){y:Int}(hy:0≤y∧y≤f.Height):0≤Q1 f y∧Q1 f y≤12000:=by
 have hq:=B1b h hy
 have hL:=h.2.1
 unfold Q1;omega
theorem V7{n half:Int}{s:Span}(hn:0≤n∧n≤400000)(hh:0≤half∧half≤5000)(hs:A1Z s):(0≤(E3 n half s).Lo∧(E3 n half s).Lo≤405000000)∧(0≤(E3 n half s).Hi∧(E3 n half s).Hi≤405000000):=by
 unfold A1Z at hs
 have h1:=A5H (a:=(n-half)*1000) (b:=s.Hi) (B:=405000000) (by omega) (by omega) (by omega)
 have h2:=A5H (a:=(n+half)*1000) (b:=s.Lo) (B:=405000000) (by omega) (by omega) (by omega)
 have h3:0≤(n+half)*1000/s.Lo:=Int.ediv_nonneg (by omega) (by omega)
 unfold E3;dsimp only
 omega
end Go.Proofs.T10
namespace Go.Proofs.T10
open Go Go.Kx
theorem B6q{p:Pen}{l:List Int}(h:O8 p l=0):X7 p∧(1≤l.length∧l.length≤401)∧A2r l:=by
 unfold O8 at h
 split at h
 ·contradiction
 ·exact⟨A4e (by omega),B2q h⟩
end Go.Proofs.T10
namespace Go.Proofs.T10
open Go Go.Kx
def spB(L:List Span):Prop:=∀s∈L,(0≤s.Lo∧s.Lo≤12000)∧0≤s.Hi∧s.Hi≤12000
theorem B4d{L:List Span}(h:spB L){i:Nat}(hi:i<L.length):(0≤(gt L i).Lo∧(gt L i).Lo≤12000)∧0≤(gt L i).Hi∧(gt L i).Hi≤12000:=h _ (A2K hi)
theorem B5D:spB []:=fun _ h=>by simp at h
theorem C0L{L:List Span}{s:Span}(h:spB L)(hs:(0≤s.Lo∧s.Lo≤12000)∧0≤s.Hi∧s.Hi≤12000):spB (L++[s]):=fun x hx=>by
 rcases List.mem_append.1 hx with h1|h1
 ·exact h x h1
 ·rw[List.mem_singleton.1 h1];exact hs
theorem C3d{L:List Span}{s:Span}{i:Nat}(h:spB L)(hs:(0≤s.Lo∧s.Lo≤12000)∧0≤s.Hi∧s.Hi≤12000):spB (L.set i s):=fun x hx=>by
 rcases List.mem_or_eq_of_mem_set hx with h1|h1
 ·exact h x h1
 ·rw[h1];exact hs
theorem B0Q{L M:List Span}(h:spB L)(h':spB M):spB (L++M):=fun x hx=>by
 rcases List.mem_append.1 hx with h1|h1
 ·exact h x h1
 ·exact h' x h1
theorem B3R{L M:List Span}(h:spB L)(hp:M.Perm L):spB M:=fun x hx=>h x (hp.mem_iff.1 hx)
end Go.Proofs.T10
namespace Go.Proofs.T10
open Go Go.Kx
def yLo(f:Paper)(t:Point):Int:=(E3 t.Y t.Half f.Across).Lo
def yHi(f:Paper)(t:Point):Int:=min (E3 t.Y t.Half f.Across).Hi f.Height
def O7(f:Paper)(t:Point):Nat:=(yHi f t+1-yLo f t).toNat
def A1I(f:Paper)(t:Point)(y:Int):Span:=⟨((E3 t.X t.Half f.Along).Lo-A5q f y)/f.Pitch,((E3 t.X t.Half f.Along).Hi-A5q f y)/f.Pitch⟩
abbrev yK(f:Paper)(t:Point)(i:Nat):Int:=yLo f t+(i:Int)
abbrev X6(f:Paper)(t:Point)(i:Nat):Span:=A1I f t (yK f t i)
def B2a(f:Paper)(t:Point):Nat→Mem→Array Value→Prop:=fun i _ args=>args=#[J (yLo f t+i),.agg [J (A1I f t (yLo f t+i)).Lo,J (A1I f t (yLo f t+i)).Hi].toArray]
theorem C0Q{f:Paper}{t:Point}{k:Nat}{y a b:Int}(h1:y=yLo f t+k)(h2:a=(A1I f t y).Lo)(h3:b=(A1I f t y).Hi)(m:Mem):B2a f t k m #[J y,.agg [J a,J b].toArray]:=by subst h1 h2 h3;rfl
theorem B9a{f:Paper}{t:Point}(hf:I4 f)(ht:N3 t):0≤yLo f t∧yLo f t≤405000000∧yHi f t≤f.Height:=by
 unfold N3 at ht
 have h:=V7 ht.2.1 ht.2.2 hf.2.2.2.2
 unfold yLo yHi
 omega
theorem B9b{f:Paper}{t:Point}(hf:I4 f)(ht:N3 t){k:Nat}(hk:k<O7 f t):0≤yLo f t+k∧yLo f t+k≤f.Height:=by
 have:=B9a hf ht
 unfold O7 at hk
 omega
theorem C4l{f:Paper}{t:Point}(hf:I4 f)(ht:N3 t){y:Int}(hy:0≤y∧y≤f.Height):(-1000000000000≤(A1I f t y).Lo∧(A1I f t y).Lo≤1000000000000)∧(-1000000000000≤(A1I f t y).Hi∧(A1I f t y).Hi≤1000000000000):=by
 have ha:=B3W hf hy
 unfold N3 at ht
 have h:=V7 ht.1 ht.2.2 hf.2.2.2.1
 have hp:=hf.1.1
 unfold A1I
 exact⟨A5H (by omega) (by omega) (by omega),A5H (by omega) (by omega) (by omega)⟩
def A0B(p:Paper)(l:List Point):Int:=if A0X p≠0 then A0X p else A1A l
theorem B1g{p:Paper}{l:List Point}(h:A0X p≠0):A0B p l=A0X p:=if_pos h
theorem C1t{p:Paper}{l:List Point}(h:¬A0X p≠0):A0B p l=A1A l:=if_neg h
theorem C0W{p:Paper}{l:List Point}(h:A0B p l=0):I4 p∧l.length≤2000∧A2q l:=by
 unfold A0B at h
 split at h
 ·contradiction
 ·exact⟨B8T (by omega),B7q h⟩
end Go.Proofs.T10
