import Derived.Test.YtooomcigmleneaaGreatT10Set
import Derived.Test.YtooomcigmleneaaGreatKxJ
set_option linter.all false
namespace Go.Proofs.T10
open Go Go.Kx
theorem C2a{L:List Span}{x:Span}(h:spB L)(hx:(0≤x.Lo∧x.Lo≤12000)∧0≤x.Hi∧x.Hi≤12000):spB (A0u L x):=by
 unfold A0u
 split
 ·rename_i h1
  have h2:=B4d h (i:=L.length-1) (by omega)
  refine C3d h ?_
  dsimp only
  omega
 ·exact C0L h hx
theorem A5t{xs:List Value}{off:Nat}{v:Value}(h:off<xs.length):(xs.set off v)[off]?=some v:=by simp[h]
theorem B2V(L:List Span)(x:Span):L.length≤(A0u L x).length∧(A0u L x).length≤L.length+1:=by
 unfold A0u;split <;> simp
theorem A8r{l:List Span}(h:spB l):spB (D2 l)∧(D2 l).length≤l.length:=by
 induction hn:l.length generalizing l with
 |zero=>obtain rfl:=List.length_eq_zero_iff.1 hn;exact⟨B5D,Nat.le_refl _⟩
 |succ n ih=>
  obtain⟨r,x,rfl⟩:=A3U l (by omega)
  have h1:=ih (l:=r) (fun s hs=>h s (List.mem_append_left _ hs)) (by simpa using hn)
  rw[A3m]
  have h2:=B2V (D2 r) x
  exact⟨C2a h1.1 (h x (by simp)),by omega⟩
theorem A2i{R:List Span}{k:Nat}(hk:k<R.length):D2 (R.take (k+1))=A0u (D2 (R.take k)) (gt R k):=by
 rw[List.take_succ_eq_append_getElem hk,A3m]
 congr 1
 simp[gt,List.getD,hk]
theorem A8u{L:List Span}{x:Span}(h:0<L.length∧x.Lo≤(gt L (L.length-1)).Hi+1):A0u L x=L.set (L.length-1) ⟨(gt L (L.length-1)).Lo,max (gt L (L.length-1)).Hi x.Hi⟩:=if_pos h
theorem A4i{L:List Span}{x:Span}(h:¬(0<L.length∧x.Lo≤(gt L (L.length-1)).Hi+1)):A0u L x=L++[x]:=if_neg h
theorem C2G{L:List Span}(h:spB L):bdS L:=A9X fun s hs=>by have:=h s hs;omega
theorem B4E{A B:List Span}(ha:A.length≤50000)(hb:B.length≤50000):∀i,i<[A,B].length→(gt [A,B] i).length≤50000:=fun i hi=>by
 match i,hi with
 |0,_=>exact ha
 |1,_=>exact hb
theorem B5l{lo hi:Int}:∀{l:List Span},Can l→(∀s∈l,lo≤s.Lo∧s.Hi≤hi)→0<l.length→2*(l.length:Int)≤hi-lo+2
 | [],_,_,h=>absurd h (Nat.lt_irrefl _)
 | [s],hc,hb,_=>by have h1:=hb s (by simp);have h2:s.Lo≤s.Hi:=hc;show 2*((1:Nat):Int)≤_;omega
 |s::t::r,hc,hb,_=>by
  have h1:=hc.1
  have h2:=hc.2.1
  have h3:=hb s (by simp)
  have ih:=B5l (lo:=s.Hi+2) (hi:=hi) hc.2.2 (fun x hx=>⟨by
   have:=A4M hc x.Lo ⟨x,hx,Int.le_refl _,A7d hc.2.2 x hx⟩;omega,(hb x (List.mem_cons_of_mem _ hx)).2⟩) (by simp)
  simp only[List.length_cons]at ih⊢
  omega
theorem B9s{l:List Span}(hc:Can l)(hb:spB l):l.length≤6001:=by
 by_cases h0:0<l.length
 ·have:=B5l (lo:=0) (hi:=12000) hc (fun s hs=>by have:=hb s hs;omega) h0;omega
 ·omega
def S1(f:Paper)(t:Point)(c:Int):Nat→List Span
 |0=>[]
 |k+1=>if(X6 f t k).Lo≤c∧c≤(X6 f t k).Hi then A0u (S1 f t c k) ⟨Q1 f (yK f t k),Q1 f (yK f t k)⟩else S1 f t c k
theorem C0Y{f:Paper}{t:Point}{c:Int}{k:Nat}(h:(X6 f t k).Lo≤c∧c≤(X6 f t k).Hi):S1 f t c (k+1)=A0u (S1 f t c k) ⟨Q1 f (yK f t k),Q1 f (yK f t k)⟩:=if_pos h
theorem B5A{f:Paper}{t:Point}{c:Int}{k:Nat}(h:¬((X6 f t k).Lo≤c∧c≤(X6 f t k).Hi)):S1 f t c (k+1)=S1 f t c k:=if_neg h
theorem B7f{f:Paper}(hf:I4 f){y z:Int}(h:y≤z):Q1 f y≤Q1 f z:=by
 have h1:=hf.1.2.1
 have h2:=hf.2.1
 unfold Q1
 have h3:y*(f.High-f.Low)≤z*(f.High-f.Low):=Int.mul_le_mul_of_nonneg_right h (by omega)
 have:=Int.ediv_le_ediv (show 0<f.Height by omega) h3
 omega
def tkN(f:Paper)(t:Point)(c:Int):Nat→List Span
 |0=>[]
 |k+1=>if(X6 f t k).Lo≤c∧c≤(X6 f t k).Hi then tkN f t c k++[⟨Q1 f (yK f t k),Q1 f (yK f t k)⟩]else tkN f t c k
theorem B7V(f:Paper)(t:Point)(c:Int):∀k,S1 f t c k=D2 (tkN f t c k)
 |0=>rfl
 |k+1=>by
  rw[S1,tkN,B7V f t c k]
  split
  ·rw[A3m]
  ·rfl
theorem A7l{f:Paper}{t:Point}{c:Int}{s:Span}:∀{k:Nat},s∈tkN f t c k→∃j,j<k∧s=⟨Q1 f (yK f t j),Q1 f (yK f t j)⟩
 |0,h=>by cases h
 |k+1,h=>by
  rw[tkN]at h
  split at h
  ·rcases List.mem_append.1 h with h1|h1
   ·obtain⟨j,h2,h3⟩:=A7l h1;exact⟨j,by omega,h3⟩
   ·exact⟨k,by omega,List.mem_singleton.1 h1⟩
  ·obtain⟨j,h2,h3⟩:=A7l h;exact⟨j,by omega,h3⟩
theorem A6U{f:Paper}(hf:I4 f)(t:Point)(c:Int):∀k,(tkN f t c k).Pairwise (fun a b=>a.Lo≤b.Lo)
 |0=>.nil
 |k+1=>by
  rw[tkN]
  split
  ·refine List.pairwise_append.2 ⟨A6U hf t c k,List.pairwise_singleton _ _,fun a ha b hb=>?_⟩
   obtain⟨j,h1,rfl⟩:=A7l ha
   rw[List.mem_singleton.1 hb]
   exact B7f hf (show yLo f t+j≤yLo f t+k by omega)
  ·exact A6U hf t c k
structure RisP(l:List Span):Prop where
 can:Can l
 bd:spB l
theorem RisP.len{l:List Span}(h:RisP l):l.length≤6001:=B9s h.can h.bd
theorem RisP.valid{l:List Span}(h:RisP l):∀s∈l,s.Lo≤s.Hi:=A7d h.can
theorem RisP.nil:RisP []:=⟨trivial,B5D⟩
theorem B2c{f:Paper}(hf:I4 f){t:Point}(ht:N3 t)(c:Int){k:Nat}(hk:k≤O7 f t):RisP (S1 f t c k):=by
 have hb:spB (tkN f t c k):=fun s hs=>by
  obtain⟨j,h1,rfl⟩:=A7l hs
  have:=B2J hf (show 0≤yK f t j∧yK f t j≤f.Height from B9b hf ht (k:=j) (by omega))
  dsimp only
  omega
 rw[B7V]
 refine⟨(A9b (fun s hs=>?_) (A6U hf t c k)).can,(A8r hb).1⟩
 obtain⟨j,h1,rfl⟩:=A7l hs
 exact Int.le_refl _
theorem C3K{A B:List Span}(ha:RisP A)(hb:RisP B):RisP (Y3 (A++B)):=by
 have hv:∀s∈A++B,s.Lo≤s.Hi:=fun s hs=>(List.mem_append.1 hs).elim (ha.valid s) (hb.valid s)
 exact⟨B6b hv,(A8r (B3R (B0Q ha.bd hb.bd) (A1s _))).1⟩
def X8(f:Paper)(l:List Point)(c:Int):Nat→List Span
 |0=>[]
 |k+1=>Y3 (X8 f l c k++S1 f (gt l k) c (O7 f (gt l k)))
theorem B6l{f:Paper}(hf:I4 f){l:List Point}(hl:A2q l)(c:Int):∀k,k≤l.length→RisP (X8 f l c k)
 |0,_=>.nil
 |k+1,h=>C3K (B6l hf hl c k (by omega)) (B2c hf (hl k (by omega)) c (Nat.le_refl _))
def A6f(f:Paper)(b:List Int):Prop:=∀i,i<b.length→(0≤gt b i∧gt b i≤f.Columns-1)∧(0<i→gt b (i-1)<gt b i)
instance(f:Paper)(b:List Int):Decidable (A6f f b):=by unfold A6f;exact inferInstance
def A5p(f:Paper)(l:List Point)(b:List Int)(c:Nat):List Span:=if((c:Int)∈b)then[]else X8 f l c l.length
def B0P(f:Paper)(l:List Point)(b:List Int):Prop:=∀c:Nat,c<f.Columns.toNat→(A5p f l b c).length≤8
instance(f:Paper)(l:List Point)(b:List Int):Decidable (B0P f l b):=by unfold B0P;exact inferInstance
def A2C(f:Paper)(l:List Point)(b:List Int):Int:=if A0B f l≠0 then A0B f l else if¬A6f f b then 1 else if¬B0P f l b then 2 else 0
def A0J(f:Paper)(l:List Point)(b:List Int):List (List Span):=if A2C f l b≠0 then[]else(List.range f.Columns.toNat).map (A5p f l b)
end Go.Proofs.T10
namespace Go.Proofs.T10
open Go Go.Kx
def N6:List Value→List Bool→List Value
 |v::vs,b::bs=>v:: .bool b::N6 vs bs
 |_,_=>[]
theorem A8x:∀{vs:List Value} {bs:List Bool},vs.length=bs.length→(N6 vs bs).length=vs.length*2
 | [],[],_=>rfl
 | [],_::_,h=>by simp at h
 |_::_,[],h=>by simp at h
 |v::vs,b::bs,h=>by rw[N6,List.length_cons,List.length_cons,A8x (by simpa using h),List.length_cons];omega
theorem B3y:∀{vs:List Value} {bs:List Bool} {i:Nat},vs.length=bs.length→i<vs.length→(N6 vs bs)[i*2]?=some (gt vs i)
 | [],_,_,_,h=>by simp at h
 |_::_,[],_,h,_=>by simp at h
 |v::vs,b::bs,0,_,_=>by rw[A1h];rfl
 |v::vs,b::bs,i+1,h,hi=>by
  rw[A1o,N6,show(i+1)*2=i*2+1+1 by omega,List.getElem?_cons_succ,List.getElem?_cons_succ]
  exact B3y (by simpa using h) (by simpa using hi)
theorem B8v:∀{vs:List Value} {bs:List Bool} {i:Nat},vs.length=bs.length→i<vs.length→(N6 vs bs)[i*2+1]?=some (.bool (gt bs i))
 | [],_,_,_,h=>by simp at h
 |_::_,[],_,h,_=>by simp at h
 |v::vs,b::bs,0,_,_=>by rw[A1h];rfl
 |v::vs,b::bs,i+1,h,hi=>by
  rw[A1o,N6,show(i+1)*2+1=i*2+1+1+1 by omega,List.getElem?_cons_succ,List.getElem?_cons_succ]
  exact B8v (by simpa using h) (by simpa using hi)
theorem B2M:∀{vs:List Value} {bs:List Bool} {i:Nat} (u:Value),vs.length=bs.length→(N6 vs bs).set (i*2) u=N6 (vs.set i u) bs
 | [],[],_,_,_=>rfl
 | [],_::_,_,_,h=>by simp at h
 |_::_,[],_,_,h=>by simp at h
 |v::vs,b::bs,0,u,_=>rfl
 |v::vs,b::bs,i+1,u,h=>by
  rw[List.set_cons_succ,N6,N6,show(i+1)*2=i*2+1+1 by omega,List.set_cons_succ,List.set_cons_succ,B2M u (by simpa using h)]
theorem A7u:∀{vs:List Value} {bs:List Bool} {i:Nat} (c:Bool),vs.length=bs.length→(N6 vs bs).set (i*2+1) (.bool c)=N6 vs (bs.set i c)
 | [],[],_,_,_=>rfl
 | [],_::_,_,_,h=>by simp at h
 |_::_,[],_,_,h=>by simp at h
 |v::vs,b::bs,0,u,_=>rfl
 |v::vs,b::bs,i+1,u,h=>by
  rw[List.set_cons_succ,N6,N6,show(i+1)*2+1=i*2+1+1+1 by omega,List.set_cons_succ,List.set_cons_succ,A7u u (by simpa using h)]
structure ColV where
 u:Unit
 deriving Inhabited
instance:Flat ColV:=⟨2,by decide,fun _=>[.slice none 0 0,.bool false],fun _=>rfl,fun _ v hv=>by simp at hv;rcases hv with rfl|rfl <;> rfl⟩
theorem B7y(v:Value)(e:TypeId)(n:Nat):A5 v e (List.replicate n (⟨()⟩:ColV))=row v e 2 n (N6 (List.replicate n (.slice none 0 0)) (List.replicate n false)):=by
 have h:∀n,flat (List.replicate n (⟨()⟩:ColV))=N6 (List.replicate n (.slice none 0 0)) (List.replicate n false):=fun n=>by
  induction n with
  |zero=>rfl
  |succ n ih=>rw[List.replicate_succ,List.replicate_succ,List.replicate_succ,N6,←ih];rfl
 show row v e 2 (List.replicate n (⟨()⟩:ColV)).length (flat (List.replicate n (⟨()⟩:ColV)))=_
 rw[h,List.length_replicate]
theorem B2B(v:Value)(e:TypeId)(n:Nat):A5 v e (List.replicate n (⟨.slice none 0 0,rfl⟩:RawV))=row v e 1 n (List.replicate n (.slice none 0 0)):=by
 have h:∀n,flat (List.replicate n (⟨.slice none 0 0,rfl⟩:RawV))=List.replicate n (.slice none 0 0):=fun n=>by
  induction n with
  |zero=>rfl
  |succ n ih=>rw[List.replicate_succ,List.replicate_succ,←ih];rfl
 show row v e 1 (List.replicate n (⟨.slice none 0 0,rfl⟩:RawV)).length (flat (List.replicate n (⟨.slice none 0 0,rfl⟩:RawV)))=_
 rw[h,List.length_replicate]
section
variable{α:Type}
def E9(n:Nat)(f:Nat→α):List α:=(List.range n).map f
theorem C8(n:Nat)(f:Nat→α):(E9 n f).length=n:=by simp[E9]
theorem A0e [Inhabited α]{n i:Nat}(f:Nat→α)(h:i<n):gt (E9 n f) i=f i:=by simp[E9,gt,List.getD,h]
theorem A0j{n:Nat}{f g:Nat→α}(h:∀i,i<n→f i=g i):E9 n f=E9 n g:=by
 unfold E9
 apply List.map_congr_left
 intro i hi
 exact h i (List.mem_range.1 hi)
theorem A7K{n i:Nat}{f g:Nat→α}{x:α}(hx:g i=x)(h:∀j,j<n→j≠i→f j=g j):(E9 n f).set i x=E9 n g:=by
 apply List.ext_getElem?
 intro j
 by_cases hj:j<n
 ·rw[List.getElem?_set]
  by_cases hi:i=j
  ·subst hi;rw[if_pos rfl,if_pos (by rw[C8];exact hj)];simp[E9,hj,hx]
  ·rw[if_neg hi];simp[E9,hj,h j hj (fun e=>hi e.symm)]
 ·rw[List.getElem?_eq_none (by rw[List.length_set,C8];omega),List.getElem?_eq_none (by rw[C8];omega)]
theorem B4L{n:Nat}{f:Nat→α}{x:α}(h:x∈E9 n f):∃j,j<n∧f j=x:=by
 obtain⟨j,h1,h2⟩:=List.mem_map.1 h
 exact⟨j,List.mem_range.1 h1,h2⟩
theorem B0k(n:Nat):(List.replicate n ([]:List α))=E9 n (fun _=>[]):=by
 apply List.ext_getElem?
 intro j
 by_cases hj:j<n
 ·simp[E9,hj]
 ·rw[List.getElem?_eq_none (by simp;omega),List.getElem?_eq_none (by rw[C8];omega)]
theorem C4v(n:Nat)(x:α):List.replicate n x=E9 n (fun _=>x):=by
 apply List.ext_getElem?
 intro j
 by_cases hj:j<n
 ·simp[E9,hj]
 ·rw[List.getElem?_eq_none (by simp;omega),List.getElem?_eq_none (by rw[C8];omega)]
end
def A0O(f:Paper)(t:Point)(n i:Nat)(c:Nat):List (List Span):=E9 n fun j=>if j<c then S1 f t j (i+1)else S1 f t j i
theorem B6Q{f:Paper}{t:Point}{n i c:Nat}(h:(c:Int)=max (X6 f t i).Lo 0):E9 n (fun j=>S1 f t j i)=A0O f t n i c:=A0j fun j hj=>by
 by_cases hc:j<c
 ·rw[if_pos hc,B5A (by omega)]
 ·rw[if_neg hc]
theorem B8x{f:Paper}{t:Point}{n i c:Nat}(h1:(X6 f t i).Lo≤c)(h2:(c:Int)≤(X6 f t i).Hi)(hn:c<n):
 (A0O f t n i c).set c (A0u (gt (A0O f t n i c) c) ⟨Q1 f (yK f t i),Q1 f (yK f t i)⟩)=A0O f t n i (c+1):=by
 refine A7K ?_ fun j hj hne=>?_
 ·rw[if_pos (by omega),C0Y ⟨h1,h2⟩]
  congr 1
  rw[A0O,A0e _ hn,if_neg (by omega)]
 ·by_cases hc:j<c
  ·rw[if_pos hc,if_pos (by omega)]
  ·rw[if_neg hc,if_neg (by omega)]
theorem B5C{f:Paper}{t:Point}{n i c:Nat}(hn:c<n):gt (A0O f t n i c) c=S1 f t c i:=by rw[A0O,A0e _ hn,if_neg (by omega)]
theorem C0S{f:Paper}{t:Point}{n i c:Nat}(h:∀j:Nat,j<n→c≤j→¬(j:Int)≤(X6 f t i).Hi):A0O f t n i c=E9 n (fun j=>S1 f t j (i+1)):=A0j fun j hj=>by
 by_cases hc:j<c
 ·rw[if_pos hc]
 ·rw[if_neg hc,B5A (fun hn=>h j hj (by omega) hn.2)]
theorem A6c(f:Paper)(t:Point)(n i c:Nat):(A0O f t n i c).length=n:=C8 _ _
def A1u(f:Paper)(l:List Point)(n k:Nat)(c:Nat):List (List Span):=E9 n fun j=>if j<c then X8 f l j (k+1)else X8 f l j k
theorem A6A(f:Paper)(l:List Point)(n k c:Nat):(A1u f l n k c).length=n:=C8 _ _
theorem B7v(f:Paper)(l:List Point)(n k:Nat):E9 n (fun j=>X8 f l j k)=A1u f l n k 0:=A0j fun j hj=>by rw[if_neg (Nat.not_lt_zero _)]
theorem C0G(f:Paper)(l:List Point)(n k:Nat):A1u f l n k n=E9 n (fun j=>X8 f l j (k+1)):=A0j fun j hj=>by rw[if_pos hj]
theorem B4S{f:Paper}{l:List Point}{n k c:Nat}(hn:c<n):gt (A1u f l n k c) c=X8 f l c k:=by rw[A1u,A0e _ hn,if_neg (by omega)]
theorem B8M{f:Paper}{l:List Point}{n k c:Nat}{M:List Span}(hn:c<n)(hM:M=S1 f (gt l k) c (O7 f (gt l k))):(A1u f l n k c).set c (Y3 (gt (A1u f l n k c) c++M))=A1u f l n k (c+1):=by
 refine A7K ?_ fun j hj hne=>?_
 ·rw[if_pos (by omega),B4S hn,hM];rfl
 ·by_cases hc:j<c
  ·rw[if_pos hc,if_pos (by omega)]
  ·rw[if_neg hc,if_neg (by omega)]
def A3H(f:Paper)(l:List Point)(b:List Int)(n k:Nat):List (List Span):=E9 n fun j=>if j<k then A5p f l b j else[]
theorem A6m(f:Paper)(l:List Point)(b:List Int)(n k:Nat):(A3H f l b n k).length=n:=C8 _ _
theorem B9r(f:Paper)(l:List Point)(b:List Int)(n:Nat):List.replicate n ([]:List Span)=A3H f l b n 0:=by
 rw[B0k];exact A0j fun j hj=>by rw[if_neg (Nat.not_lt_zero _)]
theorem B9z{f:Paper}{l:List Point}{b:List Int}{n k:Nat}{M:List Span}(hM:M=A5p f l b k):(A3H f l b n k).set k M=A3H f l b n (k+1):=by
 refine A7K ?_ fun j hj hne=>?_
 ·rw[if_pos (by omega),hM]
 ·by_cases hc:j<k
  ·rw[if_pos hc,if_pos (by omega)]
  ·rw[if_neg hc,if_neg (by omega)]
theorem B8c{f:Paper}{l:List Point}{b:List Int}{n k:Nat}(h:A5p f l b k=[]):A3H f l b n k=A3H f l b n (k+1):=A0j fun j hj=>by
 by_cases hc:j<k
 ·rw[if_pos hc,if_pos (by omega)]
 ·rw[if_neg hc]
  by_cases hk:j=k
  ·subst hk;rw[if_pos (by omega),h]
  ·rw[if_neg (by omega)]
theorem C0c(f:Paper)(l:List Point)(b:List Int)(n:Nat):A3H f l b n n=(List.range n).map (A5p f l b):=A0j fun j hj=>by rw[if_pos hj]
def blN(b:List Int)(n k:Nat):List Bool:=E9 n fun j=>decide (∃i,i<k∧gt b i=j)
theorem B5a(b:List Int)(n k:Nat):(blN b n k).length=n:=C8 _ _
theorem B9U(b:List Int)(n:Nat):List.replicate n false=blN b n 0:=by
 rw[C4v];exact A0j fun j hj=>by rw[decide_eq_false (fun⟨i,h,_⟩=>absurd h (Nat.not_lt_zero _))]
theorem B3C{b:List Int}{n k c:Nat}(hc:gt b k=c):(blN b n k).set c true=blN b n (k+1):=by
 refine A7K (decide_eq_true ⟨k,by omega,hc⟩) fun j hj hne=>?_
 congr 1
 apply propext
 constructor
 ·rintro⟨i,h1,h2⟩;exact⟨i,by omega,h2⟩
 ·rintro⟨i,h1,h2⟩
  by_cases hi:i=k
  ·subst hi;exact absurd (Int.ofNat.inj (h2.symm.trans hc)) hne
  ·exact⟨i,by omega,h2⟩
theorem B8w{b:List Int}{n j:Nat}(hj:j<n):gt (blN b n b.length) j=decide ((j:Int)∈b):=by
 rw[blN,A0e _ hj]
 congr 1
 apply propext
 constructor
 ·rintro⟨i,h1,h2⟩;rw[←h2];exact A2K h1
 ·intro h;obtain⟨i,h1,h2⟩:=A4f h;exact⟨i,h1,h2⟩
theorem B2o{f:Paper}{l:List Point}{b:List Int}{c:Nat}(h:(c:Int)∈b):A5p f l b c=[]:=if_pos h
theorem A7L{f:Paper}{l:List Point}{b:List Int}{c:Nat}(h:¬(c:Int)∈b):A5p f l b c=X8 f l c l.length:=if_neg h
theorem B3M{f:Paper}{l:List Point}{b:List Int}(h:A0B f l≠0):A2C f l b=A0B f l:=if_pos h
theorem B1I{f:Paper}{l:List Point}{b:List Int}(h:¬A0B f l≠0)(h1:¬A6f f b):A2C f l b=1:=by rw[A2C,if_neg h,if_pos h1]
theorem B3J{f:Paper}{l:List Point}{b:List Int}(h:¬A0B f l≠0)(h1:A6f f b)(h2:¬B0P f l b):A2C f l b=2:=by rw[A2C,if_neg h,if_neg (fun h_=>h_ h1),if_pos h2]
theorem C3I{f:Paper}{l:List Point}{b:List Int}(h:¬A0B f l≠0)(h1:A6f f b)(h2:B0P f l b):A2C f l b=0:=by rw[A2C,if_neg h,if_neg (fun h_=>h_ h1),if_neg (fun h_=>h_ h2)]
theorem A8U{f:Paper}{l:List Point}{b:List Int}(h:A2C f l b≠0):A0J f l b=[]:=if_pos h
theorem B4Y{f:Paper}{l:List Point}{b:List Int}(h:A2C f l b=0):A0J f l b=(List.range f.Columns.toNat).map (A5p f l b):=by rw[A0J,if_neg (fun h_=>h_ h)]
theorem B7P{f:Paper}(hf:I4 f){t:Point}(ht:N3 t){n:Nat}:∀L∈E9 n (fun j=>S1 f t j (O7 f t)),L.length≤C9:=fun L hL=>by
 obtain⟨j,_,rfl⟩:=B4L hL
 have:=(B2c hf ht j (Nat.le_refl _)).len
 unfold C9;omega
theorem B7r{f:Paper}(hf:I4 f){l:List Point}(hl:A2q l){n:Nat}:∀L∈E9 n (fun j=>X8 f l j l.length),L.length≤C9:=fun L hL=>by
 obtain⟨j,_,rfl⟩:=B4L hL
 have:=(B6l hf hl j l.length (Nat.le_refl _)).len
 unfold C9;omega
theorem C5r{xs:List Value}{off:Nat}{a b:Value}(h1:xs[off]?=some a)(h2:xs[off+1]?=some b):∀j u,[a,b][j]?=some u→xs[off+j]?=some u:=fun j u hj=>by
 match j,hj with
 |0,hj=>cases hj;exact h1
 |1,hj=>cases hj;exact h2
end Go.Proofs.T10
