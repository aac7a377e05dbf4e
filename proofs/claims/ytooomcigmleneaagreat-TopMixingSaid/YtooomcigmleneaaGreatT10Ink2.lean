import Derived.Test.YtooomcigmleneaaGreatT10Set
import Derived.Test.YtooomcigmleneaaGreatKxJ
set_option linter.all false
namespace Go.Proofs.T10
open Go Go.Kx
theorem C0C{L:List Span}{x:Span}(h:spB L)(hx:(0≤x.Lo∧x.Lo≤12000)∧0≤x.Hi∧x.Hi≤12000):spB (A0E L x):=by
 unfold A0E
 split
 ·rename_i h1
  have h2:=B2P h (i:=L.length-1) (by omega)
  refine C3Y h ?_
  dsimp only
  omega
 ·exact C1R h hx
theorem A5F{xs:List Value}{off:Nat}{v:Value}(h:off<xs.length):(xs.set off v)[off]?=some v:=by simp[h]
theorem B3d(L:List Span)(x:Span):L.length≤(A0E L x).length∧(A0E L x).length≤L.length+1:=by
 unfold A0E;split <;> simp
theorem A9k{l:List Span}(h:spB l):spB (D2 l)∧(D2 l).length≤l.length:=by
 induction hn:l.length generalizing l with
 |zero=>obtain rfl:=List.length_eq_zero_iff.1 hn;exact⟨B6d,Nat.le_refl _⟩
 |succ n ih=>
  obtain⟨r,x,rfl⟩:=A4h l (by omega)
  have h1:=ih (l:=r) (fun s hs=>h s (List.mem_append_left _ hs)) (by simpa using hn)
  rw[A3p]
  have h2:=B3d (D2 r) x
  exact⟨C0C h1.1 (h x (by simp)),by omega⟩
theorem A2p{R:List Span}{k:Nat}(hk:k<R.length):D2 (R.take (k+1))=A0E (D2 (R.take k)) (gt R k):=by
 rw[List.take_succ_eq_append_getElem hk,A3p]
 congr 1
 simp[gt,List.getD,hk]
theorem A8X{L:List Span}{x:Span}(h:0<L.length∧x.Lo≤(gt L (L.length-1)).Hi+1):A0E L x=L.set (L.length-1) ⟨(gt L (L.length-1)).Lo,max (gt L (L.length-1)).Hi x.Hi⟩:=if_pos h
theorem A4n{L:List Span}{x:Span}(h:¬(0<L.length∧x.Lo≤(gt L (L.length-1)).Hi+1)):A0E L x=L++[x]:=if_neg h
theorem C4K{L:List Span}(h:spB L):bdS L:=B0c fun s hs=>by have:=h s hs;omega
theorem B5c{A B:List Span}(ha:A.length≤50000)(hb:B.length≤50000):∀i,i<[A,B].length→(gt [A,B] i).length≤50000:=fun i hi=>by
 match i,hi with
 |0,_=>exact ha
 |1,_=>exact hb
theorem B5H{lo hi:Int}:∀{l:List Span},Can l→(∀s∈l,lo≤s.Lo∧s.Hi≤hi)→0<l.length→2*(l.length:Int)≤hi-lo+2
 | [],_,_,h=>absurd h (Nat.lt_irrefl _)
 | [s],hc,hb,_=>by have h1:=hb s (by simp);have h2:s.Lo≤s.Hi:=hc;show 2*((1:Nat):Int)≤_;omega
 |s::t::r,hc,hb,_=>by
  have h1:=hc.1
  have h2:=hc.2.1
  have h3:=hb s (by simp)
  have ih:=B5H (lo:=s.Hi+2) (hi:=hi) hc.2.2 (fun x hx=>⟨by
   have:=A4S hc x.Lo ⟨x,hx,Int.le_refl _,A7A hc.2.2 x hx⟩;omega,(hb x (List.mem_cons_of_mem _ hx)).2⟩) (by simp)
  simp only[List.length_cons]at ih⊢
  omega
theorem B7P{l:List Span}(hc:Can l)(hb:spB l):l.length≤6001:=by
 by_cases h0:0<l.length
 ·have:=B5H (lo:=0) (hi:=12000) hc (fun s hs=>by have:=hb s hs;omega) h0;omega
 ·omega
def S4(f:Paper)(t:Point)(c:Int):Nat→List Span
 |0=>[]
 |k+1=>if(Y1 f t k).Lo≤c∧c≤(Y1 f t k).Hi then A0E (S4 f t c k) ⟨Q6 f (yK f t k),Q6 f (yK f t k)⟩else S4 f t c k
theorem C2d{f:Paper}{t:Point}{c:Int}{k:Nat}(h:(Y1 f t k).Lo≤c∧c≤(Y1 f t k).Hi):S4 f t c (k+1)=A0E (S4 f t c k) ⟨Q6 f (yK f t k),Q6 f (yK f t k)⟩:=if_pos h
theorem B5f{f:Paper}{t:Point}{c:Int}{k:Nat}(h:¬((Y1 f t k).Lo≤c∧c≤(Y1 f t k).Hi)):S4 f t c (k+1)=S4 f t c k:=if_neg h
theorem B7F{f:Paper}(hf:I6 f){y z:Int}(h:y≤z):Q6 f y≤Q6 f z:=by
 have h1:=hf.1.2.1
 have h2:=hf.2.1
 unfold Q6
 have h3:y*(f.High-f.Low)≤z*(f.High-f.Low):=Int.mul_le_mul_of_nonneg_right h (by omega)
 have:=Int.ediv_le_ediv (show 0<f.Height by omega) h3
 omega
def tkN(f:Paper)(t:Point)(c:Int):Nat→List Span
 |0=>[]
 |k+1=>if(Y1 f t k).Lo≤c∧c≤(Y1 f t k).Hi then tkN f t c k++[⟨Q6 f (yK f t k),Q6 f (yK f t k)⟩]else tkN f t c k
theorem B8h(f:Paper)(t:Point)(c:Int):∀k,S4 f t c k=D2 (tkN f t c k)
 |0=>rfl
 |k+1=>by
  rw[S4,tkN,B8h f t c k]
  split
  ·rw[A3p]
  ·rfl
theorem A7J{f:Paper}{t:Point}{c:Int}{s:Span}:∀{k:Nat},s∈tkN f t c k→∃j,j<k∧s=⟨Q6 f (yK f t j),Q6 f (yK f t j)⟩
 |0,h=>by cases h
 |k+1,h=>by
  rw[tkN]at h
  split at h
  ·rcases List.mem_append.1 h with h1|h1
   ·obtain⟨j,h2,h3⟩:=A7J h1;exact⟨j,by omega,h3⟩
   ·exact⟨k,by omega,List.mem_singleton.1 h1⟩
  ·obtain⟨j,h2,h3⟩:=A7J h;exact⟨j,by omega,h3⟩
theorem A7l{f:Paper}(hf:I6 f)(t:Point)(c:Int):∀k,(tkN f t c k).Pairwise (fun a b=>a.Lo≤b.Lo)
 |0=>.nil
 |k+1=>by
  rw[tkN]
  split
  ·refine List.pairwise_append.2 ⟨A7l hf t c k,List.pairwise_singleton _ _,fun a ha b hb=>?_⟩
   obtain⟨j,h1,rfl⟩:=A7J ha
   rw[List.mem_singleton.1 hb]
   exact B7F hf (show yLo f t+j≤yLo f t+k by omega)
  ·exact A7l hf t c k
structure RisP(l:List Span):Prop where
 can:Can l
 bd:spB l
theorem RisP.len{l:List Span}(h:RisP l):l.length≤6001:=B7P h.can h.bd
theorem RisP.valid{l:List Span}(h:RisP l):∀s∈l,s.Lo≤s.Hi:=A7A h.can
theorem RisP.nil:RisP []:=⟨trivial,B6d⟩
theorem B2o{f:Paper}(hf:I6 f){t:Point}(ht:N6 t)(c:Int){k:Nat}(hk:k≤P1 f t):RisP (S4 f t c k):=by
 have hb:spB (tkN f t c k):=fun s hs=>by
  obtain⟨j,h1,rfl⟩:=A7J hs
  have:=B3i hf (show 0≤yK f t j∧yK f t j≤f.Height from B8H hf ht (k:=j) (by omega))
  dsimp only
  omega
 rw[B8h]
 refine⟨(A8I (fun s hs=>?_) (A7l hf t c k)).can,(A9k hb).1⟩
 obtain⟨j,h1,rfl⟩:=A7J hs
 exact Int.le_refl _
theorem C3z{A B:List Span}(ha:RisP A)(hb:RisP B):RisP (Z8 (A++B)):=by
 have hv:∀s∈A++B,s.Lo≤s.Hi:=fun s hs=>(List.mem_append.1 hs).elim (ha.valid s) (hb.valid s)
 exact⟨B6e hv,(A9k (B3P (B0Y ha.bd hb.bd) (A1u _))).1⟩
def Y4(f:Paper)(l:List Point)(c:Int):Nat→List Span
 |0=>[]
 |k+1=>Z8 (Y4 f l c k++S4 f (gt l k) c (P1 f (gt l k)))
theorem B7k{f:Paper}(hf:I6 f){l:List Point}(hl:A2J l)(c:Int):∀k,k≤l.length→RisP (Y4 f l c k)
 |0,_=>.nil
 |k+1,h=>C3z (B7k hf hl c k (by omega)) (B2o hf (hl k (by omega)) c (Nat.le_refl _))
def A6s(f:Paper)(b:List Int):Prop:=∀i,i<b.length→(0≤gt b i∧gt b i≤f.Columns-1)∧(0<i→gt b (i-1)<gt b i)
instance(f:Paper)(b:List Int):Decidable (A6s f b):=by unfold A6s;exact inferInstance
def A5w(f:Paper)(l:List Point)(b:List Int)(c:Nat):List Span:=if((c:Int)∈b)then[]else Y4 f l c l.length
def B0X(f:Paper)(l:List Point)(b:List Int):Prop:=∀c:Nat,c<f.Columns.toNat→(A5w f l b c).length≤8
instance(f:Paper)(l:List Point)(b:List Int):Decidable (B0X f l b):=by unfold B0X;exact inferInstance
def A2z(f:Paper)(l:List Point)(b:List Int):Int:=if A0z f l≠0 then A0z f l else if¬A6s f b then 1 else if¬B0X f l b then 2 else 0
def A0R(f:Paper)(l:List Point)(b:List Int):List (List Span):=if A2z f l b≠0 then[]else(List.range f.Columns.toNat).map (A5w f l b)
end Go.Proofs.T10
namespace Go.Proofs.T10
open Go Go.Kx
def O0:List Value→List Bool→List Value
 |v::vs,b::bs=>v:: .bool b::O0 vs bs
 |_,_=>[]
theorem A8O:∀{vs:List Value} {bs:List Bool},vs.length=bs.length→(O0 vs bs).length=vs.length*2
 | [],[],_=>rfl
 | [],_::_,h=>by simp at h
 |_::_,[],h=>by simp at h
 |v::vs,b::bs,h=>by rw[O0,List.length_cons,List.length_cons,A8O (by simpa using h),List.length_cons];omega
theorem B4s:∀{vs:List Value} {bs:List Bool} {i:Nat},vs.length=bs.length→i<vs.length→(O0 vs bs)[i*2]?=some (gt vs i)
 | [],_,_,_,h=>by simp at h
 |_::_,[],_,h,_=>by simp at h
 |v::vs,b::bs,0,_,_=>by rw[A1n];rfl
 |v::vs,b::bs,i+1,h,hi=>by
  rw[A1D,O0,show(i+1)*2=i*2+1+1 by omega,List.getElem?_cons_succ,List.getElem?_cons_succ]
  exact B4s (by simpa using h) (by simpa using hi)
theorem B8p:∀{vs:List Value} {bs:List Bool} {i:Nat},vs.length=bs.length→i<vs.length→(O0 vs bs)[i*2+1]?=some (.bool (gt bs i))
 | [],_,_,_,h=>by simp at h
 |_::_,[],_,h,_=>by simp at h
 |v::vs,b::bs,0,_,_=>by rw[A1n];rfl
 |v::vs,b::bs,i+1,h,hi=>by
  rw[A1D,O0,show(i+1)*2+1=i*2+1+1+1 by omega,List.getElem?_cons_succ,List.getElem?_cons_succ]
  exact B8p (by simpa using h) (by simpa using hi)
theorem B3k:∀{vs:List Value} {bs:List Bool} {i:Nat} (u:Value),vs.length=bs.length→(O0 vs bs).set (i*2) u=O0 (vs.set i u) bs
 | [],[],_,_,_=>rfl
 | [],_::_,_,_,h=>by simp at h
 |_::_,[],_,_,h=>by simp at h
 |v::vs,b::bs,0,u,_=>rfl
 |v::vs,b::bs,i+1,u,h=>by
  rw[List.set_cons_succ,O0,O0,show(i+1)*2=i*2+1+1 by omega,List.set_cons_succ,List.set_cons_succ,B3k u (by simpa using h)]
theorem A7I:∀{vs:List Value} {bs:List Bool} {i:Nat} (c:Bool),vs.length=bs.length→(O0 vs bs).set (i*2+1) (.bool c)=O0 vs (bs.set i c)
 | [],[],_,_,_=>rfl
 | [],_::_,_,_,h=>by simp at h
 |_::_,[],_,_,h=>by simp at h
 |v::vs,b::bs,0,u,_=>rfl
 |v::vs,b::bs,i+1,u,h=>by
  rw[List.set_cons_succ,O0,O0,show(i+1)*2+1=i*2+1+1+1 by omega,List.set_cons_succ,List.set_cons_succ,A7I u (by simpa using h)]
structure ColV where
 u:Unit
 deriving Inhabited
instance:Flat ColV:=⟨2,by decide,fun _=>[.slice none 0 0,.bool false],fun _=>rfl,fun _ v hv=>by simp at hv;rcases hv with rfl|rfl <;> rfl⟩
theorem B8i(v:Value)(e:TypeId)(n:Nat):A5 v e (List.replicate n (⟨()⟩:ColV))=row v e 2 n (O0 (List.replicate n (.slice none 0 0)) (List.replicate n false)):=by
 have h:∀n,flat (List.replicate n (⟨()⟩:ColV))=O0 (List.replicate n (.slice none 0 0)) (List.replicate n false):=fun n=>by
  induction n with
  |zero=>rfl
  |succ n ih=>rw[List.replicate_succ,List.replicate_succ,List.replicate_succ,O0,←ih];rfl
 show row v e 2 (List.replicate n (⟨()⟩:ColV)).length (flat (List.replicate n (⟨()⟩:ColV)))=_
 rw[h,List.length_replicate]
theorem B3L(v:Value)(e:TypeId)(n:Nat):A5 v e (List.replicate n (⟨.slice none 0 0,rfl⟩:RawV))=row v e 1 n (List.replicate n (.slice none 0 0)):=by
 have h:∀n,flat (List.replicate n (⟨.slice none 0 0,rfl⟩:RawV))=List.replicate n (.slice none 0 0):=fun n=>by
  induction n with
  |zero=>rfl
  |succ n ih=>rw[List.replicate_succ,List.replicate_succ,←ih];rfl
 show row v e 1 (List.replicate n (⟨.slice none 0 0,rfl⟩:RawV)).length (flat (List.replicate n (⟨.slice none 0 0,rfl⟩:RawV)))=_
 rw[h,List.length_replicate]
section
variable{α:Type}
def E8(n:Nat)(f:Nat→α):List α:=(List.range n).map f
theorem C4(n:Nat)(f:Nat→α):(E8 n f).length=n:=by simp[E8]
theorem V4 [Inhabited α]{n i:Nat}(f:Nat→α)(h:i<n):gt (E8 n f) i=f i:=by simp[E8,gt,List.getD,h]
theorem A0o{n:Nat}{f g:Nat→α}(h:∀i,i<n→f i=g i):E8 n f=E8 n g:=by
 unfold E8
 apply List.map_congr_left
 intro i hi
 exact h i (List.mem_range.1 hi)
theorem A7M{n i:Nat}{f g:Nat→α}{x:α}(hx:g i=x)(h:∀j,j<n→j≠i→f j=g j):(E8 n f).set i x=E8 n g:=by
 apply List.ext_getElem?
 intro j
 by_cases hj:j<n
 ·rw[List.getElem?_set]
  by_cases hi:i=j
  ·subst hi;rw[if_pos rfl,if_pos (by rw[C4];exact hj)];simp[E8,hj,hx]
  ·rw[if_neg hi];simp[E8,hj,h j hj (fun e=>hi e.symm)]
 ·rw[List.getElem?_eq_none (by rw[List.length_set,C4];omega),List.getElem?_eq_none (by rw[C4];omega)]
theorem B4T{n:Nat}{f:Nat→α}{x:α}(h:x∈E8 n f):∃j,j<n∧f j=x:=by
 obtain⟨j,h1,h2⟩:=List.mem_map.1 h
 exact⟨j,List.mem_range.1 h1,h2⟩
theorem B0P(n:Nat):(List.replicate n ([]:List α))=E8 n (fun _=>[]):=by
 apply List.ext_getElem?
 intro j
 by_cases hj:j<n
 ·simp[E8,hj]
 ·rw[List.getElem?_eq_none (by simp;omega),List.getElem?_eq_none (by rw[C4];omega)]
theorem C4g(n:Nat)(x:α):List.replicate n x=E8 n (fun _=>x):=by
 apply List.ext_getElem?
 intro j
 by_cases hj:j<n
 ·simp[E8,hj]
 ·rw[List.getElem?_eq_none (by simp;omega),List.getElem?_eq_none (by rw[C4];omega)]
end
def A1m(f:Paper)(t:Point)(n i:Nat)(c:Nat):List (List Span):=E8 n fun j=>if j<c then S4 f t j (i+1)else S4 f t j i
theorem B6T{f:Paper}{t:Point}{n i c:Nat}(h:(c:Int)=max (Y1 f t i).Lo 0):E8 n (fun j=>S4 f t j i)=A1m f t n i c:=A0o fun j hj=>by
 by_cases hc:j<c
 ·rw[if_pos hc,B5f (by omega)]
 ·rw[if_neg hc]
theorem B8g{f:Paper}{t:Point}{n i c:Nat}(h1:(Y1 f t i).Lo≤c)(h2:(c:Int)≤(Y1 f t i).Hi)(hn:c<n):
 (A1m f t n i c).set c (A0E (gt (A1m f t n i c) c) ⟨Q6 f (yK f t i),Q6 f (yK f t i)⟩)=A1m f t n i (c+1):=by
 refine A7M ?_ fun j hj hne=>?_
 ·rw[if_pos (by omega),C2d ⟨h1,h2⟩]
  congr 1
  rw[A1m,V4 _ hn,if_neg (by omega)]
 ·by_cases hc:j<c
  ·rw[if_pos hc,if_pos (by omega)]
  ·rw[if_neg hc,if_neg (by omega)]
theorem B5r{f:Paper}{t:Point}{n i c:Nat}(hn:c<n):gt (A1m f t n i c) c=S4 f t c i:=by rw[A1m,V4 _ hn,if_neg (by omega)]
theorem C1Y{f:Paper}{t:Point}{n i c:Nat}(h:∀j:Nat,j<n→c≤j→¬(j:Int)≤(Y1 f t i).Hi):A1m f t n i c=E8 n (fun j=>S4 f t j (i+1)):=A0o fun j hj=>by
 by_cases hc:j<c
 ·rw[if_pos hc]
 ·rw[if_neg hc,B5f (fun hn=>h j hj (by omega) hn.2)]
theorem A6l(f:Paper)(t:Point)(n i c:Nat):(A1m f t n i c).length=n:=C4 _ _
def A1G(f:Paper)(l:List Point)(n k:Nat)(c:Nat):List (List Span):=E8 n fun j=>if j<c then Y4 f l j (k+1)else Y4 f l j k
theorem A6K(f:Paper)(l:List Point)(n k c:Nat):(A1G f l n k c).length=n:=C4 _ _
theorem B8U(f:Paper)(l:List Point)(n k:Nat):E8 n (fun j=>Y4 f l j k)=A1G f l n k 0:=A0o fun j hj=>by rw[if_neg (Nat.not_lt_zero _)]
theorem B9Z(f:Paper)(l:List Point)(n k:Nat):A1G f l n k n=E8 n (fun j=>Y4 f l j (k+1)):=A0o fun j hj=>by rw[if_pos hj]
theorem B5x{f:Paper}{l:List Point}{n k c:Nat}(hn:c<n):gt (A1G f l n k c) c=Y4 f l c k:=by rw[A1G,V4 _ hn,if_neg (by omega)]
theorem B7V{f:Paper}{l:List Point}{n k c:Nat}{M:List Span}(hn:c<n)(hM:M=S4 f (gt l k) c (P1 f (gt l k))):(A1G f l n k c).set c (Z8 (gt (A1G f l n k c) c++M))=A1G f l n k (c+1):=by
 refine A7M ?_ fun j hj hne=>?_
 ·rw[if_pos (by omega),B5x hn,hM];rfl
 ·by_cases hc:j<c
  ·rw[if_pos hc,if_pos (by omega)]
  ·rw[if_neg hc,if_neg (by omega)]
def A3L(f:Paper)(l:List Point)(b:List Int)(n k:Nat):List (List Span):=E8 n fun j=>if j<k then A5w f l b j else[]
theorem A5U(f:Paper)(l:List Point)(b:List Int)(n k:Nat):(A3L f l b n k).length=n:=C4 _ _
theorem B9z(f:Paper)(l:List Point)(b:List Int)(n:Nat):List.replicate n ([]:List Span)=A3L f l b n 0:=by
 rw[B0P];exact A0o fun j hj=>by rw[if_neg (Nat.not_lt_zero _)]
theorem B7J{f:Paper}{l:List Point}{b:List Int}{n k:Nat}{M:List Span}(hM:M=A5w f l b k):(A3L f l b n k).set k M=A3L f l b n (k+1):=by
 refine A7M ?_ fun j hj hne=>?_
 ·rw[if_pos (by omega),hM]
 ·by_cases hc:j<k
  ·rw[if_pos hc,if_pos (by omega)]
  ·rw[if_neg hc,if_neg (by omega)]
theorem B9g{f:Paper}{l:List Point}{b:List Int}{n k:Nat}(h:A5w f l b k=[]):A3L f l b n k=A3L f l b n (k+1):=A0o fun j hj=>by
 by_cases hc:j<k
 ·rw[if_pos hc,if_pos (by omega)]
 ·rw[if_neg hc]
  by_cases hk:j=k
  ·subst hk;rw[if_pos (by omega),h]
  ·rw[if_neg (by omega)]
theorem C1x(f:Paper)(l:List Point)(b:List Int)(n:Nat):A3L f l b n n=(List.range n).map (A5w f l b):=A0o fun j hj=>by rw[if_pos hj]
def blN(b:List Int)(n k:Nat):List Bool:=E8 n fun j=>decide (∃i,i<k∧gt b i=j)
theorem B5l(b:List Int)(n k:Nat):(blN b n k).length=n:=C4 _ _
theorem B9W(b:List Int)(n:Nat):List.replicate n false=blN b n 0:=by
 rw[C4g];exact A0o fun j hj=>by rw[decide_eq_false (fun⟨i,h,_⟩=>absurd h (Nat.not_lt_zero _))]
theorem B4g{b:List Int}{n k c:Nat}(hc:gt b k=c):(blN b n k).set c true=blN b n (k+1):=by
 refine A7M (decide_eq_true ⟨k,by omega,hc⟩) fun j hj hne=>?_
 congr 1
 apply propext
 constructor
 ·rintro⟨i,h1,h2⟩;exact⟨i,by omega,h2⟩
 ·rintro⟨i,h1,h2⟩
  by_cases hi:i=k
  ·subst hi;exact absurd (Int.ofNat.inj (h2.symm.trans hc)) hne
  ·exact⟨i,by omega,h2⟩
theorem B8I{b:List Int}{n j:Nat}(hj:j<n):gt (blN b n b.length) j=decide ((j:Int)∈b):=by
 rw[blN,V4 _ hj]
 congr 1
 apply propext
 constructor
 ·rintro⟨i,h1,h2⟩;rw[←h2];exact A2P h1
 ·intro h;obtain⟨i,h1,h2⟩:=A4m h;exact⟨i,h1,h2⟩
theorem B4d{f:Paper}{l:List Point}{b:List Int}{c:Nat}(h:(c:Int)∈b):A5w f l b c=[]:=if_pos h
theorem A7X{f:Paper}{l:List Point}{b:List Int}{c:Nat}(h:¬(c:Int)∈b):A5w f l b c=Y4 f l c l.length:=if_neg h
theorem B3C{f:Paper}{l:List Point}{b:List Int}(h:A0z f l≠0):A2z f l b=A0z f l:=if_pos h
theorem B1y{f:Paper}{l:List Point}{b:List Int}(h:¬A0z f l≠0)(h1:¬A6s f b):A2z f l b=1:=by rw[A2z,if_neg h,if_pos h1]
theorem B3V{f:Paper}{l:List Point}{b:List Int}(h:¬A0z f l≠0)(h1:A6s f b)(h2:¬B0X f l b):A2z f l b=2:=by rw[A2z,if_neg h,if_neg (fun h_=>h_ h1),if_pos h2]
theorem C3I{f:Paper}{l:List Point}{b:List Int}(h:¬A0z f l≠0)(h1:A6s f b)(h2:B0X f l b):A2z f l b=0:=by rw[A2z,if_neg h,if_neg (fun h_=>h_ h1),if_neg (fun h_=>h_ h2)]
theorem A9j{f:Paper}{l:List Point}{b:List Int}(h:A2z f l b≠0):A0R f l b=[]:=if_pos h
theorem B5a{f:Paper}{l:List Point}{b:List Int}(h:A2z f l b=0):A0R f l b=(List.range f.Columns.toNat).map (A5w f l b):=by rw[A0R,if_neg (fun h_=>h_ h)]
theorem B8y{f:Paper}(hf:I6 f){t:Point}(ht:N6 t){n:Nat}:∀L∈E8 n (fun j=>S4 f t j (P1 f t)),L.length≤C8:=fun L hL=>by
 obtain⟨j,_,rfl⟩:=B4T hL
 have:=(B2o hf ht j (Nat.le_refl _)).len
 unfold C8;omega
theorem B7U{f:Paper}(hf:I6 f){l:List Point}(hl:A2J l){n:Nat}:∀L∈E8 n (fun j=>Y4 f l j l.length),L.length≤C8:=fun L hL=>by
 obtain⟨j,_,rfl⟩:=B4T hL
 have:=(B7k hf hl j l.length (Nat.le_refl _)).len
 unfold C8;omega
theorem C5D{xs:List Value}{off:Nat}{a b:Value}(h1:xs[off]?=some a)(h2:xs[off+1]?=some b):∀j u,[a,b][j]?=some u→xs[off+j]?=some u:=fun j u hj=>by
 match j,hj with
 |0,hj=>cases hj;exact h1
 |1,hj=>cases hj;exact h2
end Go.Proofs.T10
