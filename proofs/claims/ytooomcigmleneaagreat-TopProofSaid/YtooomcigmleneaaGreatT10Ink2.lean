import Derived.Test.YtooomcigmleneaaGreatT10Seg
set_option linter.all false
namespace Go.Proofs.T10
open Go Go.Kx
theorem A7r{L:List Span}{x:Span}(h:Cw L)(hx:(0≤x.Lo∧x.Lo≤12000)∧0≤x.Hi∧x.Hi≤12000):Cw (Bi L x):=by
 unfold Bi
 split
 ·rename_i h1
  have a:=Rw h (i:=L.length-1) (by omega)
  refine B0N h ?_
  dsimp only
  omega
 ·exact A7Z h hx
theorem GW{xs:List Value}{off:Nat}{v:Value}(h:off<xs.length):(xs.set off v)[off]?=some v:=by simp[h]
theorem Rg(L:List Span)(x:Span):L.length≤(Bi L x).length∧(Bi L x).length≤L.length+1:=by
 unfold Bi;split <;> simp
theorem LX{l:List Span}(h:Cw l):Cw (C4 l)∧(C4 l).length≤l.length:=by
 induction hn:l.length generalizing l with
 |zero=>obtain rfl:=UG.1 hn;exact⟨A1S,E' _⟩
 |succ n ih=>
  obtain⟨r,x,rfl⟩:=Fh l (by omega)
  have b:=ih (l:=r) (fun s a=>h s (Sk _ a)) (by simpa using hn)
  rw[Eo]
  have c:=Rg (C4 r) x
  exact⟨A7r b.1 (h x (by simp)),by omega⟩
theorem Ao{R:List Span}{k:Nat}(hk:k<R.length):C4 (R.take (k+1))=Bi (C4 (R.take k)) (gt R k):=by
 rw[UC hk,Eo]
 congr 1
 simp[gt,List.getD,hk]
theorem HX{L:List Span}{x:Span}(h:0<L.length∧x.Lo≤(gt L (L.length-1)).Hi+1):Bi L x=L.set (L.length-1) ⟨(gt L (L.length-1)).Lo,max (gt L (L.length-1)).Hi x.Hi⟩:=D' h
theorem CY{L:List Span}{x:Span}(h:¬(0<L.length∧x.Lo≤(gt L (L.length-1)).Hi+1)):Bi L x=L++[x]:=A' h
theorem B2T{L:List Span}(h:Cw L):Cz L:=MA fun s a=>by have:=h s a;omega
theorem A1t{A B:List Span}(ha:A.length≤50000)(hb:B.length≤50000):∀i,i<[A,B].length→(gt [A,B] i).length≤50000:=fun i hi=>by
 match i,hi with
 |0,_=>exact ha
 |1,_=>exact hb
theorem NU{lo hi:Int}:∀{l:List Span},Can l→(∀s∈l,lo≤s.Lo∧s.Hi≤hi)→0<l.length→2*(l.length:Int)≤hi-lo+2
 | [],_,_,h=>absurd h (Tb _)
 | [s],hc,hb,_=>by have h1:=hb s (by simp);have b:s.Lo≤s.Hi:=hc;show 2*((1:Nat):Int)≤_;omega
 |s::t::r,hc,hb,_=>by
  have h1:=hc.1
  have b:=hc.2.1
  have c:=hb s (by simp)
  have ih:=NU (lo:=s.Hi+2) (hi:=hi) hc.2.2 (fun x a=>⟨by
   have:=CW hc x.Lo ⟨x,a,Si _,Z3 hc.2.2 x a⟩;omega,(hb x (Sg _ a)).2⟩) (by simp)
  simp only[N']at ih⊢
  omega
theorem A4M{l:List Span}(hc:Can l)(hb:Cw l):l.length≤6001:=by
 by_cases b:0<l.length
 ·have:=NU (lo:=0) (hi:=12000) hc (fun s a=>by have:=hb s a;omega) b;omega
 ·omega
def T5(f:Paper)(t:Point)(c:Int):Nat→List Span
 |0=>[]
 |k+1=>if(Ag f t k).Lo≤c∧c≤(Ag f t k).Hi then Bi (T5 f t c k) ⟨T0 f (yK f t k),T0 f (yK f t k)⟩else T5 f t c k
theorem A8o{f:Paper}{t:Point}{c:Int}{k:Nat}(h:(Ag f t k).Lo≤c∧c≤(Ag f t k).Hi):T5 f t c (k+1)=Bi (T5 f t c k) ⟨T0 f (yK f t k),T0 f (yK f t k)⟩:=D' h
theorem A1D{f:Paper}{t:Point}{c:Int}{k:Nat}(h:¬((Ag f t k).Lo≤c∧c≤(Ag f t k).Hi)):T5 f t c (k+1)=T5 f t c k:=A' h
theorem A2U{f:Paper}(hf:K6 f){y z:Int}(h:y≤z):T0 f y≤T0 f z:=by
 have b:=hf.1.2.1
 have c:=hf.2.1
 unfold T0
 have a:y*(f.High-f.Low)≤z*(f.High-f.Low):=TN h (by omega)
 have:=TY (show 0<f.Height by omega) a
 omega
def MF(f:Paper)(t:Point)(c:Int):Nat→List Span
 |0=>[]
 |k+1=>if(Ag f t k).Lo≤c∧c≤(Ag f t k).Hi then MF f t c k++[⟨T0 f (yK f t k),T0 f (yK f t k)⟩]else MF f t c k
theorem A6F(f:Paper)(t:Point)(c:Int):∀k,T5 f t c k=C4 (MF f t c k)
 |0=>rfl
 |k+1=>by
  rw[T5,MF,A6F f t c k]
  split
  ·rw[Eo]
  ·rfl
theorem Jw{f:Paper}{t:Point}{c:Int}{s:Span}:∀{k:Nat},s∈MF f t c k→∃j,j<k∧s=⟨T0 f (yK f t j),T0 f (yK f t j)⟩
 |0,h=>by cases h
 |k+1,h=>by
  rw[MF]at h
  split at h
  ·rcases Sa.1 h with h1|h1
   ·obtain⟨j,h2,h3⟩:=Jw h1;exact⟨j,by omega,h3⟩
   ·exact⟨k,by omega,Sp.1 h1⟩
  ·obtain⟨j,h2,h3⟩:=Jw h;exact⟨j,by omega,h3⟩
theorem Jt{f:Paper}(hf:K6 f)(t:Point)(c:Int):∀k,(MF f t c k).Pairwise (fun a b=>a.Lo≤b.Lo)
 |0=>.nil
 |k+1=>by
  rw[MF]
  split
  ·refine List.pairwise_append.2 ⟨Jt hf t c k,List.pairwise_singleton _ _,fun a ha b hb=>?_⟩
   obtain⟨j,h1,rfl⟩:=Jw ha
   rw[Sp.1 hb]
   exact A2U hf (show Dj f t+j≤Dj f t+k by omega)
  ·exact Jt hf t c k
structure RisP(l:List Span):Prop where
 can:Can l
 bd:Cw l
theorem RisP.len{l:List Span}(h:RisP l):l.length≤6001:=A4M h.can h.bd
theorem RisP.valid{l:List Span}(h:RisP l):∀s∈l,s.Lo≤s.Hi:=Z3 h.can
theorem RisP.nil:RisP []:=⟨trivial,A1S⟩
theorem Ql{f:Paper}(hf:K6 f){t:Point}(ht:O5 t)(c:Int){k:Nat}(hk:k≤Q8 f t):RisP (T5 f t c k):=by
 have b:Cw (MF f t c k):=fun s a=>by
  obtain⟨j,d,rfl⟩:=Jw a
  have:=Re hf (show 0≤yK f t j∧yK f t j≤f.Height from A6P hf ht (k:=j) (by omega))
  dsimp only
  omega
 rw[A6F]
 refine⟨(La (fun s a=>?_) (Jt hf t c k)).can,(LX b).1⟩
 obtain⟨j,d,rfl⟩:=Jw a
 exact Si _
theorem B1d{A B:List Span}(ha:RisP A)(hb:RisP B):RisP (K4 (A++B)):=by
 have b:∀s∈A++B,s.Lo≤s.Hi:=fun s a=>(Sa.1 a).elim (ha.valid s) (hb.valid s)
 exact⟨EW b,(LX (A0y (NP ha.bd hb.bd) (Ap _))).1⟩
def Ah(f:Paper)(l:List Point)(c:Int):Nat→List Span
 |0=>[]
 |k+1=>K4 (Ah f l c k++T5 f (gt l k) c (Q8 f (gt l k)))
theorem A3E{f:Paper}(hf:K6 f){l:List Point}(hl:Dv l)(c:Int):∀k,k≤l.length→RisP (Ah f l c k)
 |0,_=>.nil
 |k+1,h=>B1d (A3E hf hl c k (by omega)) (Ql hf (hl k (by omega)) c (E' _))
def Ir(f:Paper)(b:List Int):Prop:=∀i,i<b.length→(0≤gt b i∧gt b i≤f.Columns-1)∧(0<i→gt b (i-1)<gt b i)
instance(f:Paper)(b:List Int):Decidable (Ir f b):=by unfold Ir;exact inferInstance
def Gx(f:Paper)(l:List Point)(b:List Int)(c:Nat):List Span:=if((c:Int)∈b)then[]else Ah f l c l.length
def OS(f:Paper)(l:List Point)(b:List Int):Prop:=∀c:Nat,c<f.Columns.toNat→(Gx f l b c).length≤8
instance(f:Paper)(l:List Point)(b:List Int):Decidable (OS f l b):=by unfold OS;exact inferInstance
def DP(f:Paper)(l:List Point)(b:List Int):Int:=if Bd f l≠0 then Bd f l else if¬Ir f b then 1 else if¬OS f l b then 2 else 0
def EO(f:Paper)(l:List Point)(b:List Int):List (List Span):=if DP f l b≠0 then[]else(List.range f.Columns.toNat).map (Gx f l b)
def P9:List Value→List Bool→List Value
 |v::vs,b::bs=>v:: .bool b::P9 vs bs
 |_,_=>[]
theorem Lr:∀{vs:List Value} {bs:List Bool},vs.length=bs.length→(P9 vs bs).length=vs.length*2
 | [],[],_=>rfl
 | [],_::_,h=>by simp at h
 |_::_,[],h=>by simp at h
 |v::vs,b::bs,h=>by rw[P9,N',N',Lr (by simpa using h),N'];omega
theorem Rt:∀{vs:List Value} {bs:List Bool} {i:Nat},vs.length=bs.length→i<vs.length→(P9 vs bs)[i*2]?=some (gt vs i)
 | [],_,_,_,h=>by simp at h
 |_::_,[],_,h,_=>by simp at h
 |v::vs,b::bs,0,_,_=>by rw[Bq];rfl
 |v::vs,b::bs,i+1,h,hi=>by
  rw[Ak,P9,show(i+1)*2=i*2+1+1 by omega,Uy,Uy]
  exact Rt (by simpa using h) (by simpa using hi)
theorem A4y:∀{vs:List Value} {bs:List Bool} {i:Nat},vs.length=bs.length→i<vs.length→(P9 vs bs)[i*2+1]?=some (.bool (gt bs i))
 | [],_,_,_,h=>by simp at h
 |_::_,[],_,h,_=>by simp at h
 |v::vs,b::bs,0,_,_=>by rw[Bq];rfl
 |v::vs,b::bs,i+1,h,hi=>by
  rw[Ak,P9,show(i+1)*2+1=i*2+1+1+1 by omega,Uy,Uy]
  exact A4y (by simpa using h) (by simpa using hi)
theorem RT:∀{vs:List Value} {bs:List Bool} {i:Nat} (u:Value),vs.length=bs.length→(P9 vs bs).set (i*2) u=P9 (vs.set i u) bs
 | [],[],_,_,_=>rfl
 | [],_::_,_,_,h=>by simp at h
 |_::_,[],_,_,h=>by simp at h
 |v::vs,b::bs,0,u,_=>rfl
 |v::vs,b::bs,i+1,u,h=>by
  rw[TE,P9,P9,show(i+1)*2=i*2+1+1 by omega,TE,TE,RT u (by simpa using h)]
theorem Jc:∀{vs:List Value} {bs:List Bool} {i:Nat} (c:Bool),vs.length=bs.length→(P9 vs bs).set (i*2+1) (.bool c)=P9 vs (bs.set i c)
 | [],[],_,_,_=>rfl
 | [],_::_,_,_,h=>by simp at h
 |_::_,[],_,_,h=>by simp at h
 |v::vs,b::bs,0,u,_=>rfl
 |v::vs,b::bs,i+1,u,h=>by
  rw[TE,P9,P9,show(i+1)*2+1=i*2+1+1+1 by omega,TE,TE,Jc u (by simpa using h)]
structure ColV where
 u:Unit
 deriving Inhabited
instance:Flat ColV:=⟨2,by decide,fun _=>[.slice none 0 0,.bool false],fun _=>rfl,fun _ v a=>by simp at a;rcases a with rfl|rfl <;> rfl⟩
theorem A4F(v:Value)(e:TypeId)(n:Nat):A5 v e (List.replicate n (⟨()⟩:ColV))=row v e 2 n (P9 (List.replicate n (.slice none 0 0)) (List.replicate n false)):=by
 have h:∀n,flat (List.replicate n (⟨()⟩:ColV))=P9 (List.replicate n (.slice none 0 0)) (List.replicate n false):=fun n=>by
  induction n with
  |zero=>rfl
  |succ n ih=>rw[SZ,SZ,SZ,P9,←ih];rfl
 show row v e 2 (List.replicate n (⟨()⟩:ColV)).length (flat (List.replicate n (⟨()⟩:ColV)))=_
 rw[h,Tf]
theorem A0m(v:Value)(e:TypeId)(n:Nat):A5 v e (List.replicate n (⟨.slice none 0 0,rfl⟩:RawV))=row v e 1 n (List.replicate n (.slice none 0 0)):=by
 have h:∀n,flat (List.replicate n (⟨.slice none 0 0,rfl⟩:RawV))=List.replicate n (.slice none 0 0):=fun n=>by
  induction n with
  |zero=>rfl
  |succ n ih=>rw[SZ,SZ,←ih];rfl
 show row v e 1 (List.replicate n (⟨.slice none 0 0,rfl⟩:RawV)).length (flat (List.replicate n (⟨.slice none 0 0,rfl⟩:RawV)))=_
 rw[h,Tf]
section
variable{α:Type}
def D2(n:Nat)(f:Nat→α):List α:=(List.range n).map f
theorem B5(n:Nat)(f:Nat→α):(D2 n f).length=n:=by simp[D2]
theorem N7 [Inhabited α]{n i:Nat}(f:Nat→α)(h:i<n):gt (D2 n f) i=f i:=by simp[D2,gt,List.getD,h]
theorem CX{n:Nat}{f g:Nat→α}(h:∀i,i<n→f i=g i):D2 n f=D2 n g:=by
 unfold D2
 apply List.map_congr_left
 intro i hi
 exact h i (SS.1 hi)
theorem Kj{n i:Nat}{f g:Nat→α}{x:α}(hx:g i=x)(h:∀j,j<n→j≠i→f j=g j):(D2 n f).set i x=D2 n g:=by
 apply SG
 intro j
 by_cases a:j<n
 ·rw[SR]
  by_cases hi:i=j
  ·subst hi;rw[D' rfl,D' (by rw[B5];exact a)];simp[D2,a,hx]
  ·rw[A' hi];simp[D2,a,h j a (fun e=>hi e.symm)]
 ·rw[Sm (by rw[I',B5];omega),Sm (by rw[B5];omega)]
theorem A1q{n:Nat}{f:Nat→α}{x:α}(h:x∈D2 n f):∃j,j<n∧f j=x:=by
 obtain⟨j,a,b⟩:=Sh.1 h
 exact⟨j,SS.1 a,b⟩
theorem Ov(n:Nat):(List.replicate n ([]:List α))=D2 n (fun _=>[]):=by
 apply SG
 intro j
 by_cases a:j<n
 ·simp[D2,a]
 ·rw[Sm (by simp;omega),Sm (by rw[B5];omega)]
theorem B3g(n:Nat)(x:α):List.replicate n x=D2 n (fun _=>x):=by
 apply SG
 intro j
 by_cases a:j<n
 ·simp[D2,a]
 ·rw[Sm (by simp;omega),Sm (by rw[B5];omega)]
end
def BK(f:Paper)(t:Point)(n i:Nat)(c:Nat):List (List Span):=D2 n fun j=>if j<c then T5 f t j (i+1)else T5 f t j i
theorem A2V{f:Paper}{t:Point}{n i c:Nat}(h:(c:Int)=max (Ag f t i).Lo 0):D2 n (fun j=>T5 f t j i)=BK f t n i c:=CX fun j b=>by
 by_cases a:j<c
 ·rw[D' a,A1D (by omega)]
 ·rw[A' a]
theorem A4Y{f:Paper}{t:Point}{n i c:Nat}(h1:(Ag f t i).Lo≤c)(h2:(c:Int)≤(Ag f t i).Hi)(hn:c<n):
 (BK f t n i c).set c (Bi (gt (BK f t n i c) c) ⟨T0 f (yK f t i),T0 f (yK f t i)⟩)=BK f t n i (c+1):=by
 refine Kj ?_ fun j d b=>?_
 ·rw[D' (by omega),A8o ⟨h1,h2⟩]
  congr 1
  rw[BK,N7 _ hn,A' (by omega)]
 ·by_cases a:j<c
  ·rw[D' a,D' (by omega)]
  ·rw[A' a,A' (by omega)]
theorem A1u{f:Paper}{t:Point}{n i c:Nat}(hn:c<n):gt (BK f t n i c) c=T5 f t c i:=by rw[BK,N7 _ hn,A' (by omega)]
theorem A8V{f:Paper}{t:Point}{n i c:Nat}(h:∀j:Nat,j<n→c≤j→¬(j:Int)≤(Ag f t i).Hi):BK f t n i c=D2 n (fun j=>T5 f t j (i+1)):=CX fun j b=>by
 by_cases a:j<c
 ·rw[D' a]
 ·rw[A' a,A1D (fun d=>h j b (by omega) d.2)]
theorem HC(f:Paper)(t:Point)(n i c:Nat):(BK f t n i c).length=n:=B5 _ _
def Cm(f:Paper)(l:List Point)(n k:Nat)(c:Nat):List (List Span):=D2 n fun j=>if j<c then Ah f l j (k+1)else Ah f l j k
theorem HH(f:Paper)(l:List Point)(n k c:Nat):(Cm f l n k c).length=n:=B5 _ _
theorem A5g(f:Paper)(l:List Point)(n k:Nat):D2 n (fun j=>Ah f l j k)=Cm f l n k 0:=CX fun j a=>by rw[A' (R' _)]
theorem A7o(f:Paper)(l:List Point)(n k:Nat):Cm f l n k n=D2 n (fun j=>Ah f l j (k+1)):=CX fun j a=>by rw[D' a]
theorem A1O{f:Paper}{l:List Point}{n k c:Nat}(hn:c<n):gt (Cm f l n k c) c=Ah f l c k:=by rw[Cm,N7 _ hn,A' (by omega)]
theorem A4L{f:Paper}{l:List Point}{n k c:Nat}{M:List Span}(hn:c<n)(hM:M=T5 f (gt l k) c (Q8 f (gt l k))):(Cm f l n k c).set c (K4 (gt (Cm f l n k c) c++M))=Cm f l n k (c+1):=by
 refine Kj ?_ fun j d b=>?_
 ·rw[D' (by omega),A1O hn,hM];rfl
 ·by_cases a:j<c
  ·rw[D' a,D' (by omega)]
  ·rw[A' a,A' (by omega)]
def EH(f:Paper)(l:List Point)(b:List Int)(n k:Nat):List (List Span):=D2 n fun j=>if j<k then Gx f l b j else[]
theorem HO(f:Paper)(l:List Point)(b:List Int)(n k:Nat):(EH f l b n k).length=n:=B5 _ _
theorem A5n(f:Paper)(l:List Point)(b:List Int)(n:Nat):List.replicate n ([]:List Span)=EH f l b n 0:=by
 rw[Ov];exact CX fun j a=>by rw[A' (R' _)]
theorem A6i{f:Paper}{l:List Point}{b:List Int}{n k:Nat}{M:List Span}(hM:M=Gx f l b k):(EH f l b n k).set k M=EH f l b n (k+1):=by
 refine Kj ?_ fun j d c=>?_
 ·rw[D' (by omega),hM]
 ·by_cases a:j<k
  ·rw[D' a,D' (by omega)]
  ·rw[A' a,A' (by omega)]
theorem A6E{f:Paper}{l:List Point}{b:List Int}{n k:Nat}(h:Gx f l b k=[]):EH f l b n k=EH f l b n (k+1):=CX fun j d=>by
 by_cases a:j<k
 ·rw[D' a,D' (by omega)]
 ·rw[A' a]
  by_cases c:j=k
  ·subst c;rw[D' (by omega),h]
  ·rw[A' (by omega)]
theorem A9k(f:Paper)(l:List Point)(b:List Int)(n:Nat):EH f l b n n=(List.range n).map (Gx f l b):=CX fun j a=>by rw[D' a]
def Ha(b:List Int)(n k:Nat):List Bool:=D2 n fun j=>decide (∃i,i<k∧gt b i=j)
theorem A2j(b:List Int)(n k:Nat):(Ha b n k).length=n:=B5 _ _
theorem A9l(b:List Int)(n:Nat):List.replicate n false=Ha b n 0:=by
 rw[B3g];exact CX fun j a=>by rw[Tg (fun⟨i,h,_⟩=>absurd h (R' _))]
theorem Rl{b:List Int}{n k c:Nat}(hc:gt b k=c):(Ha b n k).set c true=Ha b n (k+1):=by
 refine Kj (SF ⟨k,by omega,hc⟩) fun j g d=>?_
 congr 1
 apply propext
 constructor
 ·rintro⟨i,f,a⟩;exact⟨i,by omega,a⟩
 ·rintro⟨i,f,a⟩
  by_cases hi:i=k
  ·subst hi;exact absurd (Int.ofNat.inj (a.symm.trans hc)) d
  ·exact⟨i,by omega,a⟩
theorem A6z{b:List Int}{n j:Nat}(hj:j<n):gt (Ha b n b.length) j=decide ((j:Int)∈b):=by
 rw[Ha,N7 _ hj]
 congr 1
 apply propext
 constructor
 ·rintro⟨i,a,c⟩;rw[←c];exact M0 a
 ·intro h;obtain⟨i,a,c⟩:=Z6 h;exact⟨i,a,c⟩
theorem Rc{f:Paper}{l:List Point}{b:List Int}{c:Nat}(h:(c:Int)∈b):Gx f l b c=[]:=D' h
theorem Kh{f:Paper}{l:List Point}{b:List Int}{c:Nat}(h:¬(c:Int)∈b):Gx f l b c=Ah f l c l.length:=A' h
theorem A0n{f:Paper}{l:List Point}{b:List Int}(h:Bd f l≠0):DP f l b=Bd f l:=D' h
theorem PW{f:Paper}{l:List Point}{b:List Int}(h:¬Bd f l≠0)(h1:¬Ir f b):DP f l b=1:=by rw[DP,A' h,D' h1]
theorem Ri{f:Paper}{l:List Point}{b:List Int}(h:¬Bd f l≠0)(h1:Ir f b)(h2:¬OS f l b):DP f l b=2:=by rw[DP,A' h,A' (fun a=>a h1),D' h2]
theorem B1Z{f:Paper}{l:List Point}{b:List Int}(h:¬Bd f l≠0)(h1:Ir f b)(h2:OS f l b):DP f l b=0:=by rw[DP,A' h,A' (fun a=>a h1),A' (fun a=>a h2)]
theorem Mb{f:Paper}{l:List Point}{b:List Int}(h:DP f l b≠0):EO f l b=[]:=D' h
theorem A1Z{f:Paper}{l:List Point}{b:List Int}(h:DP f l b=0):EO f l b=(List.range f.Columns.toNat).map (Gx f l b):=by rw[EO,A' (fun a=>a h)]
theorem A6n{f:Paper}(hf:K6 f){t:Point}(ht:O5 t){n:Nat}:∀L∈D2 n (fun j=>T5 f t j (Q8 f t)),L.length≤C7:=fun L a=>by
 obtain⟨j,_,rfl⟩:=A1q a
 have:=(Ql hf ht j (E' _)).len
 unfold C7;omega
theorem A5L{f:Paper}(hf:K6 f){l:List Point}(hl:Dv l){n:Nat}:∀L∈D2 n (fun j=>Ah f l j l.length),L.length≤C7:=fun L a=>by
 obtain⟨j,_,rfl⟩:=A1q a
 have:=(A3E hf hl j l.length (E' _)).len
 unfold C7;omega
theorem B3w{xs:List Value}{off:Nat}{a b:Value}(h1:xs[off]?=some a)(h2:xs[off+1]?=some b):∀j u,[a,b][j]?=some u→xs[off+j]?=some u:=fun j u c=>by
 match j,c with
 |0,c=>cases c;exact h1
 |1,c=>cases c;exact h2
def QR(d:Drum)(i:Nat):Nat→Span
 |0=>gt d.Rates i
 |k+1=>if(gt d.Stops k).Column=i then⟨wr ((QR d i k).Lo+(gt d.Stops k).Ticks.Lo),wr ((QR d i k).Hi+(gt d.Stops k).Ticks.Hi)⟩else QR d i k
def A4i(x:Sheet)(ticks:Int)(c:Course):Prop:=((c.Ticks.length=x.Drum.Rates.length+1∧(c.Shown.length:Int)=ticks+1)∧((c.Levels.length:Int)=ticks+1∧x.Pen.Zero.Lo≤c.Zero∧c.Zero≤x.Pen.Zero.Hi))∧DP x.Paper x.Trace x.Blots=0∧(EO x.Paper x.Trace x.Blots).length=c.Ticks.length
instance(x:Sheet)(t:Int)(c:Course):Decidable (A4i x t c):=by unfold A4i;exact inferInstance
def A3w(x:Sheet)(ticks:Int)(c:Course)(i:Nat):Prop:=(0≤gt c.Ticks i∧gt c.Ticks i≤ticks)∧(0<(gt (EO x.Paper x.Trace x.Blots) i).length→inP (gt (EO x.Paper x.Trace x.Blots) i) (gt c.Shown (gt c.Ticks i).toNat))∧(0<i→(QR x.Drum (i-1) x.Drum.Stops.length).Lo≤gt c.Ticks i-gt c.Ticks (i-1)∧gt c.Ticks i-gt c.Ticks (i-1)≤(QR x.Drum (i-1) x.Drum.Stops.length).Hi)
instance(x:Sheet)(t:Int)(c:Course)(i:Nat):Decidable (A3w x t c i):=by unfold A3w;exact inferInstance
def A3m(x:Sheet)(c:Course)(t:Nat):Prop:=((0≤gt c.Shown t∧gt c.Shown t≤12000)∧(0≤gt c.Levels t∧gt c.Levels t≤12000)∧gt c.Levels t-c.Zero-gt c.Shown t≤x.Pen.Band∧gt c.Shown t-(gt c.Levels t-c.Zero)≤x.Pen.Band)∧(0<t→(gt c.Levels t-gt c.Levels (t-1)≤x.Pen.Rate∧-(gt c.Levels t-gt c.Levels (t-1))≤x.Pen.Rate)∧gt c.Shown t=BF x.Pen.Band (gt c.Shown (t-1)) (gt c.Levels t-c.Zero))
instance(x:Sheet)(c:Course)(t:Nat):Decidable (A3m x c t):=by unfold A3m;exact inferInstance
def RC(x:Sheet)(ticks:Int)(c:Course):Prop:=A4i x ticks c∧(∀i,i<c.Ticks.length→A3w x ticks c i)∧(∀t,t<(ticks+1).toNat→A3m x c t)
instance(x:Sheet)(t:Int)(c:Course):Decidable (RC x t c):=by unfold RC;exact inferInstance
def Y8(b first:Int)(L:List Int):Nat→Int
 |0=>first
 |k+1=>BF b (Y8 b first L k) (gt L (k+1))
def Je(p:Pen)(m:Moment):Prop:=Jr m.Real m.Shown≤p.Band
instance(p:Pen)(m:Moment):Decidable (Je p m):=by unfold Je;exact inferInstance
def Fb(p:Pen)(m:Moment)(r:Int):Prop:=Je p m∧Jr r m.Real≤p.Rate
instance(p:Pen)(m:Moment)(r:Int):Decidable (Fb p m r):=by unfold Fb;exact inferInstance
def DG(p:Pen)(m:Moment)(r:Int):Moment:=if Fb p m r then⟨BF p.Band m.Shown r,r⟩else⟨0,0⟩
theorem IV{p:Pen}{m:Moment}{r:Int}(h:Fb p m r):DG p m r=⟨BF p.Band m.Shown r,r⟩:=D' h
theorem RZ{p:Pen}{m:Moment}{r:Int}(h:¬Fb p m r):DG p m r=⟨0,0⟩:=A' h
def FM(p:Pen)(first:Int)(L:List Int):Nat→Bool
 |0=>decide (Je p ⟨first,gt L 0⟩)
 |k+1=>FM p first L k&&decide (Fb p ⟨Y8 p.Band first L k,gt L k⟩ (gt L (k+1)))
def Bg(p:Pen)(first:Int)(L:List Int):Nat→Nat
 |0=>0
 |k+1=>if FM p first L k=true then k+1 else Bg p first L k
theorem QA{p:Pen}{first:Int}{L:List Int}:∀{k j:Nat},j≤k→FM p first L k=true→FM p first L j=true
 |0,j,h,h1=>by
  obtain rfl:j=0:=by omega
  exact h1
 |k+1,j,h,h1=>by
  rcases TG h with h2|h2
  ·rw[FM,SN]at h1
   exact QA (by omega) h1.1
  ·subst h2;exact h1
theorem Pi{p:Pen}{first:Int}{L:List Int}{i:Nat}(h:FM p first L i=false)(h1:∀j,j<i→FM p first L j=true):∀n,i≤n→Bg p first L n=i
 |0,hn=>by
  obtain rfl:i=0:=by omega
  rfl
 |n+1,hn=>by
  rw[Bg]
  rcases TG hn with h2|h2
  ·rw[A' (fun a=>by have:=QA (j:=i) (by omega) a;rw[h]at this;cases this)]
   exact Pi h h1 n (by omega)
  ·subst h2;rw[D' (h1 n (by omega))]
theorem A4I{p:Pen}{first:Int}{L:List Int}{n:Nat}(h:FM p first L n=true):Bg p first L (n+1)=n+1:=D' h
theorem OE{p:Pen}{first:Int}{L:List Int}:∀n,Bg p first L n≤n
 |0=>E' _
 |n+1=>by have:=OE (p:=p) (first:=first) (L:=L) n;rw[Bg];split <;> omega
theorem A2t{p:Pen}{first:Int}{L:List Int}{i n:Nat}(h:FM p first L i=true)(hi:i<n):i<Bg p first L n:=by
 induction n with
 |zero=>omega
 |succ n ih=>
  rw[Bg]
  split
  ·omega
  ·rcases Sc.1 hi with h1|h1
   ·exact ih h1
   ·subst h1;contradiction
def A7k(p:Pen)(first:Int)(L:List Int):Nat→Mem→Array Value→Prop:=fun i _ a=>a=#[.agg [J (Y8 p.Band first L i),J (gt L i)].toArray]
theorem A5l{b s r:Int}(hb:0≤b):r-b≤BF b s r∧BF b s r≤r+b:=by unfold BF;omega
theorem B3K{p:Pen}(hp:M9 p){first:Int}(hf: -50000≤first∧first≤50000){L:List Int}(hL:FB L):∀k,k<L.length→-60000≤Y8 p.Band first L k∧Y8 p.Band first L k≤60000
 |0,_=>by rw[Y8];omega
 |k+1,h=>by
  have h1:=hL (k+1) h
  have a:=hp.1
  have c:=A5l (b:=p.Band) (s:=Y8 p.Band first L k) (r:=gt L (k+1)) a.1
  rw[Y8];omega
def shL(b first:Int)(L:List Int):List Int:=D2 L.length (Y8 b first L)
def Dt(p:Pen)(first:Int)(L:List Int):Int:=if X0 p [first]≠0 then X0 p [first]else if O2 L≠0 then O2 L else if Bg p first L L.length<L.length then 31 else 0
def Ob(p:Pen)(first:Int)(L:List Int):List Int:=if Dt p first L≠0 then[]else shL p.Band first L
theorem QB{p:Pen}{first:Int}{L:List Int}(h:X0 p [first]≠0):Dt p first L=X0 p [first]:=D' h
theorem Pd{p:Pen}{first:Int}{L:List Int}(h:¬X0 p [first]≠0)(h1:O2 L≠0):Dt p first L=O2 L:=by rw[Dt,A' h,D' h1]
theorem Nj{p:Pen}{first:Int}{L:List Int}(h:¬X0 p [first]≠0)(h1:¬O2 L≠0)(h2:Bg p first L L.length<L.length):Dt p first L=31:=by rw[Dt,A' h,A' h1,D' h2]
theorem B2E{p:Pen}{first:Int}{L:List Int}(h:¬X0 p [first]≠0)(h1:¬O2 L≠0)(h2:¬Bg p first L L.length<L.length):Dt p first L=0:=by rw[Dt,A' h,A' h1,A' h2]
theorem KQ{p:Pen}{first:Int}{L:List Int}(h:Dt p first L≠0):Ob p first L=[]:=D' h
theorem B0X{p:Pen}{first:Int}{L:List Int}(h:Dt p first L=0):Ob p first L=shL p.Band first L:=A' (fun a=>a h)
theorem B1t{p:Pen}{first:Int}(h:X0 p [first]=0):M9 p∧-50000≤first∧first≤50000:=by
 unfold X0 at h
 split at h
 ·contradiction
 ·split at h
  ·rename_i h1 h2;exact⟨A1p (by omega),h2 0 (by simp)⟩
  ·cases h
theorem O9{α:Type}(n:Nat)(f:Nat→α):D2 (n+1) f=D2 n f++[f n]:=by unfold D2;rw[List.range_succ,List.map_append];rfl
def Dw(l:List Span):Nat→Int
 |0=> -100002
 |k+1=>(gt l k).Hi
def Ik(l:List Span):Prop:=∀i,i<l.length→Dw l i+2≤(gt l i).Lo∧(gt l i).Lo≤(gt l i).Hi∧(gt l i).Hi≤100000
instance(l:List Span):Decidable (Ik l):=by unfold Ik;exact inferInstance
def I7(l:List Span):Prop:=l.length≤64∧Ik l
instance(l:List Span):Decidable (I7 l):=by unfold I7;exact inferInstance
theorem LH{l:List Span}{k:Nat}(h:∀i,i<k→Dw l i+2≤(gt l i).Lo∧(gt l i).Lo≤(gt l i).Hi∧(gt l i).Hi≤100000):∀i,i≤k→-100002≤Dw l i∧Dw l i≤100000
 |0,_=>by rw[Dw];omega
 |i+1,hi=>by
  have h1:=h i (by omega)
  have a:=LH h i (by omega)
  rw[Dw];omega
def Aq(l:List Span):Prop:=∀s∈l,-1000000000≤s.Lo∧s.Lo≤s.Hi∧s.Hi≤1000000000
theorem JR:Aq []:=fun _ h=>by cases h
theorem JK{l r:List Span}(h:Aq l)(h':Aq r):Aq (l++r):=fun s a=>(Sa.1 a).elim (h s) (h' s)
theorem AW{l:List Span}(h:Aq l):∀s∈l,s.Lo≤s.Hi:=fun s a=>(h s a).2.1
theorem A2s{l:List Span}(h:Aq l):Cz l:=MA fun s a=>by have:=h s a;omega
theorem Io{l r:List Span}(h:Aq l)(hp:r.Perm l):Aq r:=fun s a=>h s (hp.mem_iff.1 a)
theorem QV{l:List Span}(h:Aq l){i:Nat}(hi:i<l.length): -1000000000≤(gt l i).Lo∧(gt l i).Lo≤(gt l i).Hi∧(gt l i).Hi≤1000000000:=h _ (M0 hi)
theorem A9R{L:List Span}{x:Span}(h:Aq L)(hx: -1000000000≤x.Lo∧x.Lo≤x.Hi∧x.Hi≤1000000000):Aq (Bi L x):=by
 unfold Bi
 split
 ·rename_i h1
  have b:=QV h (i:=L.length-1) (by omega)
  intro s a
  rcases Uk a with h3|rfl
  ·exact h s h3
  ·dsimp only;omega
 ·intro s a
  rcases Sa.1 a with h3|h3
  ·exact h s h3
  ·rw[Sp.1 h3];exact hx
theorem Hv{l:List Span}(h:Aq l):Aq (C4 l)∧(C4 l).length≤l.length:=by
 induction hn:l.length generalizing l with
 |zero=>obtain rfl:=UG.1 hn;exact⟨JR,E' _⟩
 |succ n ih=>
  obtain⟨r,x,rfl⟩:=Fh l (by omega)
  have b:=ih (l:=r) (fun s a=>h s (Sk _ a)) (by simpa using hn)
  rw[Eo]
  have c:=Rg (C4 r) x
  exact⟨A9R b.1 (h x (by simp)),by omega⟩
theorem AZ{l:List Span}(h:Aq l):(K4 l).length≤l.length:=by
 have:=(Hv (Io h (Ap l))).2
 rw[(Ap l).length_eq]at this;exact this
theorem A3h{l:List Span}(h:Aq l):Aq (K4 l):=(Hv (Io h (Ap l))).1
theorem RA{l:List Span}(h:Ik l):Aq l:=fun s a=>by
 obtain⟨i,hi,rfl⟩:=Z6 a
 have c:=h i hi
 have d:=LH (l:=l) (k:=i) (fun j b=>h j (by omega)) i (E' _)
 omega
def KA(L:List Span):Nat→Mem→Array Value→Prop:=fun i _ a=>a=#[.agg [J (gt L i).Lo,J (gt L i).Hi].toArray]
def V7(x y:Int):Int:=if x<y then-1 else if y<x then 1 else 0
theorem B1G{x y:Int}(h:x<y):V7 x y= -1:=D' h
theorem B0U{x y:Int}(h:¬x<y)(h1:y<x):V7 x y=1:=by rw[V7,A' h,D' h1]
theorem B2j{x y:Int}(h:¬x<y)(h1:¬y<x):V7 x y=0:=by rw[V7,A' h,A' h1]
theorem A9M{x y:Int}:V7 x y<0↔x<y:=by unfold V7;split <;> (try split) <;> omega
theorem B1m{α:Type}[Inhabited α](L:List α):D2 L.length (gt L)=L:=by
 apply SG
 intro j
 by_cases a:j<L.length
 ·simp[D2,a,gt,List.getD]
 ·rw[Sm (by rw[B5];omega),Sm (by omega)]
def QZ(a b:List Span):Int:=if I7 a∧I7 b then 0 else 1
def Rb(a b:List Span):List Span:=if I7 a∧I7 b then K4 (a++b)else[]
theorem A1z{a b:List Span}(h:¬(I7 a∧I7 b)):QZ a b=1:=A' h
theorem A2u{a b:List Span}(h:¬(I7 a∧I7 b)):Rb a b=[]:=A' h
theorem A9Z{a b:List Span}(h:I7 a∧I7 b):QZ a b=0:=D' h
theorem A7M{a b:List Span}(h:I7 a∧I7 b):Rb a b=K4 (a++b):=D' h
def OC(p:Nat→Prop)[DecidablePred p]:Nat→Nat→Nat
 |0,k=>k
 |f+1,k=>if p k then k else OC p f (k+1)
def first(p:Nat→Prop)[DecidablePred p](n:Nat):Nat:=OC p n 0
theorem A1N{p:Nat→Prop}[DecidablePred p]:∀{f a k:Nat},a≤k→k<a+f→(∀j,a≤j→j<k→¬p j)→p k→OC p f a=k
 |0,a,k,h1,h2,_,_=>by omega
 |f+1,a,k,h1,h2,h,hp=>by
  unfold OC
  rcases Nat.lt_or_ge a k with h3|h3
  ·rw[A' (h a (E' _) h3)]
   exact A1N h3 (by omega) (fun j hj=>h j (by omega)) hp
  ·have:a=k:=by omega
   subst this
   rw[D' hp]
theorem A1i{p:Nat→Prop}[DecidablePred p]:∀{f a:Nat},(∀j,a≤j→j<a+f→¬p j)→OC p f a=a+f
 |0,a,_=>rfl
 |f+1,a,h=>by
  unfold OC
  rw[A' (h a (E' _) (by omega)),A1i (fun j h1 h2=>h j (by omega) (by omega))]
  omega
theorem QO{p:Nat→Prop}[DecidablePred p]{n k:Nat}(hk:k<n)(h:∀j,j<k→¬p j)(hp:p k):first p n=k:=
 A1N (EF _) (by omega) (fun j _ a=>h j a) hp
theorem Lv{p:Nat→Prop}[DecidablePred p]{n:Nat}(h:∀j,j<n→¬p j):first p n=n:=by
 have:=A1i (p:=p) (f:=n) (a:=0) (fun j _ b=>h j (by omega))
 simpa[first]using this
theorem CB(p:Nat→Prop)[DecidablePred p](n:Nat):(first p n=n∧∀j,j<n→¬p j)∨(first p n<n∧p (first p n)∧∀j,j<first p n→¬p j):=by
 by_cases h:∀j,j<n→¬p j
 ·exact .inl ⟨Lv h,h⟩
 ·right
  have:∃k,k<n∧p k∧∀j,j<k→¬p j:=by
   have g:∃j,j<n∧p j:=by
    by_cases r:∃j,j<n∧p j
    ·exact r
    ·exact absurd (fun j f a=>r ⟨j,f,a⟩) h
   obtain⟨o,l⟩:=g
   have key:∀b,(∃j,j≤b∧j<n∧p j)→∃k,k<n∧p k∧∀j,j<k→¬p j:=by
    intro b
    induction b with
    |zero=>
     rintro⟨j,s,c,d⟩;obtain rfl:j=0:=by omega
     exact⟨0,c,d,fun i hi=>absurd hi (R' _)⟩
    |succ b ih=>
     rintro⟨j,s,c,d⟩
     by_cases m:∃j,j≤b∧j<n∧p j
     ·exact ih m
     ·have f:j=b+1:=by
       rcases Nat.lt_or_ge b j with h4|h4
       ·omega
       ·exact absurd ⟨j,h4,c,d⟩ m
      subst f
      exact⟨b+1,c,d,fun i hi a=>m ⟨i,by omega,by omega,a⟩⟩
   exact key o ⟨o,E' _,l⟩
  obtain⟨k,t,a,q⟩:=this
  have:=QO t q a
  exact⟨by omega,by rw[this];exact a,by rw[this];exact q⟩
theorem Rx{α:Type}(f:Nat→α)(n:Nat):(List.range n).map f++[f n]=(List.range (n+1)).map f:=by rw[List.range_succ];simp
theorem Fy{α:Type}(f:Nat→α)(n:Nat):((List.range n).map f).length=n:=by simp
theorem T8{α:Type}[Inhabited α]{f:Nat→α}{n i:Nat}(h:i<n):gt ((List.range n).map f) i=f i:=by
 have:((List.range n).map f)[i]?=some (f i):=by rw[List.getElem?_map,List.getElem?_range h];rfl
 simp[gt,this]
theorem Ac{α:Type}[Inhabited α](L:List α){a b:Nat}(x:α)(hb:b<L.length):gt (L.set a x) b=if a=b then x else gt L b:=by
 simp only[gt,List.getD,SR]
 split
 ·subst_vars;simp[hb]
 ·rfl
theorem A6J{α:Type}[Inhabited α](L:List α):(List.range L.length).map (gt L)=L:=by
 refine Dy (by simp) fun j a=>?_
 rw[T8 (by simpa using a)]
theorem Ez{α:Type}{f g:Nat→α}{n:Nat}(h:∀i,i<n→f i=g i):(List.range n).map f=(List.range n).map g:=by
 apply List.map_congr_left
 intro a b
 exact h a (by simpa using b)
theorem Hj{α:Type}[Inhabited α]{L:List α}{f:Nat→α}{n:Nat}(hl:L.length=n)(h:∀i,i<n→gt L i=f i):L=(List.range n).map f:=by
 subst hl
 rw[←Ez h,A6J]
theorem B2M{α:Type}(x:α)(n:Nat):List.replicate n x=(List.range n).map fun _=>x:=by
 rw[List.map_const',List.length_range]
def U3(p:Nat→Prop)[DecidablePred p](n:Nat):Int:=if first p n<n then(first p n:Int)else-1
theorem W8{p:Nat→Prop}[DecidablePred p]{n k:Nat}(hk:k<n)(h:∀j,j<k→¬p j)(hp:p k):U3 p n=(k:Int):=by
 have:=QO hk h hp
 rw[U3,D' (by omega),this]
theorem W3{p:Nat→Prop}[DecidablePred p]{n:Nat}(h:∀j,j<n→¬p j):U3 p n= -1:=by
 have:=Lv h
 rw[U3,A' (by omega)]
theorem QW{p:Nat→Prop}[DecidablePred p]{n:Nat}(h:U3 p n<0):∀j,j<n→¬p j:=by
 rcases CB p n with h1|h1
 ·exact h1.2
 ·rw[U3,D' h1.1]at h;omega
theorem BS(p:Nat→Prop)[DecidablePred p](n:Nat):0≤U3 p n↔¬∀i,i<n→¬p i:=by
 rcases CB p n with h1|h1
 ·rw[W3 h1.2];exact⟨fun h=>absurd h (by omega),fun h=>absurd h1.2 h⟩
 ·rw[U3,D' h1.1];exact⟨fun _ h=>h _ h1.1 h1.2.1,fun _=>by omega⟩
theorem A3J{p:Nat→Prop}[DecidablePred p]{n:Nat}(h:0≤U3 p n):U3 p n=(first p n:Int)∧first p n<n:=by
 rcases CB p n with h1|h1
 ·rw[W3 h1.2]at h;omega
 ·rw[U3,D' h1.1];exact⟨rfl,h1.1⟩
end Go.Proofs.T10
