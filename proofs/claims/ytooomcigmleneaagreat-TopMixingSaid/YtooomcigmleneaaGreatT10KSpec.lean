import Derived.Test.YtooomcigmleneaaGreatT10Drawn
set_option linter.all false
namespace Go.Proofs.T10
open Go Go.Kx
def U6(s:Span)(lo hi:Int):Prop:=(lo≤s.Lo∧s.Lo≤s.Hi)∧s.Hi≤hi
instance(s:Span)(lo hi:Int):Decidable (U6 s lo hi):=by unfold U6;exact inferInstance
def B7t(d:Drum)(i:Nat):Prop:=¬U6 (gt d.Rates i) 1 40
def B7y(d:Drum)(i:Nat):Prop:=¬((0≤(gt d.Stops i).Column∧(gt d.Stops i).Column≤(d.Rates.length:Int)-1)∧U6 (gt d.Stops i).Ticks 0 400)
instance(d:Drum):DecidablePred (B7t d):=fun i=>by unfold B7t;exact inferInstance
instance(d:Drum):DecidablePred (B7y d):=fun i=>by unfold B7y;exact inferInstance
def A0X(d:Drum):Prop:=((1≤d.Rates.length∧d.Rates.length≤199)∧d.Stops.length≤16)∧(∀i,i<d.Rates.length→¬B7t d i)∧∀i,i<d.Stops.length→¬B7y d i
instance(d:Drum):Decidable (A0X d):=by unfold A0X;exact inferInstance
def Y9(d:Drum):Int:=if A0X d then 0 else 20
theorem B4h{d:Drum}(h:A0X d):Y9 d=0:=if_pos h
theorem B8E{d:Drum}(h:¬A0X d):Y9 d=20:=if_neg h
theorem A6k{d:Drum}(h:Y9 d=0):A0X d:=by unfold Y9 at h;split at h;assumption;cases h
def A1x(d:Drum)(m:List Mark)(i:Nat):Prop:=¬((0≤(gt m i).Column∧(gt m i).Column≤(d.Rates.length:Int))∧U6 (gt m i).Ticks 0 400)
instance(d:Drum)(m:List Mark):DecidablePred (A1x d m):=fun i=>by unfold A1x;exact inferInstance
def V2(d:Drum)(m:List Mark):Int×Int:=
 if Y9 d≠0 then(20,0)else if 64<m.length then(2,0)else if first (A1x d m) m.length<m.length then(21,first (A1x d m) m.length)else(0,0)
def A0A(d:Drum)(m:List Mark):Int:=if(V2 d m).1=2 then 21 else(V2 d m).1
theorem A8z{d:Drum}{m:List Mark}(h:Y9 d≠0):V2 d m=(20,0):=by rw[V2,if_pos h]
theorem B0l{d:Drum}{m:List Mark}(h:Y9 d=0)(h1:64<m.length):V2 d m=(2,0):=by rw[V2,if_neg (by omega),if_pos h1]
theorem A7f{d:Drum}{m:List Mark}(h:Y9 d=0)(h1:¬64<m.length)(ha:∀j,j<m.length→¬A1x d m j):V2 d m=(0,0):=by
 have:=A8K ha
 rw[V2,if_neg (by omega),if_neg h1,if_neg (by omega)]
theorem B0b{d:Drum}{m:List Mark}(h:Y9 d=0)(h1:¬64<m.length)(h2:0≤V8 (A1x d m) m.length):V2 d m=(21,V8 (A1x d m) m.length):=by
 have h3:=B7C h2
 rw[V2,if_neg (by omega),if_neg h1,if_pos h3.2,h3.1]
structure Ok(d:Drum)(m:List Mark):Prop where
 dr:A0X d
 n:m.length≤64
 ma:∀j,j<m.length→¬A1x d m j
theorem B7A{d:Drum}{m:List Mark}(h:(V2 d m).1=0):Ok d m:=by
 unfold V2 at h
 split at h
 ·cases h
 ·rename_i h0
  split at h
  ·cases h
  ·rename_i h1
   split at h
   ·cases h
   ·rename_i h2
    refine⟨A6k (by omega),by omega,?_⟩
    rcases A1O (A1x d m) m.length with h3|h3
    ·exact h3.2
    ·exact absurd h3.1 h2
theorem B2l{d:Drum}{m:List Mark}(h:A0A d m=0):Ok d m:=by
 unfold A0A at h;split at h
 ·cases h
 ·exact B7A h
theorem Ok.marks{d:Drum}{m:List Mark}(h:Ok d m):V2 d m=(0,0):=A7f (B4h h.dr) (by have:=h.n;omega) h.ma
theorem Ok.e{d:Drum}{m:List Mark}(h:Ok d m):A0A d m=0:=by unfold A0A;rw[h.marks];rfl
theorem Ok.col{d:Drum}{m:List Mark}(h:Ok d m){j:Nat}(hj:j<m.length):(0≤(gt m j).Column∧(gt m j).Column≤(d.Rates.length:Int))∧U6 (gt m j).Ticks 0 400:=Decidable.of_not_not (h.ma j hj)
theorem C4A{d:Drum}(h:A0X d){i:Nat}(hi:i<d.Rates.length):U6 (gt d.Rates i) 1 40:=Decidable.of_not_not (h.2.1 i hi)
theorem B0x{d:Drum}(h:A0X d){i:Nat}(hi:i<d.Stops.length):(0≤(gt d.Stops i).Column∧(gt d.Stops i).Column≤(d.Rates.length:Int)-1)∧U6 (gt d.Stops i).Ticks 0 400:=Decidable.of_not_not (h.2.2 i hi)
def F0(d:Drum)(c:Nat):Nat→Span
 |0=>gt d.Rates c
 |n+1=>if(gt d.Stops n).Column=(c:Int)then⟨(F0 d c n).Lo+(gt d.Stops n).Ticks.Lo,(F0 d c n).Hi+(gt d.Stops n).Ticks.Hi⟩else F0 d c n
def A2B(d:Drum)(c:Nat):Span:=F0 d c d.Stops.length
def A0s(d:Drum):List Span:=(List.range d.Rates.length).map (A2B d)
theorem B0Z{d:Drum}(h:A0X d){c:Nat}(hc:c<d.Rates.length):∀n:Nat,n≤d.Stops.length→(1≤(F0 d c n).Lo∧(F0 d c n).Lo≤(F0 d c n).Hi)∧(F0 d c n).Hi≤40+400*(n:Int)
 |0,_=>by have:=C4A h hc;unfold U6 at this;simp only[F0];omega
 |n+1,hn=>by
  have h1:=B0Z h hc n (by omega);have h2:=(B0x h (i:=n) (by omega)).2;unfold U6 at h2
  rw[F0];split
  ·(try dsimp only);omega
  ·omega
theorem B5Q{d:Drum}(h:A0X d){c:Nat}(hc:c<d.Rates.length):(1≤(A2B d c).Lo∧(A2B d c).Lo≤(A2B d c).Hi)∧(A2B d c).Hi≤6440:=by
 have h1:=B0Z h hc d.Stops.length (Nat.le_refl _);have h2:=h.1.2;unfold A2B;omega
theorem A0e(d:Drum):(A0s d).length=d.Rates.length:=A4q _ _
theorem A3c{d:Drum}{i:Nat}(h:i<d.Rates.length):gt (A0s d) i=A2B d i:=S6 h
theorem C1t{d:Drum}(h:A0X d){n:Nat}(hn:n<d.Stops.length):
 ((List.range d.Rates.length).map (fun c=>F0 d c n)).set (gt d.Stops n).Column.toNat ⟨(F0 d (gt d.Stops n).Column.toNat n).Lo+(gt d.Stops n).Ticks.Lo,(F0 d (gt d.Stops n).Column.toNat n).Hi+(gt d.Stops n).Ticks.Hi⟩
  =(List.range d.Rates.length).map (fun c=>F0 d c (n+1)):=by
 have h1:=(B0x h hn).1
 refine A5G (by simp) fun i hi=>?_
 rw[V3 _ _ (by simpa using hi),S6 hi,F0]
 by_cases hc:(gt d.Stops n).Column=(i:Int)
 ·rw[if_pos (by omega),if_pos hc,show(gt d.Stops n).Column.toNat=i by omega]
 ·rw[if_neg (by omega),if_neg hc]
def X9(m:List Mark):Nat→Nat→Span
 |0,_=>⟨0,400⟩
 |n+1,c=>if(gt m n).Column=(c:Int)then A2R (X9 m n c) (gt m n).Ticks else X9 m n c
def atS(m:List Mark)(c:Nat):Span:=X9 m m.length c
def atL(d:Drum)(m:List Mark):List Span:=(List.range (d.Rates.length+1)).map (atS m)
theorem A7R(d:Drum)(m:List Mark):(atL d m).length=d.Rates.length+1:=A4q _ _
theorem A9U{d:Drum}{m:List Mark}{i:Nat}(h:i≤d.Rates.length):gt (atL d m) i=atS m i:=S6 (by omega)
theorem B9D{d:Drum}{m:List Mark}(h:∀j,j<m.length→¬A1x d m j)(c:Nat):∀n,n≤m.length→(0≤(X9 m n c).Lo∧(X9 m n c).Lo≤400)∧0≤(X9 m n c).Hi∧(X9 m n c).Hi≤400
 |0,_=>by simp only[X9];omega
 |n+1,hn=>by
  have h1:=B9D h c n (by omega)
  have h2:U6 (gt m n).Ticks 0 400:=(Decidable.of_not_not (h n (by omega))).2
  unfold U6 at h2
  rw[X9];split
  ·rw[C4f,C3R];omega
  ·exact h1
theorem B9K{d:Drum}{m:List Mark}(h:Ok d m)(c:Nat):(0≤(atS m c).Lo∧(atS m c).Lo≤400)∧0≤(atS m c).Hi∧(atS m c).Hi≤400:=B9D h.ma c _ (Nat.le_refl _)
theorem C2U{d:Drum}{m:List Mark}(h:∀j,j<m.length→¬A1x d m j){n:Nat}(hn:n<m.length):
 ((List.range (d.Rates.length+1)).map (fun c=>X9 m n c)).set (gt m n).Column.toNat (A2R (X9 m n (gt m n).Column.toNat) (gt m n).Ticks)=(List.range (d.Rates.length+1)).map (fun c=>X9 m (n+1) c):=by
 have h1:(0≤(gt m n).Column∧(gt m n).Column≤(d.Rates.length:Int))∧U6 (gt m n).Ticks 0 400:=Decidable.of_not_not (h n hn)
 refine A5G (by simp) fun i hi=>?_
 rw[V3 _ _ (by simpa using hi),S6 hi,X9]
 by_cases hc:(gt m n).Column=(i:Int)
 ·rw[if_pos (by omega),if_pos hc,show(gt m n).Column.toNat=i by omega]
 ·rw[if_neg (by omega),if_neg hc]
def okD(d:Drum)(m:List Mark):Prop:=okP (A2B d) (atS m) d.Rates.length
instance(d:Drum)(m:List Mark):Decidable (okD d m):=by unfold okD;exact inferInstance
def stD(d:Drum)(m:List Mark)(i:Nat):Span:=st (A2B d) (atS m) d.Rates.length i
def A5S(d:Drum)(m:List Mark)(l:List Int):Prop:=l.length=d.Rates.length+1∧(∀i,i<d.Rates.length+1→(atS m i).Lo≤gt l i∧gt l i≤(atS m i).Hi)∧∀i,i<d.Rates.length→(A2B d i).Lo≤gt l (i+1)-gt l i∧gt l (i+1)-gt l i≤(A2B d i).Hi
instance(d:Drum)(m:List Mark)(l:List Int):Decidable (A5S d m l):=by unfold A5S;exact inferInstance
def keepE(d:Drum)(m:List Mark)(l:List Int):Int:=if A0A d m≠0 then A0A d m else if A5S d m l then 0 else 22
def C1Q(d:Drum)(c:List Int)(i:Nat):Prop:=¬(0≤gt c i∧gt c i≤(d.Rates.length:Int))
instance(d:Drum)(c:List Int):DecidablePred (C1Q d c):=fun i=>by unfold C1Q;exact inferInstance
def B6s(c:List Int)(i:Nat):Prop:=¬(0≤gt c i∧gt c i≤400)
instance(c:List Int):DecidablePred (B6s c):=fun i=>by unfold B6s;exact inferInstance
def A9h(d:Drum)(cs ts:List Int):Prop:=(∀i,i<cs.length→¬C1Q d cs i)∧∀i,i<ts.length→¬B6s ts i
instance(d:Drum)(cs ts:List Int):Decidable (A9h d cs ts):=by unfold A9h;exact inferInstance
def N2(d:Drum)(m:List Mark)(cs ts:List Int):Int:=if A0A d m≠0 then A0A d m else if¬A9h d cs ts then 1 else if okD d m then 0 else 22
def A5o(d:Drum)(m:List Mark):List Span:=(List.range (d.Rates.length+1)).map (stD d m)
def B0u(d:Drum)(m:List Mark)(cs ts:List Int):Clk:=if N2 d m cs ts=0 then⟨A0s d,A5o d m⟩else⟨[],[]⟩
theorem B6E{d:Drum}{m:List Mark}{cs ts:List Int}(h:N2 d m cs ts=0):Ok d m∧A9h d cs ts∧okD d m:=by
 unfold N2 at h;split at h
 ·omega
 ·rename_i h0
  split at h
  ·cases h
  ·rename_i h1
   split at h
   ·rename_i h2;exact⟨B2l (by omega),Decidable.of_not_not h1,h2⟩
   ·cases h
theorem B8x{d:Drum}{m:List Mark}{cs ts:List Int}(h:A0A d m≠0):N2 d m cs ts=A0A d m:=by rw[N2,if_pos h]
theorem B1u{d:Drum}{m:List Mark}{cs ts:List Int}(h:A0A d m=0)(h1:¬A9h d cs ts):N2 d m cs ts=1:=by rw[N2,if_neg (by omega),if_pos h1]
theorem B6P{d:Drum}{m:List Mark}{cs ts:List Int}(h:A0A d m=0)(h1:A9h d cs ts)(h2:¬okD d m):N2 d m cs ts=22:=by rw[N2,if_neg (by omega),if_neg (by simpa using h1),if_neg h2]
theorem C2b{d:Drum}{m:List Mark}{cs ts:List Int}(h:A0A d m=0)(h1:A9h d cs ts)(h2:okD d m):N2 d m cs ts=0:=by rw[N2,if_neg (by omega),if_neg (by simpa using h1),if_pos h2]
structure CkW(c:Clk):Prop where
 l:c.at_.length=c.gaps.length+1
 n:c.gaps.length≤199
 g:∀i,i<c.gaps.length→(1≤(gt c.gaps i).Lo∧(gt c.gaps i).Lo≤(gt c.gaps i).Hi)∧(gt c.gaps i).Hi≤6440
 a:∀i,i<c.at_.length→(0≤(gt c.at_ i).Lo∧(gt c.at_ i).Lo≤400)∧0≤(gt c.at_ i).Hi∧(gt c.at_ i).Hi≤400
def V9(c:Clk):List Span:=(List.range (c.gaps.length+1)).map (st (gt c.gaps) (gt c.at_) c.gaps.length)
def okC(c:Clk):Prop:=okP (gt c.gaps) (gt c.at_) c.gaps.length
instance(c:Clk):Decidable (okC c):=by unfold okC;exact inferInstance
theorem B8r{d:Drum}{m:List Mark}(h:Ok d m):CkW ⟨A0s d,atL d m⟩:=by
 refine⟨by rw[A0e,A7R],by rw[A0e];exact h.dr.1.1.2,fun i hi=>?_,fun i hi=>?_⟩
 ·rw[A0e]at hi;rw[A3c hi];exact B5Q h.dr hi
 ·rw[A7R]at hi;rw[A9U (by omega)];exact B9K h i
theorem A8H(d:Drum)(m:List Mark){i:Nat}(hi:i≤d.Rates.length):st (gt (A0s d)) (gt (atL d m)) d.Rates.length i=stD d m i:=
 B3e (fun _ h=>A3c h) (fun _ h=>A9U h) hi
theorem B7E(d:Drum)(m:List Mark):V9 ⟨A0s d,atL d m⟩=A5o d m:=by
 unfold V9;(try dsimp only);rw[A0e];exact A3E fun i hi=>A8H d m (by omega)
theorem B2e(d:Drum)(m:List Mark):okC ⟨A0s d,atL d m⟩↔okD d m:=by
 unfold okC okD okP;(try dsimp only);rw[A0e]
 exact⟨fun h i hi=>by have:=h i hi;rw[A8H d m (by omega)]at this;exact this,fun h i hi=>by rw[A8H d m (by omega)];exact h i hi⟩
theorem A4K(c:Clk):(V9 c).length=c.gaps.length+1:=A4q _ _
theorem A7W{c:Clk}{i:Nat}(h:i≤c.gaps.length):gt (V9 c) i=st (gt c.gaps) (gt c.at_) c.gaps.length i:=S6 (by omega)
theorem A9d(d:Drum)(m:List Mark):(A5o d m).length=d.Rates.length+1:=A4q _ _
theorem C4n{d:Drum}{m:List Mark}{i:Nat}(h:i≤d.Rates.length):gt (A5o d m) i=stD d m i:=S6 (by omega)
def C8p(B:Nat→Span)(f i:Nat):Span:=⟨0,if i=f then min ((B i).Hi-(B f).Lo) 0 else(B i).Hi-(B f).Lo⟩
def mos(g B:Nat→Span)(n f i:Nat):Int:=(st g (C8p B f) n i).Hi
end Go.Proofs.T10
namespace Go.Proofs.T10
open Go Go.Kx
theorem Rd.min{g a:Nat→Span}{n:Nat}{x y:Nat→Int}(hx:Rd g a n x)(hy:Rd g a n y):Rd g a n (fun i=>Min.min (x i) (y i)):=
 ⟨fun i hi=>by have h1:=hx.1 i hi;have h2:=hy.1 i hi;(try dsimp only);omega,fun i hi=>by have h1:=hx.2 i hi;have h2:=hy.2 i hi;(try dsimp only);omega⟩
theorem Rd.max{g a:Nat→Span}{n:Nat}{x y:Nat→Int}(hx:Rd g a n x)(hy:Rd g a n y):Rd g a n (fun i=>Max.max (x i) (y i)):=
 ⟨fun i hi=>by have h1:=hx.1 i hi;have h2:=hy.1 i hi;(try dsimp only);omega,fun i hi=>by have h1:=hx.2 i hi;have h2:=hy.2 i hi;(try dsimp only);omega⟩
theorem B9X{p D lo hi:Int}(hD:0<D)(h1:D*lo≤p)(h2:p≤D*hi):lo≤p/D∧p/D≤hi:=by
 have e1:D*lo/D=lo:=Int.mul_ediv_cancel_left lo (by omega)
 have e2:D*hi/D=hi:=Int.mul_ediv_cancel_left hi (by omega)
 exact⟨by rw[←e1];exact Int.ediv_le_ediv hD h1,by rw[←e2];exact Int.ediv_le_ediv hD h2⟩
theorem B6U{p q D c:Int}(hD:0<D)(h:p≤q+D*c):p/D≤q/D+c:=by
 have:=Int.ediv_le_ediv hD h
 rwa [Int.add_mul_ediv_left _ _ (by omega)]at this
theorem B4I{p q D c:Int}(hD:0<D)(h:q+D*c≤p):q/D+c≤p/D:=by
 have:=Int.ediv_le_ediv hD h
 rwa [Int.add_mul_ediv_left _ _ (by omega)]at this
theorem A3v{s a b:Int}(hs:0≤s)(h:a≤b):s*a≤s*b:=Int.mul_le_mul_of_nonneg_left h hs
theorem C8P{g a:Nat→Span}{n:Nat}{x y:Nat→Int}(hx:Rd g a n x)(hy:Rd g a n y){s t:Int}(hs:0≤s)(ht:0≤t)(hD:0<s+t):Rd g a n (fun i=>(s*x i+t*y i)/(s+t)):=by
 refine⟨fun i hi=>?_,fun i hi=>?_⟩
 ·have h1:=hx.1 i hi;have h2:=hy.1 i hi
  refine B9X hD ?_ ?_
  ·rw[Int.add_mul];have:=A3v hs h1.1;have:=A3v ht h2.1;omega
  ·rw[Int.add_mul];have:=A3v hs h1.2;have:=A3v ht h2.2;omega
 ·have h1:=hx.2 i hi;have h2:=hy.2 i hi
  have a1:=A3v hs h1.1;have a2:=A3v ht h2.1;have a3:=A3v hs h1.2;have a4:=A3v ht h2.2
  rw[Int.mul_sub]at a1 a2 a3 a4
  have b1:=B4I (p:=s*x (i+1)+t*y (i+1)) (q:=s*x i+t*y i) (c:=(g i).Lo) hD (by rw[Int.add_mul];omega)
  have b2:=B6U (p:=s*x (i+1)+t*y (i+1)) (q:=s*x i+t*y i) (c:=(g i).Hi) hD (by rw[Int.add_mul];omega)
  (try dsimp only)
  omega
end Go.Proofs.T10
namespace Go.Proofs.T10
open Go Go.Kx
def B6v(l:List Span):List Int:=(List.range l.length).map fun i=>(gt l i).Lo
def C8H(l:List Span):List Int:=(List.range l.length).map fun i=>(gt l i).Hi
def A5m(d:Drum)(m:List Mark):List Int×Int:=if N2 d m [] []≠0 then([],N2 d m [] [])else(B6v (A5o d m),0)
def A5Q(d:Drum)(m:List Mark):Clk:=⟨A0s d,A5o d m⟩
def C5q(l:List Int)(t:Int):Nat→Nat
 |0=>0
 |n+1=>if gt l n≤t then n+1 else C5q l t n
def C6c(l:List Int)(t:Int):Int:=(C5q l t l.length:Int)-1
def atR(d:Drum)(m:List Mark)(t:Int):Span×Int:=
 if N2 d m [] [t]≠0 then(⟨0,0⟩,N2 d m [] [t])else(⟨C6c (C8H (A5o d m)) t,C6c (B6v (A5o d m)) t⟩,0)
def A2X(d:Drum)(c:Int):Span×Int:=if Y9 d≠0 then(⟨0,0⟩,Y9 d)else if 0≤c∧c≤(d.Rates.length:Int)-1 then(A2B d c.toNat,0)else(⟨0,0⟩,1)
def C2O(d:Drum)(m:List Mark)(i k:Nat):Prop:=okD d [gt m i]∧okD d [gt m k]∧¬okD d [gt m i,gt m k]
instance(d:Drum)(m:List Mark)(i k:Nat):Decidable (C2O d m i k):=by unfold C2O;exact inferInstance
end Go.Proofs.T10
namespace Go.Proofs.T10
open Go Go.Kx
theorem Rd.congr{g a:Nat→Span}{n:Nat}{x y:Nat→Int}(h:Rd g a n x)(he:∀i,i≤n→y i=x i):Rd g a n y:=
 ⟨fun i hi=>by rw[he i hi];exact h.1 i hi,fun i hi=>by rw[he i (by omega),he (i+1) (by omega)];exact h.2 i hi⟩
theorem C6a{d:Drum}{m:List Mark}(h:Ok d m)(ho:okD d m){i:Nat}(hi:i≤d.Rates.length):(0≤(stD d m i).Lo∧(stD d m i).Lo≤(stD d m i).Hi)∧(stD d m i).Hi≤400:=by
 have h1:=ho i (by omega);have h2:=C2M (A2B d) (atS m) hi;have h3:=B9K h i;unfold stD;omega
theorem C6l{d:Drum}{m:List Mark}(h:Ok d m)(ho:okD d m):CkW (A5Q d m):=by
 refine⟨by show(A5o d m).length=(A0s d).length+1;rw[A0e,A9d],by show(A0s d).length≤199;rw[A0e];exact h.dr.1.1.2,fun i hi=>?_,fun i hi=>?_⟩
 ·have hi':i<(A0s d).length:=hi
  rw[A0e]at hi'
  show(1≤(gt (A0s d) i).Lo∧_)∧_
  have:gt (A5Q d m).gaps i=A2B d i:=A3c hi'
  rw[this];rw[A3c hi'];exact B5Q h.dr hi'
 ·have hi':i<(A5o d m).length:=hi
  rw[A9d]at hi'
  have:gt (A5Q d m).at_ i=stD d m i:=C4n (by omega)
  rw[this];have:=C6a h ho (i:=i) (by omega);omega
end Go.Proofs.T10
namespace Go.Proofs.T10
open Go Go.Kx
def X8(G L:List Span)(i:Nat):List Span:=(List.range (G.length+1)).map fun j=>if j≤i then fw (gt G) (gt L) j else gt L j
def X5(G L:List Span)(i:Nat):List Span:=(List.range (G.length+1)).map fun j=>if G.length-i≤j then st (gt G) (gt L) G.length j else fw (gt G) (gt L) j
theorem B1a(G L:List Span)(i:Nat):(X8 G L i).length=G.length+1:=A4q _ _
theorem B1d(G L:List Span)(i:Nat):(X5 G L i).length=G.length+1:=A4q _ _
theorem A9N{G L:List Span}{i j:Nat}(h:j≤G.length):gt (X8 G L i) j=if j≤i then fw (gt G) (gt L) j else gt L j:=S6 (by omega)
theorem B0n{G L:List Span}{i j:Nat}(h:j≤G.length):gt (X5 G L i) j=if G.length-i≤j then st (gt G) (gt L) G.length j else fw (gt G) (gt L) j:=S6 (by omega)
theorem C0G{G L:List Span}(h:L.length=G.length+1):X8 G L 0=L:=by
 refine(A5G h fun j _=>?_).symm
 split
 ·rename_i hj;obtain rfl:j=0:=by omega
  rfl
 ·rfl
theorem C1k(G L:List Span):X8 G L G.length=X5 G L 0:=by
 refine A3E fun j hj=>?_
 rw[if_pos (by omega)]
 split
 ·obtain rfl:j=G.length:=by omega
  rw[A2q]
 ·rfl
theorem C0n(c:Clk)(L:List Span):X5 c.gaps L c.gaps.length=V9 ⟨c.gaps,L⟩:=A3E fun j hj=>by rw[if_pos (by omega)]
theorem C1I{G L:List Span}{i:Nat}(h:i<G.length):
 (X8 G L i).set (i+1) (A2R (gt (X8 G L i) (i+1)) ⟨(gt (X8 G L i) i).Lo+(gt G i).Lo,(gt (X8 G L i) i).Hi+(gt G i).Hi⟩)=X8 G L (i+1):=by
 refine A5G (by simp[B1a]) fun j hj=>?_
 have e1:gt (X8 G L i) (i+1)=gt L (i+1):=by rw[A9N (by omega),if_neg (by omega)]
 have e2:gt (X8 G L i) i=fw (gt G) (gt L) i:=by rw[A9N (by omega),if_pos (Nat.le_refl _)]
 rw[V3 _ _ (by rw[B1a];omega),e1,e2]
 by_cases hc:i+1=j
 ·subst hc;rw[if_pos rfl,if_pos (Nat.le_refl _)];rfl
 ·rw[if_neg hc,A9N (by omega)]
  by_cases h2:j≤i
  ·rw[if_pos h2,if_pos (by omega)]
  ·rw[if_neg h2,if_neg (by omega)]
theorem C0o{G L:List Span}{i q:Nat}(h:i<G.length)(hq:q=G.length-1-i):
 (X5 G L i).set q (A2R (gt (X5 G L i) q) ⟨(gt (X5 G L i) (q+1)).Lo-(gt G q).Hi,(gt (X5 G L i) (q+1)).Hi-(gt G q).Lo⟩)=X5 G L (i+1):=by
 refine A5G (by simp[B1d]) fun j hj=>?_
 have e1:gt (X5 G L i) q=fw (gt G) (gt L) q:=by rw[B0n (by omega),if_neg (by omega)]
 have e2:gt (X5 G L i) (q+1)=st (gt G) (gt L) G.length (q+1):=by rw[B0n (by omega),if_pos (by omega)]
 rw[V3 _ _ (by rw[B1d];omega),e1,e2]
 by_cases hc:q=j
 ·subst hc
  rw[if_pos rfl,if_pos (by omega)]
  refine A7O ?_ ?_
  ·rw[A5d (gt G) (gt L) (i:=q) (by omega)];rfl
  ·rw[A4U (gt G) (gt L) (i:=q) (by omega)];rfl
 ·rw[if_neg hc,B0n (by omega)]
  by_cases h2:G.length-i≤j
  ·rw[if_pos h2,if_pos (by omega)]
  ·rw[if_neg h2,if_neg (by omega)]
def A7z(c:Clk)(L:List Span):Prop:=L=c.at_∨(L=V9 c∧okC c)
theorem C0t{c:Clk}(h:CkW c){L:List Span}(hi:A7z c L):L.length=c.gaps.length+1:=by
 rcases hi with rfl|⟨rfl,_⟩
 ·exact h.l
 ·exact A4K c
theorem CkW.gap{c:Clk}(h:CkW c):B2m (gt c.gaps) c.gaps.length:=fun i hi=>(h.g i hi).1.2
theorem C1l{c:Clk}(h:CkW c){L:List Span}(hi:A7z c L):V9 ⟨c.gaps,L⟩=V9 c:=by
 rcases hi with rfl|⟨rfl,_⟩
 ·rfl
 ·unfold V9
  refine A3E fun j hj=>?_
  have hj':j<c.gaps.length+1:=hj
  dsimp only
  rw[←C7q h.gap (gt c.at_) (i:=j) (by omega)]
  exact B3e (fun _ _=>rfl) (fun q hq=>A7W hq) (by omega)
theorem C3t{c:Clk}(h:CkW c)(ho:okC c){i:Nat}(hi:i≤c.gaps.length):(0≤(gt (V9 c) i).Lo∧(gt (V9 c) i).Lo≤(gt (V9 c) i).Hi)∧(gt (V9 c) i).Hi≤400:=by
 have h1:=ho i (by omega)
 have h2:=C2M (gt c.gaps) (gt c.at_) hi
 have h3:=h.a i (by rw[h.l];omega)
 rw[A7W hi];omega
theorem B0N{c:Clk}(h:CkW c){L:List Span}(hi:A7z c L){i:Nat}(hl:i≤c.gaps.length):(-400≤(gt L i).Lo∧(gt L i).Lo≤400)∧-400≤(gt L i).Hi∧(gt L i).Hi≤400:=by
 rcases hi with rfl|⟨rfl,ho⟩
 ·have:=h.a i (by rw[h.l];omega);omega
 ·have:=C3t h ho hl;omega
theorem C6k{c:Clk}(h:CkW c):∀i,i<c.gaps.length→(0≤(gt c.gaps i).Lo∧(gt c.gaps i).Lo≤10000)∧0≤(gt c.gaps i).Hi∧(gt c.gaps i).Hi≤10000:=fun i hi=>by have:=h.g i hi;omega
theorem B0j{c:Clk}(h:CkW c){L:List Span}(hi:A7z c L){k:Nat}(hk:k≤c.gaps.length):(-400≤(fw (gt c.gaps) (gt L) k).Lo∧(fw (gt c.gaps) (gt L) k).Lo≤3000000)∧-400≤(fw (gt c.gaps) (gt L) k).Hi∧(fw (gt c.gaps) (gt L) k).Hi≤400:=by
 have hn:=h.n
 have key:∀k:Nat,k≤c.gaps.length→(-400≤(fw (gt c.gaps) (gt L) k).Lo∧(fw (gt c.gaps) (gt L) k).Lo≤400+10000*(k:Int))∧-400≤(fw (gt c.gaps) (gt L) k).Hi∧(fw (gt c.gaps) (gt L) k).Hi≤400:=by
  intro k
  induction k with
  |zero=>intro _;have:=B0N h hi (i:=0) (Nat.zero_le _);simp only[fw];omega
  |succ k ih=>intro hk;have h1:=ih (by omega);have h2:=B0N h hi hk;have h3:=C6k h k (by omega);rw[A9r,B0t];omega
 have:=key k hk;omega
theorem C4P{c:Clk}(h:CkW c){L:List Span}(hi:A7z c L){k:Nat}(hk:k≤c.gaps.length):(-400≤(st (gt c.gaps) (gt L) c.gaps.length k).Lo∧(st (gt c.gaps) (gt L) c.gaps.length k).Lo≤3000000)∧-3000000≤(st (gt c.gaps) (gt L) c.gaps.length k).Hi∧(st (gt c.gaps) (gt L) c.gaps.length k).Hi≤400:=by
 have hn:=h.n
 have key:∀j k:Nat,k+j=c.gaps.length→(-400≤(st (gt c.gaps) (gt L) c.gaps.length k).Lo∧(st (gt c.gaps) (gt L) c.gaps.length k).Lo≤3000000)∧-400-10000*(j:Int)≤(st (gt c.gaps) (gt L) c.gaps.length k).Hi∧(st (gt c.gaps) (gt L) c.gaps.length k).Hi≤400:=by
  intro j
  induction j with
  |zero=>
   intro k hk;obtain rfl:k=c.gaps.length:=by omega
   rw[A2q];have:=B0j h hi (Nat.le_refl c.gaps.length);omega
  |succ j ih=>intro k hk;have h1:=ih (k+1) (by omega);have h2:=B0j h hi (k:=k) (by omega);have h3:=C6k h k (by omega);rw[A5d (gt c.gaps) (gt L) (by omega),A4U (gt c.gaps) (gt L) (by omega)];omega
 have:=key (c.gaps.length-k) k (by omega);omega
theorem C5w{c:Clk}(h:CkW c){L:List Span}(hi:A7z c L){i j:Nat}(hj:j≤c.gaps.length):(-400≤(gt (X8 c.gaps L i) j).Lo∧(gt (X8 c.gaps L i) j).Lo≤3000000)∧-400≤(gt (X8 c.gaps L i) j).Hi∧(gt (X8 c.gaps L i) j).Hi≤400:=by
 rw[A9N hj];split
 ·exact B0j h hi hj
 ·have:=B0N h hi hj;omega
theorem C5r{c:Clk}(h:CkW c){L:List Span}(hi:A7z c L){i j:Nat}(hj:j≤c.gaps.length):(-400≤(gt (X5 c.gaps L i) j).Lo∧(gt (X5 c.gaps L i) j).Lo≤3000000)∧-3000000≤(gt (X5 c.gaps L i) j).Hi∧(gt (X5 c.gaps L i) j).Hi≤400:=by
 rw[B0n hj];split
 ·exact C4P h hi hj
 ·have:=B0j h hi hj;omega
theorem A7D{c:Clk}:okC c↔∀i,i<(V9 c).length→¬(gt (V9 c) i).Hi<(gt (V9 c) i).Lo:=by
 unfold okC okP
 rw[A4K]
 exact⟨fun h i hi=>by have:=h i hi;rw[A7W (by omega)];omega,fun h i hi=>by have:=h i hi;rw[A7W (by omega)]at this;omega⟩
def X7(x z:Span)(n k:Nat):List Span:=List.replicate k x++List.replicate (n-k) z
theorem B3D{x z:Span}{n k:Nat}(h:k≤n):(X7 x z n k).length=n:=by simp[X7];omega
theorem B7W(x z:Span){n:Nat}(h:0<n):[x]++(List.replicate n z).drop [x].length=X7 x z n 1:=by simp[X7]
theorem C0R{x z:Span}{n k:Nat}:(X7 x z n k).take k++(X7 x z n k).take (min k (n-k))++(X7 x z n k).drop (k+min k (n-k))=X7 x z n (k+min k (n-k)):=by
 have h1:(X7 x z n k).take k=List.replicate k x:=by unfold X7;rw[List.take_left' (by simp)]
 have h2:(X7 x z n k).take (min k (n-k))=List.replicate (min k (n-k)) x:=by
  unfold X7;rw[List.take_append_of_le_length (by simp;omega),List.take_replicate];congr 1;omega
 have h3:(X7 x z n k).drop (k+min k (n-k))=List.replicate (n-(k+min k (n-k))) z:=by
  unfold X7;rw[List.drop_append,List.drop_of_length_le (by simp)];simp;omega
 rw[h1,h2,h3,List.replicate_append_replicate]
 rfl
theorem C2R(x z:Span)(n:Nat):X7 x z n n=List.replicate n x:=by simp[X7]
end Go.Proofs.T10
