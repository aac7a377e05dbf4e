import Derived.Test.YtooomcigmleneaaGreatT10Drawn
set_option linter.all false
namespace Go.Proofs.T10
open Go Go.Kx
def U1(s:Span)(lo hi:Int):Prop:=(lo≤s.Lo∧s.Lo≤s.Hi)∧s.Hi≤hi
instance(s:Span)(lo hi:Int):Decidable (U1 s lo hi):=by unfold U1;exact inferInstance
def B7h(d:Drum)(i:Nat):Prop:=¬U1 (gt d.Rates i) 1 40
def B6y(d:Drum)(i:Nat):Prop:=¬((0≤(gt d.Stops i).Column∧(gt d.Stops i).Column≤(d.Rates.length:Int)-1)∧U1 (gt d.Stops i).Ticks 0 400)
instance(d:Drum):DecidablePred (B7h d):=fun i=>by unfold B7h;exact inferInstance
instance(d:Drum):DecidablePred (B6y d):=fun i=>by unfold B6y;exact inferInstance
def A0K(d:Drum):Prop:=((1≤d.Rates.length∧d.Rates.length≤199)∧d.Stops.length≤16)∧(∀i,i<d.Rates.length→¬B7h d i)∧∀i,i<d.Stops.length→¬B6y d i
instance(d:Drum):Decidable (A0K d):=by unfold A0K;exact inferInstance
def Y7(d:Drum):Int:=if A0K d then 0 else 20
theorem B3N{d:Drum}(h:A0K d):Y7 d=0:=if_pos h
theorem B9d{d:Drum}(h:¬A0K d):Y7 d=20:=if_neg h
theorem A6C{d:Drum}(h:Y7 d=0):A0K d:=by unfold Y7 at h;split at h;assumption;cases h
def A1e(d:Drum)(m:List Mark)(i:Nat):Prop:=¬((0≤(gt m i).Column∧(gt m i).Column≤(d.Rates.length:Int))∧U1 (gt m i).Ticks 0 400)
instance(d:Drum)(m:List Mark):DecidablePred (A1e d m):=fun i=>by unfold A1e;exact inferInstance
def U8(d:Drum)(m:List Mark):Int×Int:=
 if Y7 d≠0 then(20,0)else if 64<m.length then(2,0)else if first (A1e d m) m.length<m.length then(21,first (A1e d m) m.length)else(0,0)
def A0w(d:Drum)(m:List Mark):Int:=if(U8 d m).1=2 then 21 else(U8 d m).1
theorem A8n{d:Drum}{m:List Mark}(h:Y7 d≠0):U8 d m=(20,0):=by rw[U8,if_pos h]
theorem A9Z{d:Drum}{m:List Mark}(h:Y7 d=0)(h1:64<m.length):U8 d m=(2,0):=by rw[U8,if_neg (by omega),if_pos h1]
theorem A7t{d:Drum}{m:List Mark}(h:Y7 d=0)(h1:¬64<m.length)(ha:∀j,j<m.length→¬A1e d m j):U8 d m=(0,0):=by
 have:=A8A ha
 rw[U8,if_neg (by omega),if_neg h1,if_neg (by omega)]
theorem A9h{d:Drum}{m:List Mark}(h:Y7 d=0)(h1:¬64<m.length)(h2:0≤V3 (A1e d m) m.length):U8 d m=(21,V3 (A1e d m) m.length):=by
 have h3:=B7n h2
 rw[U8,if_neg (by omega),if_neg h1,if_pos h3.2,h3.1]
structure Ok(d:Drum)(m:List Mark):Prop where
 dr:A0K d
 n:m.length≤64
 ma:∀j,j<m.length→¬A1e d m j
theorem B5X{d:Drum}{m:List Mark}(h:(U8 d m).1=0):Ok d m:=by
 unfold U8 at h
 split at h
 ·cases h
 ·rename_i h0
  split at h
  ·cases h
  ·rename_i h1
   split at h
   ·cases h
   ·rename_i h2
    refine⟨A6C (by omega),by omega,?_⟩
    rcases A1x (A1e d m) m.length with h3|h3
    ·exact h3.2
    ·exact absurd h3.1 h2
theorem B2b{d:Drum}{m:List Mark}(h:A0w d m=0):Ok d m:=by
 unfold A0w at h;split at h
 ·cases h
 ·exact B5X h
theorem Ok.marks{d:Drum}{m:List Mark}(h:Ok d m):U8 d m=(0,0):=A7t (B3N h.dr) (by have:=h.n;omega) h.ma
theorem Ok.e{d:Drum}{m:List Mark}(h:Ok d m):A0w d m=0:=by unfold A0w;rw[h.marks];rfl
theorem Ok.col{d:Drum}{m:List Mark}(h:Ok d m){j:Nat}(hj:j<m.length):(0≤(gt m j).Column∧(gt m j).Column≤(d.Rates.length:Int))∧U1 (gt m j).Ticks 0 400:=Decidable.of_not_not (h.ma j hj)
theorem C3t{d:Drum}(h:A0K d){i:Nat}(hi:i<d.Rates.length):U1 (gt d.Rates i) 1 40:=Decidable.of_not_not (h.2.1 i hi)
theorem B0m{d:Drum}(h:A0K d){i:Nat}(hi:i<d.Stops.length):(0≤(gt d.Stops i).Column∧(gt d.Stops i).Column≤(d.Rates.length:Int)-1)∧U1 (gt d.Stops i).Ticks 0 400:=Decidable.of_not_not (h.2.2 i hi)
def E8(d:Drum)(c:Nat):Nat→Span
 |0=>gt d.Rates c
 |n+1=>if(gt d.Stops n).Column=(c:Int)then⟨(E8 d c n).Lo+(gt d.Stops n).Ticks.Lo,(E8 d c n).Hi+(gt d.Stops n).Ticks.Hi⟩else E8 d c n
def A2p(d:Drum)(c:Nat):Span:=E8 d c d.Stops.length
def A0h(d:Drum):List Span:=(List.range d.Rates.length).map (A2p d)
theorem B0y{d:Drum}(h:A0K d){c:Nat}(hc:c<d.Rates.length):∀n:Nat,n≤d.Stops.length→(1≤(E8 d c n).Lo∧(E8 d c n).Lo≤(E8 d c n).Hi)∧(E8 d c n).Hi≤40+400*(n:Int)
 |0,_=>by have:=C3t h hc;unfold U1 at this;simp only[E8];omega
 |n+1,hn=>by
  have h1:=B0y h hc n (by omega);have h2:=(B0m h (i:=n) (by omega)).2;unfold U1 at h2
  rw[E8];split
  ·(try dsimp only);omega
  ·omega
theorem B5z{d:Drum}(h:A0K d){c:Nat}(hc:c<d.Rates.length):(1≤(A2p d c).Lo∧(A2p d c).Lo≤(A2p d c).Hi)∧(A2p d c).Hi≤6440:=by
 have h1:=B0y h hc d.Stops.length (Nat.le_refl _);have h2:=h.1.2;unfold A2p;omega
theorem Z6(d:Drum):(A0h d).length=d.Rates.length:=A4j _ _
theorem A2E{d:Drum}{i:Nat}(h:i<d.Rates.length):gt (A0h d) i=A2p d i:=S3 h
theorem C0k{d:Drum}(h:A0K d){n:Nat}(hn:n<d.Stops.length):
 ((List.range d.Rates.length).map (fun c=>E8 d c n)).set (gt d.Stops n).Column.toNat ⟨(E8 d (gt d.Stops n).Column.toNat n).Lo+(gt d.Stops n).Ticks.Lo,(E8 d (gt d.Stops n).Column.toNat n).Hi+(gt d.Stops n).Ticks.Hi⟩
  =(List.range d.Rates.length).map (fun c=>E8 d c (n+1)):=by
 have h1:=(B0m h hn).1
 refine A5y (by simp) fun i hi=>?_
 rw[U9 _ _ (by simpa using hi),S3 hi,E8]
 by_cases hc:(gt d.Stops n).Column=(i:Int)
 ·rw[if_pos (by omega),if_pos hc,show(gt d.Stops n).Column.toNat=i by omega]
 ·rw[if_neg (by omega),if_neg hc]
def X1(m:List Mark):Nat→Nat→Span
 |0,_=>⟨0,400⟩
 |n+1,c=>if(gt m n).Column=(c:Int)then A2J (X1 m n c) (gt m n).Ticks else X1 m n c
def atS(m:List Mark)(c:Nat):Span:=X1 m m.length c
def atL(d:Drum)(m:List Mark):List Span:=(List.range (d.Rates.length+1)).map (atS m)
theorem A7M(d:Drum)(m:List Mark):(atL d m).length=d.Rates.length+1:=A4j _ _
theorem B0c{d:Drum}{m:List Mark}{i:Nat}(h:i≤d.Rates.length):gt (atL d m) i=atS m i:=S3 (by omega)
theorem B7L{d:Drum}{m:List Mark}(h:∀j,j<m.length→¬A1e d m j)(c:Nat):∀n,n≤m.length→(0≤(X1 m n c).Lo∧(X1 m n c).Lo≤400)∧0≤(X1 m n c).Hi∧(X1 m n c).Hi≤400
 |0,_=>by simp only[X1];omega
 |n+1,hn=>by
  have h1:=B7L h c n (by omega)
  have h2:U1 (gt m n).Ticks 0 400:=(Decidable.of_not_not (h n (by omega))).2
  unfold U1 at h2
  rw[X1];split
  ·rw[C2Q,C2T];omega
  ·exact h1
theorem B7W{d:Drum}{m:List Mark}(h:Ok d m)(c:Nat):(0≤(atS m c).Lo∧(atS m c).Lo≤400)∧0≤(atS m c).Hi∧(atS m c).Hi≤400:=B7L h.ma c _ (Nat.le_refl _)
theorem C4k{d:Drum}{m:List Mark}(h:∀j,j<m.length→¬A1e d m j){n:Nat}(hn:n<m.length):
 ((List.range (d.Rates.length+1)).map (fun c=>X1 m n c)).set (gt m n).Column.toNat (A2J (X1 m n (gt m n).Column.toNat) (gt m n).Ticks)=(List.range (d.Rates.length+1)).map (fun c=>X1 m (n+1) c):=by
 have h1:(0≤(gt m n).Column∧(gt m n).Column≤(d.Rates.length:Int))∧U1 (gt m n).Ticks 0 400:=Decidable.of_not_not (h n hn)
 refine A5y (by simp) fun i hi=>?_
 rw[U9 _ _ (by simpa using hi),S3 hi,X1]
 by_cases hc:(gt m n).Column=(i:Int)
 ·rw[if_pos (by omega),if_pos hc,show(gt m n).Column.toNat=i by omega]
 ·rw[if_neg (by omega),if_neg hc]
def okD(d:Drum)(m:List Mark):Prop:=okP (A2p d) (atS m) d.Rates.length
instance(d:Drum)(m:List Mark):Decidable (okD d m):=by unfold okD;exact inferInstance
def stD(d:Drum)(m:List Mark)(i:Nat):Span:=st (A2p d) (atS m) d.Rates.length i
def A6u(d:Drum)(m:List Mark)(l:List Int):Prop:=l.length=d.Rates.length+1∧(∀i,i<d.Rates.length+1→(atS m i).Lo≤gt l i∧gt l i≤(atS m i).Hi)∧∀i,i<d.Rates.length→(A2p d i).Lo≤gt l (i+1)-gt l i∧gt l (i+1)-gt l i≤(A2p d i).Hi
instance(d:Drum)(m:List Mark)(l:List Int):Decidable (A6u d m l):=by unfold A6u;exact inferInstance
def keepE(d:Drum)(m:List Mark)(l:List Int):Int:=if A0w d m≠0 then A0w d m else if A6u d m l then 0 else 22
def C0x(d:Drum)(c:List Int)(i:Nat):Prop:=¬(0≤gt c i∧gt c i≤(d.Rates.length:Int))
instance(d:Drum)(c:List Int):DecidablePred (C0x d c):=fun i=>by unfold C0x;exact inferInstance
def B6j(c:List Int)(i:Nat):Prop:=¬(0≤gt c i∧gt c i≤400)
instance(c:List Int):DecidablePred (B6j c):=fun i=>by unfold B6j;exact inferInstance
def A8E(d:Drum)(cs ts:List Int):Prop:=(∀i,i<cs.length→¬C0x d cs i)∧∀i,i<ts.length→¬B6j ts i
instance(d:Drum)(cs ts:List Int):Decidable (A8E d cs ts):=by unfold A8E;exact inferInstance
def M7(d:Drum)(m:List Mark)(cs ts:List Int):Int:=if A0w d m≠0 then A0w d m else if¬A8E d cs ts then 1 else if okD d m then 0 else 22
def A5b(d:Drum)(m:List Mark):List Span:=(List.range (d.Rates.length+1)).map (stD d m)
def A9w(d:Drum)(m:List Mark)(cs ts:List Int):Clk:=if M7 d m cs ts=0 then⟨A0h d,A5b d m⟩else⟨[],[]⟩
theorem B6f{d:Drum}{m:List Mark}{cs ts:List Int}(h:M7 d m cs ts=0):Ok d m∧A8E d cs ts∧okD d m:=by
 unfold M7 at h;split at h
 ·omega
 ·rename_i h0
  split at h
  ·cases h
  ·rename_i h1
   split at h
   ·rename_i h2;exact⟨B2b (by omega),Decidable.of_not_not h1,h2⟩
   ·cases h
theorem B7O{d:Drum}{m:List Mark}{cs ts:List Int}(h:A0w d m≠0):M7 d m cs ts=A0w d m:=by rw[M7,if_pos h]
theorem B1j{d:Drum}{m:List Mark}{cs ts:List Int}(h:A0w d m=0)(h1:¬A8E d cs ts):M7 d m cs ts=1:=by rw[M7,if_neg (by omega),if_pos h1]
theorem B5W{d:Drum}{m:List Mark}{cs ts:List Int}(h:A0w d m=0)(h1:A8E d cs ts)(h2:¬okD d m):M7 d m cs ts=22:=by rw[M7,if_neg (by omega),if_neg (by simpa using h1),if_neg h2]
theorem C0U{d:Drum}{m:List Mark}{cs ts:List Int}(h:A0w d m=0)(h1:A8E d cs ts)(h2:okD d m):M7 d m cs ts=0:=by rw[M7,if_neg (by omega),if_neg (by simpa using h1),if_pos h2]
structure CkW(c:Clk):Prop where
 l:c.at_.length=c.gaps.length+1
 n:c.gaps.length≤199
 g:∀i,i<c.gaps.length→(1≤(gt c.gaps i).Lo∧(gt c.gaps i).Lo≤(gt c.gaps i).Hi)∧(gt c.gaps i).Hi≤6440
 a:∀i,i<c.at_.length→(0≤(gt c.at_ i).Lo∧(gt c.at_ i).Lo≤400)∧0≤(gt c.at_ i).Hi∧(gt c.at_ i).Hi≤400
def V1(c:Clk):List Span:=(List.range (c.gaps.length+1)).map (st (gt c.gaps) (gt c.at_) c.gaps.length)
def okC(c:Clk):Prop:=okP (gt c.gaps) (gt c.at_) c.gaps.length
instance(c:Clk):Decidable (okC c):=by unfold okC;exact inferInstance
theorem B7B{d:Drum}{m:List Mark}(h:Ok d m):CkW ⟨A0h d,atL d m⟩:=by
 refine⟨by rw[Z6,A7M],by rw[Z6];exact h.dr.1.1.2,fun i hi=>?_,fun i hi=>?_⟩
 ·rw[Z6]at hi;rw[A2E hi];exact B5z h.dr hi
 ·rw[A7M]at hi;rw[B0c (by omega)];exact B7W h i
theorem A8Z(d:Drum)(m:List Mark){i:Nat}(hi:i≤d.Rates.length):st (gt (A0h d)) (gt (atL d m)) d.Rates.length i=stD d m i:=
 B2C (fun _ h=>A2E h) (fun _ h=>B0c h) hi
theorem B6u(d:Drum)(m:List Mark):V1 ⟨A0h d,atL d m⟩=A5b d m:=by
 unfold V1;(try dsimp only);rw[Z6];exact A3h fun i hi=>A8Z d m (by omega)
theorem B1O(d:Drum)(m:List Mark):okC ⟨A0h d,atL d m⟩↔okD d m:=by
 unfold okC okD okP;(try dsimp only);rw[Z6]
 exact⟨fun h i hi=>by have:=h i hi;rw[A8Z d m (by omega)]at this;exact this,fun h i hi=>by rw[A8Z d m (by omega)];exact h i hi⟩
theorem A4w(c:Clk):(V1 c).length=c.gaps.length+1:=A4j _ _
theorem A7I{c:Clk}{i:Nat}(h:i≤c.gaps.length):gt (V1 c) i=st (gt c.gaps) (gt c.at_) c.gaps.length i:=S3 (by omega)
theorem A8J(d:Drum)(m:List Mark):(A5b d m).length=d.Rates.length+1:=A4j _ _
theorem C4m{d:Drum}{m:List Mark}{i:Nat}(h:i≤d.Rates.length):gt (A5b d m) i=stD d m i:=S3 (by omega)
def C7L(B:Nat→Span)(f i:Nat):Span:=⟨0,if i=f then min ((B i).Hi-(B f).Lo) 0 else(B i).Hi-(B f).Lo⟩
def mos(g B:Nat→Span)(n f i:Nat):Int:=(st g (C7L B f) n i).Hi
end Go.Proofs.T10
namespace Go.Proofs.T10
open Go Go.Kx
theorem Rd.min{g a:Nat→Span}{n:Nat}{x y:Nat→Int}(hx:Rd g a n x)(hy:Rd g a n y):Rd g a n (fun i=>Min.min (x i) (y i)):=
 ⟨fun i hi=>by have h1:=hx.1 i hi;have h2:=hy.1 i hi;(try dsimp only);omega,fun i hi=>by have h1:=hx.2 i hi;have h2:=hy.2 i hi;(try dsimp only);omega⟩
theorem Rd.max{g a:Nat→Span}{n:Nat}{x y:Nat→Int}(hx:Rd g a n x)(hy:Rd g a n y):Rd g a n (fun i=>Max.max (x i) (y i)):=
 ⟨fun i hi=>by have h1:=hx.1 i hi;have h2:=hy.1 i hi;(try dsimp only);omega,fun i hi=>by have h1:=hx.2 i hi;have h2:=hy.2 i hi;(try dsimp only);omega⟩
theorem C0o{p D lo hi:Int}(hD:0<D)(h1:D*lo≤p)(h2:p≤D*hi):lo≤p/D∧p/D≤hi:=by
 have e1:D*lo/D=lo:=Int.mul_ediv_cancel_left lo (by omega)
 have e2:D*hi/D=hi:=Int.mul_ediv_cancel_left hi (by omega)
 exact⟨by rw[←e1];exact Int.ediv_le_ediv hD h1,by rw[←e2];exact Int.ediv_le_ediv hD h2⟩
theorem B6P{p q D c:Int}(hD:0<D)(h:p≤q+D*c):p/D≤q/D+c:=by
 have:=Int.ediv_le_ediv hD h
 rwa [Int.add_mul_ediv_left _ _ (by omega)]at this
theorem B4C{p q D c:Int}(hD:0<D)(h:q+D*c≤p):q/D+c≤p/D:=by
 have:=Int.ediv_le_ediv hD h
 rwa [Int.add_mul_ediv_left _ _ (by omega)]at this
theorem A3q{s a b:Int}(hs:0≤s)(h:a≤b):s*a≤s*b:=Int.mul_le_mul_of_nonneg_left h hs
theorem C8A{g a:Nat→Span}{n:Nat}{x y:Nat→Int}(hx:Rd g a n x)(hy:Rd g a n y){s t:Int}(hs:0≤s)(ht:0≤t)(hD:0<s+t):Rd g a n (fun i=>(s*x i+t*y i)/(s+t)):=by
 refine⟨fun i hi=>?_,fun i hi=>?_⟩
 ·have h1:=hx.1 i hi;have h2:=hy.1 i hi
  refine C0o hD ?_ ?_
  ·rw[Int.add_mul];have:=A3q hs h1.1;have:=A3q ht h2.1;omega
  ·rw[Int.add_mul];have:=A3q hs h1.2;have:=A3q ht h2.2;omega
 ·have h1:=hx.2 i hi;have h2:=hy.2 i hi
  have a1:=A3q hs h1.1;have a2:=A3q ht h2.1;have a3:=A3q hs h1.2;have a4:=A3q ht h2.2
  rw[Int.mul_sub]at a1 a2 a3 a4
  have b1:=B4C (p:=s*x (i+1)+t*y (i+1)) (q:=s*x i+t*y i) (c:=(g i).Lo) hD (by rw[Int.add_mul];omega)
  have b2:=B6P (p:=s*x (i+1)+t*y (i+1)) (q:=s*x i+t*y i) (c:=(g i).Hi) hD (by rw[Int.add_mul];omega)
  (try dsimp only)
  omega
end Go.Proofs.T10
namespace Go.Proofs.T10
open Go Go.Kx
def B6A(l:List Span):List Int:=(List.range l.length).map fun i=>(gt l i).Lo
def C7M(l:List Span):List Int:=(List.range l.length).map fun i=>(gt l i).Hi
def A5l(d:Drum)(m:List Mark):List Int×Int:=if M7 d m [] []≠0 then([],M7 d m [] [])else(B6A (A5b d m),0)
def A5X(d:Drum)(m:List Mark):Clk:=⟨A0h d,A5b d m⟩
def C5T(l:List Int)(t:Int):Nat→Nat
 |0=>0
 |n+1=>if gt l n≤t then n+1 else C5T l t n
def C5e(l:List Int)(t:Int):Int:=(C5T l t l.length:Int)-1
def atR(d:Drum)(m:List Mark)(t:Int):Span×Int:=
 if M7 d m [] [t]≠0 then(⟨0,0⟩,M7 d m [] [t])else(⟨C5e (C7M (A5b d m)) t,C5e (B6A (A5b d m)) t⟩,0)
def A2H(d:Drum)(c:Int):Span×Int:=if Y7 d≠0 then(⟨0,0⟩,Y7 d)else if 0≤c∧c≤(d.Rates.length:Int)-1 then(A2p d c.toNat,0)else(⟨0,0⟩,1)
def C2i(d:Drum)(m:List Mark)(i k:Nat):Prop:=okD d [gt m i]∧okD d [gt m k]∧¬okD d [gt m i,gt m k]
instance(d:Drum)(m:List Mark)(i k:Nat):Decidable (C2i d m i k):=by unfold C2i;exact inferInstance
end Go.Proofs.T10
namespace Go.Proofs.T10
open Go Go.Kx
theorem Rd.congr{g a:Nat→Span}{n:Nat}{x y:Nat→Int}(h:Rd g a n x)(he:∀i,i≤n→y i=x i):Rd g a n y:=
 ⟨fun i hi=>by rw[he i hi];exact h.1 i hi,fun i hi=>by rw[he i (by omega),he (i+1) (by omega)];exact h.2 i hi⟩
theorem C4X{d:Drum}{m:List Mark}(h:Ok d m)(ho:okD d m){i:Nat}(hi:i≤d.Rates.length):(0≤(stD d m i).Lo∧(stD d m i).Lo≤(stD d m i).Hi)∧(stD d m i).Hi≤400:=by
 have h1:=ho i (by omega);have h2:=C2q (A2p d) (atS m) hi;have h3:=B7W h i;unfold stD;omega
theorem C4F{d:Drum}{m:List Mark}(h:Ok d m)(ho:okD d m):CkW (A5X d m):=by
 refine⟨by show(A5b d m).length=(A0h d).length+1;rw[Z6,A8J],by show(A0h d).length≤199;rw[Z6];exact h.dr.1.1.2,fun i hi=>?_,fun i hi=>?_⟩
 ·have hi':i<(A0h d).length:=hi
  rw[Z6]at hi'
  show(1≤(gt (A0h d) i).Lo∧_)∧_
  have:gt (A5X d m).gaps i=A2p d i:=A2E hi'
  rw[this];rw[A2E hi'];exact B5z h.dr hi'
 ·have hi':i<(A5b d m).length:=hi
  rw[A8J]at hi'
  have:gt (A5X d m).at_ i=stD d m i:=C4m (by omega)
  rw[this];have:=C4X h ho (i:=i) (by omega);omega
end Go.Proofs.T10
namespace Go.Proofs.T10
open Go Go.Kx
def X2(G L:List Span)(i:Nat):List Span:=(List.range (G.length+1)).map fun j=>if j≤i then fw (gt G) (gt L) j else gt L j
def X3(G L:List Span)(i:Nat):List Span:=(List.range (G.length+1)).map fun j=>if G.length-i≤j then st (gt G) (gt L) G.length j else fw (gt G) (gt L) j
theorem B0M(G L:List Span)(i:Nat):(X2 G L i).length=G.length+1:=A4j _ _
theorem B0N(G L:List Span)(i:Nat):(X3 G L i).length=G.length+1:=A4j _ _
theorem A9z{G L:List Span}{i j:Nat}(h:j≤G.length):gt (X2 G L i) j=if j≤i then fw (gt G) (gt L) j else gt L j:=S3 (by omega)
theorem A9i{G L:List Span}{i j:Nat}(h:j≤G.length):gt (X3 G L i) j=if G.length-i≤j then st (gt G) (gt L) G.length j else fw (gt G) (gt L) j:=S3 (by omega)
theorem C0N{G L:List Span}(h:L.length=G.length+1):X2 G L 0=L:=by
 refine(A5y h fun j _=>?_).symm
 split
 ·rename_i hj;obtain rfl:j=0:=by omega
  rfl
 ·rfl
theorem C1I(G L:List Span):X2 G L G.length=X3 G L 0:=by
 refine A3h fun j hj=>?_
 rw[if_pos (by omega)]
 split
 ·obtain rfl:j=G.length:=by omega
  rw[A2d]
 ·rfl
theorem B9H(c:Clk)(L:List Span):X3 c.gaps L c.gaps.length=V1 ⟨c.gaps,L⟩:=A3h fun j hj=>by rw[if_pos (by omega)]
theorem B9V{G L:List Span}{i:Nat}(h:i<G.length):
 (X2 G L i).set (i+1) (A2J (gt (X2 G L i) (i+1)) ⟨(gt (X2 G L i) i).Lo+(gt G i).Lo,(gt (X2 G L i) i).Hi+(gt G i).Hi⟩)=X2 G L (i+1):=by
 refine A5y (by simp[B0M]) fun j hj=>?_
 have e1:gt (X2 G L i) (i+1)=gt L (i+1):=by rw[A9z (by omega),if_neg (by omega)]
 have e2:gt (X2 G L i) i=fw (gt G) (gt L) i:=by rw[A9z (by omega),if_pos (Nat.le_refl _)]
 rw[U9 _ _ (by rw[B0M];omega),e1,e2]
 by_cases hc:i+1=j
 ·subst hc;rw[if_pos rfl,if_pos (Nat.le_refl _)];rfl
 ·rw[if_neg hc,A9z (by omega)]
  by_cases h2:j≤i
  ·rw[if_pos h2,if_pos (by omega)]
  ·rw[if_neg h2,if_neg (by omega)]
theorem C0P{G L:List Span}{i q:Nat}(h:i<G.length)(hq:q=G.length-1-i):
 (X3 G L i).set q (A2J (gt (X3 G L i) q) ⟨(gt (X3 G L i) (q+1)).Lo-(gt G q).Hi,(gt (X3 G L i) (q+1)).Hi-(gt G q).Lo⟩)=X3 G L (i+1):=by
 refine A5y (by simp[B0N]) fun j hj=>?_
 have e1:gt (X3 G L i) q=fw (gt G) (gt L) q:=by rw[A9i (by omega),if_neg (by omega)]
 have e2:gt (X3 G L i) (q+1)=st (gt G) (gt L) G.length (q+1):=by rw[A9i (by omega),if_pos (by omega)]
 rw[U9 _ _ (by rw[B0N];omega),e1,e2]
 by_cases hc:q=j
 ·subst hc
  rw[if_pos rfl,if_pos (by omega)]
  refine A7N ?_ ?_
  ·rw[A4P (gt G) (gt L) (i:=q) (by omega)];rfl
  ·rw[A4K (gt G) (gt L) (i:=q) (by omega)];rfl
 ·rw[if_neg hc,A9i (by omega)]
  by_cases h2:G.length-i≤j
  ·rw[if_pos h2,if_pos (by omega)]
  ·rw[if_neg h2,if_neg (by omega)]
def A7i(c:Clk)(L:List Span):Prop:=L=c.at_∨(L=V1 c∧okC c)
theorem C0v{c:Clk}(h:CkW c){L:List Span}(hi:A7i c L):L.length=c.gaps.length+1:=by
 rcases hi with rfl|⟨rfl,_⟩
 ·exact h.l
 ·exact A4w c
theorem CkW.gap{c:Clk}(h:CkW c):B1Z (gt c.gaps) c.gaps.length:=fun i hi=>(h.g i hi).1.2
theorem C1M{c:Clk}(h:CkW c){L:List Span}(hi:A7i c L):V1 ⟨c.gaps,L⟩=V1 c:=by
 rcases hi with rfl|⟨rfl,_⟩
 ·rfl
 ·unfold V1
  refine A3h fun j hj=>?_
  have hj':j<c.gaps.length+1:=hj
  dsimp only
  rw[←C7i h.gap (gt c.at_) (i:=j) (by omega)]
  exact B2C (fun _ _=>rfl) (fun q hq=>A7I hq) (by omega)
theorem C4d{c:Clk}(h:CkW c)(ho:okC c){i:Nat}(hi:i≤c.gaps.length):(0≤(gt (V1 c) i).Lo∧(gt (V1 c) i).Lo≤(gt (V1 c) i).Hi)∧(gt (V1 c) i).Hi≤400:=by
 have h1:=ho i (by omega)
 have h2:=C2q (gt c.gaps) (gt c.at_) hi
 have h3:=h.a i (by rw[h.l];omega)
 rw[A7I hi];omega
theorem B0o{c:Clk}(h:CkW c){L:List Span}(hi:A7i c L){i:Nat}(hl:i≤c.gaps.length):(-400≤(gt L i).Lo∧(gt L i).Lo≤400)∧-400≤(gt L i).Hi∧(gt L i).Hi≤400:=by
 rcases hi with rfl|⟨rfl,ho⟩
 ·have:=h.a i (by rw[h.l];omega);omega
 ·have:=C4d h ho hl;omega
theorem C5a{c:Clk}(h:CkW c):∀i,i<c.gaps.length→(0≤(gt c.gaps i).Lo∧(gt c.gaps i).Lo≤10000)∧0≤(gt c.gaps i).Hi∧(gt c.gaps i).Hi≤10000:=fun i hi=>by have:=h.g i hi;omega
theorem A9q{c:Clk}(h:CkW c){L:List Span}(hi:A7i c L){k:Nat}(hk:k≤c.gaps.length):(-400≤(fw (gt c.gaps) (gt L) k).Lo∧(fw (gt c.gaps) (gt L) k).Lo≤3000000)∧-400≤(fw (gt c.gaps) (gt L) k).Hi∧(fw (gt c.gaps) (gt L) k).Hi≤400:=by
 have hn:=h.n
 have key:∀k:Nat,k≤c.gaps.length→(-400≤(fw (gt c.gaps) (gt L) k).Lo∧(fw (gt c.gaps) (gt L) k).Lo≤400+10000*(k:Int))∧-400≤(fw (gt c.gaps) (gt L) k).Hi∧(fw (gt c.gaps) (gt L) k).Hi≤400:=by
  intro k
  induction k with
  |zero=>intro _;have:=B0o h hi (i:=0) (Nat.zero_le _);simp only[fw];omega
  |succ k ih=>intro hk;have h1:=ih (by omega);have h2:=B0o h hi hk;have h3:=C5a h k (by omega);rw[A9T,B0h];omega
 have:=key k hk;omega
theorem C6p{c:Clk}(h:CkW c){L:List Span}(hi:A7i c L){k:Nat}(hk:k≤c.gaps.length):(-400≤(st (gt c.gaps) (gt L) c.gaps.length k).Lo∧(st (gt c.gaps) (gt L) c.gaps.length k).Lo≤3000000)∧-3000000≤(st (gt c.gaps) (gt L) c.gaps.length k).Hi∧(st (gt c.gaps) (gt L) c.gaps.length k).Hi≤400:=by
 have hn:=h.n
 have key:∀j k:Nat,k+j=c.gaps.length→(-400≤(st (gt c.gaps) (gt L) c.gaps.length k).Lo∧(st (gt c.gaps) (gt L) c.gaps.length k).Lo≤3000000)∧-400-10000*(j:Int)≤(st (gt c.gaps) (gt L) c.gaps.length k).Hi∧(st (gt c.gaps) (gt L) c.gaps.length k).Hi≤400:=by
  intro j
  induction j with
  |zero=>
   intro k hk;obtain rfl:k=c.gaps.length:=by omega
   rw[A2d];have:=A9q h hi (Nat.le_refl c.gaps.length);omega
  |succ j ih=>intro k hk;have h1:=ih (k+1) (by omega);have h2:=A9q h hi (k:=k) (by omega);have h3:=C5a h k (by omega);rw[A4P (gt c.gaps) (gt L) (by omega),A4K (gt c.gaps) (gt L) (by omega)];omega
 have:=key (c.gaps.length-k) k (by omega);omega
theorem C5v{c:Clk}(h:CkW c){L:List Span}(hi:A7i c L){i j:Nat}(hj:j≤c.gaps.length):(-400≤(gt (X2 c.gaps L i) j).Lo∧(gt (X2 c.gaps L i) j).Lo≤3000000)∧-400≤(gt (X2 c.gaps L i) j).Hi∧(gt (X2 c.gaps L i) j).Hi≤400:=by
 rw[A9z hj];split
 ·exact A9q h hi hj
 ·have:=B0o h hi hj;omega
theorem C5f{c:Clk}(h:CkW c){L:List Span}(hi:A7i c L){i j:Nat}(hj:j≤c.gaps.length):(-400≤(gt (X3 c.gaps L i) j).Lo∧(gt (X3 c.gaps L i) j).Lo≤3000000)∧-3000000≤(gt (X3 c.gaps L i) j).Hi∧(gt (X3 c.gaps L i) j).Hi≤400:=by
 rw[A9i hj];split
 ·exact C6p h hi hj
 ·have:=A9q h hi hj;omega
theorem A6Q{c:Clk}:okC c↔∀i,i<(V1 c).length→¬(gt (V1 c) i).Hi<(gt (V1 c) i).Lo:=by
 unfold okC okP
 rw[A4w]
 exact⟨fun h i hi=>by have:=h i hi;rw[A7I (by omega)];omega,fun h i hi=>by have:=h i hi;rw[A7I (by omega)]at this;omega⟩
def X4(x z:Span)(n k:Nat):List Span:=List.replicate k x++List.replicate (n-k) z
theorem B4h{x z:Span}{n k:Nat}(h:k≤n):(X4 x z n k).length=n:=by simp[X4];omega
theorem B7s(x z:Span){n:Nat}(h:0<n):[x]++(List.replicate n z).drop [x].length=X4 x z n 1:=by simp[X4]
theorem B9M{x z:Span}{n k:Nat}:(X4 x z n k).take k++(X4 x z n k).take (min k (n-k))++(X4 x z n k).drop (k+min k (n-k))=X4 x z n (k+min k (n-k)):=by
 have h1:(X4 x z n k).take k=List.replicate k x:=by unfold X4;rw[List.take_left' (by simp)]
 have h2:(X4 x z n k).take (min k (n-k))=List.replicate (min k (n-k)) x:=by
  unfold X4;rw[List.take_append_of_le_length (by simp;omega),List.take_replicate];congr 1;omega
 have h3:(X4 x z n k).drop (k+min k (n-k))=List.replicate (n-(k+min k (n-k))) z:=by
  unfold X4;rw[List.drop_append,List.drop_of_length_le (by simp)];simp;omega
 rw[h1,h2,h3,List.replicate_append_replicate]
 rfl
theorem C2Y(x z:Span)(n:Nat):X4 x z n n=List.replicate n x:=by simp[X4]
end Go.Proofs.T10
