import Derived.Test.YtooomcigmleneaaGreatT10Ink2
import Derived.Test.YtooomcigmleneaaGreatT10Ty
set_option linter.all false
namespace Go.Proofs.T10
open Go Go.Kx
def EJ(a b:Span):Span:=⟨max a.Lo b.Lo,min a.Hi b.Hi⟩
theorem B1K(a b:Span):(EJ a b).Lo=max a.Lo b.Lo:=rfl
theorem B1W(a b:Span):(EJ a b).Hi=min a.Hi b.Hi:=rfl
theorem Kf{a b:Span}(h1:a.Lo=b.Lo)(h2:a.Hi=b.Hi):a=b:=by cases a;cases b;simp_all
def fw(g a:Nat→Span):Nat→Span
 |0=>a 0
 |k+1=>EJ (a (k+1)) ⟨(fw g a k).Lo+(g k).Lo,(fw g a k).Hi+(g k).Hi⟩
def bw(g f:Nat→Span)(n:Nat):Nat→Span
 |0=>f n
 |j+1=>EJ (f (n-(j+1))) ⟨(bw g f n j).Lo-(g (n-(j+1))).Hi,(bw g f n j).Hi-(g (n-(j+1))).Lo⟩
def st(g a:Nat→Span)(n i:Nat):Span:=bw g (fw g a) n (n-i)
theorem MS(g a:Nat→Span)(k:Nat):(fw g a (k+1)).Lo=max (a (k+1)).Lo ((fw g a k).Lo+(g k).Lo):=rfl
theorem Nx(g a:Nat→Span)(k:Nat):(fw g a (k+1)).Hi=min (a (k+1)).Hi ((fw g a k).Hi+(g k).Hi):=rfl
theorem Dh(g a:Nat→Span)(n:Nat):st g a n n=fw g a n:=by unfold st;rw[SY];rfl
theorem Gu(g a:Nat→Span){n i:Nat}(h:i<n):(st g a n i).Lo=max (fw g a i).Lo ((st g a n (i+1)).Lo-(g i).Hi):=by
 unfold st
 rw[show n-i=(n-(i+1))+1 by omega,bw,show n-(n-(i+1)+1)=i by omega];rfl
theorem Gf(g a:Nat→Span){n i:Nat}(h:i<n):(st g a n i).Hi=min (fw g a i).Hi ((st g a n (i+1)).Hi-(g i).Lo):=by
 unfold st
 rw[show n-i=(n-(i+1))+1 by omega,bw,show n-(n-(i+1)+1)=i by omega];rfl
theorem B6s(g a:Nat→Span):∀k,(a k).Lo≤(fw g a k).Lo∧(fw g a k).Hi≤(a k).Hi
 |0=>⟨Si _,Si _⟩
 |k+1=>by rw[MS,Nx];omega
theorem B0C(g a:Nat→Span){n i:Nat}(h:i≤n):(fw g a i).Lo≤(st g a n i).Lo∧(st g a n i).Hi≤(fw g a i).Hi:=by
 rcases Nat.lt_or_ge i n with h1|h1
 ·rw[Gu g a h1,Gf g a h1];omega
 ·obtain rfl:i=n:=by omega
  rw[Dh];omega
theorem B0t(g a:Nat→Span){n i:Nat}(h:i≤n):(a i).Lo≤(st g a n i).Lo∧(st g a n i).Hi≤(a i).Hi:=by
 have b:=B6s g a i
 have c:=B0C g a h
 omega
def Qr(g:Nat→Span)(n:Nat):Prop:=∀i,i<n→(g i).Lo≤(g i).Hi
theorem A6W{g:Nat→Span}{n:Nat}(hg:Qr g n)(a:Nat→Span){i:Nat}(h:i<n):
 ((st g a n i).Lo+(g i).Lo≤(st g a n (i+1)).Lo∧(st g a n (i+1)).Lo≤(st g a n i).Lo+(g i).Hi)∧((st g a n i).Hi+(g i).Lo≤(st g a n (i+1)).Hi∧(st g a n (i+1)).Hi≤(st g a n i).Hi+(g i).Hi):=by
 have b:=B0C g a (n:=n) (i:=i+1) (by omega)
 have c:=hg i h
 rw[MS,Nx]at b
 rw[Gu g a h,Gf g a h]
 omega
def Rd(g a:Nat→Span)(n:Nat)(x:Nat→Int):Prop:=(∀i,i≤n→(a i).Lo≤x i∧x i≤(a i).Hi)∧∀i,i<n→(g i).Lo≤x (i+1)-x i∧x (i+1)-x i≤(g i).Hi
theorem A2X{g a:Nat→Span}{n:Nat}{x:Nat→Int}(ha:∀i,i≤n→x i≤(a i).Hi)(hx:∀i,i<n→(g i).Lo≤x (i+1)-x i∧x (i+1)-x i≤(g i).Hi):∀k,k≤n→x k≤(fw g a k).Hi
 |0,h=>ha 0 h
 |k+1,h=>by have h1:=A2X ha hx k (by omega);have b:=ha (k+1) h;have c:=hx k h;rw[Nx];omega
theorem B5K{g a:Nat→Span}{n:Nat}{x:Nat→Int}(ha:∀i,i≤n→x i≤(a i).Hi)(hx:∀i,i<n→(g i).Lo≤x (i+1)-x i∧x (i+1)-x i≤(g i).Hi){i:Nat}(hi:i≤n):x i≤(st g a n i).Hi:=by
 have key:∀j i,i+j=n→x i≤(st g a n i).Hi:=by
  intro j
  induction j with
  |zero=>
   intro i h;obtain rfl:i=n:=by omega
   rw[Dh];exact A2X ha hx i (E' _)
  |succ j ih=>
   intro i h
   have b:=ih (i+1) (by omega);have c:=A2X ha hx i (by omega);have d:=hx i (by omega)
   rw[Gf g a (by omega)];omega
 exact key (n-i) i (by omega)
theorem A2W{g a:Nat→Span}{n:Nat}{x:Nat→Int}(ha:∀i,i≤n→(a i).Lo≤x i)(hx:∀i,i<n→(g i).Lo≤x (i+1)-x i∧x (i+1)-x i≤(g i).Hi):∀k,k≤n→(fw g a k).Lo≤x k
 |0,h=>ha 0 h
 |k+1,h=>by have h1:=A2W ha hx k (by omega);have b:=ha (k+1) h;have c:=hx k h;rw[MS];omega
theorem B6u{g a:Nat→Span}{n:Nat}{x:Nat→Int}(ha:∀i,i≤n→(a i).Lo≤x i)(hx:∀i,i<n→(g i).Lo≤x (i+1)-x i∧x (i+1)-x i≤(g i).Hi){i:Nat}(hi:i≤n):(st g a n i).Lo≤x i:=by
 have key:∀j i,i+j=n→(st g a n i).Lo≤x i:=by
  intro j
  induction j with
  |zero=>
   intro i h;obtain rfl:i=n:=by omega
   rw[Dh];exact A2W ha hx i (E' _)
  |succ j ih=>
   intro i h
   have b:=ih (i+1) (by omega);have c:=A2W ha hx i (by omega);have d:=hx i (by omega)
   rw[Gu g a (by omega)];omega
 exact key (n-i) i (by omega)
theorem Rd.st{g a:Nat→Span}{n:Nat}{x:Nat→Int}(h:Rd g a n x){i:Nat}(hi:i≤n):(T10.st g a n i).Lo≤x i∧x i≤(T10.st g a n i).Hi:=
 ⟨B6u (fun i hi=>(h.1 i hi).1) h.2 hi,B5K (fun i hi=>(h.1 i hi).2) h.2 hi⟩
def RX(g a:Nat→Span)(n:Nat):Prop:=∀i,i<n+1→(st g a n i).Lo≤(st g a n i).Hi
instance(g a:Nat→Span)(n:Nat):Decidable (RX g a n):=by unfold RX;exact inferInstance
theorem Rd.ok{g a:Nat→Span}{n:Nat}{x:Nat→Int}(h:Rd g a n x):RX g a n:=fun i hi=>by have:=h.st (i:=i) (by omega);omega
theorem A3D{g:Nat→Span}{n:Nat}(hg:Qr g n)(a:Nat→Span):∀k,k≤n→fw g (st g a n) k=st g a n k
 |0,_=>rfl
 |k+1,h=>by
  have h1:=A3D hg a k (by omega)
  have b:=A6W hg a (i:=k) (by omega)
  refine Kf ?_ ?_
  ·rw[MS,h1];omega
  ·rw[Nx,h1];omega
theorem B5J{g:Nat→Span}{n:Nat}(hg:Qr g n)(a:Nat→Span){i:Nat}(hi:i≤n):st g (st g a n) n i=st g a n i:=by
 have key:∀j i,i+j=n→st g (st g a n) n i=st g a n i:=by
  intro j
  induction j with
  |zero=>
   intro i h;obtain rfl:i=n:=by omega
   rw[Dh,A3D hg a i (E' _)]
  |succ j ih=>
   intro i h
   have b:=ih (i+1) (by omega)
   have c:=A3D hg a i (by omega)
   have d:=A6W hg a (i:=i) (by omega)
   refine Kf ?_ ?_
   ·rw[Gu g _ (by omega),b,c];omega
   ·rw[Gf g _ (by omega),b,c];omega
 exact key (n-i) i (by omega)
theorem LG{g h a b:Nat→Span}:∀{k:Nat},(∀i,i<k→g i=h i)→(∀i,i≤k→a i=b i)→fw g a k=fw h b k
 |0,_,hab=>hab 0 (E' _)
 |k+1,hgh,hab=>by rw[fw,fw,LG (fun i hi=>hgh i (by omega)) (fun i hi=>hab i (by omega)),hab (k+1) (E' _),hgh k (by omega)]
theorem RN{g h a b:Nat→Span}{n:Nat}(hgh:∀i,i<n→g i=h i)(hab:∀i,i≤n→a i=b i){i:Nat}(hi:i≤n):st g a n i=st h b n i:=by
 have key:∀j i,i+j=n→st g a n i=st h b n i:=by
  intro j
  induction j with
  |zero=>
   intro i h;obtain rfl:i=n:=by omega
   rw[Dh,Dh,LG hgh hab]
  |succ j ih=>
   intro i m
   have c:=ih (i+1) (by omega)
   have d:=LG (k:=i) (fun q l=>hgh q (by omega)) (fun q l=>hab q (by omega))
   have f:=hgh i (by omega)
   refine Kf ?_ ?_
   ·rw[Gu g _ (by omega),Gu h _ (by omega),c,d,f]
   ·rw[Gf g _ (by omega),Gf h _ (by omega),c,d,f]
 exact key (n-i) i (by omega)
def X8(s:Span)(lo hi:Int):Prop:=(lo≤s.Lo∧s.Lo≤s.Hi)∧s.Hi≤hi
instance(s:Span)(lo hi:Int):Decidable (X8 s lo hi):=by unfold X8;exact inferInstance
def A3U(d:Drum)(i:Nat):Prop:=¬X8 (gt d.Rates i) 1 40
def A3o(d:Drum)(i:Nat):Prop:=¬((0≤(gt d.Stops i).Column∧(gt d.Stops i).Column≤(d.Rates.length:Int)-1)∧X8 (gt d.Stops i).Ticks 0 400)
instance(d:Drum):DecidablePred (A3U d):=fun i=>by unfold A3U;exact inferInstance
instance(d:Drum):DecidablePred (A3o d):=fun i=>by unfold A3o;exact inferInstance
def Bz(d:Drum):Prop:=((1≤d.Rates.length∧d.Rates.length≤199)∧d.Stops.length≤16)∧(∀i,i<d.Rates.length→¬A3U d i)∧∀i,i<d.Stops.length→¬A3o d i
instance(d:Drum):Decidable (Bz d):=by unfold Bz;exact inferInstance
def Ar(d:Drum):Int:=if Bz d then 0 else 20
theorem KY{d:Drum}(h:Bz d):Ar d=0:=D' h
theorem A4t{d:Drum}(h:¬Bz d):Ar d=20:=A' h
theorem LF{d:Drum}(h:Ar d=0):Bz d:=by unfold Ar at h;split at h;assumption;cases h
def CK(d:Drum)(m:List Mark)(i:Nat):Prop:=¬((0≤(gt m i).Column∧(gt m i).Column≤(d.Rates.length:Int))∧X8 (gt m i).Ticks 0 400)
instance(d:Drum)(m:List Mark):DecidablePred (CK d m):=fun i=>by unfold CK;exact inferInstance
def U0(d:Drum)(m:List Mark):Int×Int:=
 if Ar d≠0 then(20,0)else if 64<m.length then(2,0)else if first (CK d m) m.length<m.length then(21,first (CK d m) m.length)else(0,0)
def Bx(d:Drum)(m:List Mark):Int:=if(U0 d m).1=2 then 21 else(U0 d m).1
theorem KB{d:Drum}{m:List Mark}(h:Ar d≠0):U0 d m=(20,0):=by rw[U0,D' h]
theorem MR{d:Drum}{m:List Mark}(h:Ar d=0)(h1:64<m.length):U0 d m=(2,0):=by rw[U0,A' (by omega),D' h1]
theorem JA{d:Drum}{m:List Mark}(h:Ar d=0)(h1:¬64<m.length)(ha:∀j,j<m.length→¬CK d m j):U0 d m=(0,0):=by
 have:=Lv ha
 rw[U0,A' (by omega),A' h1,A' (by omega)]
theorem Ny{d:Drum}{m:List Mark}(h:Ar d=0)(h1:¬64<m.length)(h2:0≤U3 (CK d m) m.length):U0 d m=(21,U3 (CK d m) m.length):=by
 have a:=A3J h2
 rw[U0,A' (by omega),A' h1,D' a.2,a.1]
structure Ok(d:Drum)(m:List Mark):Prop where
 dr:Bz d
 n:m.length≤64
 ma:∀j,j<m.length→¬CK d m j
theorem A2Y{d:Drum}{m:List Mark}(h:(U0 d m).1=0):Ok d m:=by
 unfold U0 at h
 split at h
 ·cases h
 ·rename_i h0
  split at h
  ·cases h
  ·rename_i h1
   split at h
   ·cases h
   ·rename_i h2
    refine⟨LF (by omega),by omega,?_⟩
    rcases CB (CK d m) m.length with h3|h3
    ·exact h3.2
    ·exact absurd h3.1 h2
theorem B0A{d:Drum}{m:List Mark}(h:Bx d m=0):Ok d m:=by
 unfold Bx at h;split at h
 ·cases h
 ·exact A2Y h
theorem Ok.marks{d:Drum}{m:List Mark}(h:Ok d m):U0 d m=(0,0):=JA (KY h.dr) (by have:=h.n;omega) h.ma
theorem B7V{d:Drum}{m:List Mark}(h:Ok d m):Bx d m=0:=by unfold Bx;rw[h.marks];rfl
theorem Ok.col{d:Drum}{m:List Mark}(h:Ok d m){j:Nat}(hj:j<m.length):(0≤(gt m j).Column∧(gt m j).Column≤(d.Rates.length:Int))∧X8 (gt m j).Ticks 0 400:=Su (h.ma j hj)
theorem B1h{d:Drum}(h:Bz d){i:Nat}(hi:i<d.Rates.length):X8 (gt d.Rates i) 1 40:=Su (h.2.1 i hi)
theorem OM{d:Drum}(h:Bz d){i:Nat}(hi:i<d.Stops.length):(0≤(gt d.Stops i).Column∧(gt d.Stops i).Column≤(d.Rates.length:Int)-1)∧X8 (gt d.Stops i).Ticks 0 400:=Su (h.2.2 i hi)
def H7(d:Drum)(c:Nat):Nat→Span
 |0=>gt d.Rates c
 |n+1=>if(gt d.Stops n).Column=(c:Int)then⟨(H7 d c n).Lo+(gt d.Stops n).Ticks.Lo,(H7 d c n).Hi+(gt d.Stops n).Ticks.Hi⟩else H7 d c n
def Cn(d:Drum)(c:Nat):Span:=H7 d c d.Stops.length
def Bw(d:Drum):List Span:=(List.range d.Rates.length).map (Cn d)
theorem JT{d:Drum}(h:Bz d){c:Nat}(hc:c<d.Rates.length):∀n:Nat,n≤d.Stops.length→(1≤(H7 d c n).Lo∧(H7 d c n).Lo≤(H7 d c n).Hi)∧(H7 d c n).Hi≤40+400*(n:Int)
 |0,_=>by have:=B1h h hc;unfold X8 at this;simp only[H7];omega
 |n+1,hn=>by
  have b:=JT h hc n (by omega);have a:=(OM h (i:=n) (by omega)).2;unfold X8 at a
  rw[H7];split
  ·(try dsimp only);omega
  ·omega
theorem A1K{d:Drum}(h:Bz d){c:Nat}(hc:c<d.Rates.length):(1≤(Cn d c).Lo∧(Cn d c).Lo≤(Cn d c).Hi)∧(Cn d c).Hi≤6440:=by
 have a:=JT h hc d.Stops.length (E' _);have b:=h.1.2;unfold Cn;omega
theorem AF(d:Drum):(Bw d).length=d.Rates.length:=Fy _ _
theorem Hk{d:Drum}{i:Nat}(h:i<d.Rates.length):gt (Bw d) i=Cn d i:=T8 h
theorem A8b{d:Drum}(h:Bz d){n:Nat}(hn:n<d.Stops.length):
 ((List.range d.Rates.length).map (fun c=>H7 d c n)).set (gt d.Stops n).Column.toNat ⟨(H7 d (gt d.Stops n).Column.toNat n).Lo+(gt d.Stops n).Ticks.Lo,(H7 d (gt d.Stops n).Column.toNat n).Hi+(gt d.Stops n).Ticks.Hi⟩
  =(List.range d.Rates.length).map (fun c=>H7 d c (n+1)):=by
 have b:=(OM h hn).1
 refine Hj (by simp) fun i hi=>?_
 rw[Ac _ _ (by simpa using hi),T8 hi,H7]
 by_cases a:(gt d.Stops n).Column=(i:Int)
 ·rw[D' (by omega),D' a,show(gt d.Stops n).Column.toNat=i by omega]
 ·rw[A' (by omega),A' a]
def Cs(m:List Mark):Nat→Nat→Span
 |0,_=>⟨0,400⟩
 |n+1,c=>if(gt m n).Column=(c:Int)then EJ (Cs m n c) (gt m n).Ticks else Cs m n c
def IG(m:List Mark)(c:Nat):Span:=Cs m m.length c
def Mn(d:Drum)(m:List Mark):List Span:=(List.range (d.Rates.length+1)).map (IG m)
theorem Oh(d:Drum)(m:List Mark):(Mn d m).length=d.Rates.length+1:=Fy _ _
theorem A6w{d:Drum}{m:List Mark}{i:Nat}(h:i≤d.Rates.length):gt (Mn d m) i=IG m i:=T8 (by omega)
theorem A5Q{d:Drum}{m:List Mark}(h:∀j,j<m.length→¬CK d m j)(c:Nat):∀n,n≤m.length→(0≤(Cs m n c).Lo∧(Cs m n c).Lo≤400)∧0≤(Cs m n c).Hi∧(Cs m n c).Hi≤400
 |0,_=>by simp only[Cs];omega
 |n+1,hn=>by
  have h1:=A5Q h c n (by omega)
  have a:X8 (gt m n).Ticks 0 400:=(Su (h n (by omega))).2
  unfold X8 at a
  rw[Cs];split
  ·rw[B1K,B1W];omega
  ·exact h1
theorem A4B{d:Drum}{m:List Mark}(h:Ok d m)(c:Nat):(0≤(IG m c).Lo∧(IG m c).Lo≤400)∧0≤(IG m c).Hi∧(IG m c).Hi≤400:=A5Q h.ma c _ (E' _)
theorem B2m{d:Drum}{m:List Mark}(h:∀j,j<m.length→¬CK d m j){n:Nat}(hn:n<m.length):
 ((List.range (d.Rates.length+1)).map (fun c=>Cs m n c)).set (gt m n).Column.toNat (EJ (Cs m n (gt m n).Column.toNat) (gt m n).Ticks)=(List.range (d.Rates.length+1)).map (fun c=>Cs m (n+1) c):=by
 have b:(0≤(gt m n).Column∧(gt m n).Column≤(d.Rates.length:Int))∧X8 (gt m n).Ticks 0 400:=Su (h n hn)
 refine Hj (by simp) fun i hi=>?_
 rw[Ac _ _ (by simpa using hi),T8 hi,Cs]
 by_cases a:(gt m n).Column=(i:Int)
 ·rw[D' (by omega),D' a,show(gt m n).Column.toNat=i by omega]
 ·rw[A' (by omega),A' a]
def He(d:Drum)(m:List Mark):Prop:=RX (Cn d) (IG m) d.Rates.length
instance(d:Drum)(m:List Mark):Decidable (He d m):=by unfold He;exact inferInstance
def MG(d:Drum)(m:List Mark)(i:Nat):Span:=st (Cn d) (IG m) d.Rates.length i
def A2J(d:Drum)(m:List Mark)(l:List Int):Prop:=l.length=d.Rates.length+1∧(∀i,i<d.Rates.length+1→(IG m i).Lo≤gt l i∧gt l i≤(IG m i).Hi)∧∀i,i<d.Rates.length→(Cn d i).Lo≤gt l (i+1)-gt l i∧gt l (i+1)-gt l i≤(Cn d i).Hi
instance(d:Drum)(m:List Mark)(l:List Int):Decidable (A2J d m l):=by unfold A2J;exact inferInstance
def B0E(d:Drum)(m:List Mark)(l:List Int):Int:=if Bx d m≠0 then Bx d m else if A2J d m l then 0 else 22
def A8N(d:Drum)(c:List Int)(i:Nat):Prop:=¬(0≤gt c i∧gt c i≤(d.Rates.length:Int))
instance(d:Drum)(c:List Int):DecidablePred (A8N d c):=fun i=>by unfold A8N;exact inferInstance
def A3X(c:List Int)(i:Nat):Prop:=¬(0≤gt c i∧gt c i≤400)
instance(c:List Int):DecidablePred (A3X c):=fun i=>by unfold A3X;exact inferInstance
def LC(d:Drum)(cs ts:List Int):Prop:=(∀i,i<cs.length→¬A8N d cs i)∧∀i,i<ts.length→¬A3X ts i
instance(d:Drum)(cs ts:List Int):Decidable (LC d cs ts):=by unfold LC;exact inferInstance
def O3(d:Drum)(m:List Mark)(cs ts:List Int):Int:=if Bx d m≠0 then Bx d m else if¬LC d cs ts then 1 else if He d m then 0 else 22
def GH(d:Drum)(m:List Mark):List Span:=(List.range (d.Rates.length+1)).map (MG d m)
def Nt(d:Drum)(m:List Mark)(cs ts:List Int):Clk:=if O3 d m cs ts=0 then⟨Bw d,GH d m⟩else⟨[],[]⟩
theorem A4l{d:Drum}{m:List Mark}{cs ts:List Int}(h:O3 d m cs ts=0):Ok d m∧LC d cs ts∧He d m:=by
 unfold O3 at h;split at h
 ·omega
 ·rename_i h0
  split at h
  ·cases h
  ·rename_i h1
   split at h
   ·rename_i h2;exact⟨B0A (by omega),Su h1,h2⟩
   ·cases h
theorem A4K{d:Drum}{m:List Mark}{cs ts:List Int}(h:Bx d m≠0):O3 d m cs ts=Bx d m:=by rw[O3,D' h]
theorem Pp{d:Drum}{m:List Mark}{cs ts:List Int}(h:Bx d m=0)(h1:¬LC d cs ts):O3 d m cs ts=1:=by rw[O3,A' (by omega),D' h1]
theorem A2E{d:Drum}{m:List Mark}{cs ts:List Int}(h:Bx d m=0)(h1:LC d cs ts)(h2:¬He d m):O3 d m cs ts=22:=by rw[O3,A' (by omega),A' (by simpa using h1),A' h2]
theorem A9J{d:Drum}{m:List Mark}{cs ts:List Int}(h:Bx d m=0)(h1:LC d cs ts)(h2:He d m):O3 d m cs ts=0:=by rw[O3,A' (by omega),A' (by simpa using h1),D' h2]
structure CkW(c:Clk):Prop where
 l:c.at_.length=c.gaps.length+1
 n:c.gaps.length≤199
 g:∀i,i<c.gaps.length→(1≤(gt c.gaps i).Lo∧(gt c.gaps i).Lo≤(gt c.gaps i).Hi)∧(gt c.gaps i).Hi≤6440
 a:∀i,i<c.at_.length→(0≤(gt c.at_ i).Lo∧(gt c.at_ i).Lo≤400)∧0≤(gt c.at_ i).Hi∧(gt c.at_ i).Hi≤400
def Y2(c:Clk):List Span:=(List.range (c.gaps.length+1)).map (st (gt c.gaps) (gt c.at_) c.gaps.length)
def MQ(c:Clk):Prop:=RX (gt c.gaps) (gt c.at_) c.gaps.length
instance(c:Clk):Decidable (MQ c):=by unfold MQ;exact inferInstance
theorem B3n{d:Drum}{m:List Mark}(h:Ok d m):CkW ⟨Bw d,Mn d m⟩:=by
 refine⟨by rw[AF,Oh],by rw[AF];exact h.dr.1.1.2,fun i hi=>?_,fun i hi=>?_⟩
 ·rw[AF]at hi;rw[Hk hi];exact A1K h.dr hi
 ·rw[Oh]at hi;rw[A6w (by omega)];exact A4B h i
theorem Lg(d:Drum)(m:List Mark){i:Nat}(hi:i≤d.Rates.length):st (gt (Bw d)) (gt (Mn d m)) d.Rates.length i=MG d m i:=
 RN (fun _ h=>Hk h) (fun _ h=>A6w h) hi
theorem A3r(d:Drum)(m:List Mark):Y2 ⟨Bw d,Mn d m⟩=GH d m:=by
 unfold Y2;(try dsimp only);rw[AF];exact Ez fun i hi=>Lg d m (by omega)
theorem Pj(d:Drum)(m:List Mark):MQ ⟨Bw d,Mn d m⟩↔He d m:=by
 unfold MQ He RX;(try dsimp only);rw[AF]
 exact⟨fun h i hi=>by have:=h i hi;rw[Lg d m (by omega)]at this;exact this,fun h i hi=>by rw[Lg d m (by omega)];exact h i hi⟩
theorem FL(c:Clk):(Y2 c).length=c.gaps.length+1:=Fy _ _
theorem Kd{c:Clk}{i:Nat}(h:i≤c.gaps.length):gt (Y2 c) i=st (gt c.gaps) (gt c.at_) c.gaps.length i:=T8 (by omega)
theorem LO(d:Drum)(m:List Mark):(GH d m).length=d.Rates.length+1:=Fy _ _
theorem B1y{d:Drum}{m:List Mark}{i:Nat}(h:i≤d.Rates.length):gt (GH d m) i=MG d m i:=T8 (by omega)
def B7x(B:Nat→Span)(f i:Nat):Span:=⟨0,if i=f then min ((B i).Hi-(B f).Lo) 0 else(B i).Hi-(B f).Lo⟩
def mos(g B:Nat→Span)(n f i:Nat):Int:=(st g (B7x B f) n i).Hi
theorem Rd.min{g a:Nat→Span}{n:Nat}{x y:Nat→Int}(hx:Rd g a n x)(hy:Rd g a n y):Rd g a n (fun i=>Min.min (x i) (y i)):=
 ⟨fun i hi=>by have b:=hx.1 i hi;have c:=hy.1 i hi;(try dsimp only);omega,fun i hi=>by have b:=hx.2 i hi;have c:=hy.2 i hi;(try dsimp only);omega⟩
theorem Rd.max{g a:Nat→Span}{n:Nat}{x y:Nat→Int}(hx:Rd g a n x)(hy:Rd g a n y):Rd g a n (fun i=>Max.max (x i) (y i)):=
 ⟨fun i hi=>by have b:=hx.1 i hi;have c:=hy.1 i hi;(try dsimp only);omega,fun i hi=>by have b:=hx.2 i hi;have c:=hy.2 i hi;(try dsimp only);omega⟩
theorem A8T{p D lo hi:Int}(hD:0<D)(h1:D*lo≤p)(h2:p≤D*hi):lo≤p/D∧p/D≤hi:=by
 have a:D*lo/D=lo:=UH lo (by omega)
 have b:D*hi/D=hi:=UH hi (by omega)
 exact⟨by rw[←a];exact TY hD h1,by rw[←b];exact TY hD h2⟩
theorem A3f{p q D c:Int}(hD:0<D)(h:p≤q+D*c):p/D≤q/D+c:=by
 have:=TY hD h
 rwa [Int.add_mul_ediv_left _ _ (by omega)]at this
theorem A0Y{p q D c:Int}(hD:0<D)(h:q+D*c≤p):q/D+c≤p/D:=by
 have:=TY hD h
 rwa [Int.add_mul_ediv_left _ _ (by omega)]at this
theorem Ev{s a b:Int}(hs:0≤s)(h:a≤b):s*a≤s*b:=Int.mul_le_mul_of_nonneg_left h hs
theorem B7H{g a:Nat→Span}{n:Nat}{x y:Nat→Int}(hx:Rd g a n x)(hy:Rd g a n y){s t:Int}(hs:0≤s)(ht:0≤t)(hD:0<s+t):Rd g a n (fun i=>(s*x i+t*y i)/(s+t)):=by
 refine⟨fun i hi=>?_,fun i hi=>?_⟩
 ·have b:=hx.1 i hi;have d:=hy.1 i hi
  refine A8T hD ?_ ?_
  ·rw[Int.add_mul];have:=Ev hs b.1;have:=Ev ht d.1;omega
  ·rw[Int.add_mul];have:=Ev hs b.2;have:=Ev ht d.2;omega
 ·have b:=hx.2 i hi;have d:=hy.2 i hi
  have f:=Ev hs b.1;have k:=Ev ht d.1;have l:=Ev hs b.2;have m:=Ev ht d.2
  rw[Int.mul_sub]at f k l m
  have o:=A0Y (p:=s*x (i+1)+t*y (i+1)) (q:=s*x i+t*y i) (c:=(g i).Lo) hD (by rw[Int.add_mul];omega)
  have r:=A3f (p:=s*x (i+1)+t*y (i+1)) (q:=s*x i+t*y i) (c:=(g i).Hi) hD (by rw[Int.add_mul];omega)
  (try dsimp only)
  omega
def A3H(l:List Span):List Int:=(List.range l.length).map fun i=>(gt l i).Lo
def B6V(l:List Span):List Int:=(List.range l.length).map fun i=>(gt l i).Hi
def GD(d:Drum)(m:List Mark):List Int×Int:=if O3 d m [] []≠0 then([],O3 d m [] [])else(A3H (GH d m),0)
def It(d:Drum)(m:List Mark):Clk:=⟨Bw d,GH d m⟩
def B5q(l:List Int)(t:Int):Nat→Nat
 |0=>0
 |n+1=>if gt l n≤t then n+1 else B5q l t n
def B3P(l:List Int)(t:Int):Int:=(B5q l t l.length:Int)-1
def atR(d:Drum)(m:List Mark)(t:Int):Span×Int:=
 if O3 d m [] [t]≠0 then(⟨0,0⟩,O3 d m [] [t])else(⟨B3P (B6V (GH d m)) t,B3P (A3H (GH d m)) t⟩,0)
def DA(d:Drum)(c:Int):Span×Int:=if Ar d≠0 then(⟨0,0⟩,Ar d)else if 0≤c∧c≤(d.Rates.length:Int)-1 then(Cn d c.toNat,0)else(⟨0,0⟩,1)
def B0l(d:Drum)(m:List Mark)(i k:Nat):Prop:=He d [gt m i]∧He d [gt m k]∧¬He d [gt m i,gt m k]
instance(d:Drum)(m:List Mark)(i k:Nat):Decidable (B0l d m i k):=by unfold B0l;exact inferInstance
theorem B6T{g a:Nat→Span}{n:Nat}{x y:Nat→Int}(h:Rd g a n x)(he:∀i,i≤n→y i=x i):Rd g a n y:=
 ⟨fun i hi=>by rw[he i hi];exact h.1 i hi,fun i hi=>by rw[he i (by omega),he (i+1) (by omega)];exact h.2 i hi⟩
theorem B5i{d:Drum}{m:List Mark}(h:Ok d m)(ho:He d m){i:Nat}(hi:i≤d.Rates.length):(0≤(MG d m i).Lo∧(MG d m i).Lo≤(MG d m i).Hi)∧(MG d m i).Hi≤400:=by
 have a:=ho i (by omega);have b:=B0t (Cn d) (IG m) hi;have c:=A4B h i;unfold MG;omega
theorem B4g{d:Drum}{m:List Mark}(h:Ok d m)(ho:He d m):CkW (It d m):=by
 refine⟨by show(GH d m).length=(Bw d).length+1;rw[AF,LO],by show(Bw d).length≤199;rw[AF];exact h.dr.1.1.2,fun i hi=>?_,fun i hi=>?_⟩
 ·have a:i<(Bw d).length:=hi
  rw[AF]at a
  show(1≤(gt (Bw d) i).Lo∧_)∧_
  have:gt (It d m).gaps i=Cn d i:=Hk a
  rw[this];rw[Hk a];exact A1K h.dr a
 ·have a:i<(GH d m).length:=hi
  rw[LO]at a
  have:gt (It d m).at_ i=MG d m i:=B1y (by omega)
  rw[this];have:=B5i h ho (i:=i) (by omega);omega
def Z9(G L:List Span)(i:Nat):List Span:=(List.range (G.length+1)).map fun j=>if j≤i then fw (gt G) (gt L) j else gt L j
def Ab(G L:List Span)(i:Nat):List Span:=(List.range (G.length+1)).map fun j=>if G.length-i≤j then st (gt G) (gt L) G.length j else fw (gt G) (gt L) j
theorem OG(G L:List Span)(i:Nat):(Z9 G L i).length=G.length+1:=Fy _ _
theorem OF(G L:List Span)(i:Nat):(Ab G L i).length=G.length+1:=Fy _ _
theorem Nf{G L:List Span}{i j:Nat}(h:j≤G.length):gt (Z9 G L i) j=if j≤i then fw (gt G) (gt L) j else gt L j:=T8 (by omega)
theorem Me{G L:List Span}{i j:Nat}(h:j≤G.length):gt (Ab G L i) j=if G.length-i≤j then st (gt G) (gt L) G.length j else fw (gt G) (gt L) j:=T8 (by omega)
theorem A9N{G L:List Span}(h:L.length=G.length+1):Z9 G L 0=L:=by
 refine(Hj h fun j _=>?_).symm
 split
 ·rename_i hj;obtain rfl:j=0:=by omega
  rfl
 ·rfl
theorem A7C(G L:List Span):Z9 G L G.length=Ab G L 0:=by
 refine Ez fun j a=>?_
 rw[D' (by omega)]
 split
 ·obtain rfl:j=G.length:=by omega
  rw[Dh]
 ·rfl
theorem A8g(c:Clk)(L:List Span):Ab c.gaps L c.gaps.length=Y2 ⟨c.gaps,L⟩:=Ez fun j a=>by rw[D' (by omega)]
theorem A9n{G L:List Span}{i:Nat}(h:i<G.length):
 (Z9 G L i).set (i+1) (EJ (gt (Z9 G L i) (i+1)) ⟨(gt (Z9 G L i) i).Lo+(gt G i).Lo,(gt (Z9 G L i) i).Hi+(gt G i).Hi⟩)=Z9 G L (i+1):=by
 refine Hj (by simp[OG]) fun j f=>?_
 have c:gt (Z9 G L i) (i+1)=gt L (i+1):=by rw[Nf (by omega),A' (by omega)]
 have d:gt (Z9 G L i) i=fw (gt G) (gt L) i:=by rw[Nf (by omega),D' (E' _)]
 rw[Ac _ _ (by rw[OG];omega),c,d]
 by_cases a:i+1=j
 ·subst a;rw[D' rfl,D' (E' _)];rfl
 ·rw[A' a,Nf (by omega)]
  by_cases b:j≤i
  ·rw[D' b,D' (by omega)]
  ·rw[A' b,A' (by omega)]
theorem A8X{G L:List Span}{i q:Nat}(h:i<G.length)(hq:q=G.length-1-i):
 (Ab G L i).set q (EJ (gt (Ab G L i) q) ⟨(gt (Ab G L i) (q+1)).Lo-(gt G q).Hi,(gt (Ab G L i) (q+1)).Hi-(gt G q).Lo⟩)=Ab G L (i+1):=by
 refine Hj (by simp[OF]) fun j f=>?_
 have c:gt (Ab G L i) q=fw (gt G) (gt L) q:=by rw[Me (by omega),A' (by omega)]
 have d:gt (Ab G L i) (q+1)=st (gt G) (gt L) G.length (q+1):=by rw[Me (by omega),D' (by omega)]
 rw[Ac _ _ (by rw[OF];omega),c,d]
 by_cases a:q=j
 ·subst a
  rw[D' rfl,D' (by omega)]
  refine Kf ?_ ?_
  ·rw[Gu (gt G) (gt L) (i:=q) (by omega)];rfl
  ·rw[Gf (gt G) (gt L) (i:=q) (by omega)];rfl
 ·rw[A' a,Me (by omega)]
  by_cases b:G.length-i≤j
  ·rw[D' b,D' (by omega)]
  ·rw[A' b,A' (by omega)]
def Jo(c:Clk)(L:List Span):Prop:=L=c.at_∨(L=Y2 c∧MQ c)
theorem A9K{c:Clk}(h:CkW c){L:List Span}(hi:Jo c L):L.length=c.gaps.length+1:=by
 rcases hi with rfl|⟨rfl,_⟩
 ·exact h.l
 ·exact FL c
theorem CkW.gap{c:Clk}(h:CkW c):Qr (gt c.gaps) c.gaps.length:=fun i hi=>(h.g i hi).1.2
theorem A9g{c:Clk}(h:CkW c){L:List Span}(hi:Jo c L):Y2 ⟨c.gaps,L⟩=Y2 c:=by
 rcases hi with rfl|⟨rfl,_⟩
 ·rfl
 ·unfold Y2
  refine Ez fun j a=>?_
  have d:j<c.gaps.length+1:=a
  dsimp only
  rw[←B5J h.gap (gt c.at_) (i:=j) (by omega)]
  exact RN (fun _ _=>rfl) (fun q b=>Kd b) (by omega)
theorem B2i{c:Clk}(h:CkW c)(ho:MQ c){i:Nat}(hi:i≤c.gaps.length):(0≤(gt (Y2 c) i).Lo∧(gt (Y2 c) i).Lo≤(gt (Y2 c) i).Hi)∧(gt (Y2 c) i).Hi≤400:=by
 have b:=ho i (by omega)
 have d:=B0t (gt c.gaps) (gt c.at_) hi
 have f:=h.a i (by rw[h.l];omega)
 rw[Kd hi];omega
theorem OR{c:Clk}(h:CkW c){L:List Span}(hi:Jo c L){i:Nat}(hl:i≤c.gaps.length):(-400≤(gt L i).Lo∧(gt L i).Lo≤400)∧-400≤(gt L i).Hi∧(gt L i).Hi≤400:=by
 rcases hi with rfl|⟨rfl,ho⟩
 ·have:=h.a i (by rw[h.l];omega);omega
 ·have:=B2i h ho hl;omega
theorem B5j{c:Clk}(h:CkW c):∀i,i<c.gaps.length→(0≤(gt c.gaps i).Lo∧(gt c.gaps i).Lo≤10000)∧0≤(gt c.gaps i).Hi∧(gt c.gaps i).Hi≤10000:=fun i hi=>by have:=h.g i hi;omega
theorem Md{c:Clk}(h:CkW c){L:List Span}(hi:Jo c L){k:Nat}(hk:k≤c.gaps.length):(-400≤(fw (gt c.gaps) (gt L) k).Lo∧(fw (gt c.gaps) (gt L) k).Lo≤3000000)∧-400≤(fw (gt c.gaps) (gt L) k).Hi∧(fw (gt c.gaps) (gt L) k).Hi≤400:=by
 have a:=h.n
 have key:∀k:Nat,k≤c.gaps.length→(-400≤(fw (gt c.gaps) (gt L) k).Lo∧(fw (gt c.gaps) (gt L) k).Lo≤400+10000*(k:Int))∧-400≤(fw (gt c.gaps) (gt L) k).Hi∧(fw (gt c.gaps) (gt L) k).Hi≤400:=by
  intro k
  induction k with
  |zero=>intro _;have:=OR h hi (i:=0) (EF _);simp only[fw];omega
  |succ k ih=>intro hk;have b:=ih (by omega);have d:=OR h hi hk;have f:=B5j h k (by omega);rw[MS,Nx];omega
 have:=key k hk;omega
theorem B5k{c:Clk}(h:CkW c){L:List Span}(hi:Jo c L){k:Nat}(hk:k≤c.gaps.length):(-400≤(st (gt c.gaps) (gt L) c.gaps.length k).Lo∧(st (gt c.gaps) (gt L) c.gaps.length k).Lo≤3000000)∧-3000000≤(st (gt c.gaps) (gt L) c.gaps.length k).Hi∧(st (gt c.gaps) (gt L) c.gaps.length k).Hi≤400:=by
 have a:=h.n
 have key:∀j k:Nat,k+j=c.gaps.length→(-400≤(st (gt c.gaps) (gt L) c.gaps.length k).Lo∧(st (gt c.gaps) (gt L) c.gaps.length k).Lo≤3000000)∧-400-10000*(j:Int)≤(st (gt c.gaps) (gt L) c.gaps.length k).Hi∧(st (gt c.gaps) (gt L) c.gaps.length k).Hi≤400:=by
  intro j
  induction j with
  |zero=>
   intro k hk;obtain rfl:k=c.gaps.length:=by omega
   rw[Dh];have:=Md h hi (E' c.gaps.length);omega
  |succ j ih=>intro k hk;have b:=ih (k+1) (by omega);have d:=Md h hi (k:=k) (by omega);have f:=B5j h k (by omega);rw[Gu (gt c.gaps) (gt L) (by omega),Gf (gt c.gaps) (gt L) (by omega)];omega
 have:=key (c.gaps.length-k) k (by omega);omega
theorem B4A{c:Clk}(h:CkW c){L:List Span}(hi:Jo c L){i j:Nat}(hj:j≤c.gaps.length):(-400≤(gt (Z9 c.gaps L i) j).Lo∧(gt (Z9 c.gaps L i) j).Lo≤3000000)∧-400≤(gt (Z9 c.gaps L i) j).Hi∧(gt (Z9 c.gaps L i) j).Hi≤400:=by
 rw[Nf hj];split
 ·exact Md h hi hj
 ·have:=OR h hi hj;omega
theorem B4E{c:Clk}(h:CkW c){L:List Span}(hi:Jo c L){i j:Nat}(hj:j≤c.gaps.length):(-400≤(gt (Ab c.gaps L i) j).Lo∧(gt (Ab c.gaps L i) j).Lo≤3000000)∧-3000000≤(gt (Ab c.gaps L i) j).Hi∧(gt (Ab c.gaps L i) j).Hi≤400:=by
 rw[Me hj];split
 ·exact B5k h hi hj
 ·have:=Md h hi hj;omega
theorem Jg{c:Clk}:MQ c↔∀i,i<(Y2 c).length→¬(gt (Y2 c) i).Hi<(gt (Y2 c) i).Lo:=by
 unfold MQ RX
 rw[FL]
 exact⟨fun h i hi=>by have:=h i hi;rw[Kd (by omega)];omega,fun h i hi=>by have:=h i hi;rw[Kd (by omega)]at this;omega⟩
def Z7(x z:Span)(n k:Nat):List Span:=List.replicate k x++List.replicate (n-k) z
theorem Rf{x z:Span}{n k:Nat}(h:k≤n):(Z7 x z n k).length=n:=by simp[Z7];omega
theorem A5h(x z:Span){n:Nat}(h:0<n):[x]++(List.replicate n z).drop [x].length=Z7 x z n 1:=by simp[Z7]
theorem A8D{x z:Span}{n k:Nat}:(Z7 x z n k).take k++(Z7 x z n k).take (min k (n-k))++(Z7 x z n k).drop (k+min k (n-k))=Z7 x z n (k+min k (n-k)):=by
 have a:(Z7 x z n k).take k=List.replicate k x:=by unfold Z7;rw[List.take_left' (by simp)]
 have b:(Z7 x z n k).take (min k (n-k))=List.replicate (min k (n-k)) x:=by
  unfold Z7;rw[Ug (by simp;omega),List.take_replicate];congr 1;omega
 have c:(Z7 x z n k).drop (k+min k (n-k))=List.replicate (n-(k+min k (n-k))) z:=by
  unfold Z7;rw[List.drop_append,UE (by simp)];simp;omega
 rw[a,b,c,List.replicate_append_replicate]
 rfl
theorem B2W(x z:Span)(n:Nat):Z7 x z n n=List.replicate n x:=by simp[Z7]
section
def A2Q(c:Clk)(l:List Int)(j:Nat):Prop:=((gt c.at_ j).Lo≤gt l j∧gt l j≤(gt c.at_ j).Hi)∧(0<j→(gt c.gaps (j-1)).Lo≤gt l j-gt l (j-1)∧gt l j-gt l (j-1)≤(gt c.gaps (j-1)).Hi)
instance(c:Clk)(l:List Int)(j:Nat):Decidable (A2Q c l j):=by unfold A2Q;exact inferInstance
def B0u(c:Clk)(l:List Int):Prop:=l.length=c.at_.length∧∀j,j<c.at_.length→A2Q c l j
instance(c:Clk)(l:List Int):Decidable (B0u c l):=by unfold B0u;exact inferInstance
theorem Gq{d:Drum}{m:List Mark}{cs ts:List Int}(h:O3 d m cs ts≠0):Nt d m cs ts=⟨[],[]⟩:=by rw[Nt,A' h]
theorem QD{d:Drum}{m:List Mark}{cs ts:List Int}(h:O3 d m cs ts=0):Nt d m cs ts=It d m:=by rw[Nt,D' h];rfl
def Pu(c:Clk)(X:Nat→Span):List Int:=(List.range (c.gaps.length+1)).map fun j=>(X j).Hi
def B5u(c:Clk)(i k a b:Nat):Int:=if(a<i∨(a=i∧b<k))∧b<c.gaps.length+1 then mos (gt c.gaps) (gt c.at_) c.gaps.length a b else 0
def Tab(L:List Int)(f:Nat→Nat→Int):Prop:=L.length=40401∧∀a b,a<201→b<201→gt L (a*201+b)=f a b
def B4L(c:Clk):List Int:=(List.range 40401).map fun q=>B5u c (c.gaps.length+1) 0 (q/201) (q%201)
theorem Tab.eq{c:Clk}{L:List Int}(h:Tab L (B5u c (c.gaps.length+1) 0)):L=B4L c:=by
 refine Hj h.1 fun q a=>?_
 have:=h.2 (q/201) (q%201) (by omega) (by omega)
 rwa [show q/201*201+q%201=q by omega]at this
attribute [irreducible] B4L
end
theorem B3H(d:Drum)(m:List Mark):(It d m).gaps.length=d.Rates.length:=AF d
theorem B4q(d:Drum)(m:List Mark):(It d m).at_.length=d.Rates.length+1:=LO d m
theorem Lm{d:Drum}{c:Int}(h:Ar d≠0):DA d c=(⟨0,0⟩,Ar d):=by rw[DA,D' h]
theorem Lh{d:Drum}{c:Int}(h:Ar d=0)(h1:¬(0≤c∧c≤(d.Rates.length:Int)-1)):DA d c=(⟨0,0⟩,1):=by rw[DA,A' (by omega),A' h1]
theorem Oy{d:Drum}{c:Int}(h:Ar d=0)(h1:0≤c∧c≤(d.Rates.length:Int)-1):DA d c=(gt (Bw d) c.toNat,0):=by rw[DA,A' (by omega),D' h1,Hk (by omega)]
theorem HW{d:Drum}{m:List Mark}(h:O3 d m [] []≠0):GD d m=([],O3 d m [] []):=by rw[GD,D' h]
theorem JW{d:Drum}{m:List Mark}(h:O3 d m [] []=0):GD d m=(A3H (It d m).at_,0):=by rw[GD,A' (by omega)];rfl
theorem len1{α:Type}{l:List α}(h:l.length=1):∃x,l=[x]:=List.length_eq_one_iff.1 h
theorem B5l:Rb [⟨0,2⟩,⟨5,5⟩] [⟨2,4⟩]=[⟨0,5⟩]:=by decide+kernel
theorem B2p:QZ [⟨0,2⟩,⟨5,5⟩] [⟨2,4⟩]=0:=by decide+kernel
theorem B3D:Ob ⟨1,⟨0,0⟩,9⟩ 5 [5,7,4]=[5,6,5]:=by decide+kernel
theorem B1X:Dt ⟨1,⟨0,0⟩,9⟩ 5 [5,7,4]=0:=by decide+kernel
theorem B3X:(GD ⟨[⟨2,3⟩],[]⟩ [⟨1,⟨5,5⟩⟩]).1=[2,5]:=by decide+kernel
theorem B3i:(GD ⟨[⟨2,3⟩],[]⟩ [⟨1,⟨5,5⟩⟩]).2=0:=by decide+kernel
def B5v(i:Nat)(x:Value×Nat×List Value):Prop:=(i=0∧x=(.slice none 0 0,0,[]))∨(i=1∧x.2.1=1∧Bk x.2.2∧x.1.oneCell'=true)
theorem A6l:B5v 0 (.slice none 0 0,0,[]):=.inl ⟨rfl,rfl⟩
theorem B3Q{ys:List Value}{k:Nat}(hk:k=0):∀j u,ys[j]?=some u→ys[k*64+j]?=some u:=fun j u h=>by subst hk;simpa using h
def IP(l:List Moment)(n:Nat):List Int:=D2 n (fun i=>(gt l i).Shown)
def Qu(l:List Moment)(n:Nat):List Int:=D2 n (fun i=>(gt l i).Real)
def B6Y(p:Pen)(l:List Moment):Int:=
 if A1h p (IP l l.length)≠0 then A1h p (IP l l.length)
 else if O2 (Qu l l.length)≠0 then O2 (Qu l l.length)
 else if Dt p (gt (IP l l.length) 0) (Qu l l.length)≠0∨Ob p (gt (IP l l.length) 0) (Qu l l.length)≠IP l l.length then 31 else 0
def P8(l:List ReadT)(st:Int):Nat→List ReadT
 |0=>[]
 |k+1=>if(gt l k).Station=st then P8 l st k++[gt l k]else P8 l st k
theorem Nl{l:List ReadT}{st:Int}{k:Nat}(h:(gt l k).Station=st):P8 l st k++[gt l k]=P8 l st (k+1):=(D' h).symm
theorem Qb{l:List ReadT}{st:Int}{k:Nat}(h:¬(gt l k).Station=st):P8 l st k=P8 l st (k+1):=(A' h).symm
theorem Da{l:List ReadT}{st:Int}:∀k,(P8 l st k).length≤k
 |0=>E' _
 |k+1=>by have:=Da (l:=l) (st:=st) k;rw[P8];split <;> simp <;> omega
def Af(d:Drum)(n:Nat):List Span:=D2 n (fun i=>(DA d (i:Int)).1)
def GF(p:Pen)(n:Nat):List Int:=D2 n (fun i=>p.Zero.Lo+(i:Int))
def AQ(p:Pen):Nat:=(p.Zero.Hi-p.Zero.Lo+1).toNat
def JF(w:WeekT)(f:FiledT)(st:Int)(ix:RawV):Chart:=⟨f.Sheet,f.Marks,P8 w.Reads st w.Reads.length,w.Base.Ticks,EO f.Sheet.Paper f.Sheet.Trace f.Sheet.Blots,Af f.Sheet.Drum f.Sheet.Drum.Rates.length,[],ix,GF f.Sheet.Pen (AQ f.Sheet.Pen)⟩
def B6R(x:Course)(n:Nat):List Moment:=D2 n (fun t=>⟨gt x.Shown t,gt x.Levels t-x.Zero⟩)
def A9T(c:Chart)(x:Course):Prop:=(c.Sheet.Pen.Zero.Lo≤x.Zero∧x.Zero≤c.Sheet.Pen.Zero.Hi)∧(∀i,i<x.Ticks.length→0≤gt x.Ticks i∧gt x.Ticks i≤c.ticks)∧B0E c.Sheet.Drum c.marks x.Ticks=0
instance(c:Chart)(x:Course):Decidable (A9T c x):=by unfold A9T;exact inferInstance
def A7U(x:Course)(t:Nat):Prop:=(0≤gt x.Shown t∧gt x.Shown t≤12000)∧(0≤gt x.Levels t∧gt x.Levels t≤12000)
instance(x:Course)(t:Nat):Decidable (A7U x t):=by unfold A7U;exact inferInstance
def A7e(c:Chart)(x:Course)(i:Nat):Prop:=0<(gt c.ink i).length→inP (gt c.ink i) (gt x.Shown (gt x.Ticks i).toNat)
instance(c:Chart)(x:Course)(i:Nat):Decidable (A7e c x i):=by unfold A7e;exact inferInstance
def A3b(x:Course)(r:ReadT):Prop:=r.Levels.Lo≤gt x.Levels r.Tick.toNat∧gt x.Levels r.Tick.toNat≤r.Levels.Hi
instance(x:Course)(r:ReadT):Decidable (A3b x r):=by unfold A3b;exact inferInstance
def QL(c:Chart)(x:Course):Prop:=A9T c x∧((x.Shown.length:Int)=c.ticks+1∧(x.Levels.length:Int)=c.ticks+1)∧(∀t,t<x.Shown.length→A7U x t)∧(∀i,i<x.Ticks.length→A7e c x i)∧(∀i,i<c.reads.length→A3b x (gt c.reads i))∧B6Y c.Sheet.Pen (B6R x x.Shown.length)=0
instance(c:Chart)(x:Course):Decidable (QL c x):=by unfold QL;exact inferInstance
structure ChOk(c:Chart):Prop where
 pen:M9 c.Sheet.Pen
 ticks:0≤c.ticks∧c.ticks≤400
 ink:c.ink.length=c.Sheet.Drum.Rates.length+1
 reads:∀i,i<c.reads.length→0≤(gt c.reads i).Tick∧(gt c.reads i).Tick≤c.ticks
theorem B5w{n:Nat}{p:Nat→Prop}[∀i,Decidable (p i)](h:¬¬∀i,i<n→¬¬p i):∀i,i<n→p i:=fun i hi=>Classical.not_not.1 (Classical.not_not.1 h i hi)
theorem B4Q{n:Nat}{p:Nat→Prop}(h:¬∀i,i<n→¬¬p i)(h1:∀i,i<n→p i):False:=h fun i hi a=>a (h1 i hi)
end Go.Proofs.T10
namespace Go.Proofs.S10
open Go Go.Kx Go.Proofs.T10
def DF(w:Wind):Int:=if(0≤w.Fixed∧w.Fixed≤12000)∧(0≤w.Each∧w.Each≤10000)then 0 else 1
def BQ(l:List Height)(i:Nat):Prop:=
 (i=0→(gt l i).Week=0)∧(0<i→(gt l (i-1)).Week<(gt l i).Week)∧(gt l i).Week≤10000∧0≤(gt l i).Metres.Lo∧(gt l i).Metres.Lo≤(gt l i).Metres.Hi∧(gt l i).Metres.Hi≤4000
instance(l:List Height)(i:Nat):Decidable (BQ l i):=by unfold BQ;exact inferInstance
def CA(l:List Height):Prop:=(1≤l.length∧l.length≤16)∧∀i,i<l.length→BQ l i
instance(l:List Height):Decidable (CA l):=by unfold CA;exact inferInstance
def N1(s:Station):Prop:=(1≤s.ID∧s.ID≤65535)∧(0≤s.X∧s.X≤2000)∧(0≤s.Y∧s.Y≤2000)
instance(s:Station):Decidable (N1 s):=by unfold N1;exact inferInstance
def U8(l:List Station)(i:Nat):Int:=
 if¬N1 (gt l i)∨(0<i∧(gt l i).ID≤(gt l (i-1)).ID)then 50 else if¬CA (gt l i).Heights then 51 else 0
def Ay(l:List Station):Nat→Nat→Int×Int
 |0,_=>(0,0)
 |n+1,i=>if U8 l i≠0 then(U8 l i,i)else Ay l n (i+1)
def K3(l:List Station):Int×Int:=if 32<l.length then(2,0)else Ay l l.length 0
theorem DO(l:List Station):∀(k n i:Nat),(∀j,i≤j→j<i+k→U8 l j=0)→Ay l (n+k) i=Ay l n (i+k)
 |0,n,i,_=>rfl
 |k+1,n,i,h=>by
  rw[show n+(k+1)=(n+k)+1 by omega,Ay,A' (by simp[h i (E' _) (by omega)])]
  rw[DO l k n (i+1) (fun j h1 h2=>h j (by omega) (by omega)),show i+1+k=i+(k+1) by omega]
theorem Fa{l:List Station}{k:Nat}(h32:¬32<l.length)(hk:k<l.length)(h:∀j,j<k→U8 l j=0)(hb:U8 l k≠0):K3 l=(U8 l k,(k:Int)):=by
 rw[K3,A' h32,show l.length=(l.length-k)+k by omega,DO l k _ 0 (fun j _ a=>h j (by omega))]
 rw[show l.length-k=(l.length-k-1)+1 by omega,Ay,D' (by simpa using hb)]
 simp
theorem A5G{l:List Station}(h32:¬32<l.length)(h:∀j,j<l.length→U8 l j=0):K3 l=(0,0):=by
 rw[K3,A' h32]
 have:=DO l l.length 0 0 (fun j _ a=>h j (by omega))
 simpa[Ay]using this
theorem A4a{l:List Station}(h32:32<l.length):K3 l=(2,0):=by rw[K3,D' h32]
def Ln:Nat→Nat
 |0=>0
 |n+1=>if n+1≤Ln n*Ln n then Ln n else Ln n+1
def Nz(a b:Station):Int:=(a.X-b.X)*(a.X-b.X)+(a.Y-b.Y)*(a.Y-b.Y)
def JY(a b:Station):Int:=Ln (Nz a b).toNat
def IX(w:Wind)(a b:Station):Int:=if a.ID=b.ID then 0 else w.Fixed+w.Each*JY a b/100
def CU(s:Station):Int:=(K3 [s]).1
def Er:List Station→Int
 | []=>0
 |s::l=>if CU s≠0 then CU s else Er l
theorem Mh:∀{l:List Station} {k:Nat},k<l.length→(∀j,j<k→CU (gt l j)=0)→CU (gt l k)≠0→Er l=CU (gt l k)
 |s::l,0,_,_,hb=>by rw[Er,D' (by simpa[gt]using hb)];simp[gt]
 |s::l,k+1,hk,h,hb=>by
  have h0:CU s=0:=by simpa[gt]using h 0 (by omega)
  rw[Er,A' (by simp[h0])]
  have a:∀j,gt (s::l) (j+1)=gt l j:=fun j=>by simp[gt]
  rw[a]at hb⊢
  exact Mh (by simpa using hk) (fun j b=>by have:=h (j+1) (by omega);rwa [a]at this) hb
theorem Ph:∀{l:List Station},(∀j,j<l.length→CU (gt l j)=0)→Er l=0
 | [],_=>rfl
 |s::l,h=>by
  have h0:CU s=0:=by simpa[gt]using h 0 (by simp)
  rw[Er,A' (by simp[h0])]
  exact Ph fun j a=>by have:=h (j+1) (by simp;omega);simpa[gt]using this
theorem HK{l:List Station}{i:Nat}(h:U8 l i=0):N1 (gt l i)∧(0<i→(gt l (i-1)).ID<(gt l i).ID)∧CA (gt l i).Heights:=by
 unfold U8 at h
 split at h
 ·cases h
 ·rename_i h1
  split at h
  ·cases h
  ·rename_i h2
   refine⟨?_,?_,Su h2⟩
   ·exact Su fun b=>h1 (.inl b)
   ·intro hi;exact Int.lt_of_not_ge fun a=>h1 (.inr ⟨hi,a⟩)
theorem Hb(l:List Station):∀(n i:Nat),(Ay l n i).1=0→∀j,i≤j→j<i+n→U8 l j=0
 |0,i,_,j,h1,h2=>by omega
 |n+1,i,h,j,h1,h2=>by
  rw[Ay]at h
  split at h
  ·rename_i hb;simp at h;exact absurd h hb
  ·rename_i hb
   by_cases e:j=i
   ·subst e;exact Su hb
   ·exact Hb l n (i+1) h j (by omega) (by omega)
theorem Ef{l:List Station}(h:(K3 l).1=0):l.length≤32∧∀j,j<l.length→U8 l j=0:=by
 unfold K3 at h
 split at h
 ·cases h
 ·exact⟨by omega,fun j a=>Hb l l.length 0 h j (EF _) (by omega)⟩
theorem A5q{s:Station}(h:CU s=0):N1 s∧CA s.Heights:=by
 have:=HK ((Ef h).2 0 (by simp))
 simpa[gt]using⟨this.1,this.2.2⟩
theorem MI{w:Wind}(h:DF w=0):(0≤w.Fixed∧w.Fixed≤12000)∧(0≤w.Each∧w.Each≤10000):=by
 unfold DF at h;split at h
 ·assumption
 ·cases h
theorem B1a(n:Nat):Ln n≤n:=by
 induction n with
 |zero=>exact E' _
 |succ n ih=>unfold Ln;split <;> omega
theorem NI{x y A C:Int}(h1:0≤x)(h2:x≤A)(h3:0≤y)(h4:y≤C):0≤x*y∧x*y≤A*C:=
 ⟨Int.mul_nonneg h1 h3,Int.mul_le_mul h2 h4 h3 (TX h1 h2)⟩
theorem B0q{x:Int}(h1: -2000≤x)(h2:x≤2000):0≤x*x∧x*x≤4000000:=by
 rcases Int.le_total 0 x with h|h
 ·have:=NI h h2 h h2;omega
 ·have:=NI (x:= -x) (y:= -x) (by omega) (show-x≤2000 by omega) (by omega) (show-x≤2000 by omega)
  rw[Int.neg_mul_neg]at this;omega
theorem A8F{a b:Station}(ha:N1 a)(hb:N1 b):0≤Nz a b∧Nz a b≤8000000:=by
 obtain⟨_,c,d⟩:=ha
 obtain⟨_,f,g⟩:=hb
 have:=B0q (x:=a.X-b.X) (by omega) (by omega)
 have:=B0q (x:=a.Y-b.Y) (by omega) (by omega)
 unfold Nz;omega
theorem A9H{a b:Station}(ha:N1 a)(hb:N1 b):0≤JY a b∧JY a b≤8000000:=by
 have:=A8F ha hb
 have:=B1a (Nz a b).toNat
 unfold JY;omega
theorem B2Q{w:Wind}{a b:Station}(hw:DF w=0)(ha:N1 a)(hb:N1 b):0≤w.Each*JY a b∧w.Each*JY a b≤80000000000:=by
 have c:=MI hw
 have d:=A9H ha hb
 have:=NI c.2.1 c.2.2 d.1 d.2;omega
def A3x(level height:Int):Int:=level+level*height/8000
def B0w(level:Int)(h:Span):Span:=⟨A3x level h.Lo,A3x level h.Hi⟩
theorem A1X{l h:Int}(h1:0≤l∧l≤12001)(h2:0≤h∧h≤4000):0≤l*h∧l*h≤48004000:=by
 have:=NI h1.1 h1.2 h2.1 h2.2;omega
def GZ(s:Span):Prop:=(0≤s.Lo∧s.Lo≤s.Hi)∧s.Hi≤4000
instance(s:Span):Decidable (GZ s):=by unfold GZ;exact inferInstance
def B0y(l:List Station):Prop:=(l.length≤10∨32<l.length∧l.length≤60)∧∀i,i<l.length→(gt l i).Heights.length≤40
instance(l:List Station):Decidable (B0y l):=by unfold B0y;exact inferInstance
end Go.Proofs.S10
