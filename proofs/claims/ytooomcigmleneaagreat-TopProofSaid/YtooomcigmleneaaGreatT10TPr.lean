import Derived.Test.YtooomcigmleneaaGreatT10Trk
set_option linter.all false
namespace Go.Proofs.T10
open Go Go.Kx
def Nn(s:Span)(may l:List Span):Prop:=∀x,s.Lo≤x→x≤s.Hi→I3 may x→I3 l x
def B7r(s c:Span):Span:=⟨s.Lo+c.Lo,s.Hi+c.Hi⟩
structure NothP(t:H8)(S:List (List (List Span))):Prop where
 len:0<t.length∧S.length=t.length
 row:∀k,k<t.length→(gt S k).length=(gt t k).length
 first:∀n,n<(gt t 0).length→∀i,i<(Py t 0 n).length→Nn (gt (Py t 0 n) i) (Py t 0 n) (gt (gt S 0) n)
 last:∀n,n<(gt t (t.length-1)).length→(gt (gt S (t.length-1)) n).length=0
 step:∀k,k+1<t.length→∀n,n<(gt t k).length→∀i,i<(gt (gt t k) n).Next.length→(0≤(gt (gt (gt t k) n).Next i).To∧(gt (gt (gt t k) n).Next i).To<(gt t (k+1)).length)∧
  ∀q,q<(gt (gt S k) n).length→Nn (B7r (gt (gt (gt S k) n) q) (gt (gt (gt t k) n).Next i).Change) (Py t (k+1) (gt (gt (gt t k) n).Next i).To.toNat) (gt (gt S (k+1)) (gt (gt (gt t k) n).Next i).To.toNat)
 sets:∀k,k<t.length→AM (gt S k)
 trk:O1 t
def Ba(t:H8):List (List (List Span)):=D2 t.length (Q0 t)
theorem B2a{t:H8}(h:O1 t)(hn:¬R6 t):NothP t (Ba t):=by
 have s:=h.1.1.1
 have e:∀k,k<t.length→gt (Ba t) k=Q0 t k:=fun k a=>N7 _ a
 refine⟨⟨s,B5 _ _⟩,fun k a=>by rw[e k a];exact(W7 h a).2,fun n hn i hi x g d f=>?_,fun n b=>?_,fun k a n b i hi=>?_,fun k a=>by rw[e k a];exact(W7 h a).1,h⟩
 ·rw[e 0 (by omega)]
  exact(LQ hn x).2 f
 ·rw[e _ (by omega)]
  have l:=W7 h (k:=t.length-1) (by omega)
  exact Nat.eq_zero_of_not_pos fun p=>hn ⟨n,by rw[l.2];exact b,p⟩
 ·have g:=(h.1.2 k (by omega)).2 n b
  rw[Is a]at g
  have d:=g.2.2 i hi
  refine⟨d.1,fun q m x f o r=>?_⟩
  rw[e k (by omega)]at m f o
  rw[e (k+1) a]
  have c:(⟨n,(gt (gt (gt t k) n).Next i).To.toNat,(gt (gt (gt t k) n).Next i).Change⟩:TStp)∈H9 (gt t k):=A0h.2 ⟨n,i,b,hi,rfl⟩
  have l:=(W7 h (k:=k) (by omega)).1 n (by rw[(W7 h (k:=k) (by omega)).2];exact b)
  have u:I3 (Aj (gt (Q0 t k) n) (gt (gt (gt t k) n).Next i).Change) x:=⟨_,Sh.2 ⟨_,M0 m,rfl⟩,f,o⟩
  obtain⟨y,v,w⟩:=(LA (Z3 l.1) d.2.2.1 x).1 u
  exact(FW h a (by have:=d.1;omega) x).2 ⟨r,_,c,rfl,y,v,w⟩
def Ht(t:H8):List (List (List Span)):=(D2 t.length (FQ t)).reverse
theorem KV(t:H8):(Ht t).length=t.length:=by unfold Ht;rw[TV,B5]
theorem A1j{t:H8}{k:Nat}(hk:k<t.length):gt (Ht t) k=FQ t (t.length-1-k):=by
 unfold Ht
 simp only[gt,List.getD]
 rw[Ux (by rw[B5];exact hk),B5]
 simp[D2,show t.length-1-k<t.length by omega]
def A2R(t:H8)(k n:Nat):List Span:=F5 (gt (Q0 t k) n) (gt (FQ t (t.length-1-k)) n)
def V6(t:H8)(k:Nat):List (List Span):=D2 (Q0 t k).length (A2R t k)
def FX(t:H8):List (List (List Span)):=D2 t.length (V6 t)
def Ho(t:H8)(k n:Nat):List (List Span):=D2 n (A2R t k)++(Q0 t k).drop n
def alF(t:H8)(k n q:Nat):List (List Span):=if q<k then V6 t q else if q=k then Ho t k n else Q0 t q
def Hf(t:H8)(k n:Nat):List (List (List Span)):=D2 t.length (alF t k n)
theorem A9d{α:Type}{n k:Nat}{f:Nat→α}{x:α}:(D2 n f).set k x=D2 n (fun q=>if q=k then x else f q):=by
 apply SG
 intro j
 rw[SR]
 unfold D2
 by_cases b:j<n
 ·by_cases a:k=j
  ·subst a;simp[b]
  ·simp[b,a,show¬j=k from fun h=>a h.symm]
 ·by_cases a:k=j
  ·subst a;simp[b]
  ·simp[b,a]
theorem Ni{α:Type}{n:Nat}{f g:Nat→α}(h:∀i,i<n→f i=g i):D2 n f=D2 n g:=by
 unfold D2;exact List.map_congr_left fun i hi=>h i (SS.1 hi)
theorem JQ{t:H8}{k n:Nat}(h:n≤(Q0 t k).length):(Ho t k n).length=(Q0 t k).length:=by
 unfold Ho;rw[F',B5,SE];omega
theorem B3m{t:H8}{k n:Nat}:gt (Ho t k n) n=gt (Q0 t k) n:=by
 unfold Ho
 simp only[gt,List.getD]
 rw[SL (by rw[B5];exact E' _),B5,SY,Tl,TB]
theorem B1b{t:H8}{k n:Nat}(h:n<(Q0 t k).length):(Ho t k n).set n (A2R t k n)=Ho t k (n+1):=by
 unfold Ho
 rw[O9,Tt h,UI _ _ (by rw[B5];exact E' _),B5,SY,List.set_cons_zero,Se]
 rfl
theorem A1I(t:H8)(k n:Nat):(Hf t k n).length=t.length:=B5 _ _
theorem A4R{t:H8}{k n:Nat}(hk:k<t.length):gt (Hf t k n) k=Ho t k n:=by
 unfold Hf;rw[N7 _ hk,alF,A' (Tb _),D' rfl]
theorem B1E{t:H8}{k n:Nat}:(Hf t k n).set k (Ho t k (n+1))=Hf t k (n+1):=by
 unfold Hf
 rw[A9d]
 refine Ni fun q _=>?_
 unfold alF
 by_cases a:q=k
 ·subst a;rw[D' rfl,A' (Tb _),D' rfl]
 ·rw[A' a]
  split
  ·rfl
  ·rfl
theorem A7Y(t:H8):Ba t=Hf t 0 0:=Ni fun q _=>by
 unfold alF
 rw[A' (R' _)]
 split
 ·rename_i h;subst h;rfl
 ·rfl
theorem A7S{t:H8}{k:Nat}:Hf t k (Q0 t k).length=Hf t (k+1) 0:=Ni fun q _=>by
 unfold alF
 by_cases a:q<k
 ·rw[D' a,D' (by omega)]
 ·rw[A' a]
  by_cases b:q=k
  ·subst b;rw[D' rfl,D' (Nat.lt_succ_self _)];unfold Ho V6;rw[SV (E' _),SO]
  ·rw[A' b,A' (by omega)]
   split
   ·rename_i h3;subst h3;rfl
   ·rfl
theorem B3c(t:H8):Hf t t.length 0=FX t:=Ni fun q a=>by unfold alF;rw[D' a]
theorem BP(t:H8):(Ba t).length=t.length:=B5 _ _
theorem A2n{t:H8}{k:Nat}(hk:k<t.length):gt (Ba t) k=Q0 t k:=N7 _ hk
theorem If(t:H8):(FX t).length=t.length:=B5 _ _
theorem NN{t:H8}{k:Nat}(hk:k<t.length):gt (FX t) k=V6 t k:=N7 _ hk
theorem A4J{t:H8}(h:O1 t):(Ba t).length≤C7∧∀L∈Ba t,L.length≤C7:=by
 have b:=h.1.1.2
 refine⟨by rw[BP];unfold C7;omega,fun L a=>?_⟩
 obtain⟨i,hi,rfl⟩:=Z6 a
 rw[BP]at hi
 rw[A2n hi,(W7 h hi).2]
 have:=(h.1.2 i hi).1.2
 unfold C7;omega
theorem A6K{t:H8}(h:O1 t):∀L∈D2 t.length (FQ t),L.length≤C7:=fun L a=>by
 obtain⟨i,hi,rfl⟩:=Z6 a
 rw[B5]at hi
 rw[N7 _ hi,(Ib h hi).2]
 have:=(h.1.2 (t.length-1-i) (by omega)).1.2
 unfold C7;omega
theorem A5R{t:H8}(h:O1 t):∀L∈FX t,L.length≤C7:=fun L a=>by
 obtain⟨i,hi,rfl⟩:=Z6 a
 rw[If]at hi
 rw[NN hi]
 unfold V6
 rw[B5,(W7 h hi).2]
 have:=(h.1.2 i hi).1.2
 unfold C7;omega
def GL(t:H8):Int:=if R6 t then 3 else 0
def HT(t:H8):List (List (List Span)):=if R6 t then[]else Ba t
theorem A7q{L:List (List Span)}:(¬∀i,i<L.length→¬0<((gt L i).length:Int))↔∃n,n<L.length∧0<(gt L n).length:=
 ⟨fun h=>Sj fun a=>h fun i hi b=>a ⟨i,hi,by omega⟩,fun⟨n,c,b⟩ h=>h n c (by omega)⟩
theorem Qc{t:H8}(h:0<t.length):(¬∀i,i<(gt (Ba t) (t.length-1)).length→¬0<((gt (gt (Ba t) (t.length-1)) i).length:Int))↔R6 t:=by
 rw[A7q,A2n (by omega)];exact Iff.rfl
theorem EX{t:H8}(h:0<t.length):(¬∀i,i<(gt (Ba t) ((Ba t).length-1)).length→¬0<((gt (gt (Ba t) ((Ba t).length-1)) i).length:Int))↔R6 t:=by
 rw[BP];exact Qc h
def X9(g:List Span)(ticks col:Int):Int:=if col= -1 then 1 else if col=g.length then 2 else min (gt g col.toNat).Hi ticks
def Ei(g:List Span):Prop:=g.length≤199∧∀i,i<g.length→1≤(gt g i).Lo∧(gt g i).Lo≤(gt g i).Hi∧(gt g i).Hi≤100000
theorem Ij{g:List Span}{ticks:Int}(hg:Ei g)(ht:1≤ticks∧ticks≤400){col:Int}(hc: -1≤col∧col≤g.length):1≤X9 g ticks col∧X9 g ticks col≤400:=by
 unfold X9
 split
 ·omega
 ·split
  ·omega
  ·have:=hg.2 col.toNat (by omega);omega
def IE(col ago band:Int)(j:Nat):List StateT:=D2 j (fun i=>⟨col,ago,(i:Int)-band⟩)
def V3(band:Int):Nat:=(2*band+1).toNat
def Dd(col band:Int):Nat→List StateT
 |0=>[]
 |a+1=>Dd col band a++IE col a band (V3 band)
def X2(g:List Span)(ticks band:Int):Nat→List StateT
 |0=>[]
 |k+1=>X2 g ticks band k++Dd ((k:Int)-1) band (X9 g ticks ((k:Int)-1)).toNat
def DT(g:List Span)(ticks:Int):Nat→Int
 |0=>0
 |k+1=>DT g ticks k+X9 g ticks ((k:Int)-1)
def Ej(g:List Span)(ticks band:Int):List StateT:=X2 g ticks band (g.length+2)
def NG(g:List Span)(ticks band:Int):Int:=DT g ticks (g.length+2)*(2*band+1)
theorem NW(col ago band:Int)(j:Nat):(IE col ago band j).length=j:=B5 _ _
theorem Of(col band:Int):∀a,(Dd col band a).length=a*V3 band
 |0=>by rw[SU];rfl
 |a+1=>by rw[Dd,F',Of col band a,NW,TH]
theorem Hn{g:List Span}{ticks band:Int}(hg:Ei g)(ht:1≤ticks∧ticks≤400)(hb:0≤band):∀k,k≤g.length+2→((X2 g ticks band k).length:Int)=DT g ticks k*(2*band+1)∧0≤DT g ticks k∧DT g ticks k≤k*400
 |0,_=>by rw[X2,DT];simp
 |k+1,hk=>by
  have ih:=Hn hg ht hb k (by omega)
  have c:=Ij hg ht (col:=(k:Int)-1) (by omega)
  have a:((X9 g ticks ((k:Int)-1)).toNat:Int)=X9 g ticks ((k:Int)-1):=Int.toNat_of_nonneg (by omega)
  have b:((V3 band:Nat):Int)=2*band+1:=Int.toNat_of_nonneg (by omega)
  rw[X2,DT,F',Of,Int.natCast_add,ih.1,Int.natCast_mul,a,b,Int.add_mul]
  exact⟨rfl,by omega,by push_cast;omega⟩
theorem A7j{g:List Span}{ticks band:Int}(k:Nat):(X2 g ticks band k).length≤(X2 g ticks band (k+1)).length:=by rw[X2,F'];omega
theorem B4H{g:List Span}{ticks band:Int}{k n:Nat}(h:k≤n):(X2 g ticks band k).length≤(X2 g ticks band n).length:=by
 induction h with
 |refl=>exact E' _
 |step _ ih=>exact Sz ih (A7j _)
theorem A5B{g:List Span}{ticks band:Int}(hg:Ei g)(ht:1≤ticks∧ticks≤400)(hb:0≤band)(hm:NG g ticks band≤4000):1≤(Ej g ticks band).length∧(Ej g ticks band).length≤4000:=by
 have c:=(Hn hg ht hb (g.length+2) (E' _)).1
 unfold NG at hm
 refine⟨?_,by unfold Ej;omega⟩
 have d:(X2 g ticks band 1).length≤(Ej g ticks band).length:=B4H (by omega)
 have a:=(Hn hg ht hb 1 (by omega)).1
 have b:DT g ticks 1=1:=by rw[DT,DT];rfl
 rw[b]at a
 omega
def LK(g:List Span)(ticks band:Int)(s:StateT):Prop:=(-1≤s.column∧s.column≤g.length)∧(0≤s.ago∧s.ago<X9 g ticks s.column)∧(-band≤s.offset∧s.offset≤band)
theorem A2e{col band:Int}(hb:0≤band){s:StateT}:∀{a:Nat},s∈Dd col band a→s.column=col∧(0≤s.ago∧s.ago<a)∧(-band≤s.offset∧s.offset≤band)
 |0,h=>by cases h
 |a+1,h=>by
  rcases Sa.1 h with h|h
  ·have:=A2e hb h;exact⟨this.1,by omega,this.2.2⟩
  ·unfold IE D2 at h
   obtain⟨j,b,rfl⟩:=Sh.1 h
   have:=SS.1 b
   unfold V3 at this
   exact⟨rfl,by dsimp only;omega,by dsimp only;omega⟩
theorem A2g{g:List Span}{ticks band:Int}(hb:0≤band){s:StateT}:∀{k:Nat},k≤g.length+2→s∈X2 g ticks band k→LK g ticks band s
 |0,_,h=>by cases h
 |k+1,hk,h=>by
  rcases Sa.1 h with h|h
  ·exact A2g hb (by omega) h
  ·have h1:=A2e hb h
   refine⟨by omega,?_,h1.2.2⟩
   rw[h1.1];omega
theorem A9r{g:List Span}{ticks band:Int}(hb:0≤band){i:Nat}(hi:i<(Ej g ticks band).length):LK g ticks band (gt (Ej g ticks band) i):=A2g hb (E' _) (M0 hi)
def IL(L:List StateT)(s:StateT):Nat→Int
 |0=>0
 |n+1=>if gt L n=s then n else IL L s n
theorem A6r(L:List StateT)(s:StateT):∀n,0≤IL L s n∧(IL L s n<n∨IL L s n=0)
 |0=>⟨Si _,.inr rfl⟩
 |n+1=>by
  have:=A6r L s n
  rw[IL];split <;> omega
def AL(L:List StateT)(s:StateT):Int:=IL L s L.length
theorem B4R{L:List StateT}(h:0<L.length)(s:StateT):0≤AL L s∧AL L s<L.length:=by
 have:=A6r L s L.length;unfold AL;omega
theorem A1P(L:List StateT)(s q:StateT):∀n,n≤L.length→IL (L++[s]) q n=IL L q n
 |0,_=>rfl
 |n+1,h=>by
  rw[IL,IL,A1P L s q n (by omega),HI _ _ _ (by simp;omega),D' (show n<L.length by omega)]
theorem A8S(L:List StateT)(s q:StateT):(if q=s then J (L.length:Int)else J (AL L q))=J (AL (L++[s]) q):=by
 unfold AL
 rw[F',List.length_singleton,IL,A1P L s q _ (E' _),HI _ _ _ (by simp),A' (Tb _)]
 by_cases h:q=s
 ·rw[D' h,D' h.symm]
 ·rw[A' h,A' (fun a=>h a.symm)]
theorem A8K(col ago band:Int)(j:Nat):IE col ago band (j+1)=IE col ago band j++[⟨col,ago,(j:Int)-band⟩]:=O9 _ _
theorem Hy{band:Int}(h:band≤8):V3 band≤17:=by unfold V3;omega
theorem BT{band z:Int}{j:Nat}(hz:z=(j:Int)-band)(h:z≤band):j+1≤V3 band:=by unfold V3;omega
theorem PR{band z:Int}{j:Nat}(hz:z=(j:Int)-band)(h:¬z≤band)(hj:j≤V3 band)(hb:0≤band):j=V3 band:=by unfold V3 at *; omega
theorem B4V{col band:Int}{a:Nat}(hb:band≤8)(ha:a≤400):(Dd col band a).length≤6800:=by
 rw[Of]
 have:=Nat.mul_le_mul ha (Hy hb);omega
theorem A5w{g:List Span}{ticks band:Int}(hg:Ei g)(ht:1≤ticks∧ticks≤400)(hb:0≤band∧band≤8){k:Nat}(hk:k≤g.length+2):(X2 g ticks band k).length≤1500000:=by
 have a:=Hn hg ht hb.1 k hk
 have b:=hg.1
 have c:DT g ticks k*(2*band+1)≤81000*17:=Int.mul_le_mul (by omega) (by omega) (by omega) (by omega)
 omega
def EU(l:List ReadT)(tick b:Int)(o:Span):Nat→Span
 |0=>o
 |k+1=>if(gt l k).Tick=tick then⟨max (EU l tick b o k).Lo ((gt l k).Levels.Lo-b),min (EU l tick b o k).Hi ((gt l k).Levels.Hi-b)⟩else EU l tick b o k
theorem A1J{l:List ReadT}{tick b:Int}{o:Span}{k:Nat}(h:(gt l k).Tick=tick):EU l tick b o (k+1)=⟨max (EU l tick b o k).Lo ((gt l k).Levels.Lo-b),min (EU l tick b o k).Hi ((gt l k).Levels.Hi-b)⟩:=D' h
theorem A4P{l:List ReadT}{tick b:Int}{o:Span}{k:Nat}(h:¬(gt l k).Tick=tick):EU l tick b o (k+1)=EU l tick b o k:=A' h
theorem Np{l:List ReadT}{tick b:Int}{o:Span}(hb: -300≤b∧b≤300)(hl:∀i,i<l.length→0≤(gt l i).Levels.Lo∧(gt l i).Levels.Lo≤(gt l i).Levels.Hi∧(gt l i).Levels.Hi≤12000)(ho:(0≤o.Lo∧o.Lo≤20000)∧(-20000≤o.Hi∧o.Hi≤12000)):∀k,k≤l.length→(0≤(EU l tick b o k).Lo∧(EU l tick b o k).Lo≤20000)∧(-20000≤(EU l tick b o k).Hi∧(EU l tick b o k).Hi≤12000)
 |0,_=>ho
 |k+1,hk=>by
  have ih:=Np (tick:=tick) hb hl ho k (by omega)
  have a:=hl k (by omega)
  rw[EU];split
  ·dsimp only;omega
  ·exact ih
def Iw(b:Int):Span:=⟨max 0 (-b),min 12000 (12000-b)⟩
def AR(c:Chart)(tick b:Int):Span:=EU c.reads tick b (Iw b) c.reads.length
def Gl(s:StateT):Prop:=0≤s.column∧s.ago=0
instance(s:StateT):Decidable (Gl s):=by unfold Gl;exact inferInstance
def A2B(c:Chart)(s:StateT)(tick:Int):Prop:=¬∀i,i<c.marks.length→¬((gt c.marks i).Column=s.column∧¬((gt c.marks i).Ticks.Lo≤tick∧tick≤(gt c.marks i).Ticks.Hi))
instance(c:Chart)(s:StateT)(tick:Int):Decidable (A2B c s tick):=by unfold A2B;exact inferInstance
def Lf(c:Chart)(s:StateT)(tick:Int):Prop:=(tick=0∧¬(s.column= -1∨(s.column=0∧s.ago=0)))∨(tick=c.ticks∧¬s.column=c.gaps.length)
instance(c:Chart)(s:StateT)(tick:Int):Decidable (Lf c s tick):=by unfold Lf;exact inferInstance
theorem A0t{c:Chart}{s:StateT}{tick:Int}{f l:Bool}(hf:f=true↔(s.column= -1∨(s.column=0∧s.ago=0)))(hl:l=true↔s.column=(c.gaps.length:Int)):Lf c s tick↔(tick=0∧f=false)∨(tick=c.ticks∧l=false):=by
 unfold Lf
 rw[←hf,←hl,Bool.not_eq_true,Bool.not_eq_true]
def Iq(c:Chart)(s:StateT)(tick b:Int):Prop:=(AR c tick b).Hi<(AR c tick b).Lo∨(Gl s∧A2B c s tick)
instance(c:Chart)(s:StateT)(tick b:Int):Decidable (Iq c s tick b):=by unfold Iq;exact inferInstance
def LP(a b:List Span):List Span:=if I7 a∧I7 b then F5 a b else[]
def B7i(a b:List Span):Int:=if I7 a∧I7 b then 0 else 1
def AP(c:Chart)(s:StateT)(tick zero:Int):List Span:=
 if Lf c s tick then[]else if Iq c s tick (s.offset+zero)then[]
 else if Gl s∧0<(gt c.ink s.column.toNat).length then LP (gt c.ink s.column.toNat) [AR c tick (s.offset+zero)]else[AR c tick (s.offset+zero)]
def D6(g:List Span)(ticks:Int)(s:StateT):List StateT:=
 if s.column= -1 then[⟨-1,0,0⟩,⟨0,0,0⟩]else if s.column=g.length then[⟨g.length,1,0⟩]
 else(if s.ago+1<X9 g ticks s.column then[⟨s.column,s.ago+1,0⟩]else[])++(if(gt g s.column.toNat).Lo≤s.ago+1∧s.ago+1≤(gt g s.column.toNat).Hi then[⟨s.column+1,0,0⟩]else[])
theorem JI(g:List Span)(ticks:Int)(s:StateT):(D6 g ticks s).length≤2:=by
 unfold D6
 split
 ·simp
 ·split
  ·simp
  ·split <;> split <;> simp
def Ey(p:Pen)(off:Int)(k:Nat):Span:=⟨if(k:Int)-p.Band= -p.Band then-p.Rate+p.Band+off else 0,if(k:Int)-p.Band=p.Band then p.Rate-p.Band+off else 0⟩
def KI(p:Pen)(off:Int)(k:Nat):Prop:=(Ey p off k).Lo≤0∧0≤(Ey p off k).Hi∧(¬Ey p off k=⟨0,0⟩∨Jr ((k:Int)-p.Band) off≤p.Rate)
instance(p:Pen)(off:Int)(k:Nat):Decidable (KI p off k):=by unfold KI;exact inferInstance
def CF(p:Pen)(off:Int):Nat→List EdgeT
 |0=>[]
 |k+1=>if KI p off k then CF p off k++[⟨(k:Int),Ey p off k⟩]else CF p off k
theorem B2H{p:Pen}{off:Int}{k:Nat}(h:KI p off k):CF p off k++[⟨(k:Int),Ey p off k⟩]=CF p off (k+1):=(D' h).symm
theorem B3x{p:Pen}{off:Int}{k:Nat}(h:¬KI p off k):CF p off k=CF p off (k+1):=(A' h).symm
theorem OJ(p:Pen)(off:Int):∀k,(CF p off k).length≤k
 |0=>E' _
 |k+1=>by have:=OJ p off k;rw[CF];split <;> simp <;> omega
theorem JX{p:Pen}{off:Int}{e:EdgeT}:∀{k:Nat},e∈CF p off k→∃i,i<k∧KI p off i∧e=⟨(i:Int),Ey p off i⟩
 |0,h=>by cases h
 |k+1,h=>by
  rw[CF]at h
  split at h
  ·rcases Sa.1 h with h|h
   ·obtain⟨i,hi,h1⟩:=JX h;exact⟨i,by omega,h1⟩
   ·exact⟨k,by omega,by assumption,Sp.1 h⟩
  ·obtain⟨i,hi,h1⟩:=JX h;exact⟨i,by omega,h1⟩
theorem B0L{p:Pen}{off:Int}{k:Nat}(hp:M9 p)(ho: -p.Band≤off∧off≤p.Band)(h:KI p off k):Ai (Ey p off k):=by
 unfold M9 at hp
 have a:=h.1
 have b:=h.2.1
 unfold Ai Ey at*
 dsimp only at*
 refine⟨?_,by omega,?_⟩
 ·split <;> omega
 ·split <;> omega
def E7(p:Pen)(off:Int):List EdgeT:=CF p off (V3 p.Band)
theorem B3R{p:Pen}{off:Int}{j:Nat}(h:j<(E7 p off).length):0≤(gt (E7 p off) j).To∧(gt (E7 p off) j).To<V3 p.Band:=by
 obtain⟨i,hi,_,e⟩:=JX (M0 h)
 rw[show gt (E7 p off) j=_ from e]
 exact⟨Int.natCast_nonneg _,by show(i:Int)<_;omega⟩
theorem A1m{p:Pen}{off z lo hi:Int}{j:Nat}(hz:z=(j:Int)-p.Band)(hl:lo=(Ey p off j).Lo)(hh:hi=(Ey p off j).Hi):KI p off j↔lo≤0∧0≤hi∧(¬Span.mk lo hi=Span.mk 0 0∨Jr z off≤p.Rate):=by
 subst hz hl hh;exact Iff.rfl
theorem KZ{p:Pen}(off:Int)(hp:M9 p)(k:Nat)(hk:k≤V3 p.Band):(CF p off k).length≤17:=by
 have:=OJ p off k
 have:=Hy (band:=p.Band) (by unfold M9 at hp;omega)
 omega
def A7J(L:List StateT):Nat→Mem→Array Value→Prop:=fun i _ a=>a=#[.agg [J (gt L i).column,J (gt L i).ago,J (gt L i).offset].toArray]
def PT(L:List StateT)(band:Int)(w:StateT)(e:EdgeT):EdgeT:=⟨AL L ⟨w.column,w.ago,e.To-band⟩,e.Change⟩
def Cr(L:List StateT)(band:Int)(W:List StateT)(M:List EdgeT):Nat→List EdgeT
 |0=>[]
 |i+1=>Cr L band W M i++D2 M.length (fun j=>PT L band (gt W i) (gt M j))
def Cq(c:Chart)(L:List StateT)(s:StateT):List EdgeT:=Cr L c.Sheet.Pen.Band (D6 c.gaps c.ticks s) (E7 c.Sheet.Pen s.offset) (D6 c.gaps c.ticks s).length
theorem OL(L:List StateT)(band:Int)(W:List StateT)(M:List EdgeT):∀i,(Cr L band W M i).length=i*M.length
 |0=>by rw[SU];rfl
 |i+1=>by rw[Cr,F',OL L band W M i,B5,TH]
theorem A5x{L:List StateT}{band:Int}{W:List StateT}{M:List EdgeT}{i:Nat}(hi:i≤2)(hm:M.length≤17):(Cr L band W M i).length≤34:=by
 rw[OL];exact Nat.mul_le_mul hi hm
theorem A1W{L:List StateT}{band:Int}{W:List StateT}{M:List EdgeT}{e:EdgeT}:∀{i:Nat},e∈Cr L band W M i→∃w q,q∈M∧e=PT L band w q
 |0,h=>by cases h
 |i+1,h=>by
  rcases Sa.1 h with h|h
  ·exact A1W h
  ·unfold D2 at h
   obtain⟨j,hj,rfl⟩:=Sh.1 h
   exact⟨_,_,M0 (SS.1 hj),rfl⟩
def Ki(c:Chart)(L:List StateT)(zero tick:Int)(i:Nat):NodeT:=⟨AP c (gt L i) tick zero,if tick<c.ticks then Cq c L (gt L i)else[]⟩
def O6(c:Chart)(L:List StateT)(zero tick:Int)(n:Nat):List NodeT:=D2 n (Ki c L zero tick)
def DU(c:Chart)(L:List StateT)(zero:Int)(n:Nat):H8:=D2 n (fun t=>O6 c L zero t L.length)
def BD(c:Chart)(L:List StateT)(zero:Int):H8:=DU c L zero (c.ticks+1).toNat
structure ChN(c:Chart)(L:List StateT):Prop where
 pen:M9 c.Sheet.Pen
 ticks:1≤c.ticks∧c.ticks≤400
 gaps:Ei c.gaps
 ink:c.ink.length=c.gaps.length+1
 marks:c.marks.length≤1000
 reads:c.reads.length≤1000∧∀i,i<c.reads.length→0≤(gt c.reads i).Levels.Lo∧(gt c.reads i).Levels.Lo≤(gt c.reads i).Levels.Hi∧(gt c.reads i).Levels.Hi≤12000
 list:L=Ej c.gaps c.ticks c.Sheet.Pen.Band
 len:1≤L.length∧L.length≤4000
theorem ChN.st{c:Chart}{L:List StateT}(h:ChN c L){i:Nat}(hi:i<L.length):LK c.gaps c.ticks c.Sheet.Pen.Band (gt L i):=by
 have:=h.pen;unfold M9 at this
 have a:=h.list
 subst a
 exact A9r (by omega) hi
theorem A6e{c:Chart}{L:List StateT}(h:ChN c L){tick b:Int}(hb: -300≤b∧b≤300)(ho:(AR c tick b).Lo≤(AR c tick b).Hi):Ik [AR c tick b]:=by
 have a:=Np (l:=c.reads) (tick:=tick) (o:=Iw b) hb h.reads.2 (by unfold Iw;dsimp only;omega) _ (E' _)
 intro i hi
 obtain rfl:i=0:=by simp at hi;omega
 show(-100002:Int)+2≤(AR c tick b).Lo∧(AR c tick b).Lo≤(AR c tick b).Hi∧(AR c tick b).Hi≤100000
 unfold AR at*
 omega
theorem NS{c:Chart}{L:List StateT}(h:ChN c L){tick b:Int}(hb: -300≤b∧b≤300):∀s∈[AR c tick b],0≤s.Lo∧s.Hi≤12000:=fun s a=>by
 have d:=Np (l:=c.reads) (tick:=tick) (o:=Iw b) hb h.reads.2 (by unfold Iw;dsimp only;omega) _ (E' _)
 obtain rfl:=Sp.1 a
 unfold AR
 omega
theorem A5r{l:List Span}(h:CR l):Ik l:=by
 have a:=h.1
 intro i hi
 have c:=h.2 _ (M0 hi)
 have b:=Z3 a _ (M0 hi)
 refine⟨?_,b,by omega⟩
 cases i with
 |zero=>rw[Dw];omega
 |succ i=>
  rw[Dw]
  have key:∀(l:List Span) (i:Nat),Can l→i+1<l.length→(gt l i).Hi+1<(gt l (i+1)).Lo:=by
   intro l
   induction l with
   |nil=>intro i _ h;simp at h
   |cons s r ih=>
    intro i a hi
    cases i with
    |zero=>
     cases r with
     |nil=>simp at hi
     |cons t r=>exact a.2.1
    |succ i=>exact ih i a.tail (by simp at hi ⊢; omega)
  have:=key l i a hi
  omega
theorem A6B:∀(n:Nat) (a b:List Span),a.length+b.length=n→(F5 a b).length≤n-1:=by
 intro n
 induction n using Nat.strongRecOn with
 |ind n ih=>
  intro a b c
  match a,b with
  | [],b=>rw[F5];exact EF _
  |x::a,[]=>rw[F5];exact EF _
  |x::a,y::b=>
   have d:=ih (n-1) (by simp at c;omega) a (y::b) (by simp at c ⊢; omega)
   have f:=ih (n-1) (by simp at c;omega) (x::a) b (by simp at c ⊢; omega)
   have g:2≤n:=by simp at c;omega
   rw[F5]
   split <;> split <;> (try simp only[N']) <;> omega
theorem A6k{c:Chart}{L:List StateT}(h:ChN c L){s:StateT}{tick zero:Int}(hb: -300≤s.offset+zero∧s.offset+zero≤300):I7 (AP c s tick zero):=by
 have a:I7 ([]:List Span):=⟨EF _,fun i hi=>absurd hi (R' _)⟩
 unfold AP
 split
 ·exact a
 ·split
  ·exact a
  ·rename_i h1
   have d:(AR c tick (s.offset+zero)).Lo≤(AR c tick (s.offset+zero)).Hi:=TI.1 fun b=>h1 (.inl b)
   have f:=A6e h hb d
   split
   ·unfold LP
    split
    ·rename_i b
     have g:=A6B _ (gt c.ink s.column.toNat) [AR c tick (s.offset+zero)] rfl
     have k:=b.1.1
     refine⟨by simp at g;omega,A5r (Gs (LE b.1.2) (Ji b.2.2 (NS h hb)))⟩
    ·exact a
   ·exact⟨by simp,f⟩
theorem A9f{c:Chart}{L:List StateT}(h:ChN c L){s:StateT}(ho: -c.Sheet.Pen.Band≤s.offset∧s.offset≤c.Sheet.Pen.Band):(Cq c L s).length≤64∧∀j,j<(Cq c L s).length→Qv L.length (gt (Cq c L s) j):=by
 have a:=h.pen
 constructor
 ·have b:=JI c.gaps c.ticks s
  have d:(E7 c.Sheet.Pen s.offset).length≤17:=by
   have:=OJ c.Sheet.Pen s.offset (V3 c.Sheet.Pen.Band)
   unfold M9 at a
   unfold E7 V3 at*
   omega
  unfold Cq
  rw[OL]
  have:(D6 c.gaps c.ticks s).length*(E7 c.Sheet.Pen s.offset).length≤2*17:=Nat.mul_le_mul b d
  omega
 ·intro j g
  obtain⟨w,q,f,e⟩:=A1W (M0 g)
  obtain⟨i,_,hi,rfl⟩:=JX f
  rw[show gt (Cq c L s) j=_ from e]
  exact⟨B4R (by have:=h.len;omega) _,B0L a ho hi⟩
theorem Mz{c:Chart}{L:List StateT}(zero:Int)(h:ChN c L):((BD c L zero).length:Int)=c.ticks+1:=by
 unfold BD DU;rw[B5];have:=h.ticks;omega
theorem Gb{c:Chart}{L:List StateT}{zero:Int}{k:Nat}(hk:k<(BD c L zero).length):gt (BD c L zero) k=O6 c L zero k L.length:=by
 unfold BD DU at *; rw[B5]at hk;rw[N7 _ hk]
theorem B2J{c:Chart}{L:List StateT}(h:ChN c L){s:StateT}{tick zero:Int}(hb: -300≤s.offset+zero∧s.offset+zero≤300):∀x∈AP c s tick zero,0≤x.Lo∧x.Hi≤12000:=by
 intro x a
 unfold AP at a
 split at a
 ·cases a
 ·split at a
  ·cases a
  ·split at a
   ·unfold LP at a
    split at a
    ·rename_i h2
     exact(Gs (LE h2.1.2) (Ji h2.2.2 (NS h hb))).2 x a
    ·cases a
   ·exact NS h hb x a
theorem A5I{c:Chart}{L:List StateT}{zero:Int}(h:ChN c L)(hz: -200≤zero∧zero≤200):Ol (BD c L zero):=by
 have t:=Mz zero h
 have u:=h.ticks
 have o:=h.pen
 unfold M9 at o
 refine⟨by omega,fun k m=>?_⟩
 rw[Gb m]
 have a:(O6 c L zero k L.length).length=L.length:=B5 _ _
 refine⟨by rw[a];exact h.len,fun n d=>?_⟩
 rw[a]at d
 have e:gt (O6 c L zero k L.length) n=Ki c L zero k n:=N7 _ d
 rw[e]
 have p:=h.st d
 have q:=p.2.2
 have g:I7 (AP c (gt L n) k zero):=A6k h (by omega)
 have l:=A9f h (s:=gt L n) q
 unfold Ki
 by_cases b:(k:Int)<c.ticks
 ·rw[D' b]
  refine⟨g,l.1,fun j f=>?_⟩
  have r:Em (BD c L zero) k=L.length:=by
   rw[Is (by omega),Gb (by omega)];exact B5 _ _
  rw[r]
  exact l.2 j f
 ·rw[A' b]
  exact⟨g,EF _,fun j f=>absurd f (R' _)⟩
theorem A3n{c:Chart}{L:List StateT}{zero:Int}(h:ChN c L)(hz: -200≤zero∧zero≤200):B3o (BD c L zero):=by
 intro k g n a x d
 have f:=h.pen
 unfold M9 at f
 rw[Gb g]at a d
 have b:(O6 c L zero k L.length).length=L.length:=B5 _ _
 rw[b]at a
 have e:gt (O6 c L zero k L.length) n=Ki c L zero k n:=N7 _ a
 rw[e]at d
 have l:=(h.st a).2.2
 exact B2J h (s:=gt L n) (tick:=k) (zero:=zero) (by omega) x d
theorem A9F{c:Chart}{L:List StateT}{zero:Int}(h:ChN c L)(hz: -200≤zero∧zero≤200):O1 (BD c L zero):=⟨A5I h hz,A3n h hz⟩
end Go.Proofs.T10
