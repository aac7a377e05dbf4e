import Derived.Test.YtooomcigmleneaaGreatT10TPr
import Derived.Test.YtooomcigmleneaaGreatT10SWk
set_option linter.all false
namespace Go.Proofs.S10
open Go Go.Kx Go.Proofs.T10
def chG(f:FiledT):List Span:=Af f.Sheet.Drum f.Sheet.Drum.Rates.length
def chL(w:WeekT)(f:FiledT):List StateT:=Ej (chG f) w.Base.Ticks f.Sheet.Pen.Band
def Dk(w:WeekT)(f:FiledT):Prop:=4000<NG (chG f) w.Base.Ticks f.Sheet.Pen.Band
instance(w:WeekT)(f:FiledT):Decidable (Dk w f):=by unfold Dk;exact inferInstance
def chO(w:WeekT)(f:FiledT)(ix:Nat):Chart:=JF w f f.Station (RawV.mk (.map (some ix)) rfl)
def BL(w:WeekT)(f:FiledT)(ix:Nat):Chart:={chO w f ix with L:=chL w f}
theorem A9D{d:Drum}(h:Bz d):Ei (Af d d.Rates.length):=by
 refine⟨by unfold Af;rw[B5];have:=h.1;omega,fun i hi=>?_⟩
 have a:i<d.Rates.length:=by unfold Af at hi;rwa [B5]at hi
 have e:gt (Af d d.Rates.length) i=Cn d i:=by
  unfold Af
  rw[N7 _ a]
  unfold DA
  rw[A' (by rw[KY h];omega),D' (by omega)]
  rfl
 rw[e]
 have b:=JT h a d.Stops.length (E' _)
 have c:=h.1
 unfold Cn
 omega
structure ShOk(w:WeekT)(f:FiledT):Prop where
 pen:M9 f.Sheet.Pen
 gaps:Ei (chG f)
 ink:(EO f.Sheet.Paper f.Sheet.Trace f.Sheet.Blots).length=(chG f).length+1
 ticks:1≤w.Base.Ticks∧w.Base.Ticks≤400
 marks:f.Marks.length≤64
 rates:f.Sheet.Drum.Rates.length≤199
 rlen:w.Reads.length≤64
 reads:∀i,i<w.Reads.length→0≤(gt w.Reads i).Levels.Lo∧(gt w.Reads i).Levels.Lo≤(gt w.Reads i).Levels.Hi∧(gt w.Reads i).Levels.Hi≤12000
theorem HP{l:List ReadT}{st:Int}{r:ReadT}:∀{k:Nat},k≤l.length→r∈P8 l st k→∃i,i<l.length∧r=gt l i
 |0,_,h=>by cases h
 |k+1,hk,h=>by
  rw[P8]at h
  split at h
  ·rcases Sa.1 h with h|h
   ·exact HP (by omega) h
   ·exact⟨k,by omega,Sp.1 h⟩
  ·exact HP (by omega) h
theorem A5k{d:Drum}{m:List T10.Mark}(h:(U0 d m).1=0):m.length≤64:=by
 unfold U0 at h
 split at h
 ·exact absurd h (by decide)
 ·split at h
  ·cases h
  ·omega
theorem B2w{w:WeekT}(h:AN w=0){i:Nat}(hi:i<w.Sheets.length):ShOk w (gt w.Sheets i):=by
 have b:=(A4o h).2
 have a:=(b.2.2.1 i hi).2
 have c:=LF a.2.1.2
 have f:=A9D c
 refine⟨?_,f,?_,b.1.2.1,A5k a.2.2.2.2,c.1.1.2,b.2.1.2,fun k d=>(b.2.2.2 k d).2.2.2⟩
 ·exact A1p a.2.2.2.1
 ·rw[A1Z a.2.1.1]
  have g:=a.2.2.1
  unfold chG Af
  rw[B5,Um,List.length_range]
  omega
theorem JC{w:WeekT}{f:FiledT}(h:ShOk w f)(hb:¬Dk w f)(ix:Nat):ChN (BL w f ix) (chL w f):=by
 have a:=h.pen
 unfold M9 at a
 refine⟨h.pen,h.ticks,h.gaps,h.ink,by have:=h.marks;show f.Marks.length≤1000;omega,⟨?_,fun i hi=>?_⟩,rfl,A5B h.gaps h.ticks (by omega) (by unfold Dk at hb;omega)⟩
 ·have:=Da (l:=w.Reads) (st:=f.Station) w.Reads.length
  have:=h.rlen
  show(P8 w.Reads f.Station w.Reads.length).length≤1000
  omega
 ·obtain⟨k,b,e⟩:=HP (E' _) (M0 hi)
  rw[show gt (BL w f ix).reads i=_ from e]
  exact h.reads k b
end Go.Proofs.S10
namespace Go.Proofs.T10
open Go Go.Kx
def U6{α:Type}(M:List α)(g:Nat→α)(n:Nat):List α:=D2 n g++M.drop n
section
variable{α:Type}{M:List α}{g:Nat→α}{n i:Nat}
theorem HM(h:n≤M.length):(U6 M g n).length=M.length:=by unfold U6;rw[F',B5,SE];omega
theorem A2d [Inhabited α](h:n≤i):gt (U6 M g n) i=gt M i:=by
 unfold U6
 simp only[gt,List.getD]
 rw[SL (by rw[B5];exact h),B5,Tl,Nat.add_sub_cancel' h]
theorem NV [Inhabited α](h:i<n):gt (U6 M g n) i=g i:=by
 unfold U6
 simp only[gt,List.getD]
 rw[SK (by rw[B5];exact h)]
 simp[D2,h]
theorem Hx(h:n<M.length):(U6 M g n).set n (g n)=U6 M g (n+1):=by
 unfold U6
 rw[O9,Tt h,UI _ _ (by rw[B5];exact E' _),B5,SY,List.set_cons_zero,Se]
 rfl
end
def shS(L:List StateT)(i:Nat)(zero:Int):Span:=⟨(gt L i).offset+zero,(gt L i).offset+zero⟩
def Dp(L:List StateT)(l:List (List Span))(zero:Int):Nat→List Span
 |0=>[]
 |i+1=>Dp L l zero i++Aj (gt l i) (shS L i zero)
def Kg(L:List StateT)(l:List (List Span))(zero:Int):List Span:=K4 (Dp L l zero l.length)
theorem B2g{l:List Span}{c:Int}(hl:CR l)(hc: -300≤c∧c≤300):Aq (Aj l ⟨c,c⟩):=QF hl (by dsimp only;omega)
theorem DX{L:List StateT}{l:List (List Span)}{zero:Int}(hl:AM l)(ho:∀i,i<l.length→-300≤(gt L i).offset+zero∧(gt L i).offset+zero≤300):∀i,i≤l.length→Aq (Dp L l zero i)∧(Dp L l zero i).length≤i*6001
 |0,_=>⟨JR,EF _⟩
 |i+1,hi=>by
  have ih:=DX hl ho i (by omega)
  have a:=hl i (by omega)
  have b:=BJ a
  refine⟨JK ih.1 (B2g a (ho i (by omega))),?_⟩
  rw[Dp,F',DN,TH];omega
theorem A8B{L:List StateT}{l:List (List Span)}{zero:Int}(hl:AM l)(ho:∀i,i<l.length→-300≤(gt L i).offset+zero∧(gt L i).offset+zero≤300)(hn:l.length≤4000):Aq (Kg L l zero)∧(Kg L l zero).length≤24004000:=by
 have h:=DX hl ho l.length (E' _)
 have a:=AZ h.1
 exact⟨A3h h.1,by unfold Kg;omega⟩
theorem PV{l:List Span}(h:Aq l):0<(K4 l).length↔0<l.length:=by
 rw[GU,Mw (EW (AW h)),GU]
 constructor
 ·rintro⟨x,a⟩ rfl
  exact W4 x ((HR (fun _ h=>by cases h) x).1 a)
 ·intro b
  cases l with
  |nil=>exact absurd rfl b
  |cons s r=>exact⟨s.Lo,(HR (AW h) _).2 (P3.2 (.inl ⟨Si _,AW h s (Sf ..)⟩))⟩
theorem QC{L:List StateT}{l:List (List Span)}{zero:Int}:∀i,0<(Dp L l zero i).length↔∃j,j<i∧0<(gt l j).length
 |0=>⟨fun h=>absurd h (Tb _),fun⟨_,h,_⟩=>absurd h (R' _)⟩
 |i+1=>by
  rw[Dp,F',DN]
  have ih:=QC (L:=L) (l:=l) (zero:=zero) i
  constructor
  ·intro h
   by_cases b:0<(Dp L l zero i).length
   ·obtain⟨j,c,a⟩:=ih.1 b;exact⟨j,by omega,a⟩
   ·exact⟨i,by omega,by omega⟩
  ·rintro⟨j,c,a⟩
   by_cases b:j=i
   ·subst b;omega
   ·have:=ih.2 ⟨j,by omega,a⟩;omega
def X4(c:Chart)(z:Int):H8:=BD c c.L z
def W6(c:Chart)(z:Int)(t:Nat):List Span:=Kg c.L (V6 (X4 c z) t) z
def L7(c:Chart):Nat:=(c.ticks+1).toNat
def E3(c:Chart):Nat→List (List Span)
 |0=>List.replicate (L7 c) []
 |i+1=>U6 (E3 c i) (fun t=>gt (E3 c i) t++W6 c (gt c.zeroes i) t) (L7 c)
def Eg(c:Chart):List (List Span):=U6 (E3 c c.zeroes.length) (fun t=>K4 (gt (E3 c c.zeroes.length) t)) (L7 c)
def IW(c:Chart):Int:=if((gt (Eg c) 0).length:Int)=0 then 71 else 0
def AK(c:Chart):Nat→List Int
 |0=>[]
 |k+1=>if R6 (X4 c (gt c.zeroes k))then AK c k++[gt c.zeroes k]else AK c k
theorem B1k{c:Chart}{k:Nat}(h:R6 (X4 c (gt c.zeroes k))):AK c k++[gt c.zeroes k]=AK c (k+1):=(D' h).symm
theorem B3v{c:Chart}{k:Nat}(h:¬R6 (X4 c (gt c.zeroes k))):AK c k=AK c (k+1):=(A' h).symm
theorem Ox(c:Chart):∀k,(AK c k).length≤k
 |0=>E' _
 |k+1=>by have:=Ox c k;rw[AK];split <;> simp <;> omega
theorem Fp{c:Chart}{z:Int}:∀{k:Nat},z∈AK c k↔∃i,i<k∧gt c.zeroes i=z∧R6 (X4 c z)
 |0=>⟨fun h=>(by cases h),fun⟨_,h,_⟩=>absurd h (R' _)⟩
 |k+1=>by
  rw[AK]
  split
  ·rename_i h1
   rw[Sa,Fp,Sp]
   constructor
   ·rintro(⟨i,hi,h2⟩|rfl)
    ·exact⟨i,by omega,h2⟩
    ·exact⟨k,by omega,rfl,h1⟩
   ·rintro⟨i,hi,rfl,h2⟩
    by_cases h3:i=k
    ·subst h3;exact .inr rfl
    ·exact .inl ⟨i,by omega,rfl,h2⟩
  ·rename_i h1
   rw[Fp]
   constructor
   ·rintro⟨i,hi,h2⟩;exact⟨i,by omega,h2⟩
   ·rintro⟨i,hi,rfl,h2⟩
    by_cases h3:i=k
    ·subst h3;exact absurd h2 h1
    ·exact⟨i,by omega,rfl,h2⟩
def Ii(c:Chart):Prop:=c.zeroes.length≤41∧∀i,i<c.zeroes.length→-200≤gt c.zeroes i∧gt c.zeroes i≤200
theorem AV(c:Chart):∀i,(E3 c i).length=L7 c
 |0=>Tf ..
 |i+1=>by rw[E3,HM (by rw[AV c i];exact E' _),AV c i]
theorem Jj{c:Chart}(h:ChN c c.L){z:Int}(hz: -200≤z∧z≤200):O1 (X4 c z):=A9F h hz
theorem LV{c:Chart}(h:ChN c c.L)(z:Int):(X4 c z).length=L7 c:=by
 have a:=Mz z h
 unfold L7 X4;omega
theorem KX{c:Chart}{z:Int}{k:Nat}(hk:k<(X4 c z).length):(gt (X4 c z) k).length=c.L.length:=by
 unfold X4 at*
 rw[Gb hk];exact B5 _ _
theorem JB{t:H8}(h:O1 t){k:Nat}(hk:k<t.length):AM (V6 t k)∧(V6 t k).length=(gt t k).length:=by
 have b:=W7 h hk
 have c:=Ib h (k:=t.length-1-k) (by omega)
 rw[show t.length-1-(t.length-1-k)=k by omega]at c
 have d:(V6 t k).length=(gt t k).length:=by unfold V6;rw[B5,b.2]
 refine⟨fun n a=>?_,d⟩
 rw[d]at a
 unfold V6
 rw[N7 _ (by rw[b.2];exact a)]
 exact Gs (b.1 n (by rw[b.2];exact a)).1 (c.1 n (by rw[c.2];exact a))
theorem Mm{c:Chart}(h:ChN c c.L){z:Int}(hz: -200≤z∧z≤200){i:Nat}(hi:i<c.L.length): -300≤(gt c.L i).offset+z∧(gt c.L i).offset+z≤300:=by
 have b:=(h.st hi).2.2
 have a:=h.pen
 unfold M9 at a
 omega
theorem A1G{c:Chart}(h:ChN c c.L){z:Int}(hz: -200≤z∧z≤200){t:Nat}(ht:t<L7 c):Aq (W6 c z t)∧(W6 c z t).length≤24004000:=by
 have d:=Jj h hz
 have a:t<(X4 c z).length:=by rw[LV h];exact ht
 have b:=JB d a
 have f:=b.2.trans (KX a)
 exact A8B b.1 (fun i hi=>Mm h hz (by omega)) (by rw[f];exact h.len.2)
theorem FH{c:Chart}(h:ChN c c.L)(hz:Ii c):∀i,i≤c.zeroes.length→∀t,t<L7 c→Aq (gt (E3 c i) t)∧(gt (E3 c i) t).length≤i*24004000
 |0,_,t,ht=>by
  have:gt (E3 c 0) t=[]:=by rw[E3];simp[gt,List.getD,ht]
  rw[this];exact⟨JR,EF _⟩
 |i+1,hi,t,ht=>by
  have ih:=FH h hz i (by omega) t ht
  have a:=A1G h (hz.2 i (by omega)) ht
  rw[E3,NV ht]
  refine⟨JK ih.1 a.1,?_⟩
  rw[F',TH];omega
theorem A3R{c:Chart}(h:ChN c c.L)(hz:Ii c):∀L∈E3 c c.zeroes.length,L.length≤C7:=fun L b=>by
 obtain⟨t,a,rfl⟩:=List.mem_iff_getElem.1 b
 rw[AV]at a
 have d:=(FH h hz _ (E' _) t a).2
 have f:=hz.1
 rw[show gt (E3 c c.zeroes.length) t=(E3 c c.zeroes.length)[t] by simp[gt,List.getD,AV,a]]at d
 unfold C7;omega
theorem PZ{c:Chart}{t:Nat}(ht:t<L7 c):∀i,0<(gt (E3 c i) t).length↔∃j,j<i∧0<(W6 c (gt c.zeroes j) t).length
 |0=>by
  have:gt (E3 c 0) t=[]:=by rw[E3];simp[gt,List.getD,ht]
  rw[this]
  exact⟨fun h=>absurd h (Tb _),fun⟨_,h,_⟩=>absurd h (R' _)⟩
 |i+1=>by
  have ih:=PZ ht i
  rw[E3,NV ht,F']
  constructor
  ·intro h
   by_cases b:0<(gt (E3 c i) t).length
   ·obtain⟨j,d,a⟩:=ih.1 b;exact⟨j,by omega,a⟩
   ·exact⟨i,by omega,by omega⟩
  ·rintro⟨j,d,a⟩
   by_cases b:j=i
   ·subst b;omega
   ·have:=ih.2 ⟨j,by omega,a⟩;omega
theorem B0T{c:Chart}(h:ChN c c.L)(hz:Ii c):IW c=0↔∃k,k<c.zeroes.length∧R6 (X4 c (gt c.zeroes k)):=by
 have p:=h.ticks
 have b:0<L7 c:=by unfold L7;omega
 have key:∀k,k<c.zeroes.length→(0<(W6 c (gt c.zeroes k) 0).length↔R6 (X4 c (gt c.zeroes k))):=fun k d=>by
  have l:=hz.2 k d
  have f:=Jj h l
  have g:0<(X4 c (gt c.zeroes k)).length:=by rw[LV h];exact b
  have a:=JB f g
  have q:=a.2.trans (KX g)
  unfold W6 Kg
  rw[PV (DX a.1 (fun i hi=>Mm h l (by omega)) _ (E' _)).1,QC,A8P f,a.2]
  have o:=W7 f g
  refine exists_congr fun n=>Uz fun m=>?_
  unfold V6
  rw[N7 _ (by rw[o.2];exact m)]
  exact Iff.rfl
 have a:IW c=0↔0<(gt (Eg c) 0).length:=by
  unfold IW
  split <;> omega
 rw[a]
 unfold Eg
 rw[NV b,PV (FH h hz _ (E' _) 0 b).1,PZ b]
 exact exists_congr fun k=>Uz fun d=>key k d
theorem B2h{c:Chart}{k:Nat}:0<(AK c k).length↔∃i,i<k∧R6 (X4 c (gt c.zeroes i)):=by
 rw[List.length_pos_iff_exists_mem]
 constructor
 ·rintro⟨z,a⟩
  obtain⟨i,hi,rfl,h⟩:=Fp.1 a
  exact⟨i,hi,h⟩
 ·rintro⟨i,hi,h⟩;exact⟨_,Fp.2 ⟨i,hi,rfl,h⟩⟩
end Go.Proofs.T10
namespace Go.Proofs.S10
open Go Go.Kx Go.Proofs.T10
theorem RH(w:WeekT)(f:FiledT)(ix:Nat):∀i,E3 (BL w f ix) i=E3 (BL w f 0) i
 |0=>rfl
 |i+1=>by rw[E3,E3,RH w f ix i];rfl
theorem B2u(w:WeekT)(f:FiledT)(ix:Nat):Eg (BL w f ix)=Eg (BL w f 0):=by
 unfold Eg
 rw[show(BL w f ix).zeroes=(BL w f 0).zeroes from rfl,RH]
 rfl
theorem B4k(w:WeekT)(f:FiledT)(ix:Nat):IW (BL w f ix)=IW (BL w f 0):=by unfold IW;rw[B2u]
theorem B0p(w:WeekT)(f:FiledT)(ix:Nat):∀k,AK (BL w f ix) k=AK (BL w f 0) k
 |0=>rfl
 |k+1=>by rw[AK,AK,B0p w f ix k];rfl
theorem NQ{w:WeekT}{f:FiledT}(h:M9 f.Sheet.Pen)(ix:Nat):Ii (BL w f ix):=by
 unfold M9 at h
 have a:(BL w f ix).zeroes.length=AQ f.Sheet.Pen:=B5 _ _
 have b:AQ f.Sheet.Pen≤41:=by unfold AQ;omega
 refine⟨by omega,fun i hi=>?_⟩
 rw[a]at hi
 rw[show gt (BL w f ix).zeroes i=f.Sheet.Pen.Zero.Lo+(i:Int)from N7 _ hi]
 unfold AQ at hi
 omega
def alE(w:WeekT)(f:FiledT):Int:=if Dk w f then 2 else IW (BL w f 0)
def FD(w:WeekT)(f:FiledT):Int:=if Dk w f then 2 else 0
def FG(w:WeekT)(f:FiledT):List Int:=if Dk w f then[]else AK (BL w f 0) (BL w f 0).zeroes.length
def Gc(w:WeekT)(f:FiledT)(z:Int):H8:=if Dk w f then[]else X4 (BL w f 0) z
theorem A8v{s:Span}{may l:List Span}{i:Nat}{a:Int}(h:Nn s may l)(hi:i<may.length)(h1:max s.Lo (gt may i).Lo≤a)(h2:a≤min s.Hi (gt may i).Hi):¬∀j,j<l.length→¬((gt l j).Lo≤a∧a≤(gt l j).Hi):=fun b=>by
 obtain⟨x,c,d⟩:=h a (by omega) (by omega) ⟨_,M0 hi,by omega,by omega⟩
 obtain⟨j,f,rfl⟩:=Z6 c
 exact b j f d
theorem Mg{w:WeekT}{f:FiledT}(h:FD w f=0):¬Dk w f:=fun a=>by
 unfold FD at h
 rw[D' a]at h
 exact absurd h (by decide)
theorem B4M{w:WeekT}{f:FiledT}(h:¬FD w f=0):alE w f=FD w f:=by
 by_cases a:Dk w f
 ·unfold alE FD;rw[D' a,D' a]
 ·exact absurd (A' a) h
theorem B6J{w:WeekT}{f:FiledT}(ho:ShOk w f)(h:FD w f=0):alE w f=0↔0<((FG w f).length:Int):=by
 have a:=Mg h
 unfold alE FG
 rw[A' a,A' a,B0T (JC ho a 0) (NQ ho.pen 0),Int.natCast_pos,B2h]
theorem B6Z{w:WeekT}{f:FiledT}(ho:ShOk w f)(h:FD w f=0){z:Int}(hz:f.Sheet.Pen.Zero.Lo≤z∧z≤f.Sheet.Pen.Zero.Hi):O1 (Gc w f z):=by
 have a:=ho.pen
 unfold M9 at a
 unfold Gc
 rw[A' (Mg h)]
 exact Jj (JC ho (Mg h) 0) (by omega)
theorem B3b{w:WeekT}{f:FiledT}(ho:ShOk w f)(h:FD w f=0){z:Int}(hz:f.Sheet.Pen.Zero.Lo≤z∧z≤f.Sheet.Pen.Zero.Hi):(∃j,j<(FG w f).length∧gt (FG w f) j=z)↔R6 (Gc w f z):=by
 have b:=Mg h
 have c:(BL w f 0).zeroes.length=AQ f.Sheet.Pen:=B5 _ _
 unfold FG Gc
 rw[A' b,A' b]
 constructor
 ·rintro⟨j,d,rfl⟩
  obtain⟨i,_,_,a⟩:=Fp.1 (M0 d)
  exact a
 ·intro a
  have hi:(z-f.Sheet.Pen.Zero.Lo).toNat<AQ f.Sheet.Pen:=by unfold AQ;omega
  exact Z6 (Fp.2 ⟨(z-f.Sheet.Pen.Zero.Lo).toNat,by rw[c];exact hi,by rw[show gt (BL w f 0).zeroes _=_ from N7 _ hi];omega,a⟩)
theorem A2o{t:H8}:GL t=3↔R6 t:=by
 unfold GL
 by_cases h:R6 t
 ·rw[D' h];exact⟨fun _=>h,fun _=>rfl⟩
 ·rw[A' h];exact⟨fun a=>absurd a (by decide),fun a=>absurd a h⟩
theorem B1w{w:WeekT}{f:FiledT}(ho:ShOk w f)(h:FD w f=0){z:Int}(hz:f.Sheet.Pen.Zero.Lo≤z∧z≤f.Sheet.Pen.Zero.Hi){b:Bool}(hb:b=true↔∃j,j<(FG w f).length∧gt (FG w f) j=z):b=decide (GL (Gc w f z)=3):=by
 rw[Bool.eq_iff_iff,decide_eq_true_iff]
 exact hb.trans ((B3b ho h hz).trans A2o.symm)
theorem B0g{t:H8}{b:Bool}(h:b=decide (GL t=3))(hb:(!b)=true):GL t=0:=by
 subst h
 have a:¬GL t=3:=Th (by simpa using hb)
 unfold GL at*
 split
 ·rename_i h2;rw[D' h2]at a;exact absurd rfl a
 ·rfl
theorem A7I{t:H8}(hq:O1 t)(h:GL t=0):NothP t (HT t):=by
 have a:¬R6 t:=fun b=>by rw[A2o.2 b]at h;exact absurd h (by decide)
 unfold HT
 rw[A' a]
 exact B2a hq a
theorem A1V{l:List Int}{z:Int}{i:Nat}{b:Bool}(h:b=true↔∃j,j<i∧gt l j=z)(hb:b=true):true=true↔∃j,j<i+1∧gt l j=z:=
 ⟨fun _=>by obtain⟨j,a,e⟩:=h.1 hb;exact⟨j,by omega,e⟩,fun _=>rfl⟩
theorem A5d{l:List Int}{z:Int}{i:Nat}(e:gt l i=z):true=true↔∃j,j<i+1∧gt l j=z:=⟨fun _=>⟨i,by omega,e⟩,fun _=>rfl⟩
theorem B5s{l:List Int}{z:Int}{i:Nat}{b:Bool}(h:b=true↔∃j,j<i∧gt l j=z)(hb:b=false)(e:¬gt l i=z):false=true↔∃j,j<i+1∧gt l j=z:=
 ⟨fun d=>Bool.noConfusion d,fun⟨j,f,a⟩=>by
  rcases Sc.1 f with h2|h2
  ·have c:=h.2 ⟨j,h2,a⟩;rw[hb]at c;exact absurd c (by decide)
  ·subst h2;exact absurd a e⟩
end Go.Proofs.S10
