import Derived.Test.YtooomcigmleneaaGreatKxW
import Derived.Test.YtooomcigmleneaaGreatKyP
import Derived.Test.YtooomcigmleneaaGreatT10Ty
import Derived.Test.YtooomcigmleneaaGreatKxU
import Derived.Test.YtooomcigmleneaaGreatT10W39
set_option linter.all false
set_option maxHeartbeats 16000000
namespace Go.Proofs.S10
open Tryz
set_option maxRecDepth 20000
open Go Go.Kx Go.Proofs.T10
theorem C7A(m:Mem)(cb:List Value)(b:BaseT)(hb:Enc.rd m cb b)(cr:List Value)(r:RegT)(hr:Enc.rd m cr r):Pure prog 37 #[.agg cb.toArray,.agg cr.toArray] m (fun m' v=>∃(q0:Bool),v= .bool q0∧(q0=true→r.Sheets.length≤4)):=by
 obtain⟨v1,rfl,hs2⟩:=hb
 have hl3:=hs2.le
 obtain⟨v4,v6,v8,v10,rfl,hs5,hs7,hs9,hs11⟩:=hr
 refine have hl12:=hs5.le;have hl13:=hs7.le;have hl14:=hs9.le;have hl15:=hs11.le;H7 func37 r' ntmps37 fun wld=>q' 2 r'<|o' r' r' fun b16=>o' r' r' fun b17=>v' 5 r'<|fz (x:=b) 1 r' r' ⟨_,rfl,hs2⟩ fun m18 hle19 hp20=>have hs5:=hs5.mono hle19;have hs7:=hs7.mono hle19;have hs9:=hs9.mono hle19;have hs11:=hs11.mono hle19;fz (x:=r) 0 r' r' ⟨_,_,_,_,rfl,hs5,hs7,hs9,hs11⟩ fun m21 hle22 hp23=>have hp20:=hp20.mono hle22;q' 1 r'<|g' hp20 r' fun c24 hc25=>?_
 obtain⟨v26,rfl,hs27⟩:=hc25
 refine have hl28:=hs27.le;c' (X.call call35 rfl (B1C _ _ b ⟨_,rfl,hs27⟩)) (fun h29=>?_) fun h29=>?_
 ·refine v' 3 r'<|have hp30:=A1h hp23;f' r' t'<|v' 1 r'<|s' hp30 r' fun v31 hs32=>have hl33:=hs32.le;v' 1 r'<|l' hs32 r'<|v' 1 r'<|c' (X.gtr r' r') (fun h34=>?_) fun h34=>?_
  ·exact v' 29 r'<|A0 r' r'<|C5<|⟨_,rfl,fun h_=>by first|(cases h_;done)|omega⟩
  refine v' 3 r'<|have hp35:=A7j hp23;f' r' t'<|v' 1 r'<|s' hp35 r' fun v36 hs37=>have hl38:=hs37.le;v' 1 r'<|l' hs37 r'<|v' 1 r'<|c' (X.gtr r' r') (fun h39=>?_) fun h39=>?_
  ·exact v' 23 r'<|A0 r' r'<|C5<|⟨_,rfl,fun h_=>by first|(cases h_;done)|omega⟩
  refine v' 3 r'<|have hp40:=A5a hp23;f' r' t'<|v' 1 r'<|s' hp40 r' fun v41 hs42=>have hl43:=hs42.le;v' 1 r'<|l' hs42 r'<|v' 1 r'<|c' (X.gtr r' r') (fun h44=>?_) fun h44=>?_
  ·exact v' 17 r'<|A0 r' r'<|C5<|⟨_,rfl,fun h_=>by first|(cases h_;done)|omega⟩
  refine v' 3 r'<|have hp45:=B7R hp23;f' r' t'<|v' 1 r'<|s' hp45 r' fun v46 hs47=>have hl48:=hs47.le;v' 1 r'<|l' hs47 r'<|v' 1 r'<|c' (X.gtr r' r') (fun h49=>?_) fun h49=>?_
  ·exact v' 11 r'<|A0 r' r'<|C5<|⟨_,rfl,fun h_=>by first|(cases h_;done)|omega⟩
  refine v' 18 r' ?_
  refine O6 (fun(k:Nat) (mk:Int)=>r.Sheets.length-k) (fun k mk=>[]) (fun k mk=>[(3,Pt b17 0),(5,J mk),(6,J k)]) (fun k mk=>k≤r.Sheets.length) 0 0 ?_ ?_
  ·exact Nat.zero_le _
  rintro k mk hF50
  refine have hk:=hF50;q' 4 r'<|have hp51:=A1h hp23;f' r' t'<|s' hp51 r' fun v52 hs53=>have hl54:=hs53.le;l' hs53 r'<|c' (X.lss r' r') (fun h55=>?_) fun h55=>?_
  ·refine v' 10 r'<|have hp56:=A1h hp23;f' r' t'<|s' hp56 r' fun v57 hs58=>have hl59:=hs58.le;v' 1 r'<|x' k hs58 r' r' fun p60 hp61=>have hp62:=A3j hp61;f' r' t'<|g' hp62 r' fun c63 hc64=>?_
   obtain⟨v65,v67,v69,v71,rfl,hs66,hs68,hs70,hs72⟩:=hc64
   refine have hl73:=hs66.le;have hl74:=hs68.le;have hl75:=hs70.le;have hl76:=hs72.le;c' (X.call call10 rfl (B9C _ _ ((gt r.Sheets k).Sheet) ⟨_,_,_,_,rfl,hs66,hs68,hs70,hs72⟩)) (fun h77=>?_) fun h77=>?_
   ·refine v' 3 r'<|have hp78:=A1h hp23;f' r' t'<|v' 1 r'<|s' hp78 r' fun v79 hs80=>have hl81:=hs80.le;v' 3 r'<|x' k hs80 r' r' fun p82 hp83=>v' 1 r'<|have hp84:=B4G hp83;f' r' t'<|v' 1 r'<|s' hp84 r' fun v85 hs86=>have hl87:=hs86.le;v' 1 r'<|l' hs86 r'<|v' 1 r'<|c' (X.gtr r' r') (fun h88=>?_) fun h88=>?_
    ·exact v' 16 r'<|A0 r' r'<|C5<|⟨_,rfl,fun h_=>by first|(cases h_;done)|omega⟩
    refine v' 8 r'<|have hp89:=A1h hp23;f' r' t'<|s' hp89 r' fun v90 hs91=>have hl92:=hs91.le;v' 1 r'<|x' k hs91 r' r' fun p93 hp94=>have hp95:=A1M hp94;f' r' t'<|s' hp95 r' fun v96 hs97=>have hl98:=hs97.le;l' hs97 r'<|y' (A5N rfl rfl)<|v' 10 r'<|J7 (k+1) (wr (mk+(↑((gt r.Sheets k).Marks).length))) ?_
    ((try dsimp only);omega)
   exact v' 26 r'<|A0 r' r'<|C5<|⟨_,rfl,fun h_=>by first|(cases h_;done)|omega⟩
  refine v' 15 r' ?_
  refine I0 (fun(k:Nat)=>r.Stations.length-k) (fun k=>[]) (fun k=>[(3,Pt b17 0),(5,J mk),(7,J k)]) (fun k=>k≤r.Stations.length) 0 ?_ ?_
  ·exact Nat.zero_le _
  rintro k hF99
  refine have hk:=hF99;q' 4 r'<|have hp100:=A5a hp23;f' r' t'<|s' hp100 r' fun v101 hs102=>have hl103:=hs102.le;l' hs102 r'<|c' (X.lss r' r') (fun h104=>?_) fun h104=>?_
  ·refine v' 9 r'<|have hp105:=A5a hp23;f' r' t'<|s' hp105 r' fun v106 hs107=>have hl108:=hs107.le;v' 1 r'<|x' k hs107 r' r' fun p109 hp110=>have hp111:=A7r hp110;f' r' t'<|s' hp111 r' fun v112 hs113=>have hl114:=hs113.le;l' hs113 r'<|c' (X.gtr r' r') (fun h115=>?_) fun h115=>?_
   ·exact v' 14 r'<|A0 r' r'<|C5<|⟨_,rfl,fun h_=>by first|(cases h_;done)|omega⟩
   exact v' 12 r'<|G5 (k+1)<|by omega
  exact v' 11 r'<|have hp116:=A7j hp23;f' r' t'<|s' hp116 r' fun v117 hs118=>have hl119:=hs118.le;l' hs118 r'<|y' (A5N rfl rfl)<|v' 5 r'<|A0 r' r'<|C5<|⟨_,rfl,fun h_=>by first|(cases h_;done)|omega⟩
 exact v' 35 r'<|A0 r' r'<|C5<|⟨_,rfl,fun h_=>by first|(cases h_;done)|omega⟩
theorem B2i(m:Mem)(cf:List Value)(f:FiledT)(hf:Enc.rd m cf f)(hf_:fiB f):Pure prog 85 #[.agg cf.toArray] m (fun m' v=>∃r0,v= .agg r0.toArray∧Enc.rd m' r0 (f)):=by
 obtain⟨v1,v3,v5,v7,v9,v11,rfl,hs2,hs4,hs6,hs8,hs10,hs12⟩:=hf
 refine have hl13:=hs2.le;have hl14:=hs4.le;have hl15:=hs6.le;have hl16:=hs8.le;have hl17:=hs10.le;have hl18:=hs12.le;have hsb_:=hf_.1;have hmn_:=hf_.2;H7 func85 r' ntmps85 fun wld=>q' 2 r'<|o' r' r' fun b19=>n' zeroValue76 r' fun b20=>v' 3 r'<|K7 (π:=sq [0,1,3,4,6,7,2,9,5,8,10,11,12,13,14] .done) [2,5,8,10,12,14] [10,12,14] r' (by kernel_rfl)<|Y' r' r' (A.f r')<|Y' r' r' (J2 (k:=1) (vs:=[J f.Sheet.Paper.Pitch,J f.Sheet.Paper.Height,J f.Sheet.Paper.Radius,J f.Sheet.Paper.Low,J f.Sheet.Paper.High,J f.Sheet.Paper.Columns,J f.Sheet.Paper.Along.Lo,J f.Sheet.Paper.Along.Hi,J f.Sheet.Paper.Across.Lo,J f.Sheet.Paper.Across.Hi,v1,v3,v5,v7,J f.Sheet.Pen.Band,J f.Sheet.Pen.Zero.Lo,J f.Sheet.Pen.Zero.Hi,J f.Sheet.Pen.Rate]) isAgg35 sizeOf35 rfl rfl rfl rfl)<|Y' r' r' (A.f r')<|Y' r' r' (A.b 1 r' r' r')<|Y' r' r' (A.f r')<|Y' r' r' (A.b 1 r' r' r')<|A1V r' r' r' (T.call call165 rfl (A2Z _ _ f.Sheet ⟨_,_,_,_,rfl,hs2,hs4,hs6,hs8⟩ (by assumption))) (by decide) fun m21 r22 hle23 hR24=>?_
 obtain⟨c25,rfl,hc26⟩:=hR24
 replace hs10:=hs10.mono hle23
 replace hs12:=hs12.mono hle23
 obtain⟨v27,v29,v31,v33,rfl,hs28,hs30,hs32,hs34⟩:=hc26
 refine have hl35:=hs28.le;have hl36:=hs30.le;have hl37:=hs32.le;have hl38:=hs34.le;Y' r' r' (A.f r') ?_
 refine A3m rfl rfl rfl (J5 call166 rfl (C0z _ hs10 (by omega))) (by decide) (fun m39 Es40 v41 hle42 hR_=>?_)
 obtain⟨rfl,ho43⟩:=hR_
 replace hs12:=hs12.mono hle42
 replace hs28:=hs28.mono hle42
 replace hs30:=hs30.mono hle42
 replace hs32:=hs32.mono hle42
 replace hs34:=hs34.mono hle42
 refine A3m rfl rfl rfl (J5 call167 rfl (C2m _ hs12 (by omega))) (by decide) (fun m44 Es45 v46 hle47 hR_=>?_)
 obtain⟨rfl,ho48⟩:=hR_
 refine have hs28:=hs28.mono hle47;have hs30:=hs30.mono hle47;have hs32:=hs32.mono hle47;have hs34:=hs34.mono hle47;B3 r' r' r' r' (S3 (k:=3) [J f.Name.Clerk,J f.Name.Num,J f.Station,J f.Week,J f.Sheet.Paper.Pitch,J f.Sheet.Paper.Height,J f.Sheet.Paper.Radius,J f.Sheet.Paper.Low,J f.Sheet.Paper.High,J f.Sheet.Paper.Columns,J f.Sheet.Paper.Along.Lo,J f.Sheet.Paper.Along.Hi,J f.Sheet.Paper.Across.Lo,J f.Sheet.Paper.Across.Hi,v27,v29,v31,v33,J f.Sheet.Pen.Band,J f.Sheet.Pen.Zero.Lo,J f.Sheet.Pen.Zero.Hi,J f.Sheet.Pen.Rate,v9,v11] sizeOf35 rfl rfl rfl (A4 rfl (A4 rfl (A4 rfl (A4 rfl (A4 rfl (A4 rfl (A4 rfl (A4 rfl (A4 rfl (A4 rfl (A4 hs28.one (A4 hs30.one (A4 hs32.one (A4 hs34.one (A4 rfl (A4 rfl (A4 rfl (A4 rfl C0)))))))))))))))))) rfl rfl rfl)<|Y' r' r' (A.f r')<|B3 r' r' r' r' (T.storeB (k:=3) sizeOf74 rfl rfl rfl ho43 (Nat.le_of_ble_eq_true rfl))<|Y' r' r' (A.f r')<|B3 r' r' r' r' (T.storeB (k:=3) sizeOf56 rfl rfl rfl ho48 (Nat.le_of_ble_eq_true rfl))<|V' 3 r'<|a' 3 r' r'<|w' 2 r' r' r'<|v' 3 r' ?_
 refine E1 1 rfl rfl (by unfold C8;omega) (fun m49 hle50 hs51=>?_)
 replace hs28:=hs28.mono hle50
 replace hs30:=hs30.mono hle50
 replace hs32:=hs32.mono hle50
 replace hs34:=hs34.mono hle50
 refine E1 0 rfl rfl (by unfold C8;omega) (fun m52 hle53 hs54=>?_)
 exact have hs28:=hs28.mono hle53;have hs30:=hs30.mono hle53;have hs32:=hs32.mono hle53;have hs34:=hs34.mono hle53;have hs51:=hs51.mono hle53;T3 0 r' r' r' isAgg76 sizeOf76<|C5<|⟨_,rfl,⟨_,_,_,_,_,_,rfl,hs28,hs30,hs32,hs34,hs51,hs54⟩⟩
theorem C6V(m:Mem)(ca:List Value)(a:FiledT)(ha:Enc.rd m ca a)(cb:List Value)(b:FiledT)(hb:Enc.rd m cb b):Exact prog 87 #[.agg ca.toArray,.agg cb.toArray] m (J (S7 a.Station b.Station)):=by
 obtain⟨v1,v3,v5,v7,v9,v11,rfl,hs2,hs4,hs6,hs8,hs10,hs12⟩:=ha
 have hl13:=hs2.le
 have hl14:=hs4.le
 have hl15:=hs6.le
 have hl16:=hs8.le
 have hl17:=hs10.le
 have hl18:=hs12.le
 obtain⟨v19,v21,v23,v25,v27,v29,rfl,hs20,hs22,hs24,hs26,hs28,hs30⟩:=hb
 refine have hl31:=hs20.le;have hl32:=hs22.le;have hl33:=hs24.le;have hl34:=hs26.le;have hl35:=hs28.le;have hl36:=hs30.le;C7 func87 r' ntmps87 fun wld=>q' 2 r'<|o' r' r' fun b37=>o' r' r' fun b38=>v' 4 r'<|fz (x:=a) 1 r' r' ⟨_,_,_,_,_,_,rfl,hs2,hs4,hs6,hs8,hs10,hs12⟩ fun m39 hle40 hp41=>have hs20:=hs20.mono hle40;have hs22:=hs22.mono hle40;have hs24:=hs24.mono hle40;have hs26:=hs26.mono hle40;have hs28:=hs28.mono hle40;have hs30:=hs30.mono hle40;fz (x:=b) 0 r' r' ⟨_,_,_,_,_,_,rfl,hs20,hs22,hs24,hs26,hs28,hs30⟩ fun m42 hle43 hp44=>have hp41:=hp41.mono hle43;q' 1 r'<|have hp45:=P7 hp41;f' r' t'<|i' hp45 r'<|have hp46:=P7 hp44;f' r' t'<|i' hp46 r'<|y' (X.call call88 rfl (A0u _ _ _))<|v' 4 r'<|A0 r' r'<|A7 ?_
 first|rfl|(simp[*];done)
abbrev A4B:=BigV 24
instance:Flat A4B:=BigV.flat 24 (by decide)
def B7b(fc:Nat):Prop:=Enters prog fc∧∀(m:Mem) (a b:A4B),GoodB (fun _:FiledT=>True) m a→GoodB (fun _:FiledT=>True) m b→∃z:Int,Exact prog fc #[.agg a.cells.toArray,.agg b.cells.toArray] m (J z)
theorem C5X:B7b 87:=⟨call87,fun m a b ⟨x,hx,_⟩ ⟨y,hy,_⟩=>⟨_,C6V m _ x hx _ y hy⟩⟩
theorem C7e(m:Mem){v:Value}{L:List A4B}(hL:L.length≤1000000){Q:FiledT→Prop}(hG:GoodL Q m L){fc:Nat}(hC:B7b fc){a b:Nat}{za zb:Int}(hza:za=a)(hzb:zb=b)(hab:a≤b)(hbl:b≤L.length):Mut prog 239 #[v,J za,J zb,Fc fc] m [A5 v 76 L] (fun _ Es u=>u= .tuple #[]∧∃R,Es=[A5 v 76 R]∧R.Perm L∧True):=by
 subst hza
 subst hzb
 refine G3 func239 r' ntmps239 fun wld=>q' 8 r' ?_
 refine O6 (fun(i:Nat) (R:List A4B)=>b-i) (fun i R=>[A5 (v) 76 (R)]) (fun i R=>[(0,v),(1,J a),(2,J b),(3,Fc fc),(8,J i)]) (fun i R=>a+1≤i∧R.Perm L) (a+1) L ?_ ?_
 ·exact⟨by omega,.refl _⟩
 rintro i R ⟨hi,hP⟩
 refine have hPl:=hP.length_eq;q' 5 r'<|c' (X.lss r' r') (fun h2=>?_) fun h2=>?_
 ·refine v' 14 r' ?_
  refine O6 (fun(j:Nat) (R:List A4B)=>j) (fun j R=>[A5 (v) 76 (R)]) (fun j R=>[(0,v),(1,J a),(2,J b),(3,Fc fc),(8,J i),(9,J j)]) (fun j R=>a≤j∧j≤i∧i<b∧R.Perm L) i R ?_ ?_
  ·exact⟨by omega,by omega,by omega,hP⟩
  rintro j R ⟨hj1,hj2,hj3,hP⟩
  refine have hPl:=hP.length_eq;q' 2 r'<|B4 17 [] []<|U' 2 r'<|C' r' r' (X.gtr r' r') (fun h4=>?_) fun h4=>?_
  ·refine U' 4 r'<|Y' r' r' (B0 0 j)<|Y' r' r' (E4 0 (j) r' r' r')<|U' 3 r'<|Y' r' r' (B0 0 (j-1))<|Y' r' r' (E4 0 ((j-1)) r' r' r') ?_
   obtain⟨z5,hz6⟩:=hC.2 _ (gt R j) (gt R (j-1)) (GoodL.at_ (by first|exact hG|exact hG.perm (by assumption)) (by first|omega|(simp;omega))).any (GoodL.at_ (by first|exact hG|exact hG.perm (by assumption)) (by first|omega|(simp;omega))).any
   refine Y' r' r' (D6 hC.1 rfl rfl hz6)<|C' r' r' (X.lss r' r') (fun h7=>?_) fun h7=>?_
   ·refine U' 1 r'<|V' 6 r'<|B4 18 [15,17] [15,17,100004]<|U' 4 r'<|H6 r' r' r' (fun _ _ hle_=>(X.sub rfl rfl (by omega) (by omega))) (by decide)<|U' 3 r'<|Y' r' r' (B0 0 (j-1))<|Y' r' r' (E4 0 ((j-1)) r' r' r')<|U' 2 r'<|Y' r' r' (B0 0 j)<|Y' r' r' (E4 0 (j) r' r' r')<|Y' r' r' (B0 0 j)<|B3 r' r' r' r' (D4 (k:=0) (i:=j) (a:=gt R (j-1)) sizeOf76 rfl rfl rfl rfl (by first|omega|(simp;omega)|simp))<|Y' r' r' (B0 0 (j-1))<|B3 r' r' r' r' (D4 (k:=0) (i:=(j-1)) (a:=gt R j) sizeOf76 rfl rfl rfl rfl (by first|omega|(simp;omega)|simp))<|V' 8 r' ?_
    obtain⟨j1_,hj1_⟩:∃qq__:Nat,(↑j-1:Int)=(qq__:Int):=⟨(↑j-1:Int).toNat,(by omega)⟩
    rw[hj1_]
    obtain rfl:j1_=j-1:=(by omega)
    exact J7 (j-1) ((R.set j (gt R (j-1))).set (j-1) (gt R j))<|⟨by omega,by omega,by omega,G6 hP (by omega) (by omega)⟩
   exact U' 1 r'<|V' 14 r'<|J7 (i+1) R<|⟨by omega,hP⟩
  exact U' 14 r'<|V' 14 r'<|J7 (i+1) R<|⟨by omega,hP⟩
 exact v' 7 r'<|D9 r'<|G0<|⟨rfl,_,rfl,hP,trivial⟩
theorem C5A(m:Mem){v:Value}{L:List A4B}(hL:L.length≤1000000){Q:FiledT→Prop}(hG:GoodL Q m L){fc:Nat}(hC:B7b fc){n:Nat}{zn:Int}(hzn:zn=n)(hnl:n=L.length)(hsm:L.length≤19):Mut prog 168 #[v,J zn,Fc fc] m [A5 v 76 L] (fun _ Es u=>u= .tuple #[]∧∃R,Es=[A5 v 76 R]∧R.Perm L∧True):=by
 subst hzn
 refine G3 func168 r' ntmps168 fun wld=>q' 14 r' ?_
 refine I0 (fun(u_:Unit)=>0) (fun u_=>[A5 (v) 76 (L)]) (fun u_=>[(0,v),(1,J n),(2,Fc fc),(6,J 20),(7,J 0),(8,J 20)]) (fun u_=>True) () ?_ ?_
 ·trivial
 rintro u_ hF1
 refine q' 5 r'<|y' (A1S (X.leq rfl rfl) (by omega))<|v' 14 r' ?_
 refine C2 (C3 (A:=[]) call239 rfl (.refl _) (C7e _ (L:=L) (by first|omega|(simp;omega)) (by first|exact hG|exact hG.perm (by assumption)|exact hG.perm (G6 hP (by omega) (by omega))) hC (a:=0) (b:=n) (by omega) (by omega) (by omega) (by omega))) (by decide) (fun m2 Es_ u_ hle3 hR_=>?_)
 obtain⟨rfl,R4,rfl,hR5,hB6⟩:=hR_
 replace hR5:R4.Perm L:=hR5.trans (by first|exact .refl _|assumption|exact G6 hP (by omega) (by omega))
 refine have hR5l:=hR5.length_eq;v' 3 r' ?_
 refine I0 (fun(u_:Unit)=>0) (fun u_=>[A5 (v) 76 (R4)]) (fun u_=>[(0,v),(1,J n),(2,Fc fc),(6,J 20)]) (fun u_=>True) () ?_ ?_
 ·trivial
 rintro u_ hF7
 exact q' 5 r'<|y' (A1S (X.lss rfl rfl) (by omega))<|v' 7 r'<|D9 r'<|G0<|⟨rfl,_,rfl,by assumption,trivial⟩
theorem C7N(m:Mem){v:Value}{L:List A4B}(hsm:L.length≤19){Q:FiledT→Prop}(hG:GoodL Q m L){fc:Nat}(hC:B7b fc):Mut prog 86 #[v,Fc fc] m [A5 v 76 L] (fun _ Es u=>u= .tuple #[]∧∃R,Es=[A5 v 76 R]∧R.Perm L):=by
 refine G3 func86 r' ntmps86 fun wld=>q' 3 r'<|y' (S5 (k:=0) runUnderlying54 rfl rfl)<|v' 1 r' ?_
 refine C2 (C3 (A:=[]) call168 rfl (.refl _) (C5A _ (L:=L) (by first|omega|(simp;omega)) (by first|exact hG|exact hG.perm (by assumption)|exact hG.perm (G6 hP (by omega) (by omega))) hC (n:=L.length) (by omega) (by omega) (by omega))) (by decide) (fun m1 Es_ u_ hle2 hR_=>?_)
 obtain⟨rfl,R3,rfl,hR4,hB5⟩:=hR_
 replace hR4:R3.Perm L:=hR4.trans (by first|exact .refl _|assumption|exact G6 hP (by omega) (by omega))
 exact have hR4l:=hR4.length_eq;v' 1 r'<|D9 r'<|G0<|⟨rfl,_,rfl,by assumption⟩
theorem A3l{G:Prop}(h:G:=by exact⟨_,((WeekT.mk ((BaseT.mk ([]) ((Wind.mk (0) (0))) (0) (0) (0))) (0) ([]) ([]))),_,rfl,⟨_,_,_,rfl,.nil,.nil,.nil⟩,fun h_=>by first|(exfalso;omega)|exact⟨rfl,rfl⟩⟩):G:=h
theorem A8l{G:Prop}(h:G:=by exact⟨by omega,(by first|omega|(simp only[List.length_append,List.length_cons,List.length_nil,List.length_set];omega))⟩):G:=h
theorem C0U(m:Mem)(cb:List Value)(b:BaseT)(hb:Enc.rd m cb b)(cr:List Value)(r:RegT)(hr:Enc.rd m cr r)(week:Int)(hr_:rgB r)(hs_:r.Sheets.length≤4):Pure prog 38 #[.agg cb.toArray,.agg cr.toArray,J week] m (fun m' v=>∃(r0:List Value) (x0:WeekT) (z1:Int),v= .tuple #[.agg r0.toArray,J z1]∧Enc.rd m' r0 x0∧(z1=0→x0.Base.Term=b.Term∧x0.Base.Ticks=b.Ticks)):=by
 obtain⟨v1,rfl,hs2⟩:=hb
 have hl3:=hs2.le
 obtain⟨v4,v6,v8,v10,rfl,hs5,hs7,hs9,hs11⟩:=hr
 have hl12:=hs5.le
 have hl13:=hs7.le
 have hl14:=hs9.le
 have hl15:=hs11.le
 have hrb_:=hr_.1
 have hrh_:∀i,i<r.Stations.length→(gt r.Stations i).Heights.length≤1000:=hr_.2.1
 refine H7 func38 r' ntmps38 fun wld=>q' 2 r'<|o' r' r' fun b16=>o' r' r' fun b17=>n' zeroValue60 r' fun b18=>v' 5 r'<|fz (x:=b) 2 r' r' ⟨_,rfl,hs2⟩ fun m19 hle20 hp21=>have hs5:=hs5.mono hle20;have hs7:=hs7.mono hle20;have hs9:=hs9.mono hle20;have hs11:=hs11.mono hle20;fz (x:=r) 1 r' r' ⟨_,_,_,_,rfl,hs5,hs7,hs9,hs11⟩ fun m22 hle23 hp24=>have hp21:=hp21.mono hle23;q' 1 r'<|g' hp21 r' fun c25 hc26=>?_
 obtain⟨v27,rfl,hs28⟩:=hc26
 refine have hl29:=hs28.le;y' (X.call call82 rfl (A5i _ _ b ⟨_,rfl,hs28⟩))<|v' 6 r'<|e' (X.neq r' r') (fun h30=>?_) fun h30=>?_
 ·refine v' 5 r'<|WL.x (V:=Value.agg [S0,J 0,J 0,J 0,J 0,J 0,J 0,S0,S0].toArray) (X.build zeroValue60 runUnderlying60 (A0D _ underlying60) rfl rfl) (by decide) ?_
  exact v' 1 r'<|w' 0 r' r' r'<|v' 5 r'<|F2 0 r' r' r' r' isAgg60 sizeOf60<|C5<|A3l
 refine v' 9 r'<|c' (X.call call83 rfl (S9 _ _ _ _)) (fun h31=>?_) fun h31=>?_
 ·refine v' 8 r'<|g' hp21 r' fun c32 hc33=>?_
  obtain⟨v34,rfl,hs35⟩:=hc33
  refine have hl36:=hs35.le;v' 1 r'<|WL.x (V:=Value.agg [v34,J b.Wind.Fixed,J b.Wind.Each,J b.Term,J b.Ticks,J b.Clerks,J week,S0,S0].toArray) (X.build zeroValue60 runUnderlying60 (A0D _ underlying60) rfl (by kernel_rfl)) (by decide) ?_
  refine n' zeroValue60 r' fun b37=>w' 0 r' r' r'<|v' 3 r'<|A0r 76 24<|G7 ReadT 196<|q' 1 r'<|have hp38:=A5a hp24;f' r' t'<|s' hp38 r' fun v39 hs40=>?_
  have hl41:=hs40.le
  refine C2 (J5 call84 rfl (B3W _ hs40 (by omega) (by assumption))) (by decide) (fun m42 Es43 v44 hle45 hR_=>?_)
  obtain⟨ys46,rfl,hx47,ho48⟩:=hR_
  refine have hp24:=hp24.mono hle45;f' r' t'<|f' r' t'<|I2 (T.storeB (k:=3) sizeOf47 rfl rfl rfl ho48 (Nat.le_of_ble_eq_true rfl))<|v' 5 r'<|have hp49:=A1h hp24;f' r' t'<|s' hp49 r' fun v50 hs51=>have hl52:=hs51.le;l' hs51 r'<|v' 4 r' ?_
  refine lp (G:=Nat×Value×List Value×List FiledT×Mem) (fun(i,vM,xM,M,mm)=>r.Sheets.length-i) (fun(i,vM,xM,M,mm)=>mm) (fun(i,vM,xM,M,mm)=>[row (v44) 128 4 (r.Stations).length (ys46),A5 ((S0)) 196 (([]:List ReadT)),row (vM) 76 24 (M).length (xM),blk b37 60 [v44,J b.Wind.Fixed,J b.Wind.Each,J b.Term,J b.Ticks,J b.Clerks,J week,vM,(S0)],blk b18 60 [S0,J 0,J 0,J 0,J 0,J 0,J 0,S0,S0]]) (fun(i,vM,xM,M,mm)=>[(2,J week),(4,Pt b17 0),(6,Pt b18 0),(9,Pt b37 0),(33,v50),(34,J r.Sheets.length),(35,J i)]) (fun(i,vM,xM,M,mm)=>m42.le mm∧RdL mm xM M∧i≤r.Sheets.length∧M.length≤i) ((0,Value.slice none 0 0,[],[],m42)) ?_ ?_
  ·exact⟨Mem.le_refl _,RdL.nil,Nat.zero_le _,Nat.le_refl _⟩
  rintro⟨i,vM,xM,M,mm⟩ hF53
  obtain⟨hmm,hxM,hi,hMl⟩:=hF53
  refine have hp24:=hp24.mono hmm;have hx47:=hx47.mono hmm;have hs51:=hs51.mono hmm;q' 2 r'<|c' (X.lss r' r') (fun h54=>?_) fun h54=>?_
  ·refine v' 10 r'<|x' i hs51 r' r' fun p55 hp56=>g' hp56 r' fun c57 hc58=>?_
   obtain⟨v59,v61,v63,v65,v67,v69,rfl,hs60,hs62,hs64,hs66,hs68,hs70⟩:=hc58
   refine have hl71:=hs60.le;have hl72:=hs62.le;have hl73:=hs64.le;have hl74:=hs66.le;have hl75:=hs68.le;have hl76:=hs70.le;n' zeroValue76 r' fun b77=>w' 0 r' r' r'<|v' 4 r'<|f' r' t'<|b' 0 r' r' r'<|v' 1 r'<|c' (X.eql r' r') (fun h78=>?_) fun h78=>?_
   ·refine v' 3 r'<|B4 8 [3,4,5,7] [5,7]<|Y' r' r' (A.f r')<|Y' r' r' (A.b 4 r' r' r')<|Y' r' r' (K4 0 r' r' r')<|A1V r' r' r' (T.call call85 rfl (B2i _ _ (gt r.Sheets i) ⟨_,_,_,_,_,_,rfl,hs60,hs62,hs64,hs66,hs68,hs70⟩ (hr_.2.2 _ (A2P (by omega))))) (by decide) fun m79 r80 hle81 hR82=>?_
    obtain⟨c83,rfl,hc84⟩:=hR82
    replace hp24:=hp24.mono hle81
    replace hx47:=hx47.mono hle81
    replace hxM:=hxM.mono hle81
    obtain⟨v85,v87,v89,v91,v93,v95,rfl,hs86,hs88,hs90,hs92,hs94,hs96⟩:=hc84
    refine have hl97:=hs86.le;have hl98:=hs88.le;have hl99:=hs90.le;have hl100:=hs92.le;have hl101:=hs94.le;have hl102:=hs96.le;P4 r' r' r' (E6 B6B rfl rfl rfl (by decide)) (by decide) fun b103=>?_
    refine V0 rfl rfl rfl rfl (W4 (k:=3) (n':=(M++[gt r.Sheets i]).length) B6B rfl rfl rfl rfl rfl (A4 rfl (A4 rfl (A4 rfl (A4 rfl (A4 rfl (A4 rfl (A4 rfl (A4 rfl (A4 rfl (A4 rfl (A4 rfl (A4 rfl (A4 rfl (A4 rfl (A4 hs86.one (A4 hs88.one (A4 hs90.one (A4 hs92.one (A4 rfl (A4 rfl (A4 rfl (A4 rfl (A4 hs94.one (A4 hs96.one C0)))))))))))))))))))))))) (by simp) (by first|omega|(simp;omega)) (by first|omega|(simp;omega))) (by decide) (fun v104=>?_)
    refine have hx105:=X6 (a:=gt r.Sheets i) hxM ⟨_,_,_,_,_,_,rfl,hs86,hs88,hs90,hs92,hs94,hs96⟩;Y' r' r' (A.f r')<|B3 r' r' r' r' (W8 (k:=3) rfl trivial (D0 rfl rfl rfl) fun ho106=>T.storeB (k:=4) sizeOf54 rfl rfl rfl ho106 (Nat.le_of_ble_eq_true rfl))<|V' 7 r' ?_
    refine nx ((i+1,v104,xM++[J ((((gt r.Sheets i)).Name).Clerk),J ((((gt r.Sheets i)).Name).Num),J (((gt r.Sheets i)).Station),J (((gt r.Sheets i)).Week),J (((((gt r.Sheets i)).Sheet).Paper).Pitch),J (((((gt r.Sheets i)).Sheet).Paper).Height),J (((((gt r.Sheets i)).Sheet).Paper).Radius),J (((((gt r.Sheets i)).Sheet).Paper).Low),J (((((gt r.Sheets i)).Sheet).Paper).High),J (((((gt r.Sheets i)).Sheet).Paper).Columns),J ((((((gt r.Sheets i)).Sheet).Paper).Along).Lo),J ((((((gt r.Sheets i)).Sheet).Paper).Along).Hi),J ((((((gt r.Sheets i)).Sheet).Paper).Across).Lo),J ((((((gt r.Sheets i)).Sheet).Paper).Across).Hi),v85,v87,v89,v91,J (((((gt r.Sheets i)).Sheet).Pen).Band),J ((((((gt r.Sheets i)).Sheet).Pen).Zero).Lo),J ((((((gt r.Sheets i)).Sheet).Pen).Zero).Hi),J (((((gt r.Sheets i)).Sheet).Pen).Rate),v93,v95],M++[gt r.Sheets i],m79)) ?_ ?_
    ·exact⟨(Mem.le_trans hmm hle81),hx105,by omega,(by first|omega|(simp only[List.length_append,List.length_cons,List.length_nil,List.length_set];omega))⟩
    (dsimp only;omega)
   refine v' 11 r' ?_
   refine nx ((i+1,vM,xM,M,mm)) ?_ ?_
   ·exact⟨hmm,hxM,by omega,(by first|omega|(simp only[List.length_append,List.length_cons,List.length_nil,List.length_set];omega))⟩
   (dsimp only;omega)
  refine v' 10 r' ?_
  refine B3J (Q:=fun _=>True) (n:=24) (k:=2) (by decide) rfl rfl hxM (fun _ _=>trivial) (fun RN_ hRl_ hG=>?_)
  refine q' 1 r'<|f' r' t'<|b' 3 r' r' r' ?_
  refine C2 (I3 [2] call86 r' (C7N _ (L:=RN_) (by omega) hG C5X)) (by decide) (fun m107 Es_ u_ hle108 hR_=>?_)
  obtain⟨rfl,R109,rfl,hR110⟩:=hR_
  refine have hp24:=hp24.mono hle108;have hx47:=hx47.mono hle108;have hG:=hG.mono hle108;have hR110l:=hR110.length_eq;have hG:=GoodL.perm hG hR110;v' 4 r' ?_
  refine B0m (Q:=fun _=>True) (n:=24) (k:=0) (by decide) rfl rfl hG (fun L2 xs2 hL2 hx2 _=>?_)
  refine q' 1 r'<|have hp111:=A7j hp24;f' r' t'<|s' hp111 r' fun v112 hs113=>have hl114:=hs113.le;l' hs113 r'<|v' 4 r' ?_
  refine lq3 (fun(j:Nat) (vN:Value) (Nr:List ReadT)=>r.Reads.length-j) (fun j vN Nr=>[row (vM) 76 24 (L2).length (xs2),row (v44) 128 4 (r.Stations).length (ys46),A5 (vN) 196 (Nr),blk b37 60 [v44,J b.Wind.Fixed,J b.Wind.Each,J b.Term,J b.Ticks,J b.Clerks,J week,vM,vN],blk b18 60 [S0,J 0,J 0,J 0,J 0,J 0,J 0,S0,S0]]) (fun j vN Nr=>[(2,J week),(6,Pt b18 0),(9,Pt b37 0),(55,v112),(56,J r.Reads.length),(57,J j)]) (fun j vN Nr=>j≤r.Reads.length∧Nr.length≤j) 0 (Value.slice none 0 0) [] ?_ ?_
  ·exact⟨Nat.zero_le _,Nat.le_refl _⟩
  rintro j vN Nr ⟨hj,hNl⟩
  refine q' 2 r'<|c' (X.lss r' r') (fun h116=>?_) fun h116=>?_
  ·refine v' 10 r'<|x' j hs113 r' r' fun p117 hp118=>g' hp118 r' fun c119 hc120=>?_
   obtain rfl:=hc120
   refine n' zeroValue196 r' fun b121=>w' 0 r' r' r'<|v' 4 r'<|f' r' t'<|b' 0 r' r' r'<|v' 1 r'<|c' (X.eql r' r') (fun h122=>?_) fun h122=>?_
   ·refine v' 4 r'<|f' r' t'<|b' 4 r' r' r'<|a' 0 r' r'<|T6 (E6 B0T rfl rfl rfl (by decide)) (by decide) fun b123=>?_
    refine G2 (E2 (k:=3) (a:=gt r.Reads j) B0T rfl rfl rfl rfl (by first|omega|(simp;done)|(simp;omega)) (by decide)) (by decide) (fun v124=>?_)
    refine WL.y (X.field runUnderlying60 rfl sizeOf55 rfl) ?_
    refine F7 (k:=3) rfl (fun ho125=>?_)
    exact I2 (T.storeB (k:=4) sizeOf55 rfl rfl rfl ho125 (Nat.le_of_ble_eq_true rfl))<|v' 8 r'<|X1 (j+1) v124 (Nr++[gt r.Reads j])<|A8l
   exact v' 11 r'<|X1 (j+1) vN Nr<|A8l
  refine v' 12 r'<|f' r' t'<|b' 3 r' r' r'<|y' (A2j (k:=0) runUnderlying54 rfl rfl)<|c' (X.gtr r' r') (fun h126=>?_) fun h126=>?_
  ·refine v' 11 r'<|WL.x (V:=Value.agg [S0,J 0,J 0,J 0,J 0,J 0,J 0,S0,S0].toArray) (X.build zeroValue60 runUnderlying60 (A0D _ underlying60) rfl rfl) (by decide) ?_
   exact w' 4 r' r' r'<|v' 5 r'<|F2 4 r' r' r' r' isAgg60 sizeOf60<|C5<|A3l
  refine v' 2 r'<|f' r' t'<|v' 1 r'<|b' 3 r' r' r'<|v' 1 r'<|y' (S5 (k:=2) runUnderlying55 rfl rfl)<|v' 1 r'<|c' (X.gtr r' r') (fun h127=>?_) fun h127=>?_
  ·refine v' 6 r'<|WL.x (V:=Value.agg [S0,J 0,J 0,J 0,J 0,J 0,J 0,S0,S0].toArray) (X.build zeroValue60 runUnderlying60 (A0D _ underlying60) rfl rfl) (by decide) ?_
   exact w' 4 r' r' r'<|v' 5 r'<|F2 4 r' r' r' r' isAgg60 sizeOf60<|C5<|A3l
  refine v' 8 r'<|a' 3 r' r' ?_
  refine F7 (k:=0) rfl (fun ho128=>?_)
  refine F7 (k:=2) rfl (fun ho129=>?_)
  refine w' 4 r' r' r'<|v' 4 r' ?_
  refine N4 1 rfl rfl hx47 (by unfold C8;omega) (fun m130 hle131 hs132=>?_)
  replace hx2:=hx2.mono hle131
  refine N4 0 rfl rfl hx2 (by unfold C8;omega) (fun m133 hle134 hs135=>?_)
  replace hs132:=hs132.mono hle134
  refine E1 0 rfl rfl (by unfold C8;omega) (fun m136 hle137 hs138=>?_)
  exact have hs132:=hs132.mono hle137;have hs135:=hs135.mono hle137;F2 1 r' r' r' r' isAgg60 sizeOf60<|C5<|⟨_,((WeekT.mk ((BaseT.mk (r.Stations) (b.Wind) (b.Term) (b.Ticks) (b.Clerks))) (week) (L2) (Nr))),_,rfl,⟨_,_,_,rfl,hs132,hs135,hs138⟩,fun h_=>by first|(exfalso;omega)|exact⟨rfl,rfl⟩⟩
 refine v' 6 r'<|WL.x (V:=Value.agg [S0,J 0,J 0,J 0,J 0,J 0,J 0,S0,S0].toArray) (X.build zeroValue60 runUnderlying60 (A0D _ underlying60) rfl rfl) (by decide) ?_
 exact w' 0 r' r' r'<|v' 5 r'<|F2 0 r' r' r' r' isAgg60 sizeOf60<|C5<|A3l
theorem A8k{G:Prop}(h:G:=by exact⟨_,((RegT.mk ([]) ([]) ([]) ([]))),_,((WeekT.mk ((BaseT.mk ([]) ((Wind.mk (0) (0))) (0) (0) (0))) (0) ([]) ([]))),_,rfl,⟨_,_,_,_,rfl,.nil,.nil,.nil,.nil⟩,⟨_,_,_,rfl,.nil,.nil,.nil⟩,fun h_=>by first|(cases h_;done)|(have h1_:=of_decide_eq_true h_;have h2_:=h_ (by omega);exact⟨by omega,h2_.1,h2_.2⟩)⟩):G:=h
theorem A8c{G:Prop}(h:G:=by exact⟨_,x27,_,x66,_,rfl,⟨_,_,_,_,rfl,hs89,hs91,hs93,hs95⟩,⟨_,_,_,rfl,hs103,hs105,hs107⟩,fun h_=>by first|(cases h_;done)|(have h1_:=of_decide_eq_true h_;have h2_:=hx69 (by omega);exact⟨by omega,h2_.1,h2_.2⟩)⟩):G:=h
theorem A8t{G:Prop}(h:G:=by exact⟨_,((RegT.mk ([]) ([]) ([]) ([]))),_,((WeekT.mk ((BaseT.mk ([]) ((Wind.mk (0) (0))) (0) (0) (0))) (0) ([]) ([]))),_,rfl,⟨_,_,_,_,rfl,.nil,.nil,.nil,.nil⟩,⟨_,_,_,rfl,.nil,.nil,.nil⟩,fun h_=>by first|(cases h_;done)|(have h1_:=of_decide_eq_true h_;have h2_:=hx69 (by omega);exact⟨by omega,h2_.1,h2_.2⟩)⟩):G:=h
theorem C0J(m:Mem)(cb:List Value)(b:BaseT)(hb:Enc.rd m cb b)(vl:Value)(l:List NoteT)(hl:Sl m vl l)(week:Int):Pure prog 13 #[.agg cb.toArray,vl,J week] m (fun m' v=>∃(r0:List Value) (x0:RegT) (r1:List Value) (x1:WeekT) (q2:Bool),v= .tuple #[.agg r0.toArray,.agg r1.toArray,.bool q2]∧Enc.rd m' r0 x0∧Enc.rd m' r1 x1∧(q2=true→U9 x1=0∧x1.Base.Term=b.Term∧x1.Base.Ticks=b.Ticks)):=by
 obtain⟨v1,rfl,hs2⟩:=hb
 refine have hl3:=hs2.le;have ll:=hl.le;H7 func13 r' ntmps13 fun wld=>q' 2 r'<|o' r' r' fun b4=>n' zeroValue58 r' fun b5=>n' zeroValue60 r' fun b6=>v' 5 r'<|fz (x:=b) 2 r' r' ⟨_,rfl,hs2⟩ fun m7 hle8 hp9=>have hl:=hl.mono hle8;q' 2 r'<|c' (X.call call34 rfl (C7g _ _ _ hl)) (fun h10=>?_) fun h10=>?_
 ·refine v' 3 r'<|g' hp9 r' fun c11 hc12=>?_
  obtain⟨v13,rfl,hs14⟩:=hc12
  refine have hl15:=hs14.le;v' 1 r'<|c' (X.call call35 rfl (B1C _ _ b ⟨_,rfl,hs14⟩)) (fun h16=>?_) fun h16=>?_
  ·refine v' 10 r'<|g' hp9 r' fun c17 hc18=>?_
   obtain⟨v19,rfl,hs20⟩:=hc18
   refine have hl21:=hs20.le;v' 1 r'<|D1 (T.call call36 rfl (C0s _ _ b ⟨_,rfl,hs20⟩ _ _ hl (by assumption))) (by decide) fun m22 r23 hle24 hR25=>?_
   obtain⟨c26,x27,z29,rfl,hc28,hx30⟩:=hR25
   replace hp9:=hp9.mono hle24
   obtain⟨v31,v33,v35,v37,rfl,hs32,hs34,hs36,hs38⟩:=hc28
   refine have hl39:=hs32.le;have hl40:=hs34.le;have hl41:=hs36.le;have hl42:=hs38.le;v' 3 r'<|n' zeroValue58 r' fun b43=>w' 0 r' r' r'<|v' 7 r'<|e' (X.neq r' r') (fun h44=>?_) fun h44=>?_
   ·refine v' 11 r'<|WL.x (V:=Value.agg [S0,S0,S0,S0].toArray) (X.build zeroValue58 runUnderlying58 (A4N _ underlying58) rfl rfl) (by decide) ?_
    refine WL.y (V:=Value.agg [S0,J 0,J 0,J 0,J 0,J 0,J 0,S0,S0].toArray) (X.build zeroValue60 runUnderlying60 (A0D _ underlying60) rfl rfl) ?_
    exact w' 2 r' r' r'<|w' 1 r' r' r'<|v' 5 r'<|A2T 2 1 r' r' r' r' r' r' isAgg58 sizeOf58 isAgg60 sizeOf60<|C5<|A8k
   refine v' 2 r'<|g' hp9 r' fun c45 hc46=>?_
   obtain⟨v47,rfl,hs48⟩:=hc46
   refine have hl49:=hs48.le;v' 1 r'<|a' 0 r' r'<|v' 1 r'<|D1 (T.call call37 rfl (C7A _ _ b ⟨_,rfl,hs48⟩ _ x27 ⟨_,_,_,_,rfl,hs32,hs34,hs36,hs38⟩)) (by decide) fun m50 r51 hle52 hR53=>?_
   obtain⟨q54,rfl,hx55⟩:=hR53
   replace hp9:=hp9.mono hle52
   replace hs32:=hs32.mono hle52
   replace hs34:=hs34.mono hle52
   replace hs36:=hs36.mono hle52
   replace hs38:=hs38.mono hle52
   cases q54
   ·refine v' 8 r'<|WL.x (V:=Value.agg [S0,S0,S0,S0].toArray) (X.build zeroValue58 runUnderlying58 (A4N _ underlying58) rfl rfl) (by decide) ?_
    refine WL.y (V:=Value.agg [S0,J 0,J 0,J 0,J 0,J 0,J 0,S0,S0].toArray) (X.build zeroValue60 runUnderlying60 (A0D _ underlying60) rfl rfl) ?_
    exact w' 2 r' r' r'<|w' 1 r' r' r'<|v' 5 r'<|A2T 2 1 r' r' r' r' r' r' isAgg58 sizeOf58 isAgg60 sizeOf60<|C5<|A8k
   refine v' 10 r'<|g' hp9 r' fun c56 hc57=>?_
   obtain⟨v58,rfl,hs59⟩:=hc57
   refine have hl60:=hs59.le;a' 0 r' r'<|v' 1 r'<|D1 (T.call call38 rfl (C0U _ _ b ⟨_,rfl,hs59⟩ _ x27 ⟨_,_,_,_,rfl,hs32,hs34,hs36,hs38⟩ _ hx30.1 (hx55 rfl))) (by decide) fun m61 r62 hle63 hR64=>?_
   obtain⟨c65,x66,z68,rfl,hc67,hx69⟩:=hR64
   replace hs32:=hs32.mono hle63
   replace hs34:=hs34.mono hle63
   replace hs36:=hs36.mono hle63
   replace hs38:=hs38.mono hle63
   obtain⟨v70,v72,v74,rfl,hs71,hs73,hs75⟩:=hc67
   refine have hl76:=hs71.le;have hl77:=hs73.le;have hl78:=hs75.le;v' 3 r'<|n' zeroValue60 r' fun b79=>w' 0 r' r' r'<|v' 4 r'<|fz (x:=x27) 1 r' r' ⟨_,_,_,_,rfl,hs32,hs34,hs36,hs38⟩ fun m80 hle81 hp82=>have hs71:=hs71.mono hle81;have hs73:=hs73.mono hle81;have hs75:=hs75.mono hle81;fz (x:=x66) 0 r' r' ⟨_,_,_,rfl,hs71,hs73,hs75⟩ fun m83 hle84 hp85=>have hp82:=hp82.mono hle84;B4 12 [9,10] [9,10,100001,100007,100008]<|G' hp82 r' r' r' fun c86 hc87=>?_
   obtain⟨v88,v90,v92,v94,rfl,hs89,hs91,hs93,hs95⟩:=hc87
   have hl96:=hs89.le
   have hl97:=hs91.le
   have hl98:=hs93.le
   have hl99:=hs95.le
   refine A5J rfl rfl rfl (A1w isAgg60 sizeOf60 rfl hp85) (by decide) (fun c100 hc101=>?_)
   obtain⟨v102,v104,v106,rfl,hs103,hs105,hs107⟩:=hc101
   refine have hl108:=hs103.le;have hl109:=hs105.le;have hl110:=hs107.le;U' 1 r'<|C' r' r' (X.eql r' r') (fun h111=>?_) fun h111=>?_
   ·refine U' 1 r'<|G' hp85 r' r' r' fun c112 hc113=>?_
    obtain⟨v114,v116,v118,rfl,hs115,hs117,hs119⟩:=hc113
    exact have hl120:=hs115.le;have hl121:=hs117.le;have hl122:=hs119.le;Y' r' r' (X.call call39 rfl (B5K _ _ x66 ⟨_,_,_,rfl,hs115,hs117,hs119⟩))<|H6 r' r' r' (fun _ _ hle_=>(X.eql rfl rfl)) (by decide)<|H6 r' r' r' (fun _ _ hle_=>(B6a rfl rfl rfl)) (by decide)<|W' 1 r' r' r' r' r'<|W' 0 r' r' r' r' r'<|U' 1 r'<|V' 2 r'<|A2T 1 0 r' r' r' r' r' r' isAgg58 sizeOf58 isAgg60 sizeOf60<|C5<|A8c
   exact U' 4 r'<|H6 r' r' r' (fun _ _ hle_=>(B5p rfl rfl rfl)) (by decide)<|W' 1 r' r' r' r' r'<|W' 0 r' r' r' r' r'<|U' 1 r'<|V' 2 r'<|A2T 1 0 r' r' r' r' r' r' isAgg58 sizeOf58 isAgg60 sizeOf60<|C5<|A8c
  refine v' 8 r'<|WL.x (V:=Value.agg [S0,S0,S0,S0].toArray) (X.build zeroValue58 runUnderlying58 (A4N _ underlying58) rfl rfl) (by decide) ?_
  refine WL.y (V:=Value.agg [S0,J 0,J 0,J 0,J 0,J 0,J 0,S0,S0].toArray) (X.build zeroValue60 runUnderlying60 (A0D _ underlying60) rfl rfl) ?_
  exact w' 1 r' r' r'<|w' 0 r' r' r'<|v' 5 r'<|A2T 1 0 r' r' r' r' r' r' isAgg58 sizeOf58 isAgg60 sizeOf60<|C5<|A8t
 refine v' 11 r'<|WL.x (V:=Value.agg [S0,S0,S0,S0].toArray) (X.build zeroValue58 runUnderlying58 (A4N _ underlying58) rfl rfl) (by decide) ?_
 refine WL.y (V:=Value.agg [S0,J 0,J 0,J 0,J 0,J 0,J 0,S0,S0].toArray) (X.build zeroValue60 runUnderlying60 (A0D _ underlying60) rfl rfl) ?_
 exact w' 1 r' r' r'<|w' 0 r' r' r'<|v' 5 r'<|A2T 1 0 r' r' r' r' r' r' isAgg58 sizeOf58 isAgg60 sizeOf60<|C5<|A8t
end Go.Proofs.S10
