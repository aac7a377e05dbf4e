import Derived.Test.YtooomcigmleneaaGreatKxW
import Derived.Test.YtooomcigmleneaaGreatKyP
import Derived.Test.YtooomcigmleneaaGreatT10Ty
import Derived.Test.YtooomcigmleneaaGreatKxU
import Derived.Test.YtooomcigmleneaaGreatT10W35
set_option linter.all false
set_option maxHeartbeats 8000000
namespace Go.Proofs.S10
open Tryz
set_option maxRecDepth 20000
open Go Go.Kx Go.Proofs.T10
variable{G:Prop}{K:Nat}{LR:List ReadT}{LS:List FiledT}{LT:List Station}{N f0 f1 f2 f3 f4 f5 f6 f7 fb n:Nat}{ps:List (Nat×Nat)}{vC vR vS vT:Value}{xS xT:List Value}
def MapN(m:Mem)(b:Nat):Prop:=MapM m b NName (NoteV m)
theorem MapN.mono{m m':Mem}{b:Nat}(h:MapN m b)(hm:m.le m'):MapN m' b:=(MapM.mono h hm).up fun _ h=>h.mono hm
structure Fo where
 b:Nat
 f0:Nat
 f1:Nat
 f2:Nat
 f3:Nat
 f4:Nat
 f5:Nat
 f6:Nat
 f7:Nat
 vS:Value
 xS:List Value
 LS:List FiledT
 vR:Value
 LR:List ReadT
 vT:Value
 xT:List Value
 LT:List Station
 vC:Value
 ps:List (Nat×Nat)
 K:Nat
def foE(g:Fo):List Ent:=[blk g.b 289 [.map (some g.f0),.map (some g.f1),.map (some g.f2),.map (some g.f3),.map (some g.f4),.map (some g.f5),.map (some g.f6),.map (some g.f7),g.vS,g.vR,g.vT,g.vC],mapE g.f2 NName O7,mapE g.f3 NName (InPool g.ps g.K),mapE g.f4 NName (E9 Mark),mapE g.f5 NName (E9 NName),mapE g.f6 NName (E9 ReadT),mapE g.f7 NName W6,row g.vS 76 24 g.LS.length g.xS,A5 g.vR 196 g.LR,row g.vT 128 4 g.LT.length g.xT,A5 g.vC 73 ([]:List NName),I5 73 2 g.ps]
def shB(s:Sheet):Prop:=(s.Trace.length≤1000∧s.Blots.length≤1000)∧s.Drum.Rates.length≤1000∧s.Drum.Stops.length≤1000
def fiB(a:FiledT):Prop:=shB a.Sheet∧a.Marks.length≤5000∧a.Names.length≤5000
def A3R(L:List Station):Prop:=∀i,i<L.length→(gt L i).Heights.length≤1000
def foP(m:Mem)(g:Fo)(n N:Nat):Prop:=MapN m g.f0∧MapN m g.f1∧RdL m g.xS g.LS∧RdL m g.xT g.LT∧(g.LS.length≤n∧g.LR.length≤n∧g.K≤n∧g.LT.length=N∧N≤1000)∧A3R g.LT∧∀a∈g.LS,fiB a
theorem foP.mono{m m':Mem}{g:Fo}{n N:Nat}(h:foP m g n N)(hm:m.le m'):foP m' g n N:=⟨h.1.mono hm,h.2.1.mono hm,h.2.2.1.mono hm,h.2.2.2.1.mono hm,h.2.2.2.2⟩
theorem foP.up{m:Mem}{g:Fo}{n':Nat}(h:foP m g n N)(hn:n≤n'):foP m g n' N:=⟨h.1,h.2.1,h.2.2.1,h.2.2.2.1,by have:=h.2.2.2.2.1;omega,h.2.2.2.2.2⟩
def FoR(fb n N:Nat)(m':Mem)(Es:List Ent)(u:Value):Prop:=u= .tuple #[]∧∃g:Fo,Es=foE g∧g.b=fb∧foP m' g n N
def A9b(dv:Value)(fb N:Nat)(Q:NoteT→Prop):Prop:=∃fn bd cap,dv= .func (.func fn) bd cap∧Enters prog fn∧∀(m:Mem) (g:Fo) (n:Nat) (c:List Value) (x:NoteT),n≤5000→Enc.rd m c x→Q x→foP m g n N→g.b=fb→Mut prog fn (bd++[Value.agg c.toArray].toArray++cap) m (foE g) (FoR fb (n+1) N)
theorem B3X{L:List Station}{i:Nat}{x:Station}(h:A3R L)(hx:x.Heights.length≤1000):A3R (L.set i x):=fun j hj=>by
 rw[List.length_set]at hj
 rw[B0z _ _ hj]
 split
 ·exact hx
 ·exact h j hj
theorem C3H{l:List Station}{id:Int}(h:0<l.length):0≤(U7 l id).1∧(U7 l id).1<l.length:=by
 by_cases h0:(U7 l id).2=0
 ·exact A9R h0
 ·have h1:(U7 l id).1=0:=by
   unfold U7 at h0⊢
   split
   ·rfl
   ·rename_i h2
    rw[if_neg h2]at h0
    split <;> simp_all
  omega
theorem Q5(m:Mem)(cn:List Value)(x:NoteT)(hn_:Enc.rd m cn x){a1 a2 a3 a4 a5 a6 a8 a9 a10 a11:Value}(hM0:MapN m f0):Mut prog 162 #[Pt fb 0,.agg cn.toArray] m [blk fb 289 [.map (some f0),a1,a2,a3,a4,a5,a6,.map (some f7),a8,a9,a10,a11],mapE f7 NName W6] (fun _ Es u=>u= .tuple #[]∧Es=[blk fb 289 [.map (some f0),a1,a2,a3,a4,a5,a6,.map (some f7),a8,a9,a10,a11],mapE f7 NName W6]):=by
 obtain⟨v1,v3,v5,v7,rfl,hs2,hs4,hs6,hs8⟩:=hn_
 refine have hl9:=hs2.le;have hl10:=hs4.le;have hl11:=hs6.le;have hl12:=hs8.le;G3 func162 r' ntmps162 fun wld=>q' 2 r'<|o' r' r' fun b13=>v' 3 r'<|fx (x:=x) 1 0 r' r' ⟨_,_,_,_,rfl,hs2,hs4,hs6,hs8⟩ fun m14 hle15 hp16=>have hM0:=hM0.mono hle15;q' 1 r'<|have hp17:=A2L hp16;f' r' t'<|i' hp17 r'<|v' 10 r'<|c' (X.eql r' r') (fun h18=>?_) fun h18=>?_
 ·refine v' 9 r'<|B4 13 [10,11] [11]<|U' 2 r'<|Y' r' r' (A.f r')<|Y' r' r' (A.b 0 r' r' r')<|have hp19:=D8 hp16;Y' r' r' (A.f r')<|G' hp19 r' r' r' fun c20 hc21=>?_
  obtain rfl:=hc21
  refine G9 rfl rfl (A6D (k:=x.Ref) runUnderlying280 F5 zeroValue200 rfl rfl hM0 A9y) (by decide) (fun u22 hV23=>?_)
  obtain⟨v24,q25⟩:=u22
  replace hV23:(NoteV m14) v24:=hV23
  obtain⟨c26,n27,rfl,hc28⟩:=hV23
  obtain⟨v29,v31,v33,v35,rfl,hs30,hs32,hs34,hs36⟩:=hc28
  refine have hl37:=hs30.le;have hl38:=hs32.le;have hl39:=hs34.le;have hl40:=hs36.le;U' 2 r' ?_
  refine A2k rfl rfl (X.extract rfl rfl) (by decide) (fun h41=>?_) (fun h41=>?_)
  ·refine Q9 r' r' r' (T.alloc zeroValue200 rfl) (by decide) fun b42=>W' 0 r' r' r' r' r'<|U' 1 r'<|V' 6 r'<|f' r' t'<|v' 1 r'<|b' 0 r' r' r'<|v' 1 r'<|e' (X.neq r' r') (fun h43=>?_) fun h43=>?_
   ·refine v' 8 r' ?_
    refine F1 rfl (fun w' hw'=>B8 (hw'.weaken (.cons _ (.refl _))) ?_)
    exact⟨rfl,rfl⟩
   refine v' 8 r'<|B4 7 [6] []<|U' 2 r'<|Y' r' r' (A.f r')<|Y' r' r' (A.b 1 r' r' r')<|G' hp16 r' r' r' fun c44 hc45=>?_
   obtain⟨v46,v48,v50,v52,rfl,hs47,hs49,hs51,hs53⟩:=hc45
   refine have hl54:=hs47.le;have hl55:=hs49.le;have hl56:=hs51.le;have hl57:=hs53.le;Y' r' r' (X.call call154 rfl (H9 _ _ x ⟨_,_,_,_,rfl,hs47,hs49,hs51,hs53⟩))<|A0N r' r' r' (K1 (k:=(G4 x)) runUnderlying287 F5 rfl rfl rfl (show B2 _ 2=_ from rfl) ⟨_,rfl⟩)<|V' 3 r' ?_
   refine D9 rfl (fun w' hw'=>B8 (hw'.weaken (.cons _ (.refl _))) ?_)
   exact⟨rfl,rfl⟩
  refine Q9 r' r' r' (T.alloc zeroValue200 rfl) (by decide) fun b58=>W' 0 r' r' r' r' r'<|U' 1 r'<|V' 16 r'<|B4 7 [6] []<|U' 2 r'<|Y' r' r' (A.f r')<|Y' r' r' (A.b 1 r' r' r')<|G' hp16 r' r' r' fun c59 hc60=>?_
  obtain⟨v61,v63,v65,v67,rfl,hs62,hs64,hs66,hs68⟩:=hc60
  refine have hl69:=hs62.le;have hl70:=hs64.le;have hl71:=hs66.le;have hl72:=hs68.le;Y' r' r' (X.call call154 rfl (H9 _ _ x ⟨_,_,_,_,rfl,hs62,hs64,hs66,hs68⟩))<|A0N r' r' r' (K1 (k:=(G4 x)) runUnderlying287 F5 rfl rfl rfl (show B2 _ 2=_ from rfl) ⟨_,rfl⟩)<|V' 3 r' ?_
  refine D9 rfl (fun w' hw'=>B8 (hw'.weaken (.cons _ (.refl _))) ?_)
  exact⟨rfl,rfl⟩
 refine v' 12 r'<|B4 7 [6] []<|U' 2 r'<|Y' r' r' (A.f r')<|Y' r' r' (A.b 0 r' r' r')<|G' hp16 r' r' r' fun c73 hc74=>?_
 obtain⟨v75,v77,v79,v81,rfl,hs76,hs78,hs80,hs82⟩:=hc74
 refine have hl83:=hs76.le;have hl84:=hs78.le;have hl85:=hs80.le;have hl86:=hs82.le;Y' r' r' (X.call call154 rfl (H9 _ _ x ⟨_,_,_,_,rfl,hs76,hs78,hs80,hs82⟩))<|A0N r' r' r' (K1 (k:=(G4 x)) runUnderlying287 F5 rfl rfl rfl (show B2 _ 1=_ from rfl) ⟨_,rfl⟩)<|V' 3 r' ?_
 refine D9 rfl (fun w' hw'=>B8 (hw'.weaken (.refl _)) ?_)
 exact⟨rfl,rfl⟩
theorem B1l(m:Mem)(ca:List Value)(a:NName)(ha:Enc.rd m ca a)(ck:List Value)(k:Mark)(hk:Enc.rd m ck k){a0 a2 a3 a4 a5 a6 a7 a8 a9 a10 a11:Value}(hM1:MapN m f1):Mut prog 233 #[Pt fb 0,.agg ca.toArray,.agg ck.toArray] m [blk fb 289 [a0,.map (some f1),a2,a3,a4,a5,a6,a7,a8,a9,a10,a11]] (fun _ Es u=>Es=[blk fb 289 [a0,.map (some f1),a2,a3,a4,a5,a6,a7,a8,a9,a10,a11]]∧∃q:Bool,u= .bool q):=by
 obtain rfl:=ha
 obtain rfl:=hk
 refine G3 func233 r' ntmps233 fun wld=>q' 2 r'<|o' r' r' fun b1=>o' r' r' fun b2=>v' 4 r'<|B4 14 [] []<|Y' r' r' (A.f r')<|Y' r' r' (A.b 0 r' r' r')<|U' 2 r'<|Y' r' r' (A.f r')<|Y' r' r' (A.b 2 r' r' r')<|Y' r' r' (K4 1 r' r' r')<|G9 r' r' (B1x (k:=a) runUnderlying280 F5 zeroValue200 rfl rfl hM1 A9y) (by decide) fun u3 hV4=>?_
 obtain⟨c5,n6,rfl,hc7⟩:=hV4
 obtain⟨v8,v10,v12,v14,rfl,hs9,hs11,hs13,hs15⟩:=hc7
 refine have hl16:=hs9.le;have hl17:=hs11.le;have hl18:=hs13.le;have hl19:=hs15.le;Y' r' r' (B1D (vs:=[J n6.Sheet.Paper.Pitch,J n6.Sheet.Paper.Height,J n6.Sheet.Paper.Radius,J n6.Sheet.Paper.Low,J n6.Sheet.Paper.High,J n6.Sheet.Paper.Columns,J n6.Sheet.Paper.Along.Lo,J n6.Sheet.Paper.Along.Hi,J n6.Sheet.Paper.Across.Lo,J n6.Sheet.Paper.Across.Hi,v8,v10,v12,v14,J n6.Sheet.Pen.Band,J n6.Sheet.Pen.Zero.Lo,J n6.Sheet.Pen.Zero.Hi,J n6.Sheet.Pen.Rate]) runUnderlying200 rfl sizeOf35 rfl isAgg35 rfl)<|Y' r' r' (B1D (vs:=[v12,v14]) runUnderlying35 rfl sizeOf31 rfl isAgg31 rfl)<|Y' r' r' (B4l runUnderlying31 rfl sizeOf28 rfl isAgg28 rfl)<|Y' r' r' (A.l r' hs13)<|U' 2 r'<|V' 2 r' ?_
 refine A0 rfl rfl (fun w' hw'=>B8 (hw'.weaken (.cons _ (.cons _ (.refl _)))) ?_)
 exact⟨rfl,_,rfl⟩
theorem B0r(h:G:=by exact⟨rfl,⟨fb,f0,f1,f2,f3,f4,f5,f6,f7,vS,xS,LS,vR,LR,vT,xT,LT,vC,ps,K⟩,rfl,rfl,⟨hM0,hM1,hxS,hxT,⟨(by first|omega|(simp only[List.length_append,List.length_cons,List.length_nil,List.length_set];omega)),(by first|omega|(simp only[List.length_append,List.length_cons,List.length_nil,List.length_set];omega)),(by first|omega|(simp only[List.length_append,List.length_cons,List.length_nil,List.length_set];omega)),(by first|omega|(simp only[List.length_append,List.length_cons,List.length_nil,List.length_set];omega)),hbd.2.2.2.2⟩,hts,hfi⟩⟩):G:=h
theorem C3x(m:Mem)(cn:List Value)(x:NoteT)(hn_:Enc.rd m cn x)(hM0:MapN m f0)(hM1:MapN m f1)(hxS:RdL m xS LS)(hxT:RdL m xT LT)(hbd:LS.length≤n∧LR.length≤n∧K≤n∧LT.length=N∧N≤1000)(hts:A3R LT)(hfi:∀a∈LS,fiB a)(hn:n≤5000):Mut prog 156 #[Pt fb 0,.agg cn.toArray] m [blk fb 289 [.map (some f0),.map (some f1),.map (some f2),.map (some f3),.map (some f4),.map (some f5),.map (some f6),.map (some f7),vS,vR,vT,vC],mapE f2 NName O7,mapE f3 NName (InPool ps K),mapE f4 NName (E9 Mark),mapE f5 NName (E9 NName),mapE f6 NName (E9 ReadT),mapE f7 NName W6,row (vS) 76 24 (LS).length (xS),A5 (vR) 196 (LR),row (vT) 128 4 (LT).length (xT),A5 (vC) 73 (([]:List NName)),I5 73 2 ps] (FoR fb (n+1) N):=by
 obtain⟨v1,v3,v5,v7,rfl,hs2,hs4,hs6,hs8⟩:=hn_
 refine have hl9:=hs2.le;have hl10:=hs4.le;have hl11:=hs6.le;have hl12:=hs8.le;G3 func156 r' ntmps156 fun wld=>q' 2 r'<|o' r' r' fun b13=>v' 4 r'<|fx (x:=x) 1 0 r' r' ⟨_,_,_,_,rfl,hs2,hs4,hs6,hs8⟩ fun m14 hle15 hp16=>have hM0:=hM0.mono hle15;have hM1:=hM1.mono hle15;have hxS:=hxS.mono hle15;have hxT:=hxT.mono hle15;B4 13 [10,11] [11]<|U' 2 r'<|Y' r' r' (A.f r')<|Y' r' r' (A.b 0 r' r' r')<|have hp17:=D8 hp16;Y' r' r' (A.f r')<|G' hp17 r' r' r' fun c18 hc19=>?_
 obtain rfl:=hc19
 refine G9 rfl rfl (A6D (k:=x.Ref) runUnderlying280 F5 zeroValue200 rfl rfl hM1 A9y) (by decide) (fun u20 hV21=>?_)
 obtain⟨v22,q23⟩:=u20
 replace hV21:(NoteV m14) v22:=hV21
 obtain⟨c24,n25,rfl,hc26⟩:=hV21
 obtain⟨v27,v29,v31,v33,rfl,hs28,hs30,hs32,hs34⟩:=hc26
 refine have hl35:=hs28.le;have hl36:=hs30.le;have hl37:=hs32.le;have hl38:=hs34.le;U' 2 r' ?_
 refine A2k rfl rfl (X.extract rfl rfl) (by decide) (fun h39=>?_) (fun h39=>?_)
 ·refine Q9 r' r' r' (T.alloc zeroValue200 rfl) (by decide) fun b40=>W' 0 r' r' r' r' r'<|U' 1 r'<|V' 10 r'<|B4 12 [11] []<|U' 2 r'<|Y' r' r' (A.f r')<|Y' r' r' (A.b 1 r' r' r')<|have hp41:=D8 hp16;Y' r' r' (A.f r')<|G' hp41 r' r' r' fun c42 hc43=>?_
  obtain rfl:=hc43
  refine have hp44:=U0 hp16;Y' r' r' (A.f r')<|Y' r' r' (A.i r' hp44)<|have hp45:=A0H hp16;Y' r' r' (A.f r')<|Y' r' r' (A.i r' hp45)<|DW.x (V:=Value.agg [.pointer none,J x.Station,J x.Week].toArray) r' r' (X.build zeroValue296 runUnderlying296 (A5g _ underlying296) rfl rfl) (by decide) ?_
  refine A0N r' r' r' (K1 (k:=x.Ref) runUnderlying282 F5 rfl rfl rfl (show B2 _ 2=_ from rfl) ⟨_,_,rfl⟩)<|V' 0 r' ?_
  refine D9 rfl (fun w' hw'=>B8 (hw'.weaken (.cons _ (.refl _))) ?_)
  exact B0r
 refine Q9 r' r' r' (T.alloc zeroValue200 rfl) (by decide) fun b46=>W' 0 r' r' r' r' r'<|U' 1 r'<|V' 11 r'<|g' hp16 r' fun c47 hc48=>?_
 obtain⟨v49,v51,v53,v55,rfl,hs50,hs52,hs54,hs56⟩:=hc48
 have hl57:=hs50.le
 have hl58:=hs52.le
 have hl59:=hs54.le
 have hl60:=hs56.le
 refine C2 (I3 [1,6] call162 r' (Q5 _ _ x ⟨_,_,_,_,rfl,hs50,hs52,hs54,hs56⟩ hM0)) (by decide) (fun m61 Es_ u_ hle62 hR_=>?_)
 obtain⟨rfl,rfl⟩:=hR_
 refine have hM0:=hM0.mono hle62;have hM1:=hM1.mono hle62;have hxS:=hxS.mono hle62;have hxT:=hxT.mono hle62;v' 4 r'<|WK.p [2,0,1,1,1,1,1] ?_
 refine F1 rfl (fun w' hw'=>B8 (hw'.weaken (.cons _ (.refl _))) ?_)
 exact B0r
theorem A5X(h:G:=by exact⟨rfl,⟨fb,f0,f1,f2,f3,f4,f5,f6,f7,vS,xS,LS,vR,LR,vT,xT,LT,vC,ps,K⟩,rfl,rfl,⟨hM0,hM1,hxS,hxT,⟨(by first|omega|(simp only[List.length_append,List.length_cons,List.length_nil,List.length_set];omega)),(by first|omega|(simp only[List.length_append,List.length_cons,List.length_nil,List.length_set];omega)),(by first|omega|(simp only[List.length_append,List.length_cons,List.length_nil,List.length_set];omega)),(by first|omega|(simp only[List.length_append,List.length_cons,List.length_nil,List.length_set];omega)),hbd.2.2.2.2⟩,hts,hfi⟩⟩):G:=h
theorem C4w(m:Mem)(cn:List Value)(x:NoteT)(hn_:Enc.rd m cn x)(hM0:MapN m f0)(hM1:MapN m f1)(hxS:RdL m xS LS)(hxT:RdL m xT LT)(hbd:LS.length≤n∧LR.length≤n∧K≤n∧LT.length=N∧N≤1000)(hts:A3R LT)(hfi:∀a∈LS,fiB a)(hn:n≤5000):Mut prog 157 #[Pt fb 0,.agg cn.toArray] m [blk fb 289 [.map (some f0),.map (some f1),.map (some f2),.map (some f3),.map (some f4),.map (some f5),.map (some f6),.map (some f7),vS,vR,vT,vC],mapE f2 NName O7,mapE f3 NName (InPool ps K),mapE f4 NName (E9 Mark),mapE f5 NName (E9 NName),mapE f6 NName (E9 ReadT),mapE f7 NName W6,row (vS) 76 24 (LS).length (xS),A5 (vR) 196 (LR),row (vT) 128 4 (LT).length (xT),A5 (vC) 73 (([]:List NName)),I5 73 2 ps] (FoR fb (n+1) N):=by
 obtain⟨v1,v3,v5,v7,rfl,hs2,hs4,hs6,hs8⟩:=hn_
 refine have hl9:=hs2.le;have hl10:=hs4.le;have hl11:=hs6.le;have hl12:=hs8.le;G3 func157 r' ntmps157 fun wld=>q' 2 r'<|o' r' r' fun b13=>v' 4 r'<|fx (x:=x) 1 0 r' r' ⟨_,_,_,_,rfl,hs2,hs4,hs6,hs8⟩ fun m14 hle15 hp16=>have hM0:=hM0.mono hle15;have hM1:=hM1.mono hle15;have hxS:=hxS.mono hle15;have hxT:=hxT.mono hle15;B4 13 [10,11] [11]<|U' 2 r'<|Y' r' r' (A.f r')<|Y' r' r' (A.b 0 r' r' r')<|have hp17:=D8 hp16;Y' r' r' (A.f r')<|G' hp17 r' r' r' fun c18 hc19=>?_
 obtain rfl:=hc19
 refine G9 rfl rfl (A6D (k:=x.Ref) runUnderlying280 F5 zeroValue200 rfl rfl hM1 A9y) (by decide) (fun u20 hV21=>?_)
 obtain⟨v22,q23⟩:=u20
 replace hV21:(NoteV m14) v22:=hV21
 obtain⟨c24,n25,rfl,hc26⟩:=hV21
 obtain⟨v27,v29,v31,v33,rfl,hs28,hs30,hs32,hs34⟩:=hc26
 refine have hl35:=hs28.le;have hl36:=hs30.le;have hl37:=hs32.le;have hl38:=hs34.le;U' 2 r' ?_
 refine A2k rfl rfl (X.extract rfl rfl) (by decide) (fun h39=>?_) (fun h39=>?_)
 ·refine Q9 r' r' r' (T.alloc zeroValue200 rfl) (by decide) fun b40=>W' 0 r' r' r' r' r'<|U' 1 r'<|V' 2 r'<|B4 22 [8,18] [8]<|U' 4 r'<|have hp41:=D8 hp16;Y' r' r' (A.f r')<|G' hp41 r' r' r' fun c42 hc43=>?_
  obtain rfl:=hc43
  refine have hp44:=O3 hp16;Y' r' r' (A.f r')<|G' hp44 r' r' r' fun c45 hc46=>?_
  obtain rfl:=hc46
  refine A1T rfl rfl rfl rfl (I3 [1] call233 r' (B1l _ _ x.Ref rfl _ x.Mark rfl hM1)) (by decide) (fun m47 Es_ u_ hle48 hR_=>?_)
  obtain⟨rfl,q49,rfl⟩:=hR_
  replace hM0:=hM0.mono hle48
  replace hM1:=hM1.mono hle48
  replace hxS:=hxS.mono hle48
  replace hxT:=hxT.mono hle48
  replace hp16:=hp16.mono hle48
  replace hs28:=hs28.mono hle48
  replace hs30:=hs30.mono hle48
  replace hs32:=hs32.mono hle48
  replace hs34:=hs34.mono hle48
  cases q49
  ·refine U' 13 r'<|V' 5 r'<|g' hp16 r' fun c50 hc51=>?_
   obtain⟨v52,v54,v56,v58,rfl,hs53,hs55,hs57,hs59⟩:=hc51
   have hl60:=hs53.le
   have hl61:=hs55.le
   have hl62:=hs57.le
   have hl63:=hs59.le
   refine C2 (C3 (A:=[blk b40 200 [J n25.Clerk,J n25.Num,J n25.Clock,J n25.Day,J n25.Kind,J n25.Station,J n25.Week,J n25.Sheet.Paper.Pitch,J n25.Sheet.Paper.Height,J n25.Sheet.Paper.Radius,J n25.Sheet.Paper.Low,J n25.Sheet.Paper.High,J n25.Sheet.Paper.Columns,J n25.Sheet.Paper.Along.Lo,J n25.Sheet.Paper.Along.Hi,J n25.Sheet.Paper.Across.Lo,J n25.Sheet.Paper.Across.Hi,v27,v29,v31,v33,J n25.Sheet.Pen.Band,J n25.Sheet.Pen.Zero.Lo,J n25.Sheet.Pen.Zero.Hi,J n25.Sheet.Pen.Rate,J n25.Mark.Column,J n25.Mark.Ticks.Lo,J n25.Mark.Ticks.Hi,J n25.Read.Station,J n25.Read.Week,J n25.Read.Tick,J n25.Read.Levels.Lo,J n25.Read.Levels.Hi,J n25.Height.Week,J n25.Height.Metres.Lo,J n25.Height.Metres.Hi,J n25.Ref.Clerk,J n25.Ref.Num],mapE f2 NName O7,mapE f3 NName (InPool ps K),mapE f4 NName (E9 Mark),mapE f5 NName (E9 NName),mapE f6 NName (E9 ReadT),row (vS) 76 24 (LS).length (xS),A5 (vR) 196 (LR),row (vT) 128 4 (LT).length (xT),A5 (vC) 73 (([]:List NName)),I5 73 2 ps]) call162 rfl (List.Perm.cons _ ((List.Perm.cons _ (.refl _)).trans (List.perm_middle (l₁:=[blk b40 200 [J n25.Clerk,J n25.Num,J n25.Clock,J n25.Day,J n25.Kind,J n25.Station,J n25.Week,J n25.Sheet.Paper.Pitch,J n25.Sheet.Paper.Height,J n25.Sheet.Paper.Radius,J n25.Sheet.Paper.Low,J n25.Sheet.Paper.High,J n25.Sheet.Paper.Columns,J n25.Sheet.Paper.Along.Lo,J n25.Sheet.Paper.Along.Hi,J n25.Sheet.Paper.Across.Lo,J n25.Sheet.Paper.Across.Hi,v27,v29,v31,v33,J n25.Sheet.Pen.Band,J n25.Sheet.Pen.Zero.Lo,J n25.Sheet.Pen.Zero.Hi,J n25.Sheet.Pen.Rate,J n25.Mark.Column,J n25.Mark.Ticks.Lo,J n25.Mark.Ticks.Hi,J n25.Read.Station,J n25.Read.Week,J n25.Read.Tick,J n25.Read.Levels.Lo,J n25.Read.Levels.Hi,J n25.Height.Week,J n25.Height.Metres.Lo,J n25.Height.Metres.Hi,J n25.Ref.Clerk,J n25.Ref.Num],mapE f2 NName O7,mapE f3 NName (InPool ps K),mapE f4 NName (E9 Mark),mapE f5 NName (E9 NName),mapE f6 NName (E9 ReadT)]) (l₂:=[row (vS) 76 24 (LS).length (xS),A5 (vR) 196 (LR),row (vT) 128 4 (LT).length (xT),A5 (vC) 73 (([]:List NName)),I5 73 2 ps]) (a:=mapE f7 NName W6)).symm)) (Q5 _ _ x ⟨_,_,_,_,rfl,hs53,hs55,hs57,hs59⟩ hM0)) (by decide) (fun m64 Es_ u_ hle65 hR_=>?_)
   obtain⟨rfl,rfl⟩:=hR_
   refine have hM0:=hM0.mono hle65;have hM1:=hM1.mono hle65;have hxS:=hxS.mono hle65;have hxT:=hxT.mono hle65;have hp16:=hp16.mono hle65;have hs28:=hs28.mono hle65;have hs30:=hs30.mono hle65;have hs32:=hs32.mono hle65;have hs34:=hs34.mono hle65;v' 4 r'<|WK.p [2,0,1,1,1,1,1] ?_
   refine F1 rfl (fun w' hw'=>B8 (hw'.weaken (.cons _ (.refl _))) ?_)
   exact A5X
  refine U' 5 r'<|Y' r' r' (A.f r')<|Y' r' r' (A.b 0 r' r' r')<|have hp66:=D8 hp16;Y' r' r' (A.f r')<|G' hp66 r' r' r' fun c67 hc68=>?_
  obtain rfl:=hc68
  refine A0U rfl rfl rfl (T8 (k:=x.Ref) runUnderlying283 F5 zeroValue56 rfl rfl (show B2 _ 3=_ from rfl) (.nil _ _)) (by decide) (fun u69 hV70=>?_)
  obtain⟨a71,l72,k73,rfl,hl74,hk75⟩:=hV70
  refine Y' r' r' (A7n runUnderlying56 rfl (q:=l72) rfl)<|C' r' r' (X.geq r' r') (fun h76=>?_) fun h76=>?_
  ·refine U' 1 r'<|V' 5 r'<|g' hp16 r' fun c77 hc78=>?_
   obtain⟨v79,v81,v83,v85,rfl,hs80,hs82,hs84,hs86⟩:=hc78
   have hl87:=hs80.le
   have hl88:=hs82.le
   have hl89:=hs84.le
   have hl90:=hs86.le
   refine C2 (C3 (A:=[blk b40 200 [J n25.Clerk,J n25.Num,J n25.Clock,J n25.Day,J n25.Kind,J n25.Station,J n25.Week,J n25.Sheet.Paper.Pitch,J n25.Sheet.Paper.Height,J n25.Sheet.Paper.Radius,J n25.Sheet.Paper.Low,J n25.Sheet.Paper.High,J n25.Sheet.Paper.Columns,J n25.Sheet.Paper.Along.Lo,J n25.Sheet.Paper.Along.Hi,J n25.Sheet.Paper.Across.Lo,J n25.Sheet.Paper.Across.Hi,v27,v29,v31,v33,J n25.Sheet.Pen.Band,J n25.Sheet.Pen.Zero.Lo,J n25.Sheet.Pen.Zero.Hi,J n25.Sheet.Pen.Rate,J n25.Mark.Column,J n25.Mark.Ticks.Lo,J n25.Mark.Ticks.Hi,J n25.Read.Station,J n25.Read.Week,J n25.Read.Tick,J n25.Read.Levels.Lo,J n25.Read.Levels.Hi,J n25.Height.Week,J n25.Height.Metres.Lo,J n25.Height.Metres.Hi,J n25.Ref.Clerk,J n25.Ref.Num],mapE f2 NName O7,mapE f3 NName (InPool ps K),mapE f4 NName (E9 Mark),mapE f5 NName (E9 NName),mapE f6 NName (E9 ReadT),row (vS) 76 24 (LS).length (xS),A5 (vR) 196 (LR),row (vT) 128 4 (LT).length (xT),A5 (vC) 73 (([]:List NName)),I5 73 2 ps]) call162 rfl (List.Perm.cons _ ((List.Perm.cons _ (.refl _)).trans (List.perm_middle (l₁:=[blk b40 200 [J n25.Clerk,J n25.Num,J n25.Clock,J n25.Day,J n25.Kind,J n25.Station,J n25.Week,J n25.Sheet.Paper.Pitch,J n25.Sheet.Paper.Height,J n25.Sheet.Paper.Radius,J n25.Sheet.Paper.Low,J n25.Sheet.Paper.High,J n25.Sheet.Paper.Columns,J n25.Sheet.Paper.Along.Lo,J n25.Sheet.Paper.Along.Hi,J n25.Sheet.Paper.Across.Lo,J n25.Sheet.Paper.Across.Hi,v27,v29,v31,v33,J n25.Sheet.Pen.Band,J n25.Sheet.Pen.Zero.Lo,J n25.Sheet.Pen.Zero.Hi,J n25.Sheet.Pen.Rate,J n25.Mark.Column,J n25.Mark.Ticks.Lo,J n25.Mark.Ticks.Hi,J n25.Read.Station,J n25.Read.Week,J n25.Read.Tick,J n25.Read.Levels.Lo,J n25.Read.Levels.Hi,J n25.Height.Week,J n25.Height.Metres.Lo,J n25.Height.Metres.Hi,J n25.Ref.Clerk,J n25.Ref.Num],mapE f2 NName O7,mapE f3 NName (InPool ps K),mapE f4 NName (E9 Mark),mapE f5 NName (E9 NName),mapE f6 NName (E9 ReadT)]) (l₂:=[row (vS) 76 24 (LS).length (xS),A5 (vR) 196 (LR),row (vT) 128 4 (LT).length (xT),A5 (vC) 73 (([]:List NName)),I5 73 2 ps]) (a:=mapE f7 NName W6)).symm)) (Q5 _ _ x ⟨_,_,_,_,rfl,hs80,hs82,hs84,hs86⟩ hM0)) (by decide) (fun m91 Es_ u_ hle92 hR_=>?_)
   obtain⟨rfl,rfl⟩:=hR_
   refine have hM0:=hM0.mono hle92;have hM1:=hM1.mono hle92;have hxS:=hxS.mono hle92;have hxT:=hxT.mono hle92;have hp16:=hp16.mono hle92;have hs28:=hs28.mono hle92;have hs30:=hs30.mono hle92;have hs32:=hs32.mono hle92;have hs34:=hs34.mono hle92;v' 4 r'<|WK.p [2,0,1,1,1,1,1] ?_
   refine F1 rfl (fun w' hw'=>B8 (hw'.weaken (.cons _ (.refl _))) ?_)
   exact A5X
  refine U' 1 r'<|V' 5 r'<|K7 (π:=sq [0,1,2,3,4,5,6,7,8,9,10,12,11,13] .done) [8,9,11,13] [9,11,13] r' (by kernel_rfl)<|U' 2 r'<|Y' r' r' (A.f r')<|Y' r' r' (A.b 0 r' r' r')<|have hp93:=D8 hp16;Y' r' r' (A.f r')<|G' hp93 r' r' r' fun c94 hc95=>?_
  obtain rfl:=hc95
  refine G9 rfl rfl (A2s isAgg200 sizeOf200 rfl hp16) (by decide) (fun c96 hc97=>?_)
  obtain⟨v98,v100,v102,v104,rfl,hs99,hs101,hs103,hs105⟩:=hc97
  refine have hl106:=hs99.le;have hl107:=hs101.le;have hl108:=hs103.le;have hl109:=hs105.le;Y' r' r' (X.call call154 rfl (H9 _ _ x ⟨_,_,_,_,rfl,hs99,hs101,hs103,hs105⟩))<|P4 r' r' r' (E6 A5j rfl rfl rfl (by decide)) (by decide) fun b110=>?_
  refine B2s rfl rfl rfl rfl (A5s (k:=x.Ref) runUnderlying283 F5 zeroValue56 rfl rfl (show B2 _ 4=_ from rfl) (.nil _ _)).entry (by decide) (fun u111 s112 hu_=>?_)
  obtain⟨v114,rfl,hV113⟩:=hu_
  obtain⟨a115,l116,k117,rfl,hl118,hk119⟩:=hV113
  refine d_2 ?_
  refine B2s rfl rfl rfl rfl (B3a (k:=12) (n:=K) A5j (by intro v hv;simp[Value.cells]at hv;exact hv) rfl rfl rfl rfl ⟨_,_,_,rfl,hl118,hk119⟩ rfl (by intro v hv;simp at hv;rcases hv with rfl|rfl <;> exact⟨_,rfl⟩) (by omega) (by decide)) (by decide) (fun v120 ps121 hu_=>?_)
  obtain⟨hq122,hin123⟩:=hu_
  refine B3 r' r' r' r' (OpTo.wk (H':=[blk fb 289 [.map (some f0),.map (some f1),.map (some f2),.map (some f3),.map (some f4),.map (some f5),.map (some f6),.map (some f7),vS,vR,vT,vC],blk b40 200 [J n25.Clerk,J n25.Num,J n25.Clock,J n25.Day,J n25.Kind,J n25.Station,J n25.Week,J n25.Sheet.Paper.Pitch,J n25.Sheet.Paper.Height,J n25.Sheet.Paper.Radius,J n25.Sheet.Paper.Low,J n25.Sheet.Paper.High,J n25.Sheet.Paper.Columns,J n25.Sheet.Paper.Along.Lo,J n25.Sheet.Paper.Along.Hi,J n25.Sheet.Paper.Across.Lo,J n25.Sheet.Paper.Across.Hi,v27,v29,v31,v33,J n25.Sheet.Pen.Band,J n25.Sheet.Pen.Zero.Lo,J n25.Sheet.Pen.Zero.Hi,J n25.Sheet.Pen.Rate,J n25.Mark.Column,J n25.Mark.Ticks.Lo,J n25.Mark.Ticks.Hi,J n25.Read.Station,J n25.Read.Week,J n25.Read.Tick,J n25.Read.Levels.Lo,J n25.Read.Levels.Hi,J n25.Height.Week,J n25.Height.Metres.Lo,J n25.Height.Metres.Hi,J n25.Ref.Clerk,J n25.Ref.Num],mapE f2 NName O7,mapS f3 NName (InPool ps121 ((K+1))) s112,mapE f4 NName (E9 Mark),mapE f5 NName (E9 NName),mapE f6 NName (E9 ReadT),mapE f7 NName W6,row (vS) 76 24 (LS).length (xS),A5 (vR) 196 (LR),row (vT) 128 4 (LT).length (xT),A5 (vC) 73 (([]:List NName)),I5 73 2 ps121]) (T0 (T0 (T0 (mapS.up (fun _ h_=>h_.up hq122 (by omega)) (.refl _))))) (A3I rfl rfl rfl (show B2 _ 3=_ from rfl) hin123))<|V' 1 r'<|B4 22 [16,18,19,21] [16,18,19,21,100012,100013,100014,100015]<|U' 2 r'<|Y' r' r' (A.f r')<|Y' r' r' (A.b 0 r' r' r')<|G' hp16 r' r' r' fun c124 hc125=>?_
  obtain⟨v126,v128,v130,v132,rfl,hs127,hs129,hs131,hs133⟩:=hc125
  refine have hl134:=hs127.le;have hl135:=hs129.le;have hl136:=hs131.le;have hl137:=hs133.le;Y' r' r' (X.call call154 rfl (H9 _ _ x ⟨_,_,_,_,rfl,hs127,hs129,hs131,hs133⟩))<|U' 2 r'<|Y' r' r' (A.f r')<|Y' r' r' (A.b 0 r' r' r')<|G' hp16 r' r' r' fun c138 hc139=>?_
  obtain⟨v140,v142,v144,v146,rfl,hs141,hs143,hs145,hs147⟩:=hc139
  refine have hl148:=hs141.le;have hl149:=hs143.le;have hl150:=hs145.le;have hl151:=hs147.le;Y' r' r' (X.call call154 rfl (H9 _ _ x ⟨_,_,_,_,rfl,hs141,hs143,hs145,hs147⟩))<|have hp152:=O3 hp16;H6 r' r' r' (fun _ _ hle_=>(X.field runUnderlying200 rfl sizeOf98 rfl)) (by decide) ?_
  refine A5J rfl rfl rfl (A1w isAgg98 sizeOf98 rfl hp152) (by decide) (fun c153 hc154=>?_)
  obtain rfl:=hc154
  refine have hp155:=D8 hp16;H6 r' r' r' (fun _ _ hle_=>(X.field runUnderlying200 rfl sizeOf73 rfl)) (by decide) ?_
  refine A5J rfl rfl rfl (A1w isAgg73 sizeOf73 rfl hp155) (by decide) (fun c156 hc157=>?_)
  obtain rfl:=hc157
  refine B2s rfl rfl rfl rfl (A5s (k:=(G4 x)) runUnderlying284 F5 zeroValue98 rfl rfl (show B2 _ 4=_ from rfl) ⟨(Mark.mk 0 (Span.mk 0 0)),rfl⟩).entry (by decide) (fun u158 s159 hu_=>?_)
  obtain⟨v161,rfl,hV160⟩:=hu_
  obtain⟨x162,rfl⟩:=hV160
  refine U' 1 r'<|B3 r' r' r' r' (A3I rfl rfl rfl (show B2 _ 4=_ from rfl) ⟨x.Mark,rfl⟩) ?_
  refine B2s rfl rfl rfl rfl (A5s (k:=(G4 x)) runUnderlying285 F5 zeroValue73 rfl rfl (show B2 _ 5=_ from rfl) ⟨(NName.mk 0 0),rfl⟩).entry (by decide) (fun u163 s164 hu_=>?_)
  obtain⟨v166,rfl,hV165⟩:=hu_
  obtain⟨x167,rfl⟩:=hV165
  refine U' 1 r'<|B3 r' r' r' r' (A3I rfl rfl rfl (show B2 _ 5=_ from rfl) ⟨x.Ref,rfl⟩)<|V' 0 r'<|WK.p [1] ?_
  refine D9 rfl (fun w' hw'=>B8 (hw'.weaken (.cons _ (.refl _))) ?_)
  exact⟨rfl,⟨fb,f0,f1,f2,f3,f4,f5,f6,f7,vS,xS,LS,vR,LR,vT,xT,LT,vC,ps121,(K+1)⟩,rfl,rfl,⟨hM0,hM1,hxS,hxT,⟨(by first|omega|(simp only[List.length_append,List.length_cons,List.length_nil,List.length_set];omega)),(by first|omega|(simp only[List.length_append,List.length_cons,List.length_nil,List.length_set];omega)),(by first|omega|(simp only[List.length_append,List.length_cons,List.length_nil,List.length_set];omega)),(by first|omega|(simp only[List.length_append,List.length_cons,List.length_nil,List.length_set];omega)),hbd.2.2.2.2⟩,hts,hfi⟩⟩
 refine Q9 r' r' r' (T.alloc zeroValue200 rfl) (by decide) fun b168=>W' 0 r' r' r' r' r'<|U' 1 r'<|V' 2 r'<|B4 22 [8,18] [8]<|U' 22 r'<|V' 5 r'<|g' hp16 r' fun c169 hc170=>?_
 obtain⟨v171,v173,v175,v177,rfl,hs172,hs174,hs176,hs178⟩:=hc170
 have hl179:=hs172.le
 have hl180:=hs174.le
 have hl181:=hs176.le
 have hl182:=hs178.le
 refine C2 (I3 [1,6] call162 r' (Q5 _ _ x ⟨_,_,_,_,rfl,hs172,hs174,hs176,hs178⟩ hM0)) (by decide) (fun m183 Es_ u_ hle184 hR_=>?_)
 obtain⟨rfl,rfl⟩:=hR_
 refine have hM0:=hM0.mono hle184;have hM1:=hM1.mono hle184;have hxS:=hxS.mono hle184;have hxT:=hxT.mono hle184;v' 4 r'<|WK.p [2,0,1,1,1,1,1] ?_
 refine F1 rfl (fun w' hw'=>B8 (hw'.weaken (.cons _ (.refl _))) ?_)
 exact A5X
theorem M5(h:G:=by exact⟨rfl,⟨fb,f0,f1,f2,f3,f4,f5,f6,f7,vS,xS,LS,vR,LR,vT,xT,LT,vC,ps,K⟩,rfl,rfl,⟨hM0,hM1,hxS,hxT,⟨(by first|omega|(simp only[List.length_append,List.length_cons,List.length_nil,List.length_set];omega)),(by first|omega|(simp only[List.length_append,List.length_cons,List.length_nil,List.length_set];omega)),(by first|omega|(simp only[List.length_append,List.length_cons,List.length_nil,List.length_set];omega)),(by first|omega|(simp only[List.length_append,List.length_cons,List.length_nil,List.length_set];omega)),hbd.2.2.2.2⟩,hts,hfi⟩⟩):G:=h
theorem B6j(m:Mem)(cn:List Value)(x:NoteT)(hn_:Enc.rd m cn x)(hM0:MapN m f0)(hM1:MapN m f1)(hxS:RdL m xS LS)(hxT:RdL m xT LT)(hbd:LS.length≤n∧LR.length≤n∧K≤n∧LT.length=N∧N≤1000)(hts:A3R LT)(hfi:∀a∈LS,fiB a)(hn:n≤5000):Mut prog 158 #[Pt fb 0,.agg cn.toArray] m [blk fb 289 [.map (some f0),.map (some f1),.map (some f2),.map (some f3),.map (some f4),.map (some f5),.map (some f6),.map (some f7),vS,vR,vT,vC],mapE f2 NName O7,mapE f3 NName (InPool ps K),mapE f4 NName (E9 Mark),mapE f5 NName (E9 NName),mapE f6 NName (E9 ReadT),mapE f7 NName W6,row (vS) 76 24 (LS).length (xS),A5 (vR) 196 (LR),row (vT) 128 4 (LT).length (xT),A5 (vC) 73 (([]:List NName)),I5 73 2 ps] (FoR fb (n+1) N):=by
 obtain⟨v1,v3,v5,v7,rfl,hs2,hs4,hs6,hs8⟩:=hn_
 refine have hl9:=hs2.le;have hl10:=hs4.le;have hl11:=hs6.le;have hl12:=hs8.le;G3 func158 r' ntmps158 fun wld=>q' 2 r'<|o' r' r' fun b13=>v' 4 r'<|fx (x:=x) 1 0 r' r' ⟨_,_,_,_,rfl,hs2,hs4,hs6,hs8⟩ fun m14 hle15 hp16=>have hM0:=hM0.mono hle15;have hM1:=hM1.mono hle15;have hxS:=hxS.mono hle15;have hxT:=hxT.mono hle15;q' 1 r'<|have hp17:=U1 hp16;f' r' t'<|have hp18:=A1C hp17;f' r' t'<|i' hp18 r'<|e' (X.neq r' r') (fun h19=>?_) fun h19=>?_
 ·refine v' 5 r'<|K7 (π:=sq [0,1,2,3,4,5] (.fork (sq [6,7,8,9,10,11,12] .done) (sq [10,6,7,8,9,11,12] .done))) [6,10,11] [11] r' (by kernel_rfl)<|U' 2 r'<|Y' r' r' (A.f r')<|Y' r' r' (A.b 0 r' r' r')<|have hp20:=D8 hp16;Y' r' r' (A.f r')<|G' hp20 r' r' r' fun c21 hc22=>?_
  obtain rfl:=hc22
  refine DW.fork (List.cons_ne_nil _ _) ?_ ?_
  ·refine A0U rfl rfl rfl (A5c (k:=x.Ref) runUnderlying286 F5 zeroValue196 rfl rfl (show B2 _ 5=_ from rfl) ⟨(ReadT.mk 0 0 0 (Span.mk 0 0)),rfl⟩) (by decide) (fun u23 hu_=>?_)
   obtain⟨v25,q26,rfl,hV24⟩:=hu_
   obtain⟨x27,rfl⟩:=hV24
   refine d_2 ?_
   refine A2k rfl rfl (X.extract rfl rfl) (by decide) (fun h28=>?_) (fun h28=>?_)
   ·refine Q9 r' r' r' (T.alloc zeroValue196 rfl) (by decide) fun b29=>W' 0 r' r' r' r' r'<|U' 1 r'<|V' 11 r'<|B4 9 [8] []<|U' 2 r'<|Y' r' r' (A.f r')<|Y' r' r' (A.b 1 r' r' r')<|have hp30:=D8 hp16;Y' r' r' (A.f r')<|G' hp30 r' r' r' fun c31 hc32=>?_
    obtain rfl:=hc32
    refine have hp33:=U1 hp16;Y' r' r' (A.f r')<|G' hp33 r' r' r' fun c34 hc35=>?_
    obtain rfl:=hc35
    refine A0N r' r' r' (K1 (k:=x.Ref) runUnderlying286 F5 rfl rfl rfl (show B2 _ 6=_ from rfl) ⟨x.Read,rfl⟩)<|V' 3 r' ?_
    refine F1 rfl (fun w' hw'=>B8 (hw'.weaken (.cons _ (.refl _))) ?_)
    exact M5
   refine Q9 r' r' r' (T.alloc zeroValue196 rfl) (by decide) fun b36=>W' 0 r' r' r' r' r'<|U' 1 r'<|V' 11 r'<|g' hp16 r' fun c37 hc38=>?_
   obtain⟨v39,v41,v43,v45,rfl,hs40,hs42,hs44,hs46⟩:=hc38
   have hl47:=hs40.le
   have hl48:=hs42.le
   have hl49:=hs44.le
   have hl50:=hs46.le
   refine C2 (I3 [1,6] call162 r' (Q5 _ _ x ⟨_,_,_,_,rfl,hs40,hs42,hs44,hs46⟩ hM0)) (by decide) (fun m51 Es_ u_ hle52 hR_=>?_)
   obtain⟨rfl,rfl⟩:=hR_
   refine have hM0:=hM0.mono hle52;have hM1:=hM1.mono hle52;have hxS:=hxS.mono hle52;have hxT:=hxT.mono hle52;have hp16:=hp16.mono hle52;v' 5 r'<|WK.p [2,0,1,1,1,1,1] ?_
   refine F1 rfl (fun w' hw'=>B8 (hw'.weaken (.cons _ (.refl _))) ?_)
   exact M5
  refine Q9 rfl rfl rfl (T.alloc zeroValue196 rfl) (by decide) fun b53=>?_
  refine A0U rfl rfl rfl (A5c (k:=x.Ref) runUnderlying286 F5 zeroValue196 rfl rfl (show B2 _ 6=_ from rfl) ⟨(ReadT.mk 0 0 0 (Span.mk 0 0)),rfl⟩) (by decide) (fun u54 hu_=>?_)
  obtain⟨v56,q57,rfl,hV55⟩:=hu_
  obtain⟨x58,rfl⟩:=hV55
  refine d_2 ?_
  refine A2k rfl rfl (X.extract rfl rfl) (by decide) (fun h59=>?_) (fun h59=>?_)
  ·refine W' 0 r' r' r' r' r'<|U' 1 r'<|V' 11 r'<|B4 9 [8] []<|U' 2 r'<|Y' r' r' (A.f r')<|Y' r' r' (A.b 1 r' r' r')<|have hp60:=D8 hp16;Y' r' r' (A.f r')<|G' hp60 r' r' r' fun c61 hc62=>?_
   obtain rfl:=hc62
   refine have hp63:=U1 hp16;Y' r' r' (A.f r')<|G' hp63 r' r' r' fun c64 hc65=>?_
   obtain rfl:=hc65
   refine A0N r' r' r' (K1 (k:=x.Ref) runUnderlying286 F5 rfl rfl rfl (show B2 _ 6=_ from rfl) ⟨x.Read,rfl⟩)<|V' 3 r' ?_
   refine F1 rfl (fun w' hw'=>B8 (hw'.weaken (.cons _ (.refl _))) ?_)
   exact M5
  refine W' 0 r' r' r' r' r'<|U' 1 r'<|V' 11 r'<|g' hp16 r' fun c66 hc67=>?_
  obtain⟨v68,v70,v72,v74,rfl,hs69,hs71,hs73,hs75⟩:=hc67
  have hl76:=hs69.le
  have hl77:=hs71.le
  have hl78:=hs73.le
  have hl79:=hs75.le
  refine C2 (I3 [1,6] call162 r' (Q5 _ _ x ⟨_,_,_,_,rfl,hs69,hs71,hs73,hs75⟩ hM0)) (by decide) (fun m80 Es_ u_ hle81 hR_=>?_)
  obtain⟨rfl,rfl⟩:=hR_
  refine have hM0:=hM0.mono hle81;have hM1:=hM1.mono hle81;have hxS:=hxS.mono hle81;have hxT:=hxT.mono hle81;have hp16:=hp16.mono hle81;v' 5 r'<|WK.p [2,0,1,1,1,1,1] ?_
  refine F1 rfl (fun w' hw'=>B8 (hw'.weaken (.cons _ (.refl _))) ?_)
  exact M5
 refine v' 7 r'<|K7 (π:=sq [0,1,2,3,4,5] (.fork (sq [6,7,8,9,10,11,12] .done) (sq [10,6,7,8,9,11,12] .done))) [6,10,11] [11] r' (by kernel_rfl)<|U' 2 r'<|Y' r' r' (A.f r')<|Y' r' r' (A.b 0 r' r' r')<|have hp82:=D8 hp16;Y' r' r' (A.f r')<|G' hp82 r' r' r' fun c83 hc84=>?_
 obtain rfl:=hc84
 refine DW.fork (List.cons_ne_nil _ _) ?_ ?_
 ·refine A0U rfl rfl rfl (A5c (k:=x.Ref) runUnderlying284 F5 zeroValue98 rfl rfl (show B2 _ 3=_ from rfl) ⟨(Mark.mk 0 (Span.mk 0 0)),rfl⟩) (by decide) (fun u85 hu_=>?_)
  obtain⟨v87,q88,rfl,hV86⟩:=hu_
  obtain⟨x89,rfl⟩:=hV86
  refine d_2 ?_
  refine A2k rfl rfl (X.extract rfl rfl) (by decide) (fun h90=>?_) (fun h90=>?_)
  ·refine Q9 r' r' r' (T.alloc zeroValue98 rfl) (by decide) fun b91=>W' 0 r' r' r' r' r'<|U' 1 r'<|V' 2 r'<|K7 (π:=sq [0,1,2,3,4,5,6,7,8,9,11,12,10,13,14,15] .done) [10,13] [13] r' (by kernel_rfl)<|U' 6 r'<|Y' r' r' (A.f r')<|Y' r' r' (A.b 1 r' r' r')<|have hp92:=D8 hp16;Y' r' r' (A.f r')<|G' hp92 r' r' r' fun c93 hc94=>?_
   obtain rfl:=hc94
   refine have hp95:=O3 hp16;Y' r' r' (A.f r')<|G' hp95 r' r' r' fun c96 hc97=>?_
   obtain rfl:=hc97
   refine A0U rfl rfl rfl (T8 (k:=x.Ref) runUnderlying285 F5 zeroValue73 rfl rfl (show B2 _ 5=_ from rfl) ⟨(NName.mk 0 0),rfl⟩) (by decide) (fun u98 hV99=>?_)
   obtain⟨x100,rfl⟩:=hV99
   refine A1T rfl rfl rfl rfl (I3 [1] call233 r' (B1l _ _ x100 rfl _ x.Mark rfl hM1)) (by decide) (fun m101 Es_ u_ hle102 hR_=>?_)
   obtain⟨rfl,q103,rfl⟩:=hR_
   replace hM0:=hM0.mono hle102
   replace hM1:=hM1.mono hle102
   replace hxS:=hxS.mono hle102
   replace hxT:=hxT.mono hle102
   replace hp16:=hp16.mono hle102
   cases q103
   ·refine U' 2 r'<|V' 5 r'<|g' hp16 r' fun c104 hc105=>?_
    obtain⟨v106,v108,v110,v112,rfl,hs107,hs109,hs111,hs113⟩:=hc105
    have hl114:=hs107.le
    have hl115:=hs109.le
    have hl116:=hs111.le
    have hl117:=hs113.le
    refine C2 (C3 (A:=[blk b91 98 [J x89.Column,J x89.Ticks.Lo,J x89.Ticks.Hi],mapE f2 NName O7,mapE f3 NName (InPool ps K),mapE f4 NName (E9 Mark),mapE f5 NName (E9 NName),mapE f6 NName (E9 ReadT),row (vS) 76 24 (LS).length (xS),A5 (vR) 196 (LR),row (vT) 128 4 (LT).length (xT),A5 (vC) 73 (([]:List NName)),I5 73 2 ps]) call162 rfl (List.Perm.cons _ ((List.Perm.cons _ (.refl _)).trans (List.perm_middle (l₁:=[blk b91 98 [J x89.Column,J x89.Ticks.Lo,J x89.Ticks.Hi],mapE f2 NName O7,mapE f3 NName (InPool ps K),mapE f4 NName (E9 Mark),mapE f5 NName (E9 NName),mapE f6 NName (E9 ReadT)]) (l₂:=[row (vS) 76 24 (LS).length (xS),A5 (vR) 196 (LR),row (vT) 128 4 (LT).length (xT),A5 (vC) 73 (([]:List NName)),I5 73 2 ps]) (a:=mapE f7 NName W6)).symm)) (Q5 _ _ x ⟨_,_,_,_,rfl,hs107,hs109,hs111,hs113⟩ hM0)) (by decide) (fun m118 Es_ u_ hle119 hR_=>?_)
    obtain⟨rfl,rfl⟩:=hR_
    refine have hM0:=hM0.mono hle119;have hM1:=hM1.mono hle119;have hxS:=hxS.mono hle119;have hxT:=hxT.mono hle119;have hp16:=hp16.mono hle119;v' 4 r'<|WK.p [2,0,1,1,1,1,1] ?_
    refine F1 rfl (fun w' hw'=>B8 (hw'.weaken (.cons _ (.refl _))) ?_)
    exact M5
   refine U' 2 r'<|V' 4 r'<|B4 9 [8] []<|U' 2 r'<|Y' r' r' (A.f r')<|Y' r' r' (A.b 0 r' r' r')<|have hp120:=D8 hp16;Y' r' r' (A.f r')<|G' hp120 r' r' r' fun c121 hc122=>?_
   obtain rfl:=hc122
   refine have hp123:=O3 hp16;Y' r' r' (A.f r')<|G' hp123 r' r' r' fun c124 hc125=>?_
   obtain rfl:=hc125
   refine A0N r' r' r' (K1 (k:=x.Ref) runUnderlying284 F5 rfl rfl rfl (show B2 _ 4=_ from rfl) ⟨x.Mark,rfl⟩)<|V' 0 r'<|WK.p [1] ?_
   refine D9 rfl (fun w' hw'=>B8 (hw'.weaken (.cons _ (.refl _))) ?_)
   exact M5
  refine Q9 r' r' r' (T.alloc zeroValue98 rfl) (by decide) fun b126=>W' 0 r' r' r' r' r'<|U' 1 r'<|V' 2 r'<|K7 (π:=sq [0,1,2,3,4,5,6,7,8,9,11,12,10,13,14,15] .done) [10,13] [13] r' (by kernel_rfl)<|U' 16 r'<|V' 5 r'<|g' hp16 r' fun c127 hc128=>?_
  obtain⟨v129,v131,v133,v135,rfl,hs130,hs132,hs134,hs136⟩:=hc128
  have hl137:=hs130.le
  have hl138:=hs132.le
  have hl139:=hs134.le
  have hl140:=hs136.le
  refine C2 (I3 [1,6] call162 r' (Q5 _ _ x ⟨_,_,_,_,rfl,hs130,hs132,hs134,hs136⟩ hM0)) (by decide) (fun m141 Es_ u_ hle142 hR_=>?_)
  obtain⟨rfl,rfl⟩:=hR_
  refine have hM0:=hM0.mono hle142;have hM1:=hM1.mono hle142;have hxS:=hxS.mono hle142;have hxT:=hxT.mono hle142;have hp16:=hp16.mono hle142;v' 4 r'<|WK.p [2,0,1,1,1,1,1] ?_
  refine F1 rfl (fun w' hw'=>B8 (hw'.weaken (.cons _ (.refl _))) ?_)
  exact M5
 refine Q9 rfl rfl rfl (T.alloc zeroValue98 rfl) (by decide) fun b143=>?_
 refine A0U rfl rfl rfl (A5c (k:=x.Ref) runUnderlying284 F5 zeroValue98 rfl rfl (show B2 _ 4=_ from rfl) ⟨(Mark.mk 0 (Span.mk 0 0)),rfl⟩) (by decide) (fun u144 hu_=>?_)
 obtain⟨v146,q147,rfl,hV145⟩:=hu_
 obtain⟨x148,rfl⟩:=hV145
 refine d_2 ?_
 refine A2k rfl rfl (X.extract rfl rfl) (by decide) (fun h149=>?_) (fun h149=>?_)
 ·refine W' 0 r' r' r' r' r'<|U' 1 r'<|V' 2 r'<|K7 (π:=sq [0,1,2,3,4,5,6,7,8,9,11,12,10,13,14,15] .done) [10,13] [13] r' (by kernel_rfl)<|U' 6 r'<|Y' r' r' (A.f r')<|Y' r' r' (A.b 1 r' r' r')<|have hp150:=D8 hp16;Y' r' r' (A.f r')<|G' hp150 r' r' r' fun c151 hc152=>?_
  obtain rfl:=hc152
  refine have hp153:=O3 hp16;Y' r' r' (A.f r')<|G' hp153 r' r' r' fun c154 hc155=>?_
  obtain rfl:=hc155
  refine A0U rfl rfl rfl (T8 (k:=x.Ref) runUnderlying285 F5 zeroValue73 rfl rfl (show B2 _ 5=_ from rfl) ⟨(NName.mk 0 0),rfl⟩) (by decide) (fun u156 hV157=>?_)
  obtain⟨x158,rfl⟩:=hV157
  refine A1T rfl rfl rfl rfl (I3 [1] call233 r' (B1l _ _ x158 rfl _ x.Mark rfl hM1)) (by decide) (fun m159 Es_ u_ hle160 hR_=>?_)
  obtain⟨rfl,q161,rfl⟩:=hR_
  replace hM0:=hM0.mono hle160
  replace hM1:=hM1.mono hle160
  replace hxS:=hxS.mono hle160
  replace hxT:=hxT.mono hle160
  replace hp16:=hp16.mono hle160
  cases q161
  ·refine U' 2 r'<|V' 5 r'<|g' hp16 r' fun c162 hc163=>?_
   obtain⟨v164,v166,v168,v170,rfl,hs165,hs167,hs169,hs171⟩:=hc163
   have hl172:=hs165.le
   have hl173:=hs167.le
   have hl174:=hs169.le
   have hl175:=hs171.le
   refine C2 (C3 (A:=[blk b143 98 [J x148.Column,J x148.Ticks.Lo,J x148.Ticks.Hi],mapE f2 NName O7,mapE f3 NName (InPool ps K),mapE f4 NName (E9 Mark),mapE f5 NName (E9 NName),mapE f6 NName (E9 ReadT),row (vS) 76 24 (LS).length (xS),A5 (vR) 196 (LR),row (vT) 128 4 (LT).length (xT),A5 (vC) 73 (([]:List NName)),I5 73 2 ps]) call162 rfl (List.Perm.cons _ ((List.Perm.cons _ (.refl _)).trans (List.perm_middle (l₁:=[blk b143 98 [J x148.Column,J x148.Ticks.Lo,J x148.Ticks.Hi],mapE f2 NName O7,mapE f3 NName (InPool ps K),mapE f4 NName (E9 Mark),mapE f5 NName (E9 NName),mapE f6 NName (E9 ReadT)]) (l₂:=[row (vS) 76 24 (LS).length (xS),A5 (vR) 196 (LR),row (vT) 128 4 (LT).length (xT),A5 (vC) 73 (([]:List NName)),I5 73 2 ps]) (a:=mapE f7 NName W6)).symm)) (Q5 _ _ x ⟨_,_,_,_,rfl,hs165,hs167,hs169,hs171⟩ hM0)) (by decide) (fun m176 Es_ u_ hle177 hR_=>?_)
   obtain⟨rfl,rfl⟩:=hR_
   refine have hM0:=hM0.mono hle177;have hM1:=hM1.mono hle177;have hxS:=hxS.mono hle177;have hxT:=hxT.mono hle177;have hp16:=hp16.mono hle177;v' 4 r'<|WK.p [2,0,1,1,1,1,1] ?_
   refine F1 rfl (fun w' hw'=>B8 (hw'.weaken (.cons _ (.refl _))) ?_)
   exact M5
  refine U' 2 r'<|V' 4 r'<|B4 9 [8] []<|U' 2 r'<|Y' r' r' (A.f r')<|Y' r' r' (A.b 0 r' r' r')<|have hp178:=D8 hp16;Y' r' r' (A.f r')<|G' hp178 r' r' r' fun c179 hc180=>?_
  obtain rfl:=hc180
  refine have hp181:=O3 hp16;Y' r' r' (A.f r')<|G' hp181 r' r' r' fun c182 hc183=>?_
  obtain rfl:=hc183
  refine A0N r' r' r' (K1 (k:=x.Ref) runUnderlying284 F5 rfl rfl rfl (show B2 _ 4=_ from rfl) ⟨x.Mark,rfl⟩)<|V' 0 r'<|WK.p [1] ?_
  refine D9 rfl (fun w' hw'=>B8 (hw'.weaken (.cons _ (.refl _))) ?_)
  exact M5
 refine W' 0 r' r' r' r' r'<|U' 1 r'<|V' 2 r'<|K7 (π:=sq [0,1,2,3,4,5,6,7,8,9,11,12,10,13,14,15] .done) [10,13] [13] r' (by kernel_rfl)<|U' 16 r'<|V' 5 r'<|g' hp16 r' fun c184 hc185=>?_
 obtain⟨v186,v188,v190,v192,rfl,hs187,hs189,hs191,hs193⟩:=hc185
 have hl194:=hs187.le
 have hl195:=hs189.le
 have hl196:=hs191.le
 have hl197:=hs193.le
 refine C2 (I3 [1,6] call162 r' (Q5 _ _ x ⟨_,_,_,_,rfl,hs187,hs189,hs191,hs193⟩ hM0)) (by decide) (fun m198 Es_ u_ hle199 hR_=>?_)
 obtain⟨rfl,rfl⟩:=hR_
 refine have hM0:=hM0.mono hle199;have hM1:=hM1.mono hle199;have hxS:=hxS.mono hle199;have hxT:=hxT.mono hle199;v' 4 r'<|WK.p [2,0,1,1,1,1,1] ?_
 refine F1 rfl (fun w' hw'=>B8 (hw'.weaken (.cons _ (.refl _))) ?_)
 exact M5
theorem C0h(m:Mem)(cn:List Value)(x:NoteT)(hn_:Enc.rd m cn x)(hM0:MapN m f0)(hM1:MapN m f1)(hxS:RdL m xS LS)(hxT:RdL m xT LT)(hbd:LS.length≤n∧LR.length≤n∧K≤n∧LT.length=N∧N≤1000)(hts:A3R LT)(hfi:∀a∈LS,fiB a)(hn:n≤5000):Mut prog 161 #[.agg cn.toArray,Pt fb 0] m [blk fb 289 [.map (some f0),.map (some f1),.map (some f2),.map (some f3),.map (some f4),.map (some f5),.map (some f6),.map (some f7),vS,vR,vT,vC],mapE f2 NName O7,mapE f3 NName (InPool ps K),mapE f4 NName (E9 Mark),mapE f5 NName (E9 NName),mapE f6 NName (E9 ReadT),mapE f7 NName W6,row (vS) 76 24 (LS).length (xS),A5 (vR) 196 (LR),row (vT) 128 4 (LT).length (xT),A5 (vC) 73 (([]:List NName)),I5 73 2 ps] (FoR fb (n+1) N):=by
 obtain⟨v1,v3,v5,v7,rfl,hs2,hs4,hs6,hs8⟩:=hn_
 refine have hl9:=hs2.le;have hl10:=hs4.le;have hl11:=hs6.le;have hl12:=hs8.le;G3 func161 r' ntmps161 fun wld=>q' 2 r'<|o' r' r' fun b13=>v' 2 r'<|fx (x:=x) 1 0 r' r' ⟨_,_,_,_,rfl,hs2,hs4,hs6,hs8⟩ fun m14 hle15 hp16=>have hM0:=hM0.mono hle15;have hM1:=hM1.mono hle15;have hxS:=hxS.mono hle15;have hxT:=hxT.mono hle15;B4 13 [7,8,9,12] [9,12]<|Y' r' r' (A.f r')<|Y' r' r' (A.f r')<|Y' r' r' (A.b 0 r' r' r')<|Y' r' r' (A.f r')<|Y' r' r' (A.b 0 r' r' r')<|G' hp16 r' r' r' fun c17 hc18=>?_
 obtain⟨v19,v21,v23,v25,rfl,hs20,hs22,hs24,hs26⟩:=hc18
 refine have hl27:=hs20.le;have hl28:=hs22.le;have hl29:=hs24.le;have hl30:=hs26.le;Y' r' r' (X.call call154 rfl (H9 _ _ x ⟨_,_,_,_,rfl,hs20,hs22,hs24,hs26⟩)) ?_
 refine A0U rfl rfl rfl (T8 (k:=(G4 x)) runUnderlying286 F5 zeroValue196 rfl rfl (show B2 _ 5=_ from rfl) ⟨(ReadT.mk 0 0 0 (Span.mk 0 0)),rfl⟩) (by decide) (fun u31 hV32=>?_)
 obtain⟨x33,rfl⟩:=hV32
 refine P4 rfl rfl rfl (E6 B0T rfl rfl rfl (by decide)) (by decide) fun b34=>?_
 refine V0 rfl rfl rfl rfl (E2 (k:=8) (a:=x33) B0T rfl rfl rfl rfl (by first|omega|(simp;done)|(simp;omega)) (by decide)) (by decide) (fun v35=>?_)
 refine Y' r' r' (A.f r')<|Y' r' r' (A.f r')<|B3 r' r' r' r' (W8 (k:=8) rfl trivial (D0 rfl rfl rfl) fun ho36=>T.storeB (k:=0) sizeOf55 rfl rfl rfl ho36 (Nat.le_of_ble_eq_true rfl))<|V' 0 r' ?_
 refine D9 rfl (fun w' hw'=>B8 (hw'.weaken (.refl _)) ?_)
 exact⟨rfl,⟨fb,f0,f1,f2,f3,f4,f5,f6,f7,vS,xS,LS,v35,LR++[x33],vT,xT,LT,vC,ps,K⟩,rfl,rfl,⟨hM0,hM1,hxS,hxT,⟨(by first|omega|(simp only[List.length_append,List.length_cons,List.length_nil,List.length_set];omega)),(by first|omega|(simp only[List.length_append,List.length_cons,List.length_nil,List.length_set];omega)),(by first|omega|(simp only[List.length_append,List.length_cons,List.length_nil,List.length_set];omega)),(by first|omega|(simp only[List.length_append,List.length_cons,List.length_nil,List.length_set];omega)),hbd.2.2.2.2⟩,hts,hfi⟩⟩
end Go.Proofs.S10
