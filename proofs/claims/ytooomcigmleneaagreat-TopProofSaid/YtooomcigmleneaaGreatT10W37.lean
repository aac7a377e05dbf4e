import Derived.Test.YtooomcigmleneaaGreatT10W35
set_option linter.all false
set_option maxHeartbeats 8000000
namespace Go.Proofs.S10
open Tryz Go Go.Kx Go.Proofs.T10
set_option maxRecDepth 20000
variable{G:Prop}{K:Nat}{LR:List ReadT}{LS:List FiledT}{LT:List Station}{N f0 f1 f2 f3 f4 f5 f6 f7 fb n:Nat}{ps:List (Nat×Nat)}{vC vR vS vT:Value}{xS xT:List Value}
def MapN(m:Mem)(b:Nat):Prop:=MapM m b NName (NoteV m)
theorem MapN.mono{m m':Mem}{b:Nat}(h:MapN m b)(hm:m.le m'):MapN m' b:=(MapM.mono h hm).up fun _ h=>h.mono hm
structure Fo where
 b:Nat
 f0:Nat
 f1:Nat
 f2:Nat
 f3:Nat
 f4:Nat
 f5:Nat
 f6:Nat
 f7:Nat
 vS:Value
 xS:List Value
 LS:List FiledT
 vR:Value
 LR:List ReadT
 vT:Value
 xT:List Value
 LT:List Station
 vC:Value
 ps:List (Nat×Nat)
 K:Nat
def Pk(g:Fo):List Ent:=[blk g.b 289 [.map (some g.f0),.map (some g.f1),.map (some g.f2),.map (some g.f3),.map (some g.f4),.map (some g.f5),.map (some g.f6),.map (some g.f7),g.vS,g.vR,g.vT,g.vC],mapE g.f2 NName Q7,mapE g.f3 NName (InPool g.ps g.K),mapE g.f4 NName (F9 Mark),mapE g.f5 NName (F9 NName),mapE g.f6 NName (F9 ReadT),mapE g.f7 NName Z2,row g.vS 76 24 g.LS.length g.xS,A5 g.vR 196 g.LR,row g.vT 128 4 g.LT.length g.xT,A5 g.vC 73 ([]:List NName),K7 73 2 g.ps]
def Po(s:Sheet):Prop:=(s.Trace.length≤1000∧s.Blots.length≤1000)∧s.Drum.Rates.length≤1000∧s.Drum.Stops.length≤1000
def MP(a:FiledT):Prop:=Po a.Sheet∧a.Marks.length≤5000∧a.Names.length≤5000
def ES(L:List Station):Prop:=∀i,i<L.length→(gt L i).Heights.length≤1000
def foP(m:Mem)(g:Fo)(n N:Nat):Prop:=MapN m g.f0∧MapN m g.f1∧RdL m g.xS g.LS∧RdL m g.xT g.LT∧(g.LS.length≤n∧g.LR.length≤n∧g.K≤n∧g.LT.length=N∧N≤1000)∧ES g.LT∧∀a∈g.LS,MP a
theorem foP.mono{m m':Mem}{g:Fo}{n N:Nat}(h:foP m g n N)(hm:m.le m'):foP m' g n N:=⟨h.1.mono hm,h.2.1.mono hm,h.2.2.1.mono hm,h.2.2.2.1.mono hm,h.2.2.2.2⟩
theorem foP.up{m:Mem}{g:Fo}{n':Nat}(h:foP m g n N)(hn:n≤n'):foP m g n' N:=⟨h.1,h.2.1,h.2.2.1,h.2.2.2.1,by have:=h.2.2.2.2.1;omega,h.2.2.2.2.2⟩
def Qa(fb n N:Nat)(m':Mem)(Es:List Ent)(u:Value):Prop:=u= .tuple #[]∧∃g:Fo,Es=Pk g∧g.b=fb∧foP m' g n N
def KW(dv:Value)(fb N:Nat)(Q:NoteT→Prop):Prop:=∃fn bd cap,dv= .func (.func fn) bd cap∧Enters prog fn∧∀(m:Mem) (g:Fo) (n:Nat) (c:List Value) (x:NoteT),n≤5000→Enc.rd m c x→Q x→foP m g n N→g.b=fb→Mut prog fn (bd++[Value.agg c.toArray].toArray++cap) m (Pk g) (Qa fb (n+1) N)
theorem RV{L:List Station}{i:Nat}{x:Station}(h:ES L)(hx:x.Heights.length≤1000):ES (L.set i x):=fun j a=>by
 rw[I']at a
 rw[Fu _ _ a]
 split
 ·exact hx
 ·exact h j a
theorem B1P{l:List Station}{id:Int}(h:0<l.length):0≤(Cl l id).1∧(Cl l id).1<l.length:=by
 by_cases a:(Cl l id).2=0
 ·exact A5O a
 ·have b:(Cl l id).1=0:=by
   unfold Cl at a⊢
   split
   ·rfl
   ·rename_i h2
    rw[A' h2]at a
    split <;> simp_all
  omega
theorem S6(m:Mem)(cn:List Value)(x:NoteT)(hn_:Enc.rd m cn x){a1 a2 a3 a4 a5 a6 a8 a9 a10 a11:Value}(hM0:MapN m f0):Mut prog 162 #[Pt fb 0,.agg cn.toArray] m [blk fb 289 [.map (some f0),a1,a2,a3,a4,a5,a6,.map (some f7),a8,a9,a10,a11],mapE f7 NName Z2] (fun _ Es u=>u= .tuple #[]∧Es=[blk fb 289 [.map (some f0),a1,a2,a3,a4,a5,a6,.map (some f7),a8,a9,a10,a11],mapE f7 NName Z2]):=by
 obtain⟨v1,v3,v5,v7,rfl,F,G,H,I⟩:=hn_
 refine have d3:=F.le;have W:=G.le;have Y:=H.le;have a0:=I.le;G3 func162 O ntmps162 fun c5=>q' 2 O<|o' O O fun c6=>U 3 O<|fx (x:=x) 1 0 O O ⟨_,_,_,_,rfl,F,G,H,I⟩ fun P z a=>have hM0:=hM0.mono z;q' 1 O<|f' O t'<|i' (Dq a) O<|U 10 O<|c' (X.eql O O) (fun Q=>?_) fun Q=>?_
 ·refine U 9 O<|B9 13 [10,11] [11]<|U' 2 O<|Z O O (A.f O)<|Z O O (A.b 0 O O O)<|Z O O (A.f O)<|G' (F1 a) O O O fun c7 B=>?_
  obtain rfl:=B
  refine J0 rfl rfl (HL (k:=x.Ref) runUnderlying280 G5 zeroValue200 rfl rfl hM0 Mt) (by decide) (fun R d=>?_)
  obtain⟨v24,d4⟩:=R
  replace d:(NoteV P) v24:=d
  obtain⟨d5,d6,rfl,J⟩:=d
  obtain⟨d7,d8,d9,e0,rfl,K,L,M,N⟩:=J
  refine have a7:=K.le;have b0:=L.le;have b1:=M.le;have b2:=N.le;U' 2 O ?_
  refine Z8 rfl rfl (X.extract rfl rfl) (by decide) (fun S=>?_) (fun S=>?_)
  ·refine N3 O O O (T.alloc zeroValue200 rfl) (by decide) fun c8=>W' 0 O O O O O<|U' 1 O<|V' 6 O<|f' O t'<|U 1 O<|b' 0 O O O<|U 1 O<|e' (X.neq O O) (fun V=>?_) fun V=>?_
   ·refine U 8 O ?_
    refine E9 rfl (fun w' c=>B3 (c.weaken (.cons _ (.refl _))) ?_)
    exact⟨rfl,rfl⟩
   refine U 8 O<|B9 7 [6] []<|U' 2 O<|Z O O (A.f O)<|Z O O (A.b 1 O O O)<|G' a O O O fun c9 C=>?_
   obtain⟨e1,e2,e3,e4,rfl,g,l,n,o⟩:=C
   refine have b3:=g.le;have b4:=l.le;have b5:=n.le;have b6:=o.le;Z O O (X.call call154 rfl (J8 _ _ x ⟨_,_,_,_,rfl,g,l,n,o⟩))<|Bl O O O (M2 (k:=(I0 x)) runUnderlying287 G5 rfl rfl rfl (show A7 _ 2=_ from rfl) ⟨_,rfl⟩)<|V' 3 O ?_
   refine D0 rfl (fun w' c=>B3 (c.weaken (.cons _ (.refl _))) ?_)
   exact⟨rfl,rfl⟩
  refine N3 O O O (T.alloc zeroValue200 rfl) (by decide) fun d0=>W' 0 O O O O O<|U' 1 O<|V' 16 O<|B9 7 [6] []<|U' 2 O<|Z O O (A.f O)<|Z O O (A.b 1 O O O)<|G' a O O O fun d1 D=>?_
  obtain⟨e5,e6,e7,e8,rfl,p,q,r,s⟩:=D
  refine have b7:=p.le;have b8:=q.le;have b9:=r.le;have c0:=s.le;Z O O (X.call call154 rfl (J8 _ _ x ⟨_,_,_,_,rfl,p,q,r,s⟩))<|Bl O O O (M2 (k:=(I0 x)) runUnderlying287 G5 rfl rfl rfl (show A7 _ 2=_ from rfl) ⟨_,rfl⟩)<|V' 3 O ?_
  refine D0 rfl (fun w' c=>B3 (c.weaken (.cons _ (.refl _))) ?_)
  exact⟨rfl,rfl⟩
 refine U 12 O<|B9 7 [6] []<|U' 2 O<|Z O O (A.f O)<|Z O O (A.b 0 O O O)<|G' a O O O fun d2 E=>?_
 obtain⟨e9,f1,f2,f3,rfl,t,v,w,y⟩:=E
 refine have c1:=t.le;have c2:=v.le;have c3:=w.le;have c4:=y.le;Z O O (X.call call154 rfl (J8 _ _ x ⟨_,_,_,_,rfl,t,v,w,y⟩))<|Bl O O O (M2 (k:=(I0 x)) runUnderlying287 G5 rfl rfl rfl (show A7 _ 1=_ from rfl) ⟨_,rfl⟩)<|V' 3 O ?_
 refine D0 rfl (fun w' c=>B3 (c.weaken (.refl _)) ?_)
 exact⟨rfl,rfl⟩
theorem ON(m:Mem)(ca:List Value)(a:NName)(ha:Enc.rd m ca a)(ck:List Value)(k:Mark)(hk:Enc.rd m ck k){a0 a2 a3 a4 a5 a6 a7 a8 a9 a10 a11:Value}(hM1:MapN m f1):Mut prog 233 #[Pt fb 0,.agg ca.toArray,.agg ck.toArray] m [blk fb 289 [a0,.map (some f1),a2,a3,a4,a5,a6,a7,a8,a9,a10,a11]] (fun _ Es u=>Es=[blk fb 289 [a0,.map (some f1),a2,a3,a4,a5,a6,a7,a8,a9,a10,a11]]∧∃q:Bool,u= .bool q):=by
 obtain rfl:=ha
 obtain rfl:=hk
 refine G3 func233 O ntmps233 fun C=>q' 2 O<|o' O O fun E=>o' O O fun F=>U 4 O<|B9 14 [] []<|Z O O (A.f O)<|Z O O (A.b 0 O O O)<|U' 2 O<|Z O O (A.f O)<|Z O O (A.b 2 O O O)<|Z O O (L9 1 O O O)<|J0 O O (Pl (k:=a) runUnderlying280 G5 zeroValue200 rfl rfl hM1 Mt) (by decide) fun G r=>?_
 obtain⟨H,c,rfl,t⟩:=r
 obtain⟨D,v,g,n,rfl,w,o,d,p⟩:=t
 refine have x:=w.le;have y:=o.le;have z:=d.le;have B:=p.le;Z O O (Pg (vs:=[J c.Sheet.Paper.Pitch,J c.Sheet.Paper.Height,J c.Sheet.Paper.Radius,J c.Sheet.Paper.Low,J c.Sheet.Paper.High,J c.Sheet.Paper.Columns,J c.Sheet.Paper.Along.Lo,J c.Sheet.Paper.Along.Hi,J c.Sheet.Paper.Across.Lo,J c.Sheet.Paper.Across.Hi,D,v,g,n,J c.Sheet.Pen.Band,J c.Sheet.Pen.Zero.Lo,J c.Sheet.Pen.Zero.Hi,J c.Sheet.Pen.Rate]) runUnderlying200 rfl sizeOf35 rfl isAgg35 rfl)<|Z O O (Pg (vs:=[g,n]) runUnderlying35 rfl sizeOf31 rfl isAgg31 rfl)<|Z O O (Rv runUnderlying31 rfl sizeOf28 rfl isAgg28 rfl)<|Z O O (A.l O d)<|U' 2 O<|V' 2 O ?_
 refine A0 rfl rfl (fun w' s=>B3 (s.weaken (.cons _ (.cons _ (.refl _)))) ?_)
 exact⟨rfl,_,rfl⟩
theorem MN(h:G:=by exact⟨rfl,⟨fb,f0,f1,f2,f3,f4,f5,f6,f7,vS,xS,LS,vR,LR,vT,xT,LT,vC,ps,K⟩,rfl,rfl,⟨hM0,hM1,hxS,hxT,⟨(by first|omega|(simp only[F',N',P',I'];omega)),(by first|omega|(simp only[F',N',P',I'];omega)),(by first|omega|(simp only[F',N',P',I'];omega)),(by first|omega|(simp only[F',N',P',I'];omega)),hbd.2.2.2.2⟩,hts,hfi⟩⟩):G:=h
theorem B1c(m:Mem)(cn:List Value)(x:NoteT)(hn_:Enc.rd m cn x)(hM0:MapN m f0)(hM1:MapN m f1)(hxS:RdL m xS LS)(hxT:RdL m xT LT)(hbd:LS.length≤n∧LR.length≤n∧K≤n∧LT.length=N∧N≤1000)(hts:ES LT)(hfi:∀a∈LS,MP a)(hn:n≤5000):Mut prog 156 #[Pt fb 0,.agg cn.toArray] m [blk fb 289 [.map (some f0),.map (some f1),.map (some f2),.map (some f3),.map (some f4),.map (some f5),.map (some f6),.map (some f7),vS,vR,vT,vC],mapE f2 NName Q7,mapE f3 NName (InPool ps K),mapE f4 NName (F9 Mark),mapE f5 NName (F9 NName),mapE f6 NName (F9 ReadT),mapE f7 NName Z2,row (vS) 76 24 (LS).length (xS),A5 (vR) 196 (LR),row (vT) 128 4 (LT).length (xT),A5 (vC) 73 (([]:List NName)),K7 73 2 ps] (Qa fb (n+1) N):=by
 obtain⟨v1,v3,v5,v7,rfl,y,z,B,C⟩:=hn_
 refine have b5:=y.le;have Q:=z.le;have R:=B.le;have S:=C.le;G3 func156 O ntmps156 fun a6=>q' 2 O<|o' O O fun a7=>U 4 O<|fx (x:=x) 1 0 O O ⟨_,_,_,_,rfl,y,z,B,C⟩ fun I c g=>have hM0:=hM0.mono c;have hM1:=hM1.mono c;have hxS:=hxS.mono c;have hxT:=hxT.mono c;B9 13 [10,11] [11]<|U' 2 O<|Z O O (A.f O)<|Z O O (A.b 0 O O O)<|Z O O (A.f O)<|G' (F1 g) O O O fun a8 u=>?_
 obtain rfl:=u
 refine J0 rfl rfl (HL (k:=x.Ref) runUnderlying280 G5 zeroValue200 rfl rfl hM1 Mt) (by decide) (fun L l=>?_)
 obtain⟨v22,b6⟩:=L
 replace l:(NoteV I) v22:=l
 obtain⟨b7,b8,rfl,D⟩:=l
 obtain⟨b9,c0,c1,c2,rfl,E,F,G,H⟩:=D
 refine have W:=E.le;have Y:=F.le;have a0:=G.le;have a1:=H.le;U' 2 O ?_
 refine Z8 rfl rfl (X.extract rfl rfl) (by decide) (fun M=>?_) (fun M=>?_)
 ·refine N3 O O O (T.alloc zeroValue200 rfl) (by decide) fun a9=>W' 0 O O O O O<|U' 1 O<|V' 10 O<|B9 12 [11] []<|U' 2 O<|Z O O (A.f O)<|Z O O (A.b 1 O O O)<|Z O O (A.f O)<|G' (F1 g) O O O fun b0 v=>?_
  obtain rfl:=v
  refine Z O O (A.f O)<|Z O O (A.i O (U9 g))<|Z O O (A.f O)<|Z O O (A.i O (Bh g))<|DW.x (V:=Value.agg [.pointer none,J x.Station,J x.Week].toArray) O O (X.build zeroValue296 runUnderlying296 (Gj _ underlying296) rfl rfl) (by decide) ?_
  refine Bl O O O (M2 (k:=x.Ref) runUnderlying282 G5 rfl rfl rfl (show A7 _ 2=_ from rfl) ⟨_,_,rfl⟩)<|V' 0 O ?_
  refine D0 rfl (fun w' t=>B3 (t.weaken (.cons _ (.refl _))) ?_)
  exact MN
 refine N3 O O O (T.alloc zeroValue200 rfl) (by decide) fun b1=>W' 0 O O O O O<|U' 1 O<|V' 11 O<|g' g O fun b2 w=>?_
 obtain⟨c3,c4,c5,c6,rfl,o,q,r,s⟩:=w
 have a2:=o.le
 have a3:=q.le
 have a4:=r.le
 have a5:=s.le
 refine C5 (K5 [1,6] call162 O (S6 _ _ x ⟨_,_,_,_,rfl,o,q,r,s⟩ hM0)) (by decide) (fun b3 b4 u_ d P=>?_)
 obtain⟨rfl,rfl⟩:=P
 refine have hM0:=hM0.mono d;have hM1:=hM1.mono d;have hxS:=hxS.mono d;have hxT:=hxT.mono d;U 4 O<|WK.p [2,0,1,1,1,1,1] ?_
 refine E9 rfl (fun w' t=>B3 (t.weaken (.cons _ (.refl _))) ?_)
 exact MN
theorem Ih(h:G:=by exact⟨rfl,⟨fb,f0,f1,f2,f3,f4,f5,f6,f7,vS,xS,LS,vR,LR,vT,xT,LT,vC,ps,K⟩,rfl,rfl,⟨hM0,hM1,hxS,hxT,⟨(by first|omega|(simp only[F',N',P',I'];omega)),(by first|omega|(simp only[F',N',P',I'];omega)),(by first|omega|(simp only[F',N',P',I'];omega)),(by first|omega|(simp only[F',N',P',I'];omega)),hbd.2.2.2.2⟩,hts,hfi⟩⟩):G:=h
theorem B1e(m:Mem)(cn:List Value)(x:NoteT)(hn_:Enc.rd m cn x)(hM0:MapN m f0)(hM1:MapN m f1)(hxS:RdL m xS LS)(hxT:RdL m xT LT)(hbd:LS.length≤n∧LR.length≤n∧K≤n∧LT.length=N∧N≤1000)(hts:ES LT)(hfi:∀a∈LS,MP a)(hn:n≤5000):Mut prog 157 #[Pt fb 0,.agg cn.toArray] m [blk fb 289 [.map (some f0),.map (some f1),.map (some f2),.map (some f3),.map (some f4),.map (some f5),.map (some f6),.map (some f7),vS,vR,vT,vC],mapE f2 NName Q7,mapE f3 NName (InPool ps K),mapE f4 NName (F9 Mark),mapE f5 NName (F9 NName),mapE f6 NName (F9 ReadT),mapE f7 NName Z2,row (vS) 76 24 (LS).length (xS),A5 (vR) 196 (LR),row (vT) 128 4 (LT).length (xT),A5 (vC) 73 (([]:List NName)),K7 73 2 ps] (Qa fb (n+1) N):=by
 obtain⟨v1,v3,v5,v7,rfl,e0,e1,e2,e3⟩:=hn_
 refine have o3:=e0.le;have i9:=e1.le;have j0:=e2.le;have j1:=e3.le;G3 func157 O ntmps157 fun m9=>q' 2 O<|o' O O fun n0=>U 4 O<|fx (x:=x) 1 0 O O ⟨_,_,_,_,rfl,e0,e1,e2,e3⟩ fun e5 y d=>have hM0:=hM0.mono y;have hM1:=hM1.mono y;have hxS:=hxS.mono y;have hxT:=hxT.mono y;B9 13 [10,11] [11]<|U' 2 O<|Z O O (A.f O)<|Z O O (A.b 0 O O O)<|Z O O (A.f O)<|G' (F1 d) O O O fun n1 c9=>?_
 obtain rfl:=c9
 refine J0 rfl rfl (HL (k:=x.Ref) runUnderlying280 G5 zeroValue200 rfl rfl hM1 Mt) (by decide) (fun e6 E=>?_)
 obtain⟨v22,o4⟩:=e6
 replace E:(NoteV e5) v22:=E
 obtain⟨o5,c,rfl,e4⟩:=E
 obtain⟨G,H,I,L,rfl,s,t,u,w⟩:=e4
 refine have j2:=s.le;have j3:=t.le;have j4:=u.le;have j5:=w.le;U' 2 O ?_
 refine Z8 rfl rfl (X.extract rfl rfl) (by decide) (fun e7=>?_) (fun e7=>?_)
 ·refine N3 O O O (T.alloc zeroValue200 rfl) (by decide) fun F=>W' 0 O O O O O<|U' 1 O<|V' 2 O<|B9 22 [8,18] [8]<|U' 4 O<|Z O O (A.f O)<|G' (F1 d) O O O fun n2 d0=>?_
  obtain rfl:=d0
  refine Z O O (A.f O)<|G' (Q1 d) O O O fun n3 d1=>?_
  obtain rfl:=d1
  refine DH rfl rfl rfl rfl (K5 [1] call233 O (ON _ _ x.Ref rfl _ x.Mark rfl hM1)) (by decide) (fun n4 b5 u_ g z=>?_)
  obtain⟨rfl,h3,rfl⟩:=z
  replace hM0:=hM0.mono g
  replace hM1:=hM1.mono g
  replace hxS:=hxS.mono g
  replace hxT:=hxT.mono g
  replace d:=d.mono g
  replace s:=s.mono g
  replace t:=t.mono g
  replace u:=u.mono g
  replace w:=w.mono g
  cases h3
  ·refine U' 13 O<|V' 5 O<|g' d O fun n5 d2=>?_
   obtain⟨o6,o7,o8,o9,rfl,a6,a7,a8,a9⟩:=d2
   have j6:=a6.le
   have j7:=a7.le
   have j8:=a8.le
   have j9:=a9.le
   refine C5 (C8 (A:=[blk F 200 [J c.Clerk,J c.Num,J c.Clock,J c.Day,J c.Kind,J c.Station,J c.Week,J c.Sheet.Paper.Pitch,J c.Sheet.Paper.Height,J c.Sheet.Paper.Radius,J c.Sheet.Paper.Low,J c.Sheet.Paper.High,J c.Sheet.Paper.Columns,J c.Sheet.Paper.Along.Lo,J c.Sheet.Paper.Along.Hi,J c.Sheet.Paper.Across.Lo,J c.Sheet.Paper.Across.Hi,G,H,I,L,J c.Sheet.Pen.Band,J c.Sheet.Pen.Zero.Lo,J c.Sheet.Pen.Zero.Hi,J c.Sheet.Pen.Rate,J c.Mark.Column,J c.Mark.Ticks.Lo,J c.Mark.Ticks.Hi,J c.Read.Station,J c.Read.Week,J c.Read.Tick,J c.Read.Levels.Lo,J c.Read.Levels.Hi,J c.Height.Week,J c.Height.Metres.Lo,J c.Height.Metres.Hi,J c.Ref.Clerk,J c.Ref.Num],mapE f2 NName Q7,mapE f3 NName (InPool ps K),mapE f4 NName (F9 Mark),mapE f5 NName (F9 NName),mapE f6 NName (F9 ReadT),row (vS) 76 24 (LS).length (xS),A5 (vR) 196 (LR),row (vT) 128 4 (LT).length (xT),A5 (vC) 73 (([]:List NName)),K7 73 2 ps]) call162 rfl (List.Perm.cons _ ((List.Perm.cons _ (.refl _)).trans (So (l₁:=[blk F 200 [J c.Clerk,J c.Num,J c.Clock,J c.Day,J c.Kind,J c.Station,J c.Week,J c.Sheet.Paper.Pitch,J c.Sheet.Paper.Height,J c.Sheet.Paper.Radius,J c.Sheet.Paper.Low,J c.Sheet.Paper.High,J c.Sheet.Paper.Columns,J c.Sheet.Paper.Along.Lo,J c.Sheet.Paper.Along.Hi,J c.Sheet.Paper.Across.Lo,J c.Sheet.Paper.Across.Hi,G,H,I,L,J c.Sheet.Pen.Band,J c.Sheet.Pen.Zero.Lo,J c.Sheet.Pen.Zero.Hi,J c.Sheet.Pen.Rate,J c.Mark.Column,J c.Mark.Ticks.Lo,J c.Mark.Ticks.Hi,J c.Read.Station,J c.Read.Week,J c.Read.Tick,J c.Read.Levels.Lo,J c.Read.Levels.Hi,J c.Height.Week,J c.Height.Metres.Lo,J c.Height.Metres.Hi,J c.Ref.Clerk,J c.Ref.Num],mapE f2 NName Q7,mapE f3 NName (InPool ps K),mapE f4 NName (F9 Mark),mapE f5 NName (F9 NName),mapE f6 NName (F9 ReadT)]) (l₂:=[row (vS) 76 24 (LS).length (xS),A5 (vR) 196 (LR),row (vT) 128 4 (LT).length (xT),A5 (vC) 73 (([]:List NName)),K7 73 2 ps]) (a:=mapE f7 NName Z2)).symm)) (S6 _ _ x ⟨_,_,_,_,rfl,a6,a7,a8,a9⟩ hM0)) (by decide) (fun n6 b5 u_ l z=>?_)
   obtain⟨rfl,rfl⟩:=z
   refine have hM0:=hM0.mono l;have hM1:=hM1.mono l;have hxS:=hxS.mono l;have hxT:=hxT.mono l;have d:=d.mono l;have s:=s.mono l;have t:=t.mono l;have u:=u.mono l;have w:=w.mono l;U 4 O<|WK.p [2,0,1,1,1,1,1] ?_
   refine E9 rfl (fun w' B=>B3 (B.weaken (.cons _ (.refl _))) ?_)
   exact Ih
  refine U' 5 O<|Z O O (A.f O)<|Z O O (A.b 0 O O O)<|Z O O (A.f O)<|G' (F1 d) O O O fun n7 d3=>?_
  obtain rfl:=d3
  refine BA rfl rfl rfl (V2 (k:=x.Ref) runUnderlying283 G5 zeroValue56 rfl rfl (show A7 _ 3=_ from rfl) (.nil _ _)) (by decide) (fun n8 d4=>?_)
  obtain⟨p0,h4,p1,rfl,k4,k5⟩:=d4
  refine Z O O (Jz runUnderlying56 rfl (q:=h4) rfl)<|C' O O (X.geq O O) (fun e8=>?_) fun e8=>?_
  ·refine U' 1 O<|V' 5 O<|g' d O fun n9 d5=>?_
   obtain⟨p2,p3,p4,p5,rfl,b0,b1,b2,b3⟩:=d5
   have k0:=b0.le
   have k1:=b1.le
   have k2:=b2.le
   have k3:=b3.le
   refine C5 (C8 (A:=[blk F 200 [J c.Clerk,J c.Num,J c.Clock,J c.Day,J c.Kind,J c.Station,J c.Week,J c.Sheet.Paper.Pitch,J c.Sheet.Paper.Height,J c.Sheet.Paper.Radius,J c.Sheet.Paper.Low,J c.Sheet.Paper.High,J c.Sheet.Paper.Columns,J c.Sheet.Paper.Along.Lo,J c.Sheet.Paper.Along.Hi,J c.Sheet.Paper.Across.Lo,J c.Sheet.Paper.Across.Hi,G,H,I,L,J c.Sheet.Pen.Band,J c.Sheet.Pen.Zero.Lo,J c.Sheet.Pen.Zero.Hi,J c.Sheet.Pen.Rate,J c.Mark.Column,J c.Mark.Ticks.Lo,J c.Mark.Ticks.Hi,J c.Read.Station,J c.Read.Week,J c.Read.Tick,J c.Read.Levels.Lo,J c.Read.Levels.Hi,J c.Height.Week,J c.Height.Metres.Lo,J c.Height.Metres.Hi,J c.Ref.Clerk,J c.Ref.Num],mapE f2 NName Q7,mapE f3 NName (InPool ps K),mapE f4 NName (F9 Mark),mapE f5 NName (F9 NName),mapE f6 NName (F9 ReadT),row (vS) 76 24 (LS).length (xS),A5 (vR) 196 (LR),row (vT) 128 4 (LT).length (xT),A5 (vC) 73 (([]:List NName)),K7 73 2 ps]) call162 rfl (List.Perm.cons _ ((List.Perm.cons _ (.refl _)).trans (So (l₁:=[blk F 200 [J c.Clerk,J c.Num,J c.Clock,J c.Day,J c.Kind,J c.Station,J c.Week,J c.Sheet.Paper.Pitch,J c.Sheet.Paper.Height,J c.Sheet.Paper.Radius,J c.Sheet.Paper.Low,J c.Sheet.Paper.High,J c.Sheet.Paper.Columns,J c.Sheet.Paper.Along.Lo,J c.Sheet.Paper.Along.Hi,J c.Sheet.Paper.Across.Lo,J c.Sheet.Paper.Across.Hi,G,H,I,L,J c.Sheet.Pen.Band,J c.Sheet.Pen.Zero.Lo,J c.Sheet.Pen.Zero.Hi,J c.Sheet.Pen.Rate,J c.Mark.Column,J c.Mark.Ticks.Lo,J c.Mark.Ticks.Hi,J c.Read.Station,J c.Read.Week,J c.Read.Tick,J c.Read.Levels.Lo,J c.Read.Levels.Hi,J c.Height.Week,J c.Height.Metres.Lo,J c.Height.Metres.Hi,J c.Ref.Clerk,J c.Ref.Num],mapE f2 NName Q7,mapE f3 NName (InPool ps K),mapE f4 NName (F9 Mark),mapE f5 NName (F9 NName),mapE f6 NName (F9 ReadT)]) (l₂:=[row (vS) 76 24 (LS).length (xS),A5 (vR) 196 (LR),row (vT) 128 4 (LT).length (xT),A5 (vC) 73 (([]:List NName)),K7 73 2 ps]) (a:=mapE f7 NName Z2)).symm)) (S6 _ _ x ⟨_,_,_,_,rfl,b0,b1,b2,b3⟩ hM0)) (by decide) (fun o0 b5 u_ o z=>?_)
   obtain⟨rfl,rfl⟩:=z
   refine have hM0:=hM0.mono o;have hM1:=hM1.mono o;have hxS:=hxS.mono o;have hxT:=hxT.mono o;have d:=d.mono o;have s:=s.mono o;have t:=t.mono o;have u:=u.mono o;have w:=w.mono o;U 4 O<|WK.p [2,0,1,1,1,1,1] ?_
   refine E9 rfl (fun w' B=>B3 (B.weaken (.cons _ (.refl _))) ?_)
   exact Ih
  refine U' 1 O<|V' 5 O<|L4 (π:=sq [0,1,2,3,4,5,6,7,8,9,10,12,11,13] .done) [8,9,11,13] [9,11,13] O (by kernel_rfl)<|U' 2 O<|Z O O (A.f O)<|Z O O (A.b 0 O O O)<|Z O O (A.f O)<|G' (F1 d) O O O fun o1 d6=>?_
  obtain rfl:=d6
  refine J0 rfl rfl (De isAgg200 sizeOf200 rfl d) (by decide) (fun o2 d7=>?_)
  obtain⟨p6,k6,k7,k8,rfl,b4,M,hs103,hs105⟩:=d7
  refine have e9:=b4.le;have f8:=M.le;have f9:=hs103.le;have g0:=hs105.le;Z O O (X.call call154 rfl (J8 _ _ x ⟨_,_,_,_,rfl,b4,M,hs103,hs105⟩))<|As O O O (G6 GB rfl rfl rfl (by decide)) (by decide) fun h5=>?_
  refine Qm rfl rfl rfl rfl (Gv (k:=x.Ref) runUnderlying283 G5 zeroValue56 rfl rfl (show A7 _ 4=_ from rfl) (.nil _ _)).entry (by decide) (fun h6 d8 C=>?_)
  obtain⟨k9,rfl,c3⟩:=C
  obtain⟨l0,l1,l2,rfl,c4,c5⟩:=c3
  refine Qg ?_
  refine Qm rfl rfl rfl rfl (RF (k:=12) (n:=K) GB (by intro v hv;simp[Value.cells]at hv;exact hv) rfl rfl rfl rfl ⟨_,_,_,rfl,c4,c5⟩ rfl (by intro v hv;simp at hv;rcases hv with rfl|rfl <;> exact⟨_,rfl⟩) (by omega) (by decide)) (by decide) (fun h7 D C=>?_)
  obtain⟨c6,a5⟩:=C
  refine B4 O O O O (OpTo.wk (H':=[blk fb 289 [.map (some f0),.map (some f1),.map (some f2),.map (some f3),.map (some f4),.map (some f5),.map (some f6),.map (some f7),vS,vR,vT,vC],blk F 200 [J c.Clerk,J c.Num,J c.Clock,J c.Day,J c.Kind,J c.Station,J c.Week,J c.Sheet.Paper.Pitch,J c.Sheet.Paper.Height,J c.Sheet.Paper.Radius,J c.Sheet.Paper.Low,J c.Sheet.Paper.High,J c.Sheet.Paper.Columns,J c.Sheet.Paper.Along.Lo,J c.Sheet.Paper.Along.Hi,J c.Sheet.Paper.Across.Lo,J c.Sheet.Paper.Across.Hi,G,H,I,L,J c.Sheet.Pen.Band,J c.Sheet.Pen.Zero.Lo,J c.Sheet.Pen.Zero.Hi,J c.Sheet.Pen.Rate,J c.Mark.Column,J c.Mark.Ticks.Lo,J c.Mark.Ticks.Hi,J c.Read.Station,J c.Read.Week,J c.Read.Tick,J c.Read.Levels.Lo,J c.Read.Levels.Hi,J c.Height.Week,J c.Height.Metres.Lo,J c.Height.Metres.Hi,J c.Ref.Clerk,J c.Ref.Num],mapE f2 NName Q7,mapS f3 NName (InPool D ((K+1))) d8,mapE f4 NName (F9 Mark),mapE f5 NName (F9 NName),mapE f6 NName (F9 ReadT),mapE f7 NName Z2,row (vS) 76 24 (LS).length (xS),A5 (vR) 196 (LR),row (vT) 128 4 (LT).length (xT),A5 (vC) 73 (([]:List NName)),K7 73 2 D]) (U1 (U1 (U1 (mapS.up (fun _ h_=>h_.up c6 (by omega)) (.refl _))))) (EP rfl rfl rfl (show A7 _ 3=_ from rfl) a5))<|V' 1 O<|B9 22 [16,18,19,21] [16,18,19,21,100012,100013,100014,100015]<|U' 2 O<|Z O O (A.f O)<|Z O O (A.b 0 O O O)<|G' d O O O fun h8 b6=>?_
  obtain⟨l3,l4,l5,l6,rfl,P,Q,R,S⟩:=b6
  refine have g1:=P.le;have g2:=Q.le;have g3:=R.le;have g4:=S.le;Z O O (X.call call154 rfl (J8 _ _ x ⟨_,_,_,_,rfl,P,Q,R,S⟩))<|U' 2 O<|Z O O (A.f O)<|Z O O (A.b 0 O O O)<|G' d O O O fun h9 b7=>?_
  obtain⟨l7,l8,l9,m0,rfl,V,W,Y,a0⟩:=b7
  refine have g5:=V.le;have g6:=W.le;have g7:=Y.le;have g8:=a0.le;Z O O (X.call call154 rfl (J8 _ _ x ⟨_,_,_,_,rfl,V,W,Y,a0⟩))<|have c1:=Q1 d;J2 O O O (fun _ _ d9=>(X.field runUnderlying200 rfl sizeOf98 rfl)) (by decide) ?_
  refine GS rfl rfl rfl (Cb isAgg98 sizeOf98 rfl c1) (by decide) (fun i0 b8=>?_)
  obtain rfl:=b8
  refine have c2:=F1 d;J2 O O O (fun _ _ d9=>(X.field runUnderlying200 rfl sizeOf73 rfl)) (by decide) ?_
  refine GS rfl rfl rfl (Cb isAgg73 sizeOf73 rfl c2) (by decide) (fun i1 b9=>?_)
  obtain rfl:=b9
  refine Qm rfl rfl rfl rfl (Gv (k:=(I0 x)) runUnderlying284 G5 zeroValue98 rfl rfl (show A7 _ 4=_ from rfl) ⟨(Mark.mk 0 (Span.mk 0 0)),rfl⟩).entry (by decide) (fun i2 i3 C=>?_)
  obtain⟨m1,rfl,c7⟩:=C
  obtain⟨m2,rfl⟩:=c7
  refine U' 1 O<|B4 O O O O (EP rfl rfl rfl (show A7 _ 4=_ from rfl) ⟨x.Mark,rfl⟩) ?_
  refine Qm rfl rfl rfl rfl (Gv (k:=(I0 x)) runUnderlying285 G5 zeroValue73 rfl rfl (show A7 _ 5=_ from rfl) ⟨(NName.mk 0 0),rfl⟩).entry (by decide) (fun i4 i5 C=>?_)
  obtain⟨m3,rfl,c8⟩:=C
  obtain⟨m4,rfl⟩:=c8
  refine U' 1 O<|B4 O O O O (EP rfl rfl rfl (show A7 _ 5=_ from rfl) ⟨x.Ref,rfl⟩)<|V' 0 O<|WK.p [1] ?_
  refine D0 rfl (fun w' B=>B3 (B.weaken (.cons _ (.refl _))) ?_)
  exact⟨rfl,⟨fb,f0,f1,f2,f3,f4,f5,f6,f7,vS,xS,LS,vR,LR,vT,xT,LT,vC,D,(K+1)⟩,rfl,rfl,⟨hM0,hM1,hxS,hxT,⟨(by first|omega|(simp only[F',N',P',I'];omega)),(by first|omega|(simp only[F',N',P',I'];omega)),(by first|omega|(simp only[F',N',P',I'];omega)),(by first|omega|(simp only[F',N',P',I'];omega)),hbd.2.2.2.2⟩,hts,hfi⟩⟩
 refine N3 O O O (T.alloc zeroValue200 rfl) (by decide) fun i6=>W' 0 O O O O O<|U' 1 O<|V' 2 O<|B9 22 [8,18] [8]<|U' 22 O<|V' 5 O<|g' d O fun i7 c0=>?_
 obtain⟨m5,m6,m7,m8,rfl,a1,a2,a3,a4⟩:=c0
 have g9:=a1.le
 have h0:=a2.le
 have h1:=a3.le
 have h2:=a4.le
 refine C5 (K5 [1,6] call162 O (S6 _ _ x ⟨_,_,_,_,rfl,a1,a2,a3,a4⟩ hM0)) (by decide) (fun i8 b5 u_ r z=>?_)
 obtain⟨rfl,rfl⟩:=z
 refine have hM0:=hM0.mono r;have hM1:=hM1.mono r;have hxS:=hxS.mono r;have hxT:=hxT.mono r;U 4 O<|WK.p [2,0,1,1,1,1,1] ?_
 refine E9 rfl (fun w' B=>B3 (B.weaken (.cons _ (.refl _))) ?_)
 exact Ih
theorem N9(h:G:=by exact⟨rfl,⟨fb,f0,f1,f2,f3,f4,f5,f6,f7,vS,xS,LS,vR,LR,vT,xT,LT,vC,ps,K⟩,rfl,rfl,⟨hM0,hM1,hxS,hxT,⟨(by first|omega|(simp only[F',N',P',I'];omega)),(by first|omega|(simp only[F',N',P',I'];omega)),(by first|omega|(simp only[F',N',P',I'];omega)),(by first|omega|(simp only[F',N',P',I'];omega)),hbd.2.2.2.2⟩,hts,hfi⟩⟩):G:=h
theorem A2z(m:Mem)(cn:List Value)(x:NoteT)(hn_:Enc.rd m cn x)(hM0:MapN m f0)(hM1:MapN m f1)(hxS:RdL m xS LS)(hxT:RdL m xT LT)(hbd:LS.length≤n∧LR.length≤n∧K≤n∧LT.length=N∧N≤1000)(hts:ES LT)(hfi:∀a∈LS,MP a)(hn:n≤5000):Mut prog 158 #[Pt fb 0,.agg cn.toArray] m [blk fb 289 [.map (some f0),.map (some f1),.map (some f2),.map (some f3),.map (some f4),.map (some f5),.map (some f6),.map (some f7),vS,vR,vT,vC],mapE f2 NName Q7,mapE f3 NName (InPool ps K),mapE f4 NName (F9 Mark),mapE f5 NName (F9 NName),mapE f6 NName (F9 ReadT),mapE f7 NName Z2,row (vS) 76 24 (LS).length (xS),A5 (vR) 196 (LR),row (vT) 128 4 (LT).length (xT),A5 (vC) 73 (([]:List NName)),K7 73 2 ps] (Qa fb (n+1) N):=by
 obtain⟨v1,v3,v5,v7,rfl,d5,d6,d7,d8⟩:=hn_
 refine have o4:=d5.le;have j3:=d6.le;have j4:=d7.le;have j5:=d8.le;G3 func158 O ntmps158 fun m2=>q' 2 O<|o' O O fun m3=>U 4 O<|fx (x:=x) 1 0 O O ⟨_,_,_,_,rfl,d5,d6,d7,d8⟩ fun m4 y c=>have hM0:=hM0.mono y;have hM1:=hM1.mono y;have hxS:=hxS.mono y;have hxT:=hxT.mono y;q' 1 O<|f' O t'<|have d4:=DI (V1 c);f' O t'<|i' d4 O<|e' (X.neq O O) (fun e6=>?_) fun e6=>?_
 ·refine U 5 O<|L4 (π:=sq [0,1,2,3,4,5] (.fork (sq [6,7,8,9,10,11,12] .done) (sq [10,6,7,8,9,11,12] .done))) [6,10,11] [11] O (by kernel_rfl)<|U' 2 O<|Z O O (A.f O)<|Z O O (A.b 0 O O O)<|Z O O (A.f O)<|G' (F1 c) O O O fun m5 c1=>?_
  obtain rfl:=c1
  refine DW.fork (SW _ _) ?_ ?_
  ·refine BA rfl rfl rfl (Gn (k:=x.Ref) runUnderlying286 G5 zeroValue196 rfl rfl (show A7 _ 5=_ from rfl) ⟨(ReadT.mk 0 0 0 (Span.mk 0 0)),rfl⟩) (by decide) (fun m6 z=>?_)
   obtain⟨o5,o6,rfl,d9⟩:=z
   obtain⟨x27,rfl⟩:=d9
   refine Qg ?_
   refine Z8 rfl rfl (X.extract rfl rfl) (by decide) (fun e7=>?_) (fun e7=>?_)
   ·refine N3 O O O (T.alloc zeroValue196 rfl) (by decide) fun m7=>W' 0 O O O O O<|U' 1 O<|V' 11 O<|B9 9 [8] []<|U' 2 O<|Z O O (A.f O)<|Z O O (A.b 1 O O O)<|Z O O (A.f O)<|G' (F1 c) O O O fun m8 c2=>?_
    obtain rfl:=c2
    refine Z O O (A.f O)<|G' (V1 c) O O O fun m9 c3=>?_
    obtain rfl:=c3
    refine Bl O O O (M2 (k:=x.Ref) runUnderlying286 G5 rfl rfl rfl (show A7 _ 6=_ from rfl) ⟨x.Read,rfl⟩)<|V' 3 O ?_
    refine E9 rfl (fun w' d=>B3 (d.weaken (.cons _ (.refl _))) ?_)
    exact N9
   refine N3 O O O (T.alloc zeroValue196 rfl) (by decide) fun n0=>W' 0 O O O O O<|U' 1 O<|V' 11 O<|g' c O fun n1 c4=>?_
   obtain⟨o7,o8,o9,p0,rfl,a1,a2,a3,a4⟩:=c4
   have j6:=a1.le
   have j7:=a2.le
   have j8:=a3.le
   have j9:=a4.le
   refine C5 (K5 [1,6] call162 O (S6 _ _ x ⟨_,_,_,_,rfl,a1,a2,a3,a4⟩ hM0)) (by decide) (fun n2 B u_ u g=>?_)
   obtain⟨rfl,rfl⟩:=g
   refine have hM0:=hM0.mono u;have hM1:=hM1.mono u;have hxS:=hxS.mono u;have hxT:=hxT.mono u;have c:=c.mono u;U 5 O<|WK.p [2,0,1,1,1,1,1] ?_
   refine E9 rfl (fun w' d=>B3 (d.weaken (.cons _ (.refl _))) ?_)
   exact N9
  refine N3 rfl rfl rfl (T.alloc zeroValue196 rfl) (by decide) fun n3=>?_
  refine BA rfl rfl rfl (Gn (k:=x.Ref) runUnderlying286 G5 zeroValue196 rfl rfl (show A7 _ 6=_ from rfl) ⟨(ReadT.mk 0 0 0 (Span.mk 0 0)),rfl⟩) (by decide) (fun n4 z=>?_)
  obtain⟨p1,p2,rfl,e0⟩:=z
  obtain⟨p3,rfl⟩:=e0
  refine Qg ?_
  refine Z8 rfl rfl (X.extract rfl rfl) (by decide) (fun e8=>?_) (fun e8=>?_)
  ·refine W' 0 O O O O O<|U' 1 O<|V' 11 O<|B9 9 [8] []<|U' 2 O<|Z O O (A.f O)<|Z O O (A.b 1 O O O)<|Z O O (A.f O)<|G' (F1 c) O O O fun n5 c5=>?_
   obtain rfl:=c5
   refine Z O O (A.f O)<|G' (V1 c) O O O fun n6 c6=>?_
   obtain rfl:=c6
   refine Bl O O O (M2 (k:=x.Ref) runUnderlying286 G5 rfl rfl rfl (show A7 _ 6=_ from rfl) ⟨x.Read,rfl⟩)<|V' 3 O ?_
   refine E9 rfl (fun w' d=>B3 (d.weaken (.cons _ (.refl _))) ?_)
   exact N9
  refine W' 0 O O O O O<|U' 1 O<|V' 11 O<|g' c O fun n7 c7=>?_
  obtain⟨p4,p5,p6,p7,rfl,a5,a6,a7,a8⟩:=c7
  have k0:=a5.le
  have k1:=a6.le
  have k2:=a7.le
  have k3:=a8.le
  refine C5 (K5 [1,6] call162 O (S6 _ _ x ⟨_,_,_,_,rfl,a5,a6,a7,a8⟩ hM0)) (by decide) (fun n8 B u_ v g=>?_)
  obtain⟨rfl,rfl⟩:=g
  refine have hM0:=hM0.mono v;have hM1:=hM1.mono v;have hxS:=hxS.mono v;have hxT:=hxT.mono v;have c:=c.mono v;U 5 O<|WK.p [2,0,1,1,1,1,1] ?_
  refine E9 rfl (fun w' d=>B3 (d.weaken (.cons _ (.refl _))) ?_)
  exact N9
 refine U 7 O<|L4 (π:=sq [0,1,2,3,4,5] (.fork (sq [6,7,8,9,10,11,12] .done) (sq [10,6,7,8,9,11,12] .done))) [6,10,11] [11] O (by kernel_rfl)<|U' 2 O<|Z O O (A.f O)<|Z O O (A.b 0 O O O)<|Z O O (A.f O)<|G' (F1 c) O O O fun n9 c8=>?_
 obtain rfl:=c8
 refine DW.fork (SW _ _) ?_ ?_
 ·refine BA rfl rfl rfl (Gn (k:=x.Ref) runUnderlying284 G5 zeroValue98 rfl rfl (show A7 _ 3=_ from rfl) ⟨(Mark.mk 0 (Span.mk 0 0)),rfl⟩) (by decide) (fun o0 z=>?_)
  obtain⟨p8,p9,rfl,e1⟩:=z
  obtain⟨C,rfl⟩:=e1
  refine Qg ?_
  refine Z8 rfl rfl (X.extract rfl rfl) (by decide) (fun e9=>?_) (fun e9=>?_)
  ·refine N3 O O O (T.alloc zeroValue98 rfl) (by decide) fun c9=>W' 0 O O O O O<|U' 1 O<|V' 2 O<|L4 (π:=sq [0,1,2,3,4,5,6,7,8,9,11,12,10,13,14,15] .done) [10,13] [13] O (by kernel_rfl)<|U' 6 O<|Z O O (A.f O)<|Z O O (A.b 1 O O O)<|Z O O (A.f O)<|G' (F1 c) O O O fun o1 d0=>?_
   obtain rfl:=d0
   refine Z O O (A.f O)<|G' (Q1 c) O O O fun o2 d1=>?_
   obtain rfl:=d1
   refine BA rfl rfl rfl (V2 (k:=x.Ref) runUnderlying285 G5 zeroValue73 rfl rfl (show A7 _ 5=_ from rfl) ⟨(NName.mk 0 0),rfl⟩) (by decide) (fun o3 d2=>?_)
   obtain⟨e2,rfl⟩:=d2
   refine DH rfl rfl rfl rfl (K5 [1] call233 O (ON _ _ e2 rfl _ x.Mark rfl hM1)) (by decide) (fun h4 B u_ l g=>?_)
   obtain⟨rfl,e3,rfl⟩:=g
   replace hM0:=hM0.mono l
   replace hM1:=hM1.mono l
   replace hxS:=hxS.mono l
   replace hxT:=hxT.mono l
   replace c:=c.mono l
   cases e3
   ·refine U' 2 O<|V' 5 O<|g' c O fun h5 a9=>?_
    obtain⟨k4,k5,k6,k7,rfl,hs107,D,E,F⟩:=a9
    have f8:=hs107.le
    have f9:=D.le
    have g0:=E.le
    have g1:=F.le
    refine C5 (C8 (A:=[blk c9 98 [J C.Column,J C.Ticks.Lo,J C.Ticks.Hi],mapE f2 NName Q7,mapE f3 NName (InPool ps K),mapE f4 NName (F9 Mark),mapE f5 NName (F9 NName),mapE f6 NName (F9 ReadT),row (vS) 76 24 (LS).length (xS),A5 (vR) 196 (LR),row (vT) 128 4 (LT).length (xT),A5 (vC) 73 (([]:List NName)),K7 73 2 ps]) call162 rfl (List.Perm.cons _ ((List.Perm.cons _ (.refl _)).trans (So (l₁:=[blk c9 98 [J C.Column,J C.Ticks.Lo,J C.Ticks.Hi],mapE f2 NName Q7,mapE f3 NName (InPool ps K),mapE f4 NName (F9 Mark),mapE f5 NName (F9 NName),mapE f6 NName (F9 ReadT)]) (l₂:=[row (vS) 76 24 (LS).length (xS),A5 (vR) 196 (LR),row (vT) 128 4 (LT).length (xT),A5 (vC) 73 (([]:List NName)),K7 73 2 ps]) (a:=mapE f7 NName Z2)).symm)) (S6 _ _ x ⟨_,_,_,_,rfl,hs107,D,E,F⟩ hM0)) (by decide) (fun h6 B u_ o g=>?_)
    obtain⟨rfl,rfl⟩:=g
    refine have hM0:=hM0.mono o;have hM1:=hM1.mono o;have hxS:=hxS.mono o;have hxT:=hxT.mono o;have c:=c.mono o;U 4 O<|WK.p [2,0,1,1,1,1,1] ?_
    refine E9 rfl (fun w' d=>B3 (d.weaken (.cons _ (.refl _))) ?_)
    exact N9
   refine U' 2 O<|V' 4 O<|B9 9 [8] []<|U' 2 O<|Z O O (A.f O)<|Z O O (A.b 0 O O O)<|Z O O (A.f O)<|G' (F1 c) O O O fun h7 b0=>?_
   obtain rfl:=b0
   refine Z O O (A.f O)<|G' (Q1 c) O O O fun h8 b1=>?_
   obtain rfl:=b1
   refine Bl O O O (M2 (k:=x.Ref) runUnderlying284 G5 rfl rfl rfl (show A7 _ 4=_ from rfl) ⟨x.Mark,rfl⟩)<|V' 0 O<|WK.p [1] ?_
   refine D0 rfl (fun w' d=>B3 (d.weaken (.cons _ (.refl _))) ?_)
   exact N9
  refine N3 O O O (T.alloc zeroValue98 rfl) (by decide) fun h9=>W' 0 O O O O O<|U' 1 O<|V' 2 O<|L4 (π:=sq [0,1,2,3,4,5,6,7,8,9,11,12,10,13,14,15] .done) [10,13] [13] O (by kernel_rfl)<|U' 16 O<|V' 5 O<|g' c O fun i0 b2=>?_
  obtain⟨k8,k9,l0,l1,rfl,G,H,I,L⟩:=b2
  have g2:=G.le
  have g3:=H.le
  have g4:=I.le
  have g5:=L.le
  refine C5 (K5 [1,6] call162 O (S6 _ _ x ⟨_,_,_,_,rfl,G,H,I,L⟩ hM0)) (by decide) (fun i1 B u_ q g=>?_)
  obtain⟨rfl,rfl⟩:=g
  refine have hM0:=hM0.mono q;have hM1:=hM1.mono q;have hxS:=hxS.mono q;have hxT:=hxT.mono q;have c:=c.mono q;U 4 O<|WK.p [2,0,1,1,1,1,1] ?_
  refine E9 rfl (fun w' d=>B3 (d.weaken (.cons _ (.refl _))) ?_)
  exact N9
 refine N3 rfl rfl rfl (T.alloc zeroValue98 rfl) (by decide) fun a0=>?_
 refine BA rfl rfl rfl (Gn (k:=x.Ref) runUnderlying284 G5 zeroValue98 rfl rfl (show A7 _ 4=_ from rfl) ⟨(Mark.mk 0 (Span.mk 0 0)),rfl⟩) (by decide) (fun i2 z=>?_)
 obtain⟨l2,l3,rfl,c0⟩:=z
 obtain⟨w,rfl⟩:=c0
 refine Qg ?_
 refine Z8 rfl rfl (X.extract rfl rfl) (by decide) (fun d3=>?_) (fun d3=>?_)
 ·refine W' 0 O O O O O<|U' 1 O<|V' 2 O<|L4 (π:=sq [0,1,2,3,4,5,6,7,8,9,11,12,10,13,14,15] .done) [10,13] [13] O (by kernel_rfl)<|U' 6 O<|Z O O (A.f O)<|Z O O (A.b 1 O O O)<|Z O O (A.f O)<|G' (F1 c) O O O fun i3 b3=>?_
  obtain rfl:=b3
  refine Z O O (A.f O)<|G' (Q1 c) O O O fun i4 b4=>?_
  obtain rfl:=b4
  refine BA rfl rfl rfl (V2 (k:=x.Ref) runUnderlying285 G5 zeroValue73 rfl rfl (show A7 _ 5=_ from rfl) ⟨(NName.mk 0 0),rfl⟩) (by decide) (fun i5 b5=>?_)
  obtain⟨e4,rfl⟩:=b5
  refine DH rfl rfl rfl rfl (K5 [1] call233 O (ON _ _ e4 rfl _ x.Mark rfl hM1)) (by decide) (fun i6 B u_ r g=>?_)
  obtain⟨rfl,e5,rfl⟩:=g
  replace hM0:=hM0.mono r
  replace hM1:=hM1.mono r
  replace hxS:=hxS.mono r
  replace hxT:=hxT.mono r
  replace c:=c.mono r
  cases e5
  ·refine U' 2 O<|V' 5 O<|g' c O fun i7 b6=>?_
   obtain⟨l4,l5,l6,l7,rfl,M,P,Q,R⟩:=b6
   have g6:=M.le
   have g7:=P.le
   have g8:=Q.le
   have g9:=R.le
   refine C5 (C8 (A:=[blk a0 98 [J w.Column,J w.Ticks.Lo,J w.Ticks.Hi],mapE f2 NName Q7,mapE f3 NName (InPool ps K),mapE f4 NName (F9 Mark),mapE f5 NName (F9 NName),mapE f6 NName (F9 ReadT),row (vS) 76 24 (LS).length (xS),A5 (vR) 196 (LR),row (vT) 128 4 (LT).length (xT),A5 (vC) 73 (([]:List NName)),K7 73 2 ps]) call162 rfl (List.Perm.cons _ ((List.Perm.cons _ (.refl _)).trans (So (l₁:=[blk a0 98 [J w.Column,J w.Ticks.Lo,J w.Ticks.Hi],mapE f2 NName Q7,mapE f3 NName (InPool ps K),mapE f4 NName (F9 Mark),mapE f5 NName (F9 NName),mapE f6 NName (F9 ReadT)]) (l₂:=[row (vS) 76 24 (LS).length (xS),A5 (vR) 196 (LR),row (vT) 128 4 (LT).length (xT),A5 (vC) 73 (([]:List NName)),K7 73 2 ps]) (a:=mapE f7 NName Z2)).symm)) (S6 _ _ x ⟨_,_,_,_,rfl,M,P,Q,R⟩ hM0)) (by decide) (fun i8 B u_ s g=>?_)
   obtain⟨rfl,rfl⟩:=g
   refine have hM0:=hM0.mono s;have hM1:=hM1.mono s;have hxS:=hxS.mono s;have hxT:=hxT.mono s;have c:=c.mono s;U 4 O<|WK.p [2,0,1,1,1,1,1] ?_
   refine E9 rfl (fun w' d=>B3 (d.weaken (.cons _ (.refl _))) ?_)
   exact N9
  refine U' 2 O<|V' 4 O<|B9 9 [8] []<|U' 2 O<|Z O O (A.f O)<|Z O O (A.b 0 O O O)<|Z O O (A.f O)<|G' (F1 c) O O O fun i9 b7=>?_
  obtain rfl:=b7
  refine Z O O (A.f O)<|G' (Q1 c) O O O fun j0 b8=>?_
  obtain rfl:=b8
  refine Bl O O O (M2 (k:=x.Ref) runUnderlying284 G5 rfl rfl rfl (show A7 _ 4=_ from rfl) ⟨x.Mark,rfl⟩)<|V' 0 O<|WK.p [1] ?_
  refine D0 rfl (fun w' d=>B3 (d.weaken (.cons _ (.refl _))) ?_)
  exact N9
 refine W' 0 O O O O O<|U' 1 O<|V' 2 O<|L4 (π:=sq [0,1,2,3,4,5,6,7,8,9,11,12,10,13,14,15] .done) [10,13] [13] O (by kernel_rfl)<|U' 16 O<|V' 5 O<|g' c O fun j1 b9=>?_
 obtain⟨l8,l9,m0,m1,rfl,S,V,W,Y⟩:=b9
 have h0:=S.le
 have h1:=V.le
 have h2:=W.le
 have h3:=Y.le
 refine C5 (K5 [1,6] call162 O (S6 _ _ x ⟨_,_,_,_,rfl,S,V,W,Y⟩ hM0)) (by decide) (fun j2 B u_ t g=>?_)
 obtain⟨rfl,rfl⟩:=g
 refine have hM0:=hM0.mono t;have hM1:=hM1.mono t;have hxS:=hxS.mono t;have hxT:=hxT.mono t;U 4 O<|WK.p [2,0,1,1,1,1,1] ?_
 refine E9 rfl (fun w' d=>B3 (d.weaken (.cons _ (.refl _))) ?_)
 exact N9
theorem A9u(m:Mem)(cn:List Value)(x:NoteT)(hn_:Enc.rd m cn x)(hM0:MapN m f0)(hM1:MapN m f1)(hxS:RdL m xS LS)(hxT:RdL m xT LT)(hbd:LS.length≤n∧LR.length≤n∧K≤n∧LT.length=N∧N≤1000)(hts:ES LT)(hfi:∀a∈LS,MP a)(hn:n≤5000):Mut prog 161 #[.agg cn.toArray,Pt fb 0] m [blk fb 289 [.map (some f0),.map (some f1),.map (some f2),.map (some f3),.map (some f4),.map (some f5),.map (some f6),.map (some f7),vS,vR,vT,vC],mapE f2 NName Q7,mapE f3 NName (InPool ps K),mapE f4 NName (F9 Mark),mapE f5 NName (F9 NName),mapE f6 NName (F9 ReadT),mapE f7 NName Z2,row (vS) 76 24 (LS).length (xS),A5 (vR) 196 (LR),row (vT) 128 4 (LT).length (xT),A5 (vC) 73 (([]:List NName)),K7 73 2 ps] (Qa fb (n+1) N):=by
 obtain⟨v1,v3,v5,v7,rfl,t,u,v,w⟩:=hn_
 refine have S:=t.le;have C:=u.le;have D:=v.le;have E:=w.le;G3 func161 O ntmps161 fun J=>q' 2 O<|o' O O fun L=>U 2 O<|fx (x:=x) 1 0 O O ⟨_,_,_,_,rfl,t,u,v,w⟩ fun M c p=>have hM0:=hM0.mono c;have hM1:=hM1.mono c;have hxS:=hxS.mono c;have hxT:=hxT.mono c;B9 13 [7,8,9,12] [9,12]<|Z O O (A.f O)<|Z O O (A.f O)<|Z O O (A.b 0 O O O)<|Z O O (A.f O)<|Z O O (A.b 0 O O O)<|G' p O O O fun P q=>?_
 obtain⟨T,V,W,Y,rfl,d,g,l,o⟩:=q
 refine have F:=d.le;have G:=g.le;have H:=l.le;have I:=o.le;Z O O (X.call call154 rfl (J8 _ _ x ⟨_,_,_,_,rfl,d,g,l,o⟩)) ?_
 refine BA rfl rfl rfl (V2 (k:=(I0 x)) runUnderlying286 G5 zeroValue196 rfl rfl (show A7 _ 5=_ from rfl) ⟨(ReadT.mk 0 0 0 (Span.mk 0 0)),rfl⟩) (by decide) (fun Q r=>?_)
 obtain⟨y,rfl⟩:=r
 refine As rfl rfl rfl (G6 Ot rfl rfl rfl (by decide)) (by decide) fun R=>?_
 refine Ae rfl rfl rfl rfl (G1 (k:=8) (a:=y) Ot rfl rfl rfl rfl (by first|omega|(simp;done)|(simp;omega)) (by decide)) (by decide) (fun z=>?_)
 refine Z O O (A.f O)<|Z O O (A.f O)<|B4 O O O O (T1 (k:=8) rfl trivial (D1 rfl rfl rfl) fun s=>C1 (k:=0) sizeOf55 rfl rfl rfl s (J' rfl))<|V' 0 O ?_
 refine D0 rfl (fun w' B=>B3 (B.weaken (.refl _)) ?_)
 exact⟨rfl,⟨fb,f0,f1,f2,f3,f4,f5,f6,f7,vS,xS,LS,z,LR++[y],vT,xT,LT,vC,ps,K⟩,rfl,rfl,⟨hM0,hM1,hxS,hxT,⟨(by first|omega|(simp only[F',N',P',I'];omega)),(by first|omega|(simp only[F',N',P',I'];omega)),(by first|omega|(simp only[F',N',P',I'];omega)),(by first|omega|(simp only[F',N',P',I'];omega)),hbd.2.2.2.2⟩,hts,hfi⟩⟩
end Go.Proofs.S10
