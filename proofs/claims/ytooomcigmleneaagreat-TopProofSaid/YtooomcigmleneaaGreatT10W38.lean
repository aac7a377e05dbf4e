import Derived.Test.YtooomcigmleneaaGreatT10W37
set_option linter.all false
set_option maxHeartbeats 8000000
namespace Go.Proofs.S10
open Tryz Go Go.Kx Go.Proofs.T10
set_option maxRecDepth 20000
variable{N fb n:Nat}
theorem DZ(m:Mem)(cx:List Value)(x:Sheet)(hx:Enc.rd m cx x)(hb_:Po x):Pure prog 165 #[.agg cx.toArray] m (fun m' v=>∃r0,v= .agg r0.toArray∧Enc.rd m' r0 (x)):=by
 obtain⟨v1,v3,v5,v7,rfl,E,s,o,d⟩:=hx
 have a5:=E.le
 have M:=s.le
 have N:=o.le
 have P:=d.le
 unfold Po at hb_
 refine F6 func165 O ntmps165 fun Q=>q' 2 O<|o' O O fun R=>n' zeroValue35 O fun S=>U 3 O<|L4 (π:=sq [0,1,3,4,2,6,5,7,8,9] .done) [2,5,7,9] [7,9] O (by kernel_rfl)<|Z O O (A.f O)<|Z O O (A.b 1 O O O)<|Z O O (A.f O)<|Z O O (A.b 1 O O O) ?_
 refine AY rfl rfl rfl (H3 call236 rfl (A8u _ E (by omega))) (by decide) (fun T Es16 H g l=>?_)
 obtain⟨rfl,F⟩:=l
 refine have s:=s.mono g;have o:=o.mono g;have d:=d.mono g;Z O O (A.f O) ?_
 refine AY rfl rfl rfl (H3 call237 rfl (A9G _ s (by omega))) (by decide) (fun W Es21 I p l=>?_)
 obtain⟨rfl,G⟩:=l
 refine have o:=o.mono p;have d:=d.mono p;B4 O O O O (C1 (k:=3) sizeOf26 rfl rfl rfl F (J' rfl))<|Z O O (A.f O)<|B4 O O O O (C1 (k:=3) sizeOf27 rfl rfl rfl G (J' rfl))<|V' 2 O<|L4 (π:=sq [0,1,2,4,5,6,3,7,8,9,10] .done) [3,7,10] [10] O (by kernel_rfl)<|Z O O (A.f O)<|Z O O (A.f O)<|Z O O (A.b 3 O O O)<|Z O O (A.f O)<|Z O O (A.f O)<|Z O O (A.b 3 O O O) ?_
 refine AY rfl rfl rfl (H3 call207 rfl (FO _ o (by omega))) (by decide) (fun Y Es26 B w l=>?_)
 obtain⟨rfl,t⟩:=l
 replace d:=d.mono w
 refine AY rfl rfl rfl (H3 call238 rfl (A8m _ d (by omega))) (by decide) (fun a0 Es31 C K l=>?_)
 obtain⟨rfl,u⟩:=l
 refine DW.y (V:=Value.agg [B,C].toArray) rfl rfl (X.build zeroValue31 runUnderlying31 (A0A _ underlying31) rfl (by simp only[Instr.fill,D7 t,D7 u];rfl)) ?_
 refine Z O O (A.f O)<|B4 O O O O (T3 (k:=5) [J x.Paper.Pitch,J x.Paper.Height,J x.Paper.Radius,J x.Paper.Low,J x.Paper.High,J x.Paper.Columns,J x.Paper.Along.Lo,J x.Paper.Along.Hi,J x.Paper.Across.Lo,J x.Paper.Across.Hi,H,I,B,C,J x.Pen.Band,J x.Pen.Zero.Lo,J x.Pen.Zero.Hi,J x.Pen.Rate] sizeOf31 rfl rfl rfl (A4 t (A4 u C6)) rfl rfl rfl)<|V' 3 O<|a' 5 O O<|w' 4 O O O<|U 3 O ?_
 refine E4 3 rfl rfl (by unfold C7;omega) (fun a1 L a=>?_)
 refine E4 2 rfl rfl (by unfold C7;omega) (fun a2 z c=>?_)
 replace a:=a.mono z
 refine E4 1 rfl rfl (by unfold C7;omega) (fun a3 q r=>?_)
 replace a:=a.mono q
 replace c:=c.mono q
 refine E4 0 rfl rfl (by unfold C7;omega) (fun a4 n D=>?_)
 exact have a:=a.mono n;have c:=c.mono n;have r:=r.mono n;Ad 0 O O O isAgg35 sizeOf35<|C2<|⟨_,rfl,⟨_,_,_,_,rfl,a,c,r,D⟩⟩
theorem A7K(m:Mem)(cn:List Value)(x:NoteT)(hn_:Enc.rd m cn x){f0 f1 f2 f3 f4 f5 f6 f7:Nat}{vS vR vT vC:Value}{xS xT:List Value}{LS:List FiledT}{LR:List ReadT}{LT:List Station}{ps:List (Nat×Nat)}{K:Nat}(hM0:MapN m f0)(hM1:MapN m f1)(hxS:RdL m xS LS)(hxT:RdL m xT LT)(hbd:LS.length≤n∧LR.length≤n∧K≤n∧LT.length=N∧N≤1000)(hts:ES LT)(hfi:∀a∈LS,MP a)(hn:n≤5000)(hsb:Po x.Sheet):Mut prog 159 #[Pt fb 0,.agg cn.toArray] m [blk fb 289 [.map (some f0),.map (some f1),.map (some f2),.map (some f3),.map (some f4),.map (some f5),.map (some f6),.map (some f7),vS,vR,vT,vC],mapE f2 NName Q7,mapE f3 NName (InPool ps K),mapE f4 NName (F9 Mark),mapE f5 NName (F9 NName),mapE f6 NName (F9 ReadT),mapE f7 NName Z2,row (vS) 76 24 (LS).length (xS),A5 (vR) 196 (LR),row (vT) 128 4 (LT).length (xT),A5 (vC) 73 (([]:List NName)),K7 73 2 ps] (Qa fb (n+1) N):=by
 obtain⟨v1,v3,v5,v7,rfl,h5,h6,h7,h8⟩:=hn_
 refine have p6:=h5.le;have m1:=h6.le;have m2:=h7.le;have m3:=h8.le;G3 func159 O ntmps159 fun o6=>q' 2 O<|o' O O fun d9=>U 2 O<|fx (x:=x) 1 0 O O ⟨_,_,_,_,rfl,h5,h6,h7,h8⟩ fun e0 R l=>?_
 replace hM0:=hM0.mono R
 replace hM1:=hM1.mono R
 replace hxS:=hxS.mono R
 replace hxT:=hxT.mono R
 refine cu (G:=Mem×Nat×Int×Int) (fun(a3,H,s,o)=>a3) (fun(a3,H,s,o)=>[blk H 296 [.pointer none,J s,J o],blk fb 289 [.map (some f0),.map (some f1),.map (some f2),.map (some f3),.map (some f4),.map (some f5),.map (some f6),.map (some f7),vS,vR,vT,vC],mapE f2 NName Q7,mapE f3 NName (InPool ps K),mapE f4 NName (F9 Mark),mapE f5 NName (F9 NName),mapE f6 NName (F9 ReadT),mapE f7 NName Z2,row (vS) 76 24 (LS).length (xS),A5 (vR) 196 (LR),row (vT) 128 4 (LT).length (xT),A5 (vC) 73 (([]:List NName)),K7 73 2 ps]) (fun(a3,H,s,o)=>[(0,Pt fb 0),(3,Pt d9 0),(4,Pt H 0)]) (fun(a3,H,s,o)=>e0.le a3) ?_ ?_
 ·refine L4 (π:=sq [0,1,2,3,4,5] (.fork (sq [6,7,8] .done) (sq [7,6,8] .done))) [6,7,8] [8] O (by kernel_rfl)<|U' 2 O<|Z O O (A.f O)<|Z O O (A.b 0 O O O)<|G' l O O O fun o7 g1=>?_
  obtain⟨p7,p8,p9,q0,rfl,b7,b8,b9,c0⟩:=g1
  refine have m4:=b7.le;have m5:=b8.le;have m6:=b9.le;have m7:=c0.le;Z O O (X.call call154 rfl (J8 _ _ x ⟨_,_,_,_,rfl,b7,b8,b9,c0⟩)) ?_
  refine DW.fork (SW _ _) ?_ ?_
  ·refine BA rfl rfl rfl (V2 (k:=(I0 x)) runUnderlying282 G5 zeroValue296 rfl rfl (show A7 _ 1=_ from rfl) B0i) (by decide) (fun o8 g2=>?_)
   obtain⟨o,k5,rfl⟩:=g2
   exact N3 O O O (T.alloc zeroValue296 rfl) (by decide) fun i3=>W' 0 O O O O O<|V' 1 O<|mt (e0,i3,o,k5)<|Mem.le_refl _
  refine N3 rfl rfl rfl (T.alloc zeroValue296 rfl) (by decide) fun i4=>?_
  refine BA rfl rfl rfl (V2 (k:=(I0 x)) runUnderlying282 G5 zeroValue296 rfl rfl (show A7 _ 2=_ from rfl) B0i) (by decide) (fun o9 g3=>?_)
  obtain⟨k6,k7,rfl⟩:=g3
  exact W' 0 O O O O O<|V' 1 O<|mt (e0,i4,k6,k7)<|Mem.le_refl _
 rintro⟨a3,H,s,o⟩ Q
 conv=>enter [7];dsimp only
 conv=>enter [8];dsimp only
 refine have hM0:=hM0.mono Q;have hM1:=hM1.mono Q;have hxS:=hxS.mono Q;have hxT:=hxT.mono Q;have l:=l.mono Q;q' 2 O<|B9 14 [] []<|U' 2 O<|Z O O (A.f O)<|Z O O (J5 (k:=1) (vs:=[vS,vR,vT,vC]) isAgg58 sizeOf58 rfl rfl rfl rfl)<|Z O O (A.f O)<|Z O O (A.b 0 O O O)<|Z O O (A.f O)<|Z O O (A.b 0 O O O)<|Z O O (Ft call234 rfl (fun w_ b6=>A3M _ _ (RegT.mk LS LR LT (([]:List NName))) ⟨_,_,_,_,rfl,(b6.rowSl (k:=8) rfl hxS (show(LS).length≤C7 from by unfold C7;first|omega|exact EF _)),(b6.rowFSl (k:=9) rfl (show(LR).length≤C7 from by unfold C7;first|omega|exact EF _)),(b6.rowSl (k:=10) rfl hxT (show(LT).length≤C7 from by unfold C7;first|omega|exact EF _)),(b6.rowFSl (k:=11) rfl (show(([]:List NName)).length≤C7 from by unfold C7;first|omega|exact EF _))⟩ _ _))<|U' 5 O<|V' 4 O<|c' (X.eql O O) (fun i5=>?_) fun i5=>?_
 ·refine U 6 O<|g' l O fun p0 g4=>?_
  obtain⟨q1,q2,q3,q4,rfl,c1,c2,c3,c4⟩:=g4
  have m8:=c1.le
  have m9:=c2.le
  have n0:=c3.le
  have n1:=c4.le
  refine C5 (K5 [1,6] call162 O (S6 _ _ x ⟨_,_,_,_,rfl,c1,c2,c3,c4⟩ hM0)) (by decide) (fun p1 p2 u_ I i6=>?_)
  obtain⟨rfl,rfl⟩:=i6
  refine have hM0:=hM0.mono I;have hM1:=hM1.mono I;have hxS:=hxS.mono I;have hxT:=hxT.mono I;have l:=l.mono I;U 4 O<|WK.p [2,0,1,1,1,1,1] ?_
  refine E9 rfl (fun w' e1=>B3 (e1.weaken (.cons _ (.refl _))) ?_)
  exact⟨rfl,⟨fb,f0,f1,f2,f3,f4,f5,f6,f7,vS,xS,LS,vR,LR,vT,xT,LT,vC,ps,K⟩,rfl,rfl,⟨hM0,hM1,hxS,hxT,⟨(by first|omega|(simp only[F',N',P',I'];omega)),(by first|omega|(simp only[F',N',P',I'];omega)),(by first|omega|(simp only[F',N',P',I'];omega)),(by first|omega|(simp only[F',N',P',I'];omega)),hbd.2.2.2.2⟩,hts,hfi⟩⟩
 refine U 5 O ?_
 refine cu (G:=Mem×Nat×Value×Value×Value×Value) (fun(F,u,L,M,P,v)=>F) (fun(F,u,L,M,P,v)=>[blk u 76 [J ((I0 x).Clerk),J ((I0 x).Num),J s,J o,J x.Sheet.Paper.Pitch,J x.Sheet.Paper.Height,J x.Sheet.Paper.Radius,J x.Sheet.Paper.Low,J x.Sheet.Paper.High,J x.Sheet.Paper.Columns,J x.Sheet.Paper.Along.Lo,J x.Sheet.Paper.Along.Hi,J x.Sheet.Paper.Across.Lo,J x.Sheet.Paper.Across.Hi,L,M,P,v,J x.Sheet.Pen.Band,J x.Sheet.Pen.Zero.Lo,J x.Sheet.Pen.Zero.Hi,J x.Sheet.Pen.Rate,S0,S0],blk H 296 [.pointer none,J s,J o],blk fb 289 [.map (some f0),.map (some f1),.map (some f2),.map (some f3),.map (some f4),.map (some f5),.map (some f6),.map (some f7),vS,vR,vT,vC],mapE f2 NName Q7,mapE f3 NName (InPool ps K),mapE f4 NName (F9 Mark),mapE f5 NName (F9 NName),mapE f6 NName (F9 ReadT),mapE f7 NName Z2,row (vS) 76 24 (LS).length (xS),A5 (vR) 196 (LR),row (vT) 128 4 (LT).length (xT),A5 (vC) 73 (([]:List NName)),K7 73 2 ps]) (fun(F,u,L,M,P,v)=>[(0,Pt fb 0),(3,Pt d9 0),(7,Pt u 0)]) (fun(F,u,L,M,P,v)=>a3.le F∧Sl (α:=Point) F L x.Sheet.Trace∧Sl (α:=Int) F M x.Sheet.Blots∧Sl (α:=Span) F P x.Sheet.Drum.Rates∧Sl (α:=Stp) F v x.Sheet.Drum.Stops) ?_ ?_
 ·refine L4 (π:=sq [0,1,2,3,4,5,6,7] (.fork (sq [8,9,10,11] .done) (sq [10,8,9,11] .done))) [8,10,11] [11] O (by kernel_rfl)<|G' l O O O fun p3 g5=>?_
  obtain⟨q5,q6,q7,q8,rfl,c5,c6,c7,c8⟩:=g5
  refine have n2:=c5.le;have n3:=c6.le;have n4:=c7.le;have n5:=c8.le;Z O O (X.call call154 rfl (J8 _ _ x ⟨_,_,_,_,rfl,c5,c6,c7,c8⟩))<|Z O O (A.f O)<|Z O O (A.b 0 O O O)<|Z O O (A.f O)<|Z O O (A.b 0 O O O)<|Z O O (A.f O)<|G' (BX l) O O O fun p4 g6=>?_
  obtain⟨q9,r0,r1,r2,rfl,W,Y,a0,a1⟩:=g6
  have n6:=W.le
  have n7:=Y.le
  have n8:=a0.le
  have n9:=a1.le
  refine DW.fork (SW _ _) ?_ ?_
  ·refine W2 rfl rfl rfl (T.call call165 rfl (DZ _ _ x.Sheet ⟨_,_,_,_,rfl,W,Y,a0,a1⟩ ‹_›)) (by decide) fun i7 p5 t g7=>?_
   obtain⟨r3,rfl,h9⟩:=g7
   replace hM0:=hM0.mono t
   replace hM1:=hM1.mono t
   replace hxS:=hxS.mono t
   replace hxT:=hxT.mono t
   replace l:=l.mono t
   replace W:=W.mono t
   replace Y:=Y.mono t
   replace a0:=a0.mono t
   replace a1:=a1.mono t
   obtain⟨i0,i1,c9,d0,rfl,d1,d2,a5,hs103⟩:=h9
   refine have i9:=d1.le;have j0:=d2.le;have j1:=a5.le;have j2:=hs103.le;DW.x (V:=Value.agg [J ((I0 x).Clerk),J ((I0 x).Num),J s,J o,J x.Sheet.Paper.Pitch,J x.Sheet.Paper.Height,J x.Sheet.Paper.Radius,J x.Sheet.Paper.Low,J x.Sheet.Paper.High,J x.Sheet.Paper.Columns,J x.Sheet.Paper.Along.Lo,J x.Sheet.Paper.Along.Hi,J x.Sheet.Paper.Across.Lo,J x.Sheet.Paper.Across.Hi,i0,i1,c9,d0,J x.Sheet.Pen.Band,J x.Sheet.Pen.Zero.Lo,J x.Sheet.Pen.Zero.Hi,J x.Sheet.Pen.Rate,S0,S0].toArray) O O (X.build zeroValue76 runUnderlying76 (Rr _ underlying76) rfl (by kernel_rfl)) (by decide) ?_
   exact N3 O O O (T.alloc zeroValue76 rfl) (by decide) fun g8=>W' 0 O O O O O<|V' 1 O<|mt (i7,g8,i0,i1,c9,d0)<|⟨t,d1,d2,a5,hs103⟩
  refine N3 O O O (T.alloc zeroValue76 rfl) (by decide) fun g9=>W2 O O O (T.call call165 rfl (DZ _ _ x.Sheet ⟨_,_,_,_,rfl,W,Y,a0,a1⟩ ‹_›)) (by decide) fun h0 l0 w e2=>?_
  obtain⟨o0,rfl,f8⟩:=e2
  replace hM0:=hM0.mono w
  replace hM1:=hM1.mono w
  replace hxS:=hxS.mono w
  replace hxT:=hxT.mono w
  replace l:=l.mono w
  obtain⟨d3,d4,d5,d6,rfl,a6,a7,a8,a9⟩:=f8
  refine have j3:=a6.le;have j4:=a7.le;have j5:=a8.le;have j6:=a9.le;DW.x (V:=Value.agg [J ((I0 x).Clerk),J ((I0 x).Num),J s,J o,J x.Sheet.Paper.Pitch,J x.Sheet.Paper.Height,J x.Sheet.Paper.Radius,J x.Sheet.Paper.Low,J x.Sheet.Paper.High,J x.Sheet.Paper.Columns,J x.Sheet.Paper.Along.Lo,J x.Sheet.Paper.Along.Hi,J x.Sheet.Paper.Across.Lo,J x.Sheet.Paper.Across.Hi,d3,d4,d5,d6,J x.Sheet.Pen.Band,J x.Sheet.Pen.Zero.Lo,J x.Sheet.Pen.Zero.Hi,J x.Sheet.Pen.Rate,S0,S0].toArray) O O (X.build zeroValue76 runUnderlying76 (Rr _ underlying76) rfl (by kernel_rfl)) (by decide) ?_
  exact W' 0 O O O O O<|V' 1 O<|mt (h0,g9,d3,d4,d5,d6)<|⟨w,a6,a7,a8,a9⟩
 rintro⟨F,u,L,M,P,v⟩ ⟨E,z,B,C,D⟩
 show WK _ _ F [blk u 76 [J ((I0 x).Clerk),J ((I0 x).Num),J s,J o,J x.Sheet.Paper.Pitch,J x.Sheet.Paper.Height,J x.Sheet.Paper.Radius,J x.Sheet.Paper.Low,J x.Sheet.Paper.High,J x.Sheet.Paper.Columns,J x.Sheet.Paper.Along.Lo,J x.Sheet.Paper.Along.Hi,J x.Sheet.Paper.Across.Lo,J x.Sheet.Paper.Across.Hi,L,M,P,v,J x.Sheet.Pen.Band,J x.Sheet.Pen.Zero.Lo,J x.Sheet.Pen.Zero.Hi,J x.Sheet.Pen.Rate,S0,S0],blk H 296 [.pointer none,J s,J o],blk fb 289 [.map (some f0),.map (some f1),.map (some f2),.map (some f3),.map (some f4),.map (some f5),.map (some f6),.map (some f7),vS,vR,vT,vC],mapE f2 NName Q7,mapE f3 NName (InPool ps K),mapE f4 NName (F9 Mark),mapE f5 NName (F9 NName),mapE f6 NName (F9 ReadT),mapE f7 NName Z2,row (vS) 76 24 (LS).length (xS),A5 (vR) 196 (LR),row (vT) 128 4 (LT).length (xT),A5 (vC) 73 (([]:List NName)),K7 73 2 ps] [(0,Pt fb 0),(3,Pt d9 0),(7,Pt u 0)] _
 refine have hM0:=hM0.mono E;have hM1:=hM1.mono E;have hxS:=hxS.mono E;have hxT:=hxT.mono E;have l:=l.mono E;have j7:=z.le;have j8:=B.le;have j9:=C.le;have k0:=D.le;q' 2 O<|I5 Mark 98<|I5 NName 73<|L4 (π:=sq [0,1,2,3,4,5,8,6,7] .done) [6] [] O (by kernel_rfl)<|U' 2 O<|Z O O (A.f O)<|Z O O (A.b 4 O O O)<|G' l O O O fun l1 e3=>?_
 obtain⟨o1,o2,o3,o4,rfl,b0,b1,b2,b3⟩:=e3
 refine have k1:=b0.le;have k2:=b1.le;have k3:=b2.le;have k4:=b3.le;Z O O (X.call call154 rfl (J8 _ _ x ⟨_,_,_,_,rfl,b0,b1,b2,b3⟩))<|U' 1 O ?_
 refine BA rfl rfl rfl (V2 (k:=(I0 x)) runUnderlying283 G5 zeroValue56 rfl rfl (show A7 _ 6=_ from rfl) (.nil _ _)) (by decide) (fun l2 e4=>?_)
 obtain⟨i2,a2,d7,rfl,k8,f9⟩:=e4
 refine Z O O (Jz runUnderlying56 rfl (q:=a2) rfl)<|V' 2 O ?_
 refine lp (G:=Nat×Value×List Mark×Value×List NName) (fun(k,vM,Ms,vN,Ns)=>a2-k) (fun(k,vM,Ms,vN,Ns)=>F) (fun(k,vM,Ms,vN,Ns)=>[A5 (vN) 73 (Ns),A5 (vM) 98 (Ms),blk u 76 [J ((I0 x).Clerk),J ((I0 x).Num),J s,J o,J x.Sheet.Paper.Pitch,J x.Sheet.Paper.Height,J x.Sheet.Paper.Radius,J x.Sheet.Paper.Low,J x.Sheet.Paper.High,J x.Sheet.Paper.Columns,J x.Sheet.Paper.Along.Lo,J x.Sheet.Paper.Along.Hi,J x.Sheet.Paper.Across.Lo,J x.Sheet.Paper.Across.Hi,L,M,P,v,J x.Sheet.Pen.Band,J x.Sheet.Pen.Zero.Lo,J x.Sheet.Pen.Zero.Hi,J x.Sheet.Pen.Rate,vM,vN],blk H 296 [.pointer none,J s,J o],blk fb 289 [.map (some f0),.map (some f1),.map (some f2),.map (some f3),.map (some f4),.map (some f5),.map (some f6),.map (some f7),vS,vR,vT,vC],mapE f2 NName Q7,mapE f3 NName (InPool ps K),mapE f4 NName (F9 Mark),mapE f5 NName (F9 NName),mapE f6 NName (F9 ReadT),mapE f7 NName Z2,row (vS) 76 24 (LS).length (xS),A5 (vR) 196 (LR),row (vT) 128 4 (LT).length (xT),A5 (vC) 73 (([]:List NName)),K7 73 2 ps]) (fun(k,vM,Ms,vN,Ns)=>[(0,Pt fb 0),(7,Pt u 0),(50,.slice i2 a2 d7),(51,J a2),(52,J k)]) (fun(k,vM,Ms,vN,Ns)=>k≤a2∧Ms.length≤k∧Ns.length≤k) ((0,Value.slice none 0 0,[],(Value.slice none 0 0),[])) ?_ ?_
 ·exact⟨EF _,E' _,E' _⟩
 rintro⟨k,vM,Ms,vN,Ns⟩ g0
 obtain⟨r4,r5,r6⟩:=g0
 refine q' 2 O<|c' (X.lss O O) (fun h1=>?_) fun h1=>?_
 ·refine U 10 O ?_
  obtain⟨g_,rfl,k9,o5⟩:=f9.resolve_left (fun h_=>by have h1_:=h_.2.1;omega)
  refine WL.y (B4U (g:=g_) k runUnderlying56 sizeOf73 rfl rfl rfl (by omega)) ?_
  refine B5T (A3T (j:=15) (g:=g_) (c:=d7) (k:=k) isAgg73 sizeOf73 rfl rfl k9 (by omega)) (by decide) (fun l3 i8=>?_)
  obtain⟨b4,b5,rfl⟩:=i8
  refine n' zeroValue73 O fun l4=>w' 0 O O O<|U 3 O<|B9 12 [7,8,9,11] [9,11]<|Z O O (A.f O)<|Z O O (A.b 3 O O O)<|U' 2 O<|Z O O (A.f O)<|Z O O (A.b 5 O O O)<|Z O O (L9 0 O O O) ?_
  refine BA rfl rfl rfl (V2 (k:=((NName.mk (b4) (b5)))) runUnderlying284 G5 zeroValue98 rfl rfl (show A7 _ 8=_ from rfl) ⟨(Mark.mk 0 (Span.mk 0 0)),rfl⟩) (by decide) (fun l5 e5=>?_)
  obtain⟨d8,rfl⟩:=e5
  refine As rfl rfl rfl (G6 RK rfl rfl rfl (by decide)) (by decide) fun l6=>?_
  refine Ae rfl rfl rfl rfl (G1 (k:=2) (a:=d8) RK rfl rfl rfl rfl (by first|omega|(simp;done)|(simp;omega)) (by decide)) (by decide) (fun h2=>?_)
  refine Z O O (A.f O)<|B4 O O O O (T1 (k:=2) rfl trivial (D1 rfl rfl rfl) fun e6=>C1 (k:=3) sizeOf74 rfl rfl rfl e6 (J' rfl))<|V' 2 O<|f' O t'<|b' 3 O O O<|a' 0 O O<|R0 (G6 GB rfl rfl rfl (by decide)) (by decide) fun l7=>?_
  refine G2 (G1 (k:=1) (a:=(NName.mk (b4) (b5))) GB rfl rfl rfl rfl (by first|omega|(simp;done)|(simp;omega)) (by decide)) (by decide) (fun h3=>?_)
  refine WL.y (X.field runUnderlying76 rfl sizeOf56 rfl) ?_
  refine E8 (k:=1) rfl (fun e7=>?_)
  refine G7 (C1 (k:=3) sizeOf56 rfl rfl rfl e7 (J' rfl))<|U 8 O ?_
  refine nx ((k+1,h2,Ms++[d8],h3,Ns++[(NName.mk (b4) (b5))])) ?_ ?_
  ·exact⟨by omega,by simp only[F',N',P'];omega,by simp only[F',N',P'];omega⟩
  (dsimp only;omega)
 refine U 9 O ?_
 refine KD 1 [A5 (vN) 73 (Ns),A5 (vM) 98 (Ms),blk u 76 [J ((I0 x).Clerk),J ((I0 x).Num),J s,J o,J x.Sheet.Paper.Pitch,J x.Sheet.Paper.Height,J x.Sheet.Paper.Radius,J x.Sheet.Paper.Low,J x.Sheet.Paper.High,J x.Sheet.Paper.Columns,J x.Sheet.Paper.Along.Lo,J x.Sheet.Paper.Along.Hi,J x.Sheet.Paper.Across.Lo,J x.Sheet.Paper.Across.Hi,L,M,P,v,J x.Sheet.Pen.Band,J x.Sheet.Pen.Zero.Lo,J x.Sheet.Pen.Zero.Hi,J x.Sheet.Pen.Rate,vM,vN],blk H 296 [.pointer none,J s,J o]] [blk fb 289 [.map (some f0),.map (some f1),.map (some f2),.map (some f3),.map (some f4),.map (some f5),.map (some f6),.map (some f7),vS,vR,vT,vC],mapE f2 NName Q7,mapE f3 NName (InPool ps K),mapE f4 NName (F9 Mark),mapE f5 NName (F9 NName),mapE f6 NName (F9 ReadT),mapE f7 NName Z2,row (vS) 76 24 (LS).length (xS),A5 (vR) 196 (LR),row (vT) 128 4 (LT).length (xT),A5 (vC) 73 (([]:List NName)),K7 73 2 ps] rfl rfl rfl (by unfold C7;omega) (fun l8 r S=>?_)
 replace hM0:=hM0.mono r
 replace hM1:=hM1.mono r
 replace hxS:=hxS.mono r
 replace hxT:=hxT.mono r
 replace z:=z.mono r
 replace B:=B.mono r
 replace C:=C.mono r
 replace D:=D.mono r
 refine KD 0 [A5 (vN) 73 (Ns),blk u 76 [J ((I0 x).Clerk),J ((I0 x).Num),J s,J o,J x.Sheet.Paper.Pitch,J x.Sheet.Paper.Height,J x.Sheet.Paper.Radius,J x.Sheet.Paper.Low,J x.Sheet.Paper.High,J x.Sheet.Paper.Columns,J x.Sheet.Paper.Along.Lo,J x.Sheet.Paper.Along.Hi,J x.Sheet.Paper.Across.Lo,J x.Sheet.Paper.Across.Hi,L,M,P,v,J x.Sheet.Pen.Band,J x.Sheet.Pen.Zero.Lo,J x.Sheet.Pen.Zero.Hi,J x.Sheet.Pen.Rate,vM,vN],blk H 296 [.pointer none,J s,J o]] [blk fb 289 [.map (some f0),.map (some f1),.map (some f2),.map (some f3),.map (some f4),.map (some f5),.map (some f6),.map (some f7),vS,vR,vT,vC],mapE f2 NName Q7,mapE f3 NName (InPool ps K),mapE f4 NName (F9 Mark),mapE f5 NName (F9 NName),mapE f6 NName (F9 ReadT),mapE f7 NName Z2,row (vS) 76 24 (LS).length (xS),A5 (vR) 196 (LR),row (vT) 128 4 (LT).length (xT),A5 (vC) 73 (([]:List NName)),K7 73 2 ps] rfl rfl rfl (by unfold C7;omega) (fun l9 d a4=>?_)
 refine have hM0:=hM0.mono d;have hM1:=hM1.mono d;have hxS:=hxS.mono d;have hxT:=hxT.mono d;have z:=z.mono d;have B:=B.mono d;have C:=C.mono d;have D:=D.mono d;have S:=S.mono d;B9 13 [7,8,12] [8,12]<|U' 3 O<|Z O O (A.f O)<|Z O O (A.f O)<|Z O O (A.b 2 O O O)<|Z O O (L9 0 O O O)<|As O O O (G6 A2y rfl rfl rfl (by decide)) (by decide) fun m0=>?_
 refine Ae rfl rfl rfl rfl (Ax (k:=9) (n':=(LS++[(FiledT.mk (I0 x) (s) (o) (x.Sheet) (Ms) (Ns))]).length) A2y rfl rfl rfl rfl rfl (A4 rfl (A4 rfl (A4 rfl (A4 rfl (A4 rfl (A4 rfl (A4 rfl (A4 rfl (A4 rfl (A4 rfl (A4 rfl (A4 rfl (A4 rfl (A4 rfl (A4 z.one (A4 B.one (A4 C.one (A4 D.one (A4 rfl (A4 rfl (A4 rfl (A4 rfl (A4 S.one (A4 a4.one C6)))))))))))))))))))))))) (by simp) (by first|omega|(simp;omega)) (by first|omega|(simp;omega))) (by decide) (fun h4=>?_)
 refine have e9:=RdL.snoc (a:=(FiledT.mk (I0 x) (s) (o) (x.Sheet) (Ms) (Ns))) hxS ⟨_,_,_,_,_,_,rfl,z,B,C,D,S,a4⟩;U' 1 O<|Z O O (A.f O)<|Z O O (A.f O)<|B4 O O O O (T1 (k:=9) rfl trivial (D1 rfl rfl rfl) fun e8=>C1 (k:=2) sizeOf54 rfl rfl rfl e8 (J' rfl))<|V' 0 O ?_
 refine D0 rfl (fun w' e1=>B3 (e1.weaken (.cons _ (.cons _ (.refl _)))) ?_)
 exact⟨rfl,⟨fb,f0,f1,f2,f3,f4,f5,f6,f7,h4,xS++[J ((I0 x).Clerk),J ((I0 x).Num),J s,J o,J x.Sheet.Paper.Pitch,J x.Sheet.Paper.Height,J x.Sheet.Paper.Radius,J x.Sheet.Paper.Low,J x.Sheet.Paper.High,J x.Sheet.Paper.Columns,J x.Sheet.Paper.Along.Lo,J x.Sheet.Paper.Along.Hi,J x.Sheet.Paper.Across.Lo,J x.Sheet.Paper.Across.Hi,L,M,P,v,J x.Sheet.Pen.Band,J x.Sheet.Pen.Zero.Lo,J x.Sheet.Pen.Zero.Hi,J x.Sheet.Pen.Rate,vM,vN],LS++[(FiledT.mk (I0 x) (s) (o) (x.Sheet) (Ms) (Ns))],vR,LR,vT,xT,LT,vC,ps,K⟩,rfl,rfl,⟨hM0,hM1,e9,hxT,⟨(by first|omega|(simp only[F',N',P',I'];omega)),(by first|omega|(simp only[F',N',P',I'];omega)),(by first|omega|(simp only[F',N',P',I'];omega)),(by first|omega|(simp only[F',N',P',I'];omega)),hbd.2.2.2.2⟩,hts,(fun a ha=>by rcases Sa.1 ha with h_|h_;exact hfi a h_;obtain rfl:=Sp.1 h_;exact⟨hsb,(by(try dsimp only);omega),(by(try dsimp only);omega)⟩)⟩⟩
theorem Ku{G:Prop}(h:G:=by exact⟨rfl,⟨fb,f0,f1,f2,f3,f4,f5,f6,f7,vS,xS,LS,vR,LR,vT,xT,LT,vC,ps,K⟩,rfl,rfl,⟨hM0,hM1,hxS,hxT,⟨(by first|omega|(simp only[F',N',P',I'];omega)),(by first|omega|(simp only[F',N',P',I'];omega)),(by first|omega|(simp only[F',N',P',I'];omega)),(by first|omega|(simp only[F',N',P',I'];omega)),hbd.2.2.2.2⟩,hts,hfi⟩⟩):G:=h
theorem A8w(m:Mem)(cn:List Value)(x:NoteT)(hn_:Enc.rd m cn x){f0 f1 f2 f3 f4 f5 f6 f7:Nat}{vS vR vT vC:Value}{xS xT:List Value}{LS:List FiledT}{LR:List ReadT}{LT:List Station}{ps:List (Nat×Nat)}{K:Nat}(hM0:MapN m f0)(hM1:MapN m f1)(hxS:RdL m xS LS)(hxT:RdL m xT LT)(hbd:LS.length≤n∧LR.length≤n∧K≤n∧LT.length=N∧N≤1000)(hts:ES LT)(hfi:∀a∈LS,MP a)(hn:n≤5000)(hN:0<N):Mut prog 160 #[Pt fb 0,.agg cn.toArray] m [blk fb 289 [.map (some f0),.map (some f1),.map (some f2),.map (some f3),.map (some f4),.map (some f5),.map (some f6),.map (some f7),vS,vR,vT,vC],mapE f2 NName Q7,mapE f3 NName (InPool ps K),mapE f4 NName (F9 Mark),mapE f5 NName (F9 NName),mapE f6 NName (F9 ReadT),mapE f7 NName Z2,row (vS) 76 24 (LS).length (xS),A5 (vR) 196 (LR),row (vT) 128 4 (LT).length (xT),A5 (vC) 73 (([]:List NName)),K7 73 2 ps] (Qa fb (n+1) N):=by
 obtain⟨v1,v3,v5,v7,rfl,a3,a4,a5,a6⟩:=hn_
 refine have e8:=a3.le;have b8:=a4.le;have b9:=a5.le;have c0:=a6.le;G3 func160 O ntmps160 fun d3=>q' 2 O<|o' O O fun d4=>U 3 O<|fx (x:=x) 1 0 O O ⟨_,_,_,_,rfl,a3,a4,a5,a6⟩ fun d5 s c=>have hM0:=hM0.mono s;have hM1:=hM1.mono s;have hxS:=hxS.mono s;have hxT:=hxT.mono s;B9 13 [] []<|U' 2 O<|Z O O (A.f O)<|Z O O (A.f O)<|Z O O (A.b 0 O O O)<|Z O O (A.f O)<|Z O O (A.i O (U9 c))<|Z O O (Ft call42 rfl (fun w_ b1=>El _ _ _ (b1.rowSl (k:=9) rfl hxT (show(LT).length≤C7 from by unfold C7;first|omega|exact EF _)) _))<|U' 5 O<|V' 2 O ?_
 have c1:=B1P (l:=LT) (id:=x.Station) (by omega)
 obtain⟨z,b5⟩:∃qq__:Nat,((Cl LT x.Station).1:Int)=(qq__:Int):=⟨((Cl LT x.Station).1:Int).toNat,(by omega)⟩
 rw[b5]
 refine L4 (π:=sq [0,1,2,3,4,5,6,7,8,9] (.fork (sq [10,11,12,13,14,15,16] .done) (sq [14,10,11,12,13,15,16] .done))) [10,14,15] [15] O (by kernel_rfl)<|U' 2 O<|Z O O (A.f O)<|Z O O (A.f O)<|Z O O (A.b 0 O O O)<|U' 1 O<|Z O O (A9 9 z)<|J0 O O (Ry (k:=9) (i:=z) isAgg128 sizeOf128 rfl rfl rfl hxT (by omega)) (by decide) fun d6 M=>?_
 obtain⟨e9,rfl,r⟩:=M
 refine have c2:=r.le;Z O O (A.f O)<|G' (CD c) O O O fun d7 P=>?_
 obtain rfl:=P
 refine DW.fork (SW _ _) ?_ ?_
 ·refine W2 rfl rfl rfl (T.call call235 rfl (A1x _ _ (gt LT z) ⟨_,rfl,r⟩ _ x.Height rfl)) (by decide) fun d8 d9 g Q=>?_
  obtain⟨f8,w,f9,rfl,a7,a8⟩:=Q
  replace hM0:=hM0.mono g
  replace hM1:=hM1.mono g
  replace hxS:=hxS.mono g
  replace hxT:=hxT.mono g
  replace c:=c.mono g
  replace r:=r.mono g
  obtain⟨b6,rfl,t⟩:=a7
  refine have c3:=t.le;U' 3 O<|N3 O O O (T.alloc zeroValue128 rfl) (by decide) fun e0=>W' 0 O O O O O<|U' 1 O<|V' 5 O<|e' (X.neq O O) (fun b2=>?_) fun b2=>?_
  ·refine U 6 O<|g' c O fun e1 R=>?_
   obtain⟨g0,g1,g2,g3,rfl,B,C,D,E⟩:=R
   have c4:=B.le
   have c5:=C.le
   have c6:=D.le
   have c7:=E.le
   refine C5 (K5 [1,6] call162 O (S6 _ _ x ⟨_,_,_,_,rfl,B,C,D,E⟩ hM0)) (by decide) (fun e2 b3 u_ d L=>?_)
   obtain⟨rfl,rfl⟩:=L
   refine have hM0:=hM0.mono d;have hM1:=hM1.mono d;have hxS:=hxS.mono d;have hxT:=hxT.mono d;have c:=c.mono d;have r:=r.mono d;have t:=t.mono d;U 4 O<|WK.p [2,0,1,1,1,1,1] ?_
   refine E9 rfl (fun w' v=>B3 (v.weaken (.cons _ (.refl _))) ?_)
   exact Ku
  refine U 5 O<|B9 9 [8] [8]<|U' 2 O<|Z O O (A.f O)<|Z O O (A.f O)<|Z O O (A.b 1 O O O)<|U' 1 O<|Z O O (L9 0 O O O)<|Z O O (A9 10 z) ?_
  refine A5D rfl rfl rfl rfl (PU (k:=10) (i:=z) (us:=[J w.ID,J w.X,J w.Y,b6]) (a:=w) sizeOf128 rfl rfl rfl rfl (O' _) rfl (by first|omega|(simp;omega)|simp) hxT ⟨_,rfl,t⟩ (A4 rfl (A4 rfl (A4 rfl (A4 t.one C6))))) (fun S V=>?_)
  refine V' 0 O ?_
  refine D0 rfl (fun w' v=>B3 (v.weaken (.cons _ (.refl _))) ?_)
  exact⟨rfl,⟨fb,f0,f1,f2,f3,f4,f5,f6,f7,vS,xS,LS,vR,LR,vT,S,LT.set z w,vC,ps,K⟩,rfl,rfl,⟨hM0,hM1,hxS,V,⟨(by first|omega|(simp only[F',N',P',I'];omega)),(by first|omega|(simp only[F',N',P',I'];omega)),(by first|omega|(simp only[F',N',P',I'];omega)),(by first|omega|(simp only[F',N',P',I'];omega)),hbd.2.2.2.2⟩,(RV hts a8),hfi⟩⟩
 refine N3 O O O (T.alloc zeroValue128 rfl) (by decide) fun e3=>W2 O O O (T.call call235 rfl (A1x _ _ (gt LT z) ⟨_,rfl,r⟩ _ x.Height rfl)) (by decide) fun e4 e5 o W=>?_
 obtain⟨g4,y,g5,rfl,a9,b0⟩:=W
 replace hM0:=hM0.mono o
 replace hM1:=hM1.mono o
 replace hxS:=hxS.mono o
 replace hxT:=hxT.mono o
 replace c:=c.mono o
 obtain⟨b7,rfl,u⟩:=a9
 refine have c8:=u.le;U' 3 O<|W' 0 O O O O O<|U' 1 O<|V' 5 O<|e' (X.neq O O) (fun b4=>?_) fun b4=>?_
 ·refine U 6 O<|g' c O fun e6 a0=>?_
  obtain⟨g6,g7,g8,g9,rfl,F,G,H,I⟩:=a0
  have c9:=F.le
  have d0:=G.le
  have d1:=H.le
  have d2:=I.le
  refine C5 (K5 [1,6] call162 O (S6 _ _ x ⟨_,_,_,_,rfl,F,G,H,I⟩ hM0)) (by decide) (fun e7 b3 u_ q L=>?_)
  obtain⟨rfl,rfl⟩:=L
  refine have hM0:=hM0.mono q;have hM1:=hM1.mono q;have hxS:=hxS.mono q;have hxT:=hxT.mono q;have u:=u.mono q;U 4 O<|WK.p [2,0,1,1,1,1,1] ?_
  refine E9 rfl (fun w' v=>B3 (v.weaken (.cons _ (.refl _))) ?_)
  exact Ku
 refine U 5 O<|B9 9 [8] [8]<|U' 2 O<|Z O O (A.f O)<|Z O O (A.f O)<|Z O O (A.b 1 O O O)<|U' 1 O<|Z O O (L9 0 O O O)<|Z O O (A9 10 z) ?_
 refine A5D rfl rfl rfl rfl (PU (k:=10) (i:=z) (us:=[J y.ID,J y.X,J y.Y,b7]) (a:=y) sizeOf128 rfl rfl rfl rfl (O' _) rfl (by first|omega|(simp;omega)|simp) hxT ⟨_,rfl,u⟩ (A4 rfl (A4 rfl (A4 rfl (A4 u.one C6))))) (fun a1 a2=>?_)
 refine V' 0 O ?_
 refine D0 rfl (fun w' v=>B3 (v.weaken (.cons _ (.refl _))) ?_)
 exact⟨rfl,⟨fb,f0,f1,f2,f3,f4,f5,f6,f7,vS,xS,LS,vR,LR,vT,a1,LT.set z y,vC,ps,K⟩,rfl,rfl,⟨hM0,hM1,hxS,a2,⟨(by first|omega|(simp only[F',N',P',I'];omega)),(by first|omega|(simp only[F',N',P',I'];omega)),(by first|omega|(simp only[F',N',P',I'];omega)),(by first|omega|(simp only[F',N',P',I'];omega)),hbd.2.2.2.2⟩,(RV hts b0),hfi⟩⟩
theorem B6i:KW (.func (.func 156) #[Pt fb 0] #[]) fb N (fun x=>True):=
 ⟨156,_,_,rfl,call156,fun m g n c x a b t d f=>by
  obtain⟨_,f0,f1,f2,f3,f4,f5,f6,f7,vS,xS,LS,vR,LR,vT,xT,LT,vC,ps,K⟩:=g
  obtain⟨k,l,o,p,q,r,s⟩:=d
  obtain rfl:=f
  exact B1c m c x b k l o p q r s a⟩
theorem B5Q:KW (.func (.func 157) #[Pt fb 0] #[]) fb N (fun x=>True):=
 ⟨157,_,_,rfl,call157,fun m g n c x a b t d f=>by
  obtain⟨_,f0,f1,f2,f3,f4,f5,f6,f7,vS,xS,LS,vR,LR,vT,xT,LT,vC,ps,K⟩:=g
  obtain⟨k,l,o,p,q,r,s⟩:=d
  obtain rfl:=f
  exact B1e m c x b k l o p q r s a⟩
theorem B6G:KW (.func (.func 158) #[Pt fb 0] #[]) fb N (fun x=>True):=
 ⟨158,_,_,rfl,call158,fun m g n c x a b t d f=>by
  obtain⟨_,f0,f1,f2,f3,f4,f5,f6,f7,vS,xS,LS,vR,LR,vT,xT,LT,vC,ps,K⟩:=g
  obtain⟨k,l,o,p,q,r,s⟩:=d
  obtain rfl:=f
  exact A2z m c x b k l o p q r s a⟩
theorem B6e:KW (.func (.func 159) #[Pt fb 0] #[]) fb N (fun x=>Po x.Sheet):=
 ⟨159,_,_,rfl,call159,fun m g n c x a b d f k=>by
  obtain⟨_,f0,f1,f2,f3,f4,f5,f6,f7,vS,xS,LS,vR,LR,vT,xT,LT,vC,ps,K⟩:=g
  obtain⟨l,o,p,q,r,s,t⟩:=f
  obtain rfl:=k
  exact A7K m c x b l o p q r s t a d⟩
theorem B6C:KW (.func (.func 160) #[Pt fb 0] #[]) fb N (fun x=>0<N):=
 ⟨160,_,_,rfl,call160,fun m g n c x a b d f k=>by
  obtain⟨_,f0,f1,f2,f3,f4,f5,f6,f7,vS,xS,LS,vR,LR,vT,xT,LT,vC,ps,K⟩:=g
  obtain⟨l,o,p,q,r,s,t⟩:=f
  obtain rfl:=k
  exact A8w m c x b l o p q r s t a d⟩
theorem B5Z:KW (.func (.func 161) #[] #[Pt fb 0]) fb N (fun x=>True):=
 ⟨161,_,_,rfl,call161,fun m g n c x a b t d f=>by
  obtain⟨_,f0,f1,f2,f3,f4,f5,f6,f7,vS,xS,LS,vR,LR,vT,xT,LT,vC,ps,K⟩:=g
  obtain⟨k,l,o,p,q,r,s⟩:=d
  obtain rfl:=f
  exact A9u m c x b k l o p q r s a⟩
theorem Fv(m:Mem){dv:Value}{Q:NoteT→Prop}(hd:KW dv fb N Q){pl:Addr}{l:List NoteT}(hpl:At m pl l){vk:Value}{kinds:List Int}(hk:Sl m vk kinds)(hn:l.length≤400){g:Fo}(hp:foP m g n N)(hb:g.b=fb)(hnn:n+400≤5000)
 (hQ:∀a,a∈l→(kinds.length=0∨∃i,i<kinds.length∧gt kinds i=a.Kind)→Q a):Mut prog 155 #[dv,vk,.pointer (some pl)] m (Pk g) (Qa fb (n+l.length) N):=by
 obtain⟨fn,bd,cap,rfl,hE,b0⟩:=hd
 refine G3 func155 O ntmps155 fun c5=>q' 2 O<|o' O O fun s=>U 4 O<|s' hpl O fun v2 P=>have c7:=P.le;U 1 O ?_
 refine C0 (T.call call153 rfl (KG _ P hk (by omega))) (by decide) (fun m5 _ R C=>?_)
 obtain⟨t,b2,rfl,c4,H⟩:=C
 refine have hp:=hp.mono R;U 3 O ?_
 refine IC (S:=Fo) (G:=Nat) (ps:=[9]) (n:=b2) (A:=Qy (fun a=>a∈l) kinds) rfl call231 H (fun M:Fo=>[blk s 297 [.func (.func fn) bd cap]]++Pk M) (fun i m_ M=>M.b=fb∧foP m_ M (n+i) N) (fun _ _ _ _=>False) g rfl ⟨hb,hp⟩ (fun _ _ _ _ a7 h_=>⟨h_.1,h_.2.mono a7⟩) (by simp) (fun m1 f h=>by obtain⟨c,x,rfl,_⟩:=h;rfl) (fun D f gh=>blk D 200 ((f.getD 0 undef).cells.toList)::(fun M:Fo=>[blk s 297 [.func (.func fn) bd cap]]++Pk M) gh) (fun D f=>(5,Pt D 0)::[(0,.func (.func fn) bd cap),(1,vk),(2,.pointer (some (pl))),(3,Pt s 0),(6,v2),(7,vk),(8,.func (.func 231) #[] t.toArray)]) ?_ ?_ ?_ ?_ ?_
 ·intro lo B1 o gh f KK a6 L r b4
  obtain⟨c_,d,I,K,u,v⟩:=L
  have F:f=[.agg c_.toArray]:=(by have:=Sd Array.toList I;simpa using this)
  subst F
  obtain⟨c8,c9,d0,d1,rfl,V,W,X,Y⟩:=K
  have b6:=V.le
  have b7:=W.le
  have b8:=X.le
  have b9:=Y.le
  refine qb ?_
  exact q' 1 O<|n' zeroValue200 O fun a8=>w' 0 O O O<|U 1 O<|I8 (.cons rfl (.cons rfl (.cons rfl (.cons rfl (.cons rfl (.cons rfl (.cons rfl (.cons rfl .nil)))))))) (b4 a8)
 ·intro lo B1 i o gh f D a6 hi r L k
  obtain⟨p,q⟩:=k
  obtain⟨c_,d,I,K,u,v⟩:=L
  have F:f=[.agg c_.toArray]:=(by have:=Sd Array.toList I;simpa using this)
  subst F
  obtain⟨a0,a1,a2,a3,rfl,w,y,z,B⟩:=K
  have c0:=w.le
  have c1:=y.le
  have c2:=z.le
  have c3:=B.le
  show WK _ _ o ([blk D 200 [J d.Clerk,J d.Num,J d.Clock,J d.Day,J d.Kind,J d.Station,J d.Week,J d.Sheet.Paper.Pitch,J d.Sheet.Paper.Height,J d.Sheet.Paper.Radius,J d.Sheet.Paper.Low,J d.Sheet.Paper.High,J d.Sheet.Paper.Columns,J d.Sheet.Paper.Along.Lo,J d.Sheet.Paper.Along.Hi,J d.Sheet.Paper.Across.Lo,J d.Sheet.Paper.Across.Hi,a0,a1,a2,a3,J d.Sheet.Pen.Band,J d.Sheet.Pen.Zero.Lo,J d.Sheet.Pen.Zero.Hi,J d.Sheet.Pen.Rate,J d.Mark.Column,J d.Mark.Ticks.Lo,J d.Mark.Ticks.Hi,J d.Read.Station,J d.Read.Week,J d.Read.Tick,J d.Read.Levels.Lo,J d.Read.Levels.Hi,J d.Height.Week,J d.Height.Metres.Lo,J d.Height.Metres.Hi,J d.Ref.Clerk,J d.Ref.Num],blk s 297 [.func (.func fn) bd cap]]++Pk gh) [(5,Pt D 0),(0,.func (.func fn) bd cap),(1,vk),(2,.pointer (some (pl))),(3,Pt s 0),(6,v2),(7,vk),(8,.func (.func 231) #[] t.toArray)] _
  refine qb ?_
  refine q' 2 O<|b' 1 O O O<|a' 0 O O ?_
  refine Il (CP (A:=[blk D 200 [J d.Clerk,J d.Num,J d.Clock,J d.Day,J d.Kind,J d.Station,J d.Week,J d.Sheet.Paper.Pitch,J d.Sheet.Paper.Height,J d.Sheet.Paper.Radius,J d.Sheet.Paper.Low,J d.Sheet.Paper.High,J d.Sheet.Paper.Columns,J d.Sheet.Paper.Along.Lo,J d.Sheet.Paper.Along.Hi,J d.Sheet.Paper.Across.Lo,J d.Sheet.Paper.Across.Hi,a0,a1,a2,a3,J d.Sheet.Pen.Band,J d.Sheet.Pen.Zero.Lo,J d.Sheet.Pen.Zero.Hi,J d.Sheet.Pen.Rate,J d.Mark.Column,J d.Mark.Ticks.Lo,J d.Mark.Ticks.Hi,J d.Read.Station,J d.Read.Week,J d.Read.Tick,J d.Read.Levels.Lo,J d.Read.Levels.Hi,J d.Height.Week,J d.Height.Metres.Lo,J d.Height.Metres.Hi,J d.Ref.Clerk,J d.Ref.Num],blk s 297 [.func (.func fn) bd cap]]) hE rfl rfl rfl (b0 _ gh (n+i) _ d (by omega) ⟨_,_,_,_,rfl,w,y,z,B⟩ (hQ _ u v) q p)) (by decide) (fun c6 Es37 _ E C=>?_)
  obtain⟨rfl,b3,rfl,a4,a5⟩:=C
  exact U 2 O<|P6 b3 E (.cons _ (.refl _)) ⟨a4,a5⟩
 ·intro i o gh r hi k
  obtain⟨p,q⟩:=k
  refine I8 (σ':=[(0,.func (.func fn) bd cap),(1,vk),(2,.pointer (some (pl))),(3,Pt s 0),(6,v2),(7,vk),(8,.func (.func 231) #[] t.toArray)]) (.cons rfl (.cons rfl (.cons rfl (.cons rfl (.cons rfl (.cons rfl (.cons rfl .nil))))))) ?_
  show WK _ _ o ([blk s 297 [.func (.func fn) bd cap]]++Pk gh) [(0,.func (.func fn) bd cap),(1,vk),(2,.pointer (some (pl))),(3,Pt s 0),(6,v2),(7,vk),(8,.func (.func 231) #[] t.toArray)] _
  refine P4 ?_
  refine D0 rfl (fun w' a9=>B3 (a9.weaken (.cons _ (.refl _))) ?_)
  exact⟨rfl,gh,rfl,p,q.up (by omega)⟩
 ·intro i m1 gh b5 hi k
  exact k.elim
 intro id i m1 gh b5 hi k
 exact k.elim
end Go.Proofs.S10
