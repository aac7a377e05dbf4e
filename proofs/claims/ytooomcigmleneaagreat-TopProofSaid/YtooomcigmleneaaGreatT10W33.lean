import Derived.Test.YtooomcigmleneaaGreatT10W31
set_option linter.all false
set_option maxHeartbeats 8000000
namespace Go.Proofs.S10
open Tryz Go Go.Kx Go.Proofs.T10
set_option maxRecDepth 20000
variable{G:Prop}
theorem RY(m:Mem)(cf:List Value)(f:FilingT)(hf:Enc.rd m cf f)(cb:List Value)(b:BaseT)(hb:Enc.rd m cb b)(hr_:RefOk m f.ref):Pure prog 355 #[.agg cf.toArray,.agg cb.toArray] m (fun m' v=>∃(q0:Bool),v= .bool q0):=by
 obtain rfl:=hf
 obtain⟨F,rfl,k⟩:=hb
 refine have y:=k.le;F6 func355 O ntmps355 fun t=>q' 2 O<|o' O O fun u=>o' O O fun C=>U 4 O<|fz (x:=b) 0 O O ⟨_,rfl,k⟩ fun D c n=>have hr_:=hr_.mono c;WK.drop (H':=[blk u 296 [f.ref.v,J f.station,J f.week]]) (.cons_cons _ (.refl _)) ?_
 obtain⟨z,q,l⟩:=hr_
 rw[show f.ref.v= .pointer z from q]
 refine q' 1 O<|g' n O fun E d=>?_
 obtain⟨A,rfl,a⟩:=d
 refine have s:=a.le;f' O t'<|b' 0 O O O<|f' O t'<|b' 0 O O O<|c' (X.call call356 rfl (IN _ _ b ⟨_,rfl,a⟩ _ _)) (fun o=>?_) fun o=>?_
 ·refine U 2 O<|f' O t'<|U 1 O<|b' 0 O O O<|U 1 O ?_
  refine J6 (A1l underlying294 rfl) (by decide) (fun p=>?_) (fun p=>?_)
  ·exact U 14 O<|A0 O O<|C2<|⟨_,rfl⟩
  refine U 3 O<|f' O t'<|U 1 O<|b' 0 O O O<|U 1 O ?_
  obtain⟨G,B,rfl,r⟩:=l ‹_›
  refine U 2 O<|g' r O fun w g=>?_
  obtain rfl:=g
  exact U 1 O<|y' (X.call call285 rfl (BN _ _ B rfl))<|U 7 O<|A0 O O<|C2<|⟨_,rfl⟩
 exact U 16 O<|A0 O O<|C2<|⟨_,rfl⟩
theorem A9L(m:Mem)(cs:List Value)(s:Sheet)(hs:Enc.rd m cs s):Pure prog 362 #[.agg cs.toArray] m (fun m' v=>∃(q0:Bool),v= .bool q0):=by
 obtain⟨v1,v3,v5,v7,rfl,z,A,B,C⟩:=hs
 refine have b6:=z.le;have S:=A.le;have V:=B.le;have W:=C.le;F6 func362 O ntmps362 fun a5=>q' 2 O<|o' O O fun E=>U 4 O<|fz (x:=s) 0 O O ⟨_,_,_,_,rfl,z,A,B,C⟩ fun a6 F a=>q' 1 O<|f' O t'<|s' (Bc a) O fun a7 c=>?_
 have Y:=c.le
 refine C0 (T.call call142 rfl (RP _ c)) (by decide) (fun a8 _ n G=>?_)
 obtain⟨b7,rfl⟩:=G
 refine have a:=a.mono n;U 11 O<|e' (X.neq O O) (fun H=>?_) fun H=>?_
 ·exact U 28 O<|A0 O O<|C2<|⟨_,rfl⟩
 refine U 2 O<|f' O t'<|U 1 O<|g' (U7 a) O fun a9 o=>?_
 obtain rfl:=o
 refine U 1 O<|y' (X.call call141 rfl (LB _ _ s.Paper rfl))<|U 1 O<|e' (X.neq O O) (fun I=>?_) fun I=>?_
 ·exact U 23 O<|A0 O O<|C2<|⟨_,rfl⟩
 refine U 3 O<|f' O t'<|U 1 O<|g' (S7 a) O fun b0 p=>?_
 obtain⟨b8,b9,rfl,g,l⟩:=p
 refine have a0:=g.le;have a1:=l.le;U 1 O<|y' (X.call call172 rfl (Im _ _ s.Drum ⟨_,_,rfl,g,l⟩))<|U 1 O<|e' (X.neq O O) (fun K=>?_) fun K=>?_
 ·exact U 17 O<|A0 O O<|C2<|⟨_,rfl⟩
 refine U 3 O<|f' O t'<|U 1 O<|g' (Q4 a) O fun b1 q=>?_
 obtain rfl:=q
 refine U 1 O<|y' (X.call call8 rfl (Mp _ _ s.Pen rfl))<|U 1 O<|e' (X.neq O O) (fun L=>?_) fun L=>?_
 ·exact U 11 O<|A0 O O<|C2<|⟨_,rfl⟩
 refine U 9 O<|f' O t'<|s' (Cg a) O fun M b=>have a2:=b.le;l' b O<|U 4 O ?_
 refine J4 (fun(k:Nat)=>s.Blots.length-k) (fun k=>[]) (fun k=>[(1,Pt E 0),(34,M),(35,J s.Blots.length),(36,J k)]) (fun k=>k≤s.Blots.length) 0 ?_ ?_
 ·exact EF _
 rintro k D
 refine have hk:=D;q' 2 O<|c' (X.lss O O) (fun N=>?_) fun N=>?_
 ·refine U 11 O<|x' k b O O fun b2 r=>i' r O<|U 7 O<|f' O t'<|have u:=An (U7 a);f' O t'<|i' u O<|y' (Mj rfl rfl)<|c' (X.call call83 rfl (U4 _ _ _ _)) (fun P=>?_) fun P=>?_
  ·refine U 5 O<|c' (X.gtr O O) (fun Q=>?_) fun Q=>?_
   ·refine U 5 O<|f' O t'<|U 1 O<|s' (Cg a) O fun b3 d=>have a3:=d.le;U 5 O<|Q9 (T9 (k-1) runUnderlying27 sizeOf3 rfl rfl d (by omega) (by omega)) (by decide) fun b4 t=>U 1 O<|i' t O<|U 1 O<|c' (X.leq O O) (fun R=>?_) fun R=>?_
    ·exact U 17 O<|A0 O O<|C2<|⟨_,rfl⟩
    exact U 14 O<|I6 (k+1)<|by omega
   exact U 24 O<|I6 (k+1)<|by omega
  exact U 29 O<|A0 O O<|C2<|⟨_,rfl⟩
 exact U 11 O<|f' O t'<|have w:=Av (S7 a);f' O t'<|s' w O fun b5 f=>have a4:=f.le;l' f O<|U 1 O<|f' O t'<|have y:=An (U7 a);f' O t'<|i' y O<|U 5 O<|A0 O O<|C2<|⟨_,rfl⟩
theorem A9z(m:Mem)(cc:List Value)(c:SheetCt)(hc:Enc.rd m cc c)(cb:List Value)(b:BaseT)(hb:Enc.rd m cb b)(hr_:RefOk m c.filing.ref):Pure prog 361 #[.agg cc.toArray,.agg cb.toArray] m (fun m' v=>∃(q0:Bool),v= .bool q0):=by
 obtain⟨v1,v3,v5,v7,rfl,k,l,n,o⟩:=hc
 have a4:=k.le
 have F:=l.le
 have G:=n.le
 have H:=o.le
 obtain⟨a5,rfl,p⟩:=hb
 refine have I:=p.le;F6 func361 O ntmps361 fun P=>q' 2 O<|o' O O fun Q=>o' O O fun R=>U 4 O<|fz (x:=b) 0 O O ⟨_,rfl,p⟩ fun S a f=>have k:=k.mono a;have l:=l.mono a;have n:=n.mono a;have o:=o.mono a;have hr_:=hr_.mono a;fz (x:=c) 0 O O ⟨_,_,_,_,rfl,k,l,n,o⟩ fun V g d=>have hr_:=hr_.mono g;have f:=f.mono g;q' 1 O<|f' O t'<|g' (RE d) O fun W y=>?_
 obtain rfl:=y
 refine Q9 (De isAgg51 sizeOf51 rfl f) (by decide) (fun X z=>?_)
 obtain⟨a6,rfl,q⟩:=z
 refine have J:=q.le;C0 (T.call call355 rfl (RY _ _ c.filing rfl _ b ⟨_,rfl,q⟩ hr_)) (by decide) fun Y a0 w A=>?_
 obtain⟨E,rfl⟩:=A
 replace d:=d.mono w
 cases E
 ·exact U 9 O<|A0 O O<|C2<|⟨_,rfl⟩
 refine U 2 O<|f' O t'<|U 1 O<|g' (A0g d) O fun a1 B=>?_
 obtain⟨a7,a8,a9,b0,rfl,r,s,t,u⟩:=B
 refine have K:=r.le;have L:=s.le;have M:=t.le;have N:=u.le;U 1 O<|C0 (T.call call362 rfl (A9L _ _ c.Sheet ⟨_,_,_,_,rfl,r,s,t,u⟩)) (by decide) fun a2 a3 D C=>?_
 obtain⟨b1,rfl⟩:=C
 exact U 5 O<|A0 O O<|C2<|⟨_,rfl⟩
theorem B0b(m:Mem)(cc:List Value)(c:MarkCt)(hc:Enc.rd m cc c)(cb:List Value)(b:BaseT)(hb:Enc.rd m cb b):Pure prog 363 #[.agg cc.toArray,.agg cb.toArray] m (fun m' v=>∃(q0:Bool),v= .bool q0):=by
 obtain rfl:=hc
 obtain⟨u,rfl,k⟩:=hb
 refine have q:=k.le;F6 func363 O ntmps363 fun n=>q' 2 O<|o' O O fun r=>o' O O fun s=>U 4 O<|fz (x:=c) 1 O O O fun t l a=>q' 1 O<|f' O t'<|g' (A0Z a) O fun o d=>?_
 obtain rfl:=d
 refine c' (X.call call285 rfl (BN _ _ c.ref rfl)) (fun g=>?_) fun g=>?_
 ·refine U 2 O<|f' O t'<|U 1 O<|g' (A0W a) O fun p f=>?_
  obtain rfl:=f
  exact U 1 O<|y' (X.call call364 rfl (RS _ _ c.Mark rfl))<|U 5 O<|A0 O O<|C2<|⟨_,rfl⟩
 exact U 9 O<|A0 O O<|C2<|⟨_,rfl⟩
theorem A8z(m:Mem)(cc:List Value)(c:ReadCt)(hc:Enc.rd m cc c)(cb:List Value)(b:BaseT)(hb:Enc.rd m cb b)(hr_:RefOk m c.ref):Pure prog 366 #[.agg cc.toArray,.agg cb.toArray] m (fun m' v=>∃(q0:Bool),v= .bool q0):=by
 obtain rfl:=hc
 obtain⟨M,rfl,p⟩:=hb
 refine have E:=p.le;F6 func366 O ntmps366 fun y=>q' 2 O<|o' O O fun z=>o' O O fun K=>U 4 O<|fz (x:=b) 0 O O ⟨_,rfl,p⟩ fun L f g=>have hr_:=hr_.mono f;WK.drop (H':=[blk z 452 [c.ref.v,J c.Read.Station,J c.Read.Week,J c.Read.Tick,J c.Read.Levels.Lo,J c.Read.Levels.Hi]]) (.cons_cons _ (.refl _)) ?_
 obtain⟨F,s,q⟩:=hr_
 rw[show c.ref.v= .pointer F from s]
 refine q' 1 O<|f' O t'<|b' 0 O O O ?_
 refine J6 (A1l underlying294 rfl) (by decide) (fun A=>?_) (fun A=>?_)
 ·refine U 9 O<|g' g O fun B l=>?_
  obtain⟨G,rfl,a⟩:=l
  exact have u:=a.le;U 1 O<|f' O t'<|U 1 O<|y' (J5 (k:=0) (vs:=[J c.Read.Station,J c.Read.Week,J c.Read.Tick,J c.Read.Levels.Lo,J c.Read.Levels.Hi]) isAgg196 sizeOf196 rfl rfl rfl rfl)<|U 1 O<|y' (X.call call367 rfl (Jp _ _ b ⟨_,rfl,a⟩ _ c.Read rfl))<|U 5 O<|A0 O O<|C2<|⟨_,rfl⟩
 refine U 2 O<|f' O t'<|U 1 O<|b' 0 O O O<|U 1 O ?_
 obtain⟨N,H,rfl,t⟩:=q ‹_›
 refine U 2 O<|g' t O fun C n=>?_
 obtain rfl:=n
 refine U 1 O<|c' (X.call call285 rfl (BN _ _ H rfl)) (fun r=>?_) fun r=>?_
 ·refine U 3 O<|g' g O fun D o=>?_
  obtain⟨I,rfl,d⟩:=o
  exact have w:=d.le;U 1 O<|f' O t'<|U 1 O<|y' (J5 (k:=0) (vs:=[J c.Read.Station,J c.Read.Week,J c.Read.Tick,J c.Read.Levels.Lo,J c.Read.Levels.Hi]) isAgg196 sizeOf196 rfl rfl rfl rfl)<|U 1 O<|y' (X.call call367 rfl (Jp _ _ b ⟨_,rfl,d⟩ _ c.Read rfl))<|U 5 O<|A0 O O<|C2<|⟨_,rfl⟩
 exact U 11 O<|A0 O O<|C2<|⟨_,rfl⟩
theorem A8j(m:Mem)(cc:List Value)(c:HeightCt)(hc:Enc.rd m cc c)(cb:List Value)(b:BaseT)(hb:Enc.rd m cb b):Pure prog 368 #[.agg cc.toArray,.agg cb.toArray] m (fun m' v=>∃(q0:Bool),v= .bool q0∧(q0=true→0<b.Stations.length)):=by
 obtain rfl:=hc
 obtain⟨F,rfl,p⟩:=hb
 refine have z:=p.le;F6 func368 O ntmps368 fun u=>q' 2 O<|o' O O fun B=>o' O O fun C=>U 4 O<|fz (x:=b) 0 O O ⟨_,rfl,p⟩ fun D s f=>fz (x:=c) 0 O O O fun E g a=>have f:=f.mono g;q' 1 O<|g' f O fun w k=>?_
 obtain⟨A,rfl,d⟩:=k
 refine have t:=d.le;f' O t'<|i' (Qk a) O<|f' O t'<|have n:=En (Iy a);f' O t'<|i' n O<|c' (X.call call356 rfl (IN _ _ b ⟨_,rfl,d⟩ _ _)) (fun q=>?_) fun q=>?_
 ·refine U 2 O<|f' O t'<|U 1 O<|have o:=A1a (Iy a);f' O t'<|U 1 O<|g' o O fun y l=>?_
  obtain rfl:=l
  exact U 1 O<|y' (X.call call365 rfl (NL _ _ c.Height.Metres rfl _ _))<|U 5 O<|A0 O O<|C2<|⟨_,rfl,fun r=>by first|(cases r;done)|exact A2k ‹_›⟩
 exact U 10 O<|A0 O O<|C2<|⟨_,rfl,fun r=>by first|(cases r;done)|exact A2k ‹_›⟩
theorem A8G(m:Mem)(cc:List Value)(c:WithCt)(hc:Enc.rd m cc c)(cb:List Value)(b:BaseT)(hb:Enc.rd m cb b):Pure prog 369 #[.agg cc.toArray,.agg cb.toArray] m (fun m' v=>∃(q0:Bool),v= .bool q0):=by
 obtain rfl:=hc
 obtain⟨r,rfl,f⟩:=hb
 refine have n:=f.le;F6 func369 O ntmps369 fun k=>q' 2 O<|o' O O fun o=>o' O O fun p=>U 4 O<|fz (x:=c) 1 O O O fun q g d=>q' 1 O<|f' O t'<|g' (A0N d) O fun l a=>?_
 obtain rfl:=a
 exact y' (X.call call285 rfl (BN _ _ c.ref rfl))<|U 4 O<|A0 O O<|C2<|⟨_,rfl⟩
theorem MD(h:G:=by exact⟨_,_,((NoteT.mk (n.Clerk) (n.Num) (n.Clock) (n.Day) (n.Kind) (0) (0) ((Sheet.mk ((Paper.mk (0) (0) (0) (0) (0) (0) ((Span.mk (0) (0))) ((Span.mk (0) (0))))) ([]) ([]) ((Drum.mk ([]) ([]))) ((Pen.mk (0) ((Span.mk (0) (0))) (0))))) (n.Mark) ((ReadT.mk (0) (0) (0) ((Span.mk (0) (0))))) ((Height.mk (0) ((Span.mk (0) (0))))) (n.Ref))),rfl,(.inr (.inl ⟨by omega,.inr (.inl ⟨_,((MarkCt.mk (n.Ref) (n.Mark))),rfl,rfl⟩)⟩)),⟨_,_,_,_,rfl,.nil,.nil,.nil,.nil⟩⟩):G:=h
theorem B3a(m:Mem)(cn:List Value)(n:NoteT)(hn:Enc.rd m cn n):Pure prog 283 #[.agg cn.toArray] m (fun m' v=>∃(r0:Value) (r1:List Value) (x1:NoteT),v= .tuple #[r0,.agg r1.toArray]∧OkC m' r0 n.Kind∧Enc.rd m' r1 x1):=by
 obtain⟨v1,v3,v5,v7,rfl,a7,a8,a9,b0⟩:=hn
 refine have g0:=a7.le;have d4:=a8.le;have d5:=a9.le;have d6:=b0.le;F6 func283 O ntmps283 fun e5=>q' 2 O<|o' O O fun o=>U 1 O<|n' zeroValue200 O fun e6=>U 3 O<|fz (x:=n) 1 O O ⟨_,_,_,_,rfl,a7,a8,a9,b0⟩ fun e7 b1 a=>q' 1 O<|f' O t'<|i' (A2Z a) O<|f' O t'<|i' (A3Q a) O<|f' O t'<|i' (Ca a) O<|f' O t'<|i' (BY a) O<|f' O t'<|i' (Dq a) O<|WL.x (V:=Value.agg [J n.Clerk,J n.Num,J n.Clock,J n.Day,J n.Kind,J 0,J 0,J 0,J 0,J 0,J 0,J 0,J 0,J 0,J 0,J 0,J 0,S0,S0,S0,S0,J 0,J 0,J 0,J 0,J 0,J 0,J 0,J 0,J 0,J 0,J 0,J 0,J 0,J 0,J 0,J 0,J 0].toArray) (X.build zeroValue200 runUnderlying200 (A5j _ underlying200) rfl rfl) (by decide) ?_
 refine n' zeroValue200 O fun e8=>w' 0 O O O<|U 5 O<|f' O t'<|i' (Dq a) O<|U 5 O<|c' (X.eql O O) (fun b2=>?_) fun b2=>?_
 ·refine U 5 O<|B9 12 [7,9,11] [7,9,11,100002,100003,100004,100005]<|Z O O (A.f O)<|Z O O (A.i O (U9 a))<|have a0:=Bh a;J2 O O O (fun _ _ b=>(X.field runUnderlying200 rfl sizeOf3 rfl)) (by decide)<|J2 O O O (fun _ _ b=>(Ew isAgg3 rfl (a0.mono b))) (by decide)<|have a1:=BX a;J2 O O O (fun _ _ b=>(X.field runUnderlying200 rfl sizeOf35 rfl)) (by decide) ?_
  refine GS rfl rfl rfl (Cb isAgg35 sizeOf35 rfl a1) (by decide) (fun e9 H=>?_)
  obtain⟨b8,b9,c0,c1,rfl,c,d,g,l⟩:=H
  refine have d7:=c.le;have d8:=d.le;have d9:=g.le;have e0:=l.le;Z O O (A.f O)<|B4 O O O O (C1 (k:=0) sizeOf3 rfl rfl rfl rfl (J' rfl))<|Z O O (A.f O)<|B4 O O O O (C1 (k:=0) sizeOf3 rfl rfl rfl rfl (J' rfl))<|Z O O (A.f O)<|B4 O O O O (T3 (k:=0) [J n.Clerk,J n.Num,J n.Clock,J n.Day,J n.Kind,J n.Station,J n.Week,J n.Sheet.Paper.Pitch,J n.Sheet.Paper.Height,J n.Sheet.Paper.Radius,J n.Sheet.Paper.Low,J n.Sheet.Paper.High,J n.Sheet.Paper.Columns,J n.Sheet.Paper.Along.Lo,J n.Sheet.Paper.Along.Hi,J n.Sheet.Paper.Across.Lo,J n.Sheet.Paper.Across.Hi,b8,b9,c0,c1,J n.Sheet.Pen.Band,J n.Sheet.Pen.Zero.Lo,J n.Sheet.Pen.Zero.Hi,J n.Sheet.Pen.Rate,J 0,J 0,J 0,J 0,J 0,J 0,J 0,J 0,J 0,J 0,J 0,J 0,J 0] sizeOf35 rfl rfl rfl (A4 rfl (A4 rfl (A4 rfl (A4 rfl (A4 rfl (A4 rfl (A4 rfl (A4 rfl (A4 rfl (A4 rfl (A4 c.one (A4 d.one (A4 g.one (A4 l.one (A4 rfl (A4 rfl (A4 rfl (A4 rfl C6)))))))))))))))))) rfl rfl rfl)<|V' 2 O<|B9 12 [11] [11]<|Z O O (A.f O)<|Z O O (A.i O (U9 a))<|Z O O (A.f O)<|Z O O (A.i O (Bh a))<|DW.x (V:=Value.agg [.pointer none,J n.Station,J n.Week].toArray) O O (X.build zeroValue296 runUnderlying296 (Gj _ underlying296) rfl rfl) (by decide) ?_
  refine Z O O (A.f O)<|G' (BX a) O O O fun f0 I=>?_
  obtain⟨c2,c3,c4,c5,rfl,p,q,r,s⟩:=I
  refine have e1:=p.le;have e2:=q.le;have e3:=r.le;have e4:=s.le;DW.x (V:=Value.agg [.pointer none,J n.Station,J n.Week,J n.Sheet.Paper.Pitch,J n.Sheet.Paper.Height,J n.Sheet.Paper.Radius,J n.Sheet.Paper.Low,J n.Sheet.Paper.High,J n.Sheet.Paper.Columns,J n.Sheet.Paper.Along.Lo,J n.Sheet.Paper.Along.Hi,J n.Sheet.Paper.Across.Lo,J n.Sheet.Paper.Across.Hi,c2,c3,c4,c5,J n.Sheet.Pen.Band,J n.Sheet.Pen.Zero.Lo,J n.Sheet.Pen.Zero.Hi,J n.Sheet.Pen.Rate].toArray) O O (X.build zeroValue448 runUnderlying448 (A6V _ underlying448) rfl (by kernel_rfl)) (by decide) ?_
  exact Z O O (S3 runUnderlying448 rfl)<|Z O O (L9 0 O O O)<|U' 1 O<|W' 1 O O O O O<|V' 4 O<|AC 1 O O O O isAgg200 sizeOf200<|C2<|⟨_,_,((NoteT.mk (n.Clerk) (n.Num) (n.Clock) (n.Day) (n.Kind) (n.Station) (n.Week) (n.Sheet) ((Mark.mk (0) ((Span.mk (0) (0))))) ((ReadT.mk (0) (0) (0) ((Span.mk (0) (0))))) ((Height.mk (0) ((Span.mk (0) (0))))) ((NName.mk (0) (0))))),rfl,(.inr (.inl ⟨by omega,.inl ⟨_,((SheetCt.mk ((FilingT.mk ((RawV.mk (.pointer none) rfl)) (n.Station) (n.Week))) (n.Sheet))),rfl,⟨_,_,_,_,rfl,p,q,r,s⟩,.no⟩⟩)),⟨_,_,_,_,rfl,c,d,g,l⟩⟩
 refine U 6 O<|c' (X.eql O O) (fun b3=>?_) fun b3=>?_
 ·refine U 5 O<|B9 8 [5,7] [5,7,100002,100003]<|Z O O (A.f O)<|G' (F1 a) O O O fun f1 K=>?_
  obtain rfl:=K
  refine have a2:=Q1 a;J2 O O O (fun _ _ b=>(X.field runUnderlying200 rfl sizeOf98 rfl)) (by decide) ?_
  refine GS rfl rfl rfl (Cb isAgg98 sizeOf98 rfl a2) (by decide) (fun f2 L=>?_)
  obtain rfl:=L
  refine Z O O (A.f O)<|B4 O O O O (T3 (k:=0) [J n.Clerk,J n.Num,J n.Clock,J n.Day,J n.Kind,J 0,J 0,J 0,J 0,J 0,J 0,J 0,J 0,J 0,J 0,J 0,J 0,S0,S0,S0,S0,J 0,J 0,J 0,J 0,J 0,J 0,J 0,J 0,J 0,J 0,J 0,J 0,J 0,J 0,J 0,J n.Ref.Clerk,J n.Ref.Num] sizeOf73 rfl rfl rfl (A4 rfl (A4 rfl C6)) rfl rfl rfl)<|Z O O (A.f O)<|B4 O O O O (T3 (k:=0) [J n.Clerk,J n.Num,J n.Clock,J n.Day,J n.Kind,J 0,J 0,J 0,J 0,J 0,J 0,J 0,J 0,J 0,J 0,J 0,J 0,S0,S0,S0,S0,J 0,J 0,J 0,J 0,J n.Mark.Column,J n.Mark.Ticks.Lo,J n.Mark.Ticks.Hi,J 0,J 0,J 0,J 0,J 0,J 0,J 0,J 0,J n.Ref.Clerk,J n.Ref.Num] sizeOf98 rfl rfl rfl (A4 rfl (A4 rfl (A4 rfl C6))) rfl rfl rfl)<|V' 2 O<|B9 9 [8] [8]<|Z O O (A.f O)<|G' (F1 a) O O O fun f3 M=>?_
  obtain rfl:=M
  refine Z O O (A.f O)<|G' (Q1 a) O O O fun f4 N=>?_
  obtain rfl:=N
  refine DW.y (V:=Value.agg [J n.Ref.Clerk,J n.Ref.Num,J n.Mark.Column,J n.Mark.Ticks.Lo,J n.Mark.Ticks.Hi].toArray) rfl rfl (X.build zeroValue450 runUnderlying450 (Ps _ underlying450) rfl rfl) ?_
  exact Z O O (S3 runUnderlying450 rfl)<|Z O O (L9 0 O O O)<|U' 1 O<|W' 1 O O O O O<|V' 4 O<|AC 1 O O O O isAgg200 sizeOf200<|C2<|MD
 refine U 6 O<|c' (X.eql O O) (fun b4=>?_) fun b4=>?_
 ·refine U 6 O<|f' O t'<|g' (V1 a) O fun f5 P=>?_
  obtain rfl:=P
  refine f' O t'<|G7 (T3 (k:=0) [J n.Clerk,J n.Num,J n.Clock,J n.Day,J n.Kind,J 0,J 0,J 0,J 0,J 0,J 0,J 0,J 0,J 0,J 0,J 0,J 0,S0,S0,S0,S0,J 0,J 0,J 0,J 0,J 0,J 0,J 0,J n.Read.Station,J n.Read.Week,J n.Read.Tick,J n.Read.Levels.Lo,J n.Read.Levels.Hi,J 0,J 0,J 0,J 0,J 0] sizeOf196 rfl rfl rfl (A4 rfl (A4 rfl (A4 rfl (A4 rfl (A4 rfl C6))))) rfl rfl rfl)<|U 3 O<|B9 7 [6] [6]<|Z O O (A.f O)<|G' (V1 a) O O O fun f6 Q=>?_
  obtain rfl:=Q
  refine DW.y (V:=Value.agg [.pointer none,J n.Read.Station,J n.Read.Week,J n.Read.Tick,J n.Read.Levels.Lo,J n.Read.Levels.Hi].toArray) rfl rfl (X.build zeroValue452 runUnderlying452 (PL _ underlying452) rfl (by kernel_rfl)) ?_
  exact Z O O (S3 runUnderlying452 rfl)<|Z O O (L9 0 O O O)<|U' 1 O<|W' 1 O O O O O<|V' 4 O<|AC 1 O O O O isAgg200 sizeOf200<|C2<|⟨_,_,((NoteT.mk (n.Clerk) (n.Num) (n.Clock) (n.Day) (n.Kind) (0) (0) ((Sheet.mk ((Paper.mk (0) (0) (0) (0) (0) (0) ((Span.mk (0) (0))) ((Span.mk (0) (0))))) ([]) ([]) ((Drum.mk ([]) ([]))) ((Pen.mk (0) ((Span.mk (0) (0))) (0))))) ((Mark.mk (0) ((Span.mk (0) (0))))) (n.Read) ((Height.mk (0) ((Span.mk (0) (0))))) ((NName.mk (0) (0))))),rfl,(.inr (.inl ⟨by omega,.inr (.inr (.inl ⟨_,((ReadCt.mk ((RawV.mk (.pointer none) rfl)) (n.Read))),rfl,rfl,.no⟩))⟩)),⟨_,_,_,_,rfl,.nil,.nil,.nil,.nil⟩⟩
 refine U 6 O<|c' (X.eql O O) (fun b5=>?_) fun b5=>?_
 ·refine U 5 O<|B9 8 [5,7] [5,7,100002,100003]<|Z O O (A.f O)<|Z O O (A.i O (U9 a))<|have a3:=CD a;J2 O O O (fun _ _ b=>(X.field runUnderlying200 rfl sizeOf198 rfl)) (by decide) ?_
  refine GS rfl rfl rfl (Cb isAgg198 sizeOf198 rfl a3) (by decide) (fun f7 R=>?_)
  obtain rfl:=R
  refine Z O O (A.f O)<|B4 O O O O (C1 (k:=0) sizeOf3 rfl rfl rfl rfl (J' rfl))<|Z O O (A.f O)<|B4 O O O O (T3 (k:=0) [J n.Clerk,J n.Num,J n.Clock,J n.Day,J n.Kind,J n.Station,J 0,J 0,J 0,J 0,J 0,J 0,J 0,J 0,J 0,J 0,J 0,S0,S0,S0,S0,J 0,J 0,J 0,J 0,J 0,J 0,J 0,J 0,J 0,J 0,J 0,J 0,J n.Height.Week,J n.Height.Metres.Lo,J n.Height.Metres.Hi,J 0,J 0] sizeOf198 rfl rfl rfl (A4 rfl (A4 rfl (A4 rfl C6))) rfl rfl rfl)<|V' 2 O<|B9 9 [8] [8]<|Z O O (A.f O)<|Z O O (A.i O (U9 a))<|Z O O (A.f O)<|G' (CD a) O O O fun f8 S=>?_
  obtain rfl:=S
  refine DW.y (V:=Value.agg [J n.Station,J n.Height.Week,J n.Height.Metres.Lo,J n.Height.Metres.Hi].toArray) rfl rfl (X.build zeroValue454 runUnderlying454 (A5t _ underlying454) rfl rfl) ?_
  exact Z O O (S3 runUnderlying454 rfl)<|Z O O (L9 0 O O O)<|U' 1 O<|W' 1 O O O O O<|V' 4 O<|AC 1 O O O O isAgg200 sizeOf200<|C2<|⟨_,_,((NoteT.mk (n.Clerk) (n.Num) (n.Clock) (n.Day) (n.Kind) (n.Station) (0) ((Sheet.mk ((Paper.mk (0) (0) (0) (0) (0) (0) ((Span.mk (0) (0))) ((Span.mk (0) (0))))) ([]) ([]) ((Drum.mk ([]) ([]))) ((Pen.mk (0) ((Span.mk (0) (0))) (0))))) ((Mark.mk (0) ((Span.mk (0) (0))))) ((ReadT.mk (0) (0) (0) ((Span.mk (0) (0))))) (n.Height) ((NName.mk (0) (0))))),rfl,(.inr (.inr ⟨_,((HeightCt.mk (n.Station) (n.Height))),rfl,rfl⟩)),⟨_,_,_,_,rfl,.nil,.nil,.nil,.nil⟩⟩
 refine U 6 O<|c' (X.eql O O) (fun b6=>?_) fun b6=>?_
 ·refine U 5 O<|B9 12 [7,9,11] [7,9,11,100002,100003,100004,100005]<|Z O O (A.f O)<|G' (F1 a) O O O fun f9 T=>?_
  obtain rfl:=T
  refine have a4:=U9 a;J2 O O O (fun _ _ b=>(X.field runUnderlying200 rfl sizeOf3 rfl)) (by decide)<|J2 O O O (fun _ _ b=>(Ew isAgg3 rfl (a4.mono b))) (by decide)<|have a5:=Bh a;J2 O O O (fun _ _ b=>(X.field runUnderlying200 rfl sizeOf3 rfl)) (by decide)<|J2 O O O (fun _ _ b=>(Ew isAgg3 rfl (a5.mono b))) (by decide)<|Z O O (A.f O)<|B4 O O O O (T3 (k:=0) [J n.Clerk,J n.Num,J n.Clock,J n.Day,J n.Kind,J 0,J 0,J 0,J 0,J 0,J 0,J 0,J 0,J 0,J 0,J 0,J 0,S0,S0,S0,S0,J 0,J 0,J 0,J 0,J 0,J 0,J 0,J 0,J 0,J 0,J 0,J 0,J 0,J 0,J 0,J n.Ref.Clerk,J n.Ref.Num] sizeOf73 rfl rfl rfl (A4 rfl (A4 rfl C6)) rfl rfl rfl)<|Z O O (A.f O)<|B4 O O O O (C1 (k:=0) sizeOf3 rfl rfl rfl rfl (J' rfl))<|Z O O (A.f O)<|B4 O O O O (C1 (k:=0) sizeOf3 rfl rfl rfl rfl (J' rfl))<|V' 2 O<|B9 10 [9] [9]<|have a6:=F1 a;Z O O (A.f O)<|Z O O (A.f O)<|Z O O (A.i O (U9 a))<|Z O O (A.f O)<|Z O O (A.i O (Bh a))<|DW.x (V:=Value.agg [.pointer (some (((⟨o,0,none⟩:Addr)).add 36)),J n.Station,J n.Week].toArray) O O (X.build zeroValue296 runUnderlying296 (Gj _ underlying296) rfl rfl) (by decide) ?_
  exact Z O O (S3 runUnderlying296 rfl)<|Z O O (L9 0 O O O)<|U' 1 O<|W' 1 O O O O O<|V' 4 O<|AC 1 O O O O isAgg200 sizeOf200<|C2<|⟨_,_,((NoteT.mk (n.Clerk) (n.Num) (n.Clock) (n.Day) (n.Kind) (n.Station) (n.Week) ((Sheet.mk ((Paper.mk (0) (0) (0) (0) (0) (0) ((Span.mk (0) (0))) ((Span.mk (0) (0))))) ([]) ([]) ((Drum.mk ([]) ([]))) ((Pen.mk (0) ((Span.mk (0) (0))) (0))))) ((Mark.mk (0) ((Span.mk (0) (0))))) ((ReadT.mk (0) (0) (0) ((Span.mk (0) (0))))) ((Height.mk (0) ((Span.mk (0) (0))))) (n.Ref))),rfl,(.inr (.inl ⟨by omega,.inr (.inr (.inr (.inl ⟨_,((FilingT.mk ((RawV.mk (.pointer (some (((⟨o,0,none⟩:Addr)).add 36))) rfl)) (n.Station) (n.Week))),rfl,rfl,.yes a6⟩)))⟩)),⟨_,_,_,_,rfl,.nil,.nil,.nil,.nil⟩⟩
 refine U 6 O<|c' (X.eql O O) (fun b7=>?_) fun b7=>?_
 ·refine U 6 O<|f' O t'<|g' (F1 a) O fun c6 t=>?_
  obtain rfl:=t
  refine f' O t'<|G7 (T3 (k:=0) [J n.Clerk,J n.Num,J n.Clock,J n.Day,J n.Kind,J 0,J 0,J 0,J 0,J 0,J 0,J 0,J 0,J 0,J 0,J 0,J 0,S0,S0,S0,S0,J 0,J 0,J 0,J 0,J 0,J 0,J 0,J 0,J 0,J 0,J 0,J 0,J 0,J 0,J 0,J n.Ref.Clerk,J n.Ref.Num] sizeOf73 rfl rfl rfl (A4 rfl (A4 rfl C6)) rfl rfl rfl)<|U 5 O<|f' O t'<|have F:=DI (V1 a);f' O t'<|i' F O<|e' (X.neq O O) (fun W=>?_) fun W=>?_
  ·refine U 5 O<|f' O t'<|g' (V1 a) O fun c7 u=>?_
   obtain rfl:=u
   refine f' O t'<|G7 (T3 (k:=0) [J n.Clerk,J n.Num,J n.Clock,J n.Day,J n.Kind,J 0,J 0,J 0,J 0,J 0,J 0,J 0,J 0,J 0,J 0,J 0,J 0,S0,S0,S0,S0,J 0,J 0,J 0,J 0,J 0,J 0,J 0,J n.Read.Station,J n.Read.Week,J n.Read.Tick,J n.Read.Levels.Lo,J n.Read.Levels.Hi,J 0,J 0,J 0,J n.Ref.Clerk,J n.Ref.Num] sizeOf196 rfl rfl rfl (A4 rfl (A4 rfl (A4 rfl (A4 rfl (A4 rfl C6))))) rfl rfl rfl)<|U 3 O<|B9 8 [7] [7]<|have G:=F1 a;Z O O (A.f O)<|Z O O (A.f O)<|G' (V1 a) O O O fun c8 w=>?_
   obtain rfl:=w
   refine DW.y (V:=Value.agg [.pointer (some (((⟨o,0,none⟩:Addr)).add 36)),J n.Read.Station,J n.Read.Week,J n.Read.Tick,J n.Read.Levels.Lo,J n.Read.Levels.Hi].toArray) rfl rfl (X.build zeroValue452 runUnderlying452 (PL _ underlying452) rfl (by kernel_rfl)) ?_
   exact Z O O (S3 runUnderlying452 rfl)<|Z O O (L9 0 O O O)<|U' 1 O<|W' 1 O O O O O<|V' 5 O<|AC 1 O O O O isAgg200 sizeOf200<|C2<|⟨_,_,((NoteT.mk (n.Clerk) (n.Num) (n.Clock) (n.Day) (n.Kind) (0) (0) ((Sheet.mk ((Paper.mk (0) (0) (0) (0) (0) (0) ((Span.mk (0) (0))) ((Span.mk (0) (0))))) ([]) ([]) ((Drum.mk ([]) ([]))) ((Pen.mk (0) ((Span.mk (0) (0))) (0))))) ((Mark.mk (0) ((Span.mk (0) (0))))) (n.Read) ((Height.mk (0) ((Span.mk (0) (0))))) (n.Ref))),rfl,(.inr (.inl ⟨by omega,.inr (.inr (.inl ⟨_,((ReadCt.mk ((RawV.mk (.pointer (some (((⟨o,0,none⟩:Addr)).add 36))) rfl)) (n.Read))),rfl,rfl,.yes G⟩))⟩)),⟨_,_,_,_,rfl,.nil,.nil,.nil,.nil⟩⟩
  refine U 7 O<|f' O t'<|g' (Q1 a) O fun c9 z=>?_
  obtain rfl:=z
  refine f' O t'<|G7 (T3 (k:=0) [J n.Clerk,J n.Num,J n.Clock,J n.Day,J n.Kind,J 0,J 0,J 0,J 0,J 0,J 0,J 0,J 0,J 0,J 0,J 0,J 0,S0,S0,S0,S0,J 0,J 0,J 0,J 0,J n.Mark.Column,J n.Mark.Ticks.Lo,J n.Mark.Ticks.Hi,J 0,J 0,J 0,J 0,J 0,J 0,J 0,J 0,J n.Ref.Clerk,J n.Ref.Num] sizeOf98 rfl rfl rfl (A4 rfl (A4 rfl (A4 rfl C6))) rfl rfl rfl)<|U 3 O<|B9 9 [8] [8]<|Z O O (A.f O)<|G' (F1 a) O O O fun d0 B=>?_
  obtain rfl:=B
  refine Z O O (A.f O)<|G' (Q1 a) O O O fun d1 C=>?_
  obtain rfl:=C
  refine DW.y (V:=Value.agg [J n.Ref.Clerk,J n.Ref.Num,J n.Mark.Column,J n.Mark.Ticks.Lo,J n.Mark.Ticks.Hi].toArray) rfl rfl (X.build zeroValue450 runUnderlying450 (Ps _ underlying450) rfl rfl) ?_
  exact Z O O (S3 runUnderlying450 rfl)<|Z O O (L9 0 O O O)<|U' 1 O<|W' 1 O O O O O<|V' 4 O<|AC 1 O O O O isAgg200 sizeOf200<|C2<|MD
 refine U 6 O<|c' (X.eql O O) (fun Y=>?_) fun Y=>?_
 ·refine U 6 O<|f' O t'<|g' (F1 a) O fun d2 D=>?_
  obtain rfl:=D
  refine f' O t'<|G7 (T3 (k:=0) [J n.Clerk,J n.Num,J n.Clock,J n.Day,J n.Kind,J 0,J 0,J 0,J 0,J 0,J 0,J 0,J 0,J 0,J 0,J 0,J 0,S0,S0,S0,S0,J 0,J 0,J 0,J 0,J 0,J 0,J 0,J 0,J 0,J 0,J 0,J 0,J 0,J 0,J 0,J n.Ref.Clerk,J n.Ref.Num] sizeOf73 rfl rfl rfl (A4 rfl (A4 rfl C6)) rfl rfl rfl)<|U 3 O<|B9 7 [6] [6]<|Z O O (A.f O)<|G' (F1 a) O O O fun d3 E=>?_
  obtain rfl:=E
  refine DW.y (V:=Value.agg [J n.Ref.Clerk,J n.Ref.Num].toArray) rfl rfl (X.build zeroValue456 runUnderlying456 (A5Z _ underlying456) rfl rfl) ?_
  exact Z O O (S3 runUnderlying456 rfl)<|Z O O (L9 0 O O O)<|U' 1 O<|W' 1 O O O O O<|V' 4 O<|AC 1 O O O O isAgg200 sizeOf200<|C2<|⟨_,_,((NoteT.mk (n.Clerk) (n.Num) (n.Clock) (n.Day) (n.Kind) (0) (0) ((Sheet.mk ((Paper.mk (0) (0) (0) (0) (0) (0) ((Span.mk (0) (0))) ((Span.mk (0) (0))))) ([]) ([]) ((Drum.mk ([]) ([]))) ((Pen.mk (0) ((Span.mk (0) (0))) (0))))) ((Mark.mk (0) ((Span.mk (0) (0))))) ((ReadT.mk (0) (0) (0) ((Span.mk (0) (0))))) ((Height.mk (0) ((Span.mk (0) (0))))) (n.Ref))),rfl,(.inr (.inl ⟨by omega,.inr (.inr (.inr (.inr (⟨_,((WithCt.mk (n.Ref))),rfl,rfl⟩))))⟩)),⟨_,_,_,_,rfl,.nil,.nil,.nil,.nil⟩⟩
 exact U 8 O<|B9 3 [2] [2]<|Z O O (L9 0 O O O)<|U' 1 O<|W' 1 O O O O O<|V' 2 O<|AC 1 O O O O isAgg200 sizeOf200<|C2<|⟨_,_,((NoteT.mk (n.Clerk) (n.Num) (n.Clock) (n.Day) (n.Kind) (0) (0) ((Sheet.mk ((Paper.mk (0) (0) (0) (0) (0) (0) ((Span.mk (0) (0))) ((Span.mk (0) (0))))) ([]) ([]) ((Drum.mk ([]) ([]))) ((Pen.mk (0) ((Span.mk (0) (0))) (0))))) ((Mark.mk (0) ((Span.mk (0) (0))))) ((ReadT.mk (0) (0) (0) ((Span.mk (0) (0))))) ((Height.mk (0) ((Span.mk (0) (0))))) ((NName.mk (0) (0))))),rfl,(.inl rfl),⟨_,_,_,_,rfl,.nil,.nil,.nil,.nil⟩⟩
theorem B7q:prog.underlying 417=some (.interface (prog.methodsAt 417)):=by simp[Program.methodsAt,underlying417]
theorem A8U{m:Mem}{v:Value}{k:Int}(h:OkC m v k)(hi:A3Y v=true){cb:List Value}{b:BaseT}(hb:Enc.rd m cb b):Inv prog "aneroid/archive.right" [.agg cb.toArray] m (SB k b) v:=by
 rcases h with rfl|⟨hk,⟨c,x,rfl,h1,h2⟩|⟨c,x,rfl,h1⟩|⟨c,x,rfl,h1,h2⟩|⟨c,x,rfl,h1,h2⟩|⟨c,x,rfl,h1⟩⟩|⟨c,x,rfl,h1⟩
 ·cases hi
 ·exact⟨_,_,361,_,rfl,call361,fun w=>by kernel_rfl,MT hk (A9z m _ x h1 _ b hb h2)⟩
 ·exact⟨_,_,363,_,rfl,call363,fun w=>by kernel_rfl,MT hk (B0b m _ x h1 _ b hb)⟩
 ·exact⟨_,_,366,_,rfl,call366,fun w=>by kernel_rfl,MT hk (A8z m _ x h1 _ b hb h2)⟩
 ·exact⟨_,_,355,_,rfl,call355,fun w=>by kernel_rfl,MT hk (RY m _ x h1 _ b hb h2)⟩
 ·exact⟨_,_,369,_,rfl,call369,fun w=>by kernel_rfl,MT hk (A8G m _ x h1 _ b hb)⟩
 ·exact⟨_,_,368,_,rfl,call368,fun w=>by kernel_rfl,B3V (A8j m _ x h1 _ b hb)⟩
theorem A4q(m:Mem)(cb:List Value)(b:BaseT)(hb:Enc.rd m cb b)(cn:List Value)(n:NoteT)(hn:Enc.rd m cn n):Pure prog 227 #[.agg cb.toArray,.agg cn.toArray] m (fun m' v=>∃(q0:Bool),v= .bool q0∧(q0=true→n.Kind=4→0<b.Stations.length)):=by
 obtain⟨v1,rfl,S⟩:=hb
 have e1:=S.le
 obtain⟨v4,v6,v8,e2,rfl,o,p,q,k⟩:=hn
 refine have a8:=o.le;have a9:=p.le;have b0:=q.le;have b1:=k.le;F6 func227 O ntmps227 fun c9=>q' 2 O<|o' O O fun d0=>o' O O fun d1=>U 4 O<|fz (x:=b) 1 O O ⟨_,rfl,S⟩ fun d2 d f=>have o:=o.mono d;have p:=p.mono d;have q:=q.mono d;have k:=k.mono d;fz (x:=n) 0 O O ⟨_,_,_,_,rfl,o,p,q,k⟩ fun d3 L c=>have f:=f.mono L;q' 1 O<|g' c O fun d4 M=>?_
 obtain⟨e3,e4,e5,e6,rfl,r,s,t,u⟩:=M
 refine have b2:=r.le;have b3:=s.le;have b4:=t.le;have b5:=u.le;C0 (T.call call283 rfl (B3a _ _ n ⟨_,_,_,_,rfl,r,s,t,u⟩)) (by decide) fun d5 d6 l N=>?_
 obtain⟨e7,e8,a5,rfl,w,V⟩:=N
 replace f:=f.mono l
 replace c:=c.mono l
 obtain⟨e9,f0,f1,f2,rfl,y,z,A,B⟩:=V
 refine have b6:=y.le;have b7:=z.le;have b8:=A.le;have b9:=B.le;U 3 O<|n' zeroValue200 O fun d7=>U 1 O<|w' 0 O O O<|U 5 O ?_
 refine J6 (A3C B7q rfl w.form) (by decide) (fun Y=>?_) (fun Y=>?_)
 ·refine U 2 O<|g' c O fun d8 P=>?_
  obtain⟨f3,f4,f5,f6,rfl,C,D,E,F⟩:=P
  refine have c0:=C.le;have c1:=D.le;have c2:=E.le;have c3:=F.le;U 1 O<|a' 0 O O<|U 1 O<|c' (X.call call284 rfl (B1A _ _ n ⟨_,_,_,_,rfl,C,D,E,F⟩ _ a5 ⟨_,_,_,_,rfl,y,z,A,B⟩)) (fun a0=>?_) fun a0=>?_
  ·refine U 3 O<|g' c O fun d9 Q=>?_
   obtain⟨f7,f8,f9,g0,rfl,G,H,I,J⟩:=Q
   refine have c4:=G.le;have c5:=H.le;have c6:=I.le;have c7:=J.le;U 1 O<|y' (X.call call154 rfl (J8 _ _ n ⟨_,_,_,_,rfl,G,H,I,J⟩))<|U 1 O<|c' (X.call call285 rfl (BN _ _ (I0 n) rfl)) (fun a1=>?_) fun a1=>?_
   ·refine U 3 O<|f' O t'<|U 1 O<|i' (Ca c) O<|U 1 O<|c' (X.call call83 rfl (U4 _ _ _ _)) (fun a2=>?_) fun a2=>?_
    ·refine U 3 O<|f' O t'<|U 1 O<|i' (BY c) O<|U 1 O<|c' (X.call call83 rfl (U4 _ _ _ _)) (fun a3=>?_) fun a3=>?_
     ·refine U 5 O<|g' f O fun e0 R=>?_
      obtain⟨g1,rfl,K⟩:=R
      refine have c8:=K.le;U 1 O ?_
      refine C0 (Hd rfl rfl (A8U w ‹_› ⟨_,rfl,K⟩)) (by decide) (fun a6 _ W ⟨a7,a4,a⟩=>?_)
      subst a4
      exact U 5 O<|A0 O O<|C2<|⟨_,rfl,fun g=>by first|(cases g;done)|exact a g⟩
     exact U 10 O<|A0 O O<|C2<|⟨_,rfl,fun g=>by first|(cases g;done)|exact a g⟩
    exact U 15 O<|A0 O O<|C2<|⟨_,rfl,fun g=>by first|(cases g;done)|exact a g⟩
   exact U 20 O<|A0 O O<|C2<|⟨_,rfl,fun g=>by first|(cases g;done)|exact a g⟩
  exact U 25 O<|A0 O O<|C2<|⟨_,rfl,fun g=>by first|(cases g;done)|exact a g⟩
 exact U 29 O<|A0 O O<|C2<|⟨_,rfl,fun g=>by first|(cases g;done)|exact a g⟩
theorem Z5(h:G:=by exact⟨_,_,rfl,fun h_=>by first|omega|exact⟨by omega,fun j hj=>hall j (by omega)⟩⟩):G:=h
theorem A0X(m:Mem)(cb:List Value)(b:BaseT)(hb:Enc.rd m cb b)(vl:Value)(l:List NoteT)(hl:Sl m vl l):Pure prog 151 #[.agg cb.toArray,vl] m (fun m' v=>∃(z0:Int) (z1:Int),v= .tuple #[J z0,J z1]∧(z0=0→(l.length≤400∧∀q,q<l.length→(gt l q).Kind=4→0<b.Stations.length))):=by
 obtain⟨v1,rfl,Y⟩:=hb
 refine have e0:=Y.le;have ll:=hl.le;F6 func151 O ntmps151 fun c7=>q' 2 O<|o' O O fun b4=>U 6 O<|fz (x:=b) 0 O O ⟨_,rfl,Y⟩ fun m5 K g=>have hl:=hl.mono K;q' 1 O<|g' g O fun c8 a0=>?_
 obtain⟨e1,rfl,n⟩:=a0
 refine have a8:=n.le;y' (X.call call82 rfl (GE _ _ b ⟨_,rfl,n⟩))<|U 6 O<|e' (X.neq O O) (fun a1=>?_) fun a1=>?_
 ·exact U 12 O<|B7 O O O<|C2<|Z5
 refine U 9 O<|l' hl O<|c' (X.gtr O O) (fun a2=>?_) fun a2=>?_
 ·exact U 11 O<|B7 O O O<|C2<|Z5
 refine U 9 O<|l' hl O<|U 4 O ?_
 refine J4 (fun(k:Nat)=>l.length-k) (fun k=>[]) (fun k=>[(1,vl),(2,Pt b4 0),(18,vl),(19,J l.length),(20,J k)]) (fun k=>k≤l.length∧(∀j,j<k→(gt l j).Kind=4→0<b.Stations.length)) 0 ?_ ?_
 ·exact⟨EF _,fun j L=>absurd L (R' _)⟩
 rintro k ⟨hk,hall⟩
 refine N5 (fun d=>?_)
 refine q' 2 O<|c' (X.lss O O) (fun a3=>?_) fun a3=>?_
 ·refine U 11 O<|x' k hl O O fun c9 M=>g' M O fun d0 N=>?_
  obtain⟨e2,e3,e4,e5,rfl,o,p,r,s⟩:=N
  refine have a9:=o.le;have b0:=p.le;have b1:=r.le;have b2:=s.le;n' zeroValue200 O fun d1=>U 1 O<|w' 0 O O O<|U 4 O<|fz (x:=gt l k) 0 O O ⟨_,_,_,_,rfl,o,p,r,s⟩ fun d2 a f=>have hl:=hl.mono a;have g:=g.mono a;q' 1 O<|g' g O fun d3 P=>?_
  obtain⟨e6,rfl,t⟩:=P
  refine have b3:=t.le;g' f O fun d4 Q=>?_
  obtain⟨e7,e8,e9,f0,rfl,u,w,y,z⟩:=Q
  refine have b5:=u.le;have b6:=w.le;have b7:=y.le;have b8:=z.le;C0 (T.call call227 rfl (A4q _ _ b ⟨_,rfl,t⟩ _ (gt l k) ⟨_,_,_,_,rfl,u,w,y,z⟩)) (by decide) fun d5 d6 c R=>?_
  obtain⟨a7,rfl,A⟩:=R
  replace hl:=hl.mono c
  replace f:=f.mono c
  cases a7
  ·exact U 18 O<|B7 O O O<|C2<|Z5
  refine U 10 O<|c' (X.eql O O) (fun a4=>?_) fun a4=>?_
  ·exact U 12 O<|G9 d (Mem.le_trans a c)<|I6 (k+1)<|⟨by omega,fun j L=>by rcases Sc.1 L with h|h;exact hall j h;subst h;exact A rfl⟩
  refine U 6 O<|B9 10 [] []<|U' 3 O<|J0 O O (T9 (k-1) runUnderlying52 sizeOf200 rfl rfl hl (by omega) (by omega)) (by decide) fun d7 S=>G' S O O O fun d8 V=>?_
  obtain⟨f1,f2,f3,f4,rfl,B,C,D,E⟩:=V
  refine have b9:=B.le;have c0:=C.le;have c1:=D.le;have c2:=E.le;Z O O (X.call call154 rfl (J8 _ _ (gt l (k-1)) ⟨_,_,_,_,rfl,B,C,D,E⟩))<|G' f O O O fun d9 W=>?_
  obtain⟨f5,f6,f7,f8,rfl,F,G,H,I⟩:=W
  refine have c3:=F.le;have c4:=G.le;have c5:=H.le;have c6:=I.le;Z O O (X.call call154 rfl (J8 _ _ (gt l k) ⟨_,_,_,_,rfl,F,G,H,I⟩))<|Z O O (X.call call228 rfl (KJ _ _ (I0 ((gt l (k-1)))) rfl _ (I0 ((gt l k))) rfl))<|U' 1 O<|V' 5 O<|c' (X.eql O O) (fun a5=>?_) fun a5=>?_
  ·exact U 18 O<|B7 O O O<|C2<|Z5
  refine U 7 O<|c' (X.gtr O O) (fun a6=>?_) fun a6=>?_
  ·exact U 18 O<|B7 O O O<|C2<|Z5
  exact U 13 O<|G9 d (Mem.le_trans a c)<|I6 (k+1)<|⟨by omega,fun j L=>by rcases Sc.1 L with h|h;exact hall j h;subst h;exact A rfl⟩
 exact U 16 O<|B7 O O O<|C2<|Z5
theorem HD(h:G:=by exact⟨_,rfl,fun h_=>by first|omega|(exfalso;omega)|exact⟨by omega,fun j hj=>hall j (by omega)⟩⟩):G:=h
theorem B2X(m:Mem)(cb:List Value)(b:BaseT)(hb:Enc.rd m cb b)(vl:Value)(l:List (List NoteT))(hl:Sl m vl l):Pure prog 80 #[.agg cb.toArray,vl] m (fun m' v=>∃(z0:Int),v=J z0∧(z0=0→MM b=0∧∀j,j<l.length→(((gt l j)).length≤400∧∀q,q<((gt l j)).length→(gt ((gt l j)) q).Kind=4→0<b.Stations.length))):=by
 obtain⟨Y,rfl,t⟩:=hb
 refine have N:=t.le;have ll:=hl.le;F6 func80 O ntmps80 fun F=>q' 2 O<|o' O O fun G=>U 5 O<|fz (x:=b) 0 O O ⟨_,rfl,t⟩ fun V n o=>have hl:=hl.mono n;q' 1 O<|g' o O fun W w=>?_
 obtain⟨P,rfl,d⟩:=w
 refine have C:=d.le;y' (X.call call82 rfl (GE _ _ b ⟨_,rfl,d⟩))<|U 6 O<|e' (X.neq O O) (fun y=>?_) fun y=>?_
 ·exact U 11 O<|A0 O O<|C2<|HD
 refine U 9 O<|l' hl O<|U 4 O ?_
 refine J4 (fun(k:Nat)=>l.length-k) (fun k=>[]) (fun k=>[(2,Pt G 0),(15,vl),(16,J l.length),(17,J k)]) (fun k=>k≤l.length∧(∀j,j<k→(((gt l j)).length≤400∧∀q,q<((gt l j)).length→(gt ((gt l j)) q).Kind=4→0<b.Stations.length))) 0 ?_ ?_
 ·exact⟨EF _,fun j z=>absurd z (R' _)⟩
 rintro k ⟨hk,hall⟩
 refine N5 (fun a=>?_)
 refine q' 2 O<|c' (X.lss O O) (fun A=>?_) fun A=>?_
 ·refine U 10 O<|x' k hl O O fun H p=>s' p O fun I c=>have D:=c.le;U 5 O<|g' o O fun K r=>?_
  obtain⟨Q,rfl,f⟩:=r
  refine have E:=f.le;U 1 O<|C0 (T.call call151 rfl (A0X _ _ b ⟨_,rfl,f⟩ _ _ c)) (by decide) fun L M g s=>?_
  obtain⟨R,S,rfl,u⟩:=s
  refine U 10 O<|e' (X.neq O O) (fun B=>?_) fun B=>?_
  ·exact U 14 O<|A0 O O<|C2<|HD
  exact U 11 O<|G9 a g<|I6 (k+1)<|⟨by omega,fun j z=>by rcases Sc.1 z with h|h;exact hall j h;subst h;exact u (by first|omega|assumption)⟩
 exact U 15 O<|A0 O O<|C2<|HD
end Go.Proofs.S10
