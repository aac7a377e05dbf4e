import Derived.Test.YtooomcigmleneaaGreatT10W44
set_option linter.all false
set_option maxHeartbeats 4000000
namespace Go.Proofs.T10
open Tryz Go Go.Kx Go.Proofs.S10
set_option maxRecDepth 20000
variable{c:Chart}{pc:Addr}{s:StateT}
theorem B0R(m:Mem){pb ps:Addr}(hcc:Cells m pb [.pointer (some pc)])(hpc:At m pc c)(hps:At m ps s)(hso:LK c.gaps c.ticks c.Sheet.Pen.Band s)(hag:s.ago≤1000):S1 prog 255 [.pointer (some pb),.pointer (some ps)] m false (D6 c.gaps c.ticks s).length (A7J (D6 c.gaps c.ticks s)):=by
 intro lo S HS I Ix s0 b2 a9 P h0
 refine have a7:=hso.1;have a8:=hso.2.1;G3 func255 O ntmps255 fun b3=>q' 2 O<|y' (J9 isAgg122 rfl hcc)<|U 1 O<|f' O t'<|s' (V0 hpc) O fun v2 Q=>have c0:=Q.le;l' Q O<|U 6 O<|f' O t'<|i' (I9 hps) O<|c' (X.eql O O) (fun h6=>?_) fun h6=>?_
 ·refine U 4 O ?_
  have a:D6 c.gaps c.ticks s=[StateT.mk (-1) (0) (0),StateT.mk (0) (0) (0)]:=(by unfold D6;rw[D' ‹_›])
  refine q' 2 O<|WL.x (V:=Value.agg [J (-1),J 0,J 0].toArray) (X.build zeroValue246 runUnderlying246 (BI _ underlying246) rfl rfl) (by decide) ?_
  refine AB (T.yield (A:=[]) rfl rfl rfl (P 0 _ _ _ (by rw[a];exact O' _) (Mem.le_refl _) (by show _=_;rw[a];rfl) h0)) (by decide) (fun R q d=>?_) (fun R q d=>?_)
  ·obtain⟨n,H,rfl,v⟩:=d
   refine have hcc:=hcc.mono n;have hpc:=hpc.mono n;have hps:=hps.mono n;U 4 O<|WL.x (V:=Value.agg [J 0,J 0,J 0].toArray) (X.build zeroValue246 runUnderlying246 (BI _ underlying246) rfl rfl) (by decide) ?_
   refine U 1 O ?_
   refine AB (T.yield (A:=[]) rfl rfl rfl (P 1 _ _ _ (by rw[a];exact Nat.succ_lt_succ (O' _)) n (by show _=_;rw[a];rfl) v)) (by decide) (fun W q d=>?_) (fun W q d=>?_)
   ·obtain⟨o,D,rfl,w⟩:=d
    refine have hcc:=hcc.mono o;have hpc:=hpc.mono o;have hps:=hps.mono o;U 3 O ?_
    refine D0 rfl (fun w' g=>B3 (g.weaken (.refl _)) ?_)
    first|rw[A' ‹_›]at a|skip
    exact⟨D,rfl,.inl (by rw[a];exact w)⟩
   obtain⟨o,D,rfl,w⟩:=d
   refine have hcc:=hcc.mono o;have hpc:=hpc.mono o;have hps:=hps.mono o;U 3 O ?_
   refine D0 rfl (fun w' g=>B3 (g.weaken (.refl _)) ?_)
   exact⟨D,rfl,.inr ⟨2,by rw[a];exact Tu (Tu (EF _)),w⟩⟩
  obtain⟨n,H,rfl,v⟩:=d
  refine have hcc:=hcc.mono n;have hpc:=hpc.mono n;have hps:=hps.mono n;U 7 O ?_
  refine D0 rfl (fun w' g=>B3 (g.weaken (.refl _)) ?_)
  exact⟨H,rfl,.inr ⟨1,by rw[a];exact Tu (EF _),v⟩⟩
 refine U 6 O<|f' O t'<|i' (I9 hps) O<|U 1 O<|c' (X.eql O O) (fun a3=>?_) fun a3=>?_
 ·refine U 4 O ?_
  have a:D6 c.gaps c.ticks s=[StateT.mk (c.gaps.length) (1) (0)]:=(by unfold D6;rw[A' ‹_›,D' ‹_›])
  refine q' 3 O<|WL.x (V:=Value.agg [J c.gaps.length,J 1,J 0].toArray) (X.build zeroValue246 runUnderlying246 (BI _ underlying246) rfl rfl) (by decide) ?_
  refine AB (T.yield (A:=[]) rfl rfl rfl (P 0 _ _ _ (by rw[a];exact O' _) (Mem.le_refl _) (by show _=_;rw[a];rfl) h0)) (by decide) (fun K q d=>?_) (fun K q d=>?_)
  ·obtain⟨k,y,rfl,r⟩:=d
   refine have hcc:=hcc.mono k;have hpc:=hpc.mono k;have hps:=hps.mono k;U 2 O ?_
   refine D0 rfl (fun w' g=>B3 (g.weaken (.refl _)) ?_)
   first|rw[A' ‹_›]at a|skip
   exact⟨y,rfl,.inl (by rw[a];exact r)⟩
  obtain⟨k,y,rfl,r⟩:=d
  refine have hcc:=hcc.mono k;have hpc:=hpc.mono k;have hps:=hps.mono k;U 2 O ?_
  refine D0 rfl (fun w' g=>B3 (g.weaken (.refl _)) ?_)
  exact⟨y,rfl,.inr ⟨1,by rw[a];exact Tu (EF _),r⟩⟩
 refine U 6 O<|B9 19 [16] [16]<|Z O O (A.f O)<|Z O O (A.i O (Bs hps))<|U' 1 O<|Z O O (J9 isAgg122 rfl hcc)<|Z O O (A.f O)<|Z O O (A.i O (I9 hps))<|Z O O (X.call call253 rfl (OH _ _ _ hpc _ (by omega)))<|C' O O (X.lss O O) (fun a4=>?_) fun a4=>?_
 ·refine U' 2 O<|Z O O (A.f O)<|Z O O (A.i O (I9 hps))<|Z O O (A.f O)<|Z O O (A.i O (Bs hps))<|U' 1 O<|DW.x (V:=Value.agg [J s.column,J (s.ago+1),J 0].toArray) O O (X.build zeroValue246 runUnderlying246 (BI _ underlying246) rfl rfl) (by decide) ?_
  try have a:D6 c.gaps c.ticks s=StateT.mk (s.column) (s.ago+1) (0)::(if(gt c.gaps (s.column:Int).toNat).Lo≤s.ago+1∧s.ago+1≤(gt c.gaps (s.column:Int).toNat).Hi then[StateT.mk (s.column+1) (0) (0)]else[]):=(by unfold D6;rw[A' ‹_›,A' ‹_›,D' ‹_›];rfl)
  refine B0v rfl rfl rfl rfl (T.yield (A:=[]) rfl rfl rfl (P 0 _ _ _ (by rw[a];exact O' _) (Mem.le_refl _) (by show _=_;rw[a];rfl) h0)) (fun _ _ h_=>h_.1) (fun _ _ h_=>h_.1) (by decide) (fun L q d=>?_) (fun L q d=>?_)
  ·obtain⟨b,z,rfl,p⟩:=d
   refine have hcc:=hcc.mono b;have hpc:=hpc.mono b;have hps:=hps.mono b;U' 2 O<|V' 5 O<|B9 12 [] []<|Z O O (J9 isAgg122 rfl hcc)<|U' 1 O<|Z O O (A.f O)<|S' (V0 hpc) O O O fun b4 F=>have b0:=F.le;Z O O (A.f O)<|Z O O (A.i O (I9 hps))<|J0 O O (BV runUnderlying28 sizeOf23 rfl rfl F (by omega) (by omega)) (by decide) fun b5 Y=>G' Y O O O fun b6 a0=>?_
   obtain rfl:=a0
   refine Z O O (A.f O)<|Z O O (A.i O (Bs hps))<|U' 1 O<|C' O O (X.call call55 rfl (IU _ _ (gt c.gaps ((s.column:Int).toNat)) rfl _)) (fun a5=>?_) fun a5=>?_
   ·refine V' 2 O ?_
    rw[D' ‹_›]at a
    refine q' 2 O<|f' O t'<|i' (I9 hps) O<|U 1 O<|WL.x (V:=Value.agg [J (s.column+1),J 0,J 0].toArray) (X.build zeroValue246 runUnderlying246 (BI _ underlying246) rfl rfl) (by decide) ?_
    refine AB (T.yield (A:=[]) rfl rfl rfl (P 1 _ _ _ (by rw[a];exact Nat.succ_lt_succ (O' _)) b (by show _=_;rw[a];rfl) p)) (by decide) (fun M q d=>?_) (fun M q d=>?_)
    ·obtain⟨l,B,rfl,t⟩:=d
     refine have hcc:=hcc.mono l;have hpc:=hpc.mono l;have hps:=hps.mono l;U 2 O ?_
     refine D0 rfl (fun w' g=>B3 (g.weaken (.refl _)) ?_)
     first|rw[A' ‹_›]at a|skip
     exact⟨B,rfl,.inl (by rw[a];exact t)⟩
    obtain⟨l,B,rfl,t⟩:=d
    refine have hcc:=hcc.mono l;have hpc:=hpc.mono l;have hps:=hps.mono l;U 2 O ?_
    refine D0 rfl (fun w' g=>B3 (g.weaken (.refl _)) ?_)
    exact⟨B,rfl,.inr ⟨2,by rw[a];exact Tu (Tu (EF _)),t⟩⟩
   refine V' 4 O ?_
   refine D0 rfl (fun w' g=>B3 (g.weaken (.refl _)) ?_)
   first|rw[A' ‹_›]at a|skip
   exact⟨z,rfl,.inl (by rw[a];exact p)⟩
  obtain⟨b,z,rfl,p⟩:=d
  refine have hcc:=hcc.mono b;have hpc:=hpc.mono b;have hps:=hps.mono b;U' 2 O<|V' 5 O ?_
  refine E9 rfl (fun w' g=>B3 (g.weaken (.refl _)) ?_)
  exact⟨z,rfl,.inr ⟨1,by rw[a];exact Tu (EF _),p⟩⟩
 refine d_8 ?_
 try have a:D6 c.gaps c.ticks s=StateT.mk (s.column) (s.ago+1) (0)::(if(gt c.gaps (s.column:Int).toNat).Lo≤s.ago+1∧s.ago+1≤(gt c.gaps (s.column:Int).toNat).Hi then[StateT.mk (s.column+1) (0) (0)]else[]):=(by unfold D6;rw[A' ‹_›,A' ‹_›,D' ‹_›];rfl)
 refine U' 3 O<|V' 5 O ?_
 have a:D6 c.gaps c.ticks s=(if(gt c.gaps (s.column:Int).toNat).Lo≤s.ago+1∧s.ago+1≤(gt c.gaps (s.column:Int).toNat).Hi then[StateT.mk (s.column+1) (0) (0)]else[]):=(by unfold D6;rw[A' ‹_›,A' ‹_›,A' ‹_›];rfl)
 refine B9 12 [] []<|Z O O (J9 isAgg122 rfl hcc)<|U' 1 O<|Z O O (A.f O)<|S' (V0 hpc) O O O fun b7 G=>have b1:=G.le;Z O O (A.f O)<|Z O O (A.i O (I9 hps))<|J0 O O (BV runUnderlying28 sizeOf23 rfl rfl G (by omega) (by omega)) (by decide) fun b8 a1=>G' a1 O O O fun b9 a2=>?_
 obtain rfl:=a2
 refine Z O O (A.f O)<|Z O O (A.i O (Bs hps))<|U' 1 O<|C' O O (X.call call55 rfl (IU _ _ (gt c.gaps ((s.column:Int).toNat)) rfl _)) (fun a6=>?_) fun a6=>?_
 ·refine V' 2 O ?_
  rw[D' ‹_›]at a
  refine q' 2 O<|f' O t'<|i' (I9 hps) O<|U 1 O<|WL.x (V:=Value.agg [J (s.column+1),J 0,J 0].toArray) (X.build zeroValue246 runUnderlying246 (BI _ underlying246) rfl rfl) (by decide) ?_
  refine AB (T.yield (A:=[]) rfl rfl rfl (P 0 _ _ _ (by rw[a];exact O' _) (Mem.le_refl _) (by show _=_;rw[a];rfl) h0)) (by decide) (fun N q d=>?_) (fun N q d=>?_)
  ·obtain⟨E,C,rfl,u⟩:=d
   refine U 2 O ?_
   refine D0 rfl (fun w' g=>B3 (g.weaken (.refl _)) ?_)
   first|rw[A' ‹_›]at a|skip
   exact⟨C,rfl,.inl (by rw[a];exact u)⟩
  obtain⟨E,C,rfl,u⟩:=d
  refine U 2 O ?_
  refine D0 rfl (fun w' g=>B3 (g.weaken (.refl _)) ?_)
  exact⟨C,rfl,.inr ⟨1,by rw[a];exact Tu (EF _),u⟩⟩
 refine V' 4 O ?_
 refine D0 rfl (fun w' g=>B3 (g.weaken (.refl _)) ?_)
 first|rw[A' ‹_›]at a|skip
 exact⟨s0,rfl,.inl (by rw[a];exact h0)⟩
theorem B1s(m:Mem)(hpc:At m pc c){cs:List Value}(hs:Enc.rd m cs s)(hso:LK c.gaps c.ticks c.Sheet.Pen.Band s)(hag:s.ago≤1000):Pure prog 200 #[.pointer (some pc),.agg cs.toArray] m (fun m' v=>∃lb,v= .func (.func 255) #[] lb.toArray∧S1 prog 255 lb m' false (D6 c.gaps c.ticks s).length (A7J (D6 c.gaps c.ticks s))):=by
 obtain rfl:=hs
 refine F6 func200 O ntmps200 fun k=>q' 2 O<|o' O O fun l=>o' O O fun n=>U 4 O ?_
 refine M6 1 rfl rfl (fun o d b=>?_)
 exact have hpc:=hpc.mono d;fz (x:=s) 0 O O O fun p a f=>have hpc:=hpc.mono a;have b:=b.mono a;q' 1 O<|y' (X.makeFunc (by intro x g;simp at g;rcases g with rfl|rfl;all_goals exact⟨_,rfl⟩) rfl)<|U 4 O<|A0 O O<|C2<|⟨_,rfl,B0R _ b hpc f hso hag⟩
theorem A7s(m:Mem)(hpc:At m pc c){LL:List StateT}{ix:Nat}(hmz:MapZ m ix (J 0) (fun s_:StateT=>J (AL LL s_)))(hix:c.index.v= .map (some ix))(hch:ChN c LL){cs:List Value}(hs:Enc.rd m cs s)(hso:LK c.gaps c.ticks c.Sheet.Pen.Band s):Pure prog 116 #[.pointer (some pc),.agg cs.toArray] m (fun m' v=>Sl m' v (Cq c LL s)):=by
 obtain rfl:=hs
 have e1:=hch.pen
 have W:=hch.pen
 unfold M9 at W
 have e2:=Hy W.1.2
 have d6:=hso.2.2
 have b6:s.ago≤1000:=(by have h1_:=Ij hch.gaps hch.ticks hso.1;have h2_:=hso.2.1;omega)
 have Y:(E7 c.Sheet.Pen s.offset).length≤17:=KZ s.offset hch.pen _ (E' _)
 refine F6 func116 O ntmps116 fun e9=>q' 2 O<|o' O O fun b1=>o' O O fun b2=>U 2 O ?_
 refine M6 1 rfl rfl (fun m3 Q d=>?_)
 refine have hpc:=hpc.mono Q;have hmz:=hmz.mono Q;fz (x:=s) 0 O O O fun m6 H t=>have hpc:=hpc.mono H;have hmz:=hmz.mono H;have d:=d.mono H;E2 ?_
 refine cu3 (fun(m9:Mem) (u:Nat) (F:Value)=>m9) (fun m9 u F=>[blk u 150 [F]]) (fun m9 u F=>[(2,Pt b1 0),(3,Pt b2 0),(5,Pt u 0)]) (fun m9 u F=>m6.le m9∧Sl (α:=EdgeT) m9 F (E7 c.Sheet.Pen s.offset)) ?_ ?_
 ·refine L4 (π:=sq [0,1,2,3,4,5,6] (.fork (sq [7,8,9,10,11,12,13] .done) (sq [11,7,8,9,10,12,13] .done))) [7,11,12] [12] O (by kernel_rfl)<|Z O O (J9 isAgg122 rfl d)<|U' 1 O<|Z O O (A.f O)<|have b7:=Q4 (Iu hpc);Z O O (A.f O)<|G' b7 O O O fun f0 a6=>?_
  obtain rfl:=a6
  refine Z O O (A.f O)<|Z O O (A.i O (GC t)) ?_
  refine DW.fork (SW _ _) ?_ ?_
  ·refine W2 rfl rfl rfl (T.call call199 rfl (Rm _ _ c.Sheet.Pen rfl _ ‹_› (by omega))) (by decide) fun c6 f1 o a7=>?_
   obtain⟨d7,rfl,M⟩:=a7
   exact have hpc:=hpc.mono o;have hmz:=hmz.mono o;have d:=d.mono o;have t:=t.mono o;have e3:=M.le;U' 3 O<|N3 O O O (T.alloc zeroValue150 rfl) (by decide) fun c7=>B4 O O O O (C1 (k:=0) sizeOf150 rfl rfl rfl M.one (J' rfl))<|U' 1 O<|V' 1 O<|PK c6 c7 d7<|⟨o,M⟩
  refine N3 O O O (T.alloc zeroValue150 rfl) (by decide) fun c8=>W2 O O O (T.call call199 rfl (Rm _ _ c.Sheet.Pen rfl _ ‹_› (by omega))) (by decide) fun c9 f2 q a8=>?_
  obtain⟨d8,rfl,N⟩:=a8
  exact have hpc:=hpc.mono q;have hmz:=hmz.mono q;have d:=d.mono q;have t:=t.mono q;have e4:=N.le;U' 3 O<|B4 O O O O (C1 (k:=0) sizeOf150 rfl rfl rfl N.one (J' rfl))<|U' 1 O<|V' 1 O<|PK c9 c8 d8<|⟨q,N⟩
 rintro m9 u F ⟨B,a1⟩
 refine have hpc:=hpc.mono B;have hmz:=hmz.mono B;have d:=d.mono B;have t:=t.mono B;have e5:=a1.le;q' 2 O<|n' zeroValue150 O fun w=>U 4 O<|fz (x:=E7 c.Sheet.Pen s.offset) 1 O O ⟨_,rfl,a1⟩ fun f3 y C=>have hpc:=hpc.mono y;have hmz:=hmz.mono y;have d:=d.mono y;have t:=t.mono y;I5 EdgeT 155<|q' 1 O<|y' (J9 isAgg122 rfl d)<|g' t O fun f4 a9=>?_
 obtain rfl:=a9
 refine C0 (T.call call200 rfl (B1s _ hpc (s:=s) rfl hso b6)) (by decide) (fun f5 _ z d0=>?_)
 obtain⟨E,rfl,a4⟩:=d0
 refine have hpc:=hpc.mono z;have hmz:=hmz.mono z;have d:=d.mono z;have C:=C.mono z;U 3 O<|WK.p [1] ?_
 refine N8 (S:=Value×List EdgeT) (G:=Nat) (ps:=[25]) (n:=(D6 c.gaps c.ticks s).length) (A:=(A7J (D6 c.gaps c.ticks s))) rfl call255 a4 (fun P:Value×List EdgeT=>[blk w 150 [P.1],A5 (P.1) 155 (P.2)]) (fun i _ P=>P.2=Cr LL c.Sheet.Pen.Band (D6 c.gaps c.ticks s) (E7 c.Sheet.Pen s.offset) i) (fun _ _ _ _=>False) (Value.slice none 0 0,([]:List EdgeT)) rfl rfl (fun h=>by cases h) (fun _ _ _ _ _ h=>h) (by simp) (fun i m1 g h=>by rw[show g=_ from h];rfl) (fun R g gh=>blk R 246 ((g.getD 0 undef).cells.toList)::(fun P:Value×List EdgeT=>[blk w 150 [P.1],A5 (P.1) 155 (P.2)]) gh) (fun R g=>(8,Pt R 0)::[(2,Pt b1 0),(3,Pt b2 0),(5,Pt u 0),(7,Pt w 0),(22,.pointer (some (pc))),(23,.agg [J s.column,J s.ago,J s.offset].toArray),(24,.func (.func 255) #[] E.toArray)]) ?_ ?_ ?_ ?_ ?_
 ·intro lo B1 i D gh g KK c5 a5 l d9
  have a3:g=[.agg [J ((gt (D6 c.gaps c.ticks s) i).column),J ((gt (D6 c.gaps c.ticks s) i).ago),J ((gt (D6 c.gaps c.ticks s) i).offset)].toArray]:=(by have:=Sd Array.toList (show g.toArray=#[.agg [J ((gt (D6 c.gaps c.ticks s) i).column),J ((gt (D6 c.gaps c.ticks s) i).ago),J ((gt (D6 c.gaps c.ticks s) i).offset)].toArray]from a5);simpa using this)
  subst a3
  refine qb ?_
  exact q' 1 O<|n' zeroValue246 O fun d1=>w' 0 O O O<|U 1 O<|I8 (.cons rfl (.cons rfl (.cons rfl (.cons rfl (.cons rfl (.cons rfl (.cons rfl (.cons rfl .nil)))))))) (d9 d1)
 ·intro lo B1 i D gh g R c5 hi l a5 r
  have a3:g=[.agg [J ((gt (D6 c.gaps c.ticks s) i).column),J ((gt (D6 c.gaps c.ticks s) i).ago),J ((gt (D6 c.gaps c.ticks s) i).offset)].toArray]:=(by have:=Sd Array.toList (show g.toArray=#[.agg [J ((gt (D6 c.gaps c.ticks s) i).column),J ((gt (D6 c.gaps c.ticks s) i).ago),J ((gt (D6 c.gaps c.ticks s) i).offset)].toArray]from a5);simpa using this)
  subst a3
  obtain⟨vo,M_⟩:=gh
  replace r:M_=Cr LL c.Sheet.Pen.Band (D6 c.gaps c.ticks s) (E7 c.Sheet.Pen s.offset) i:=r
  subst r
  replace hpc:=hpc.mono l
  replace hmz:=hmz.mono l
  replace d:=d.mono l
  replace C:=C.mono l
  have a0:=JI c.gaps c.ticks s
  have b8:(Cr LL c.Sheet.Pen.Band (D6 c.gaps c.ticks s) (E7 c.Sheet.Pen s.offset) i).length≤34:=A5x (by omega) Y
  show WK _ _ D [blk R 246 [J ((gt (D6 c.gaps c.ticks s) i).column),J ((gt (D6 c.gaps c.ticks s) i).ago),J ((gt (D6 c.gaps c.ticks s) i).offset)],blk w 150 [vo],A5 (vo) 155 (Cr LL c.Sheet.Pen.Band (D6 c.gaps c.ticks s) (E7 c.Sheet.Pen s.offset) i)] [(8,Pt R 0),(2,Pt b1 0),(3,Pt b2 0),(5,Pt u 0),(7,Pt w 0),(22,.pointer (some (pc))),(23,.agg [J s.column,J s.ago,J s.offset].toArray),(24,.func (.func 255) #[] E.toArray)] _
  refine qb ?_
  refine q' 3 O<|s' C O fun d2 I=>have e6:=I.le;l' I O<|U 4 O ?_
  have b9:(Cr LL c.Sheet.Pen.Band (D6 c.gaps c.ticks s) (E7 c.Sheet.Pen s.offset) i)=(Cr LL c.Sheet.Pen.Band (D6 c.gaps c.ticks s) (E7 c.Sheet.Pen s.offset) i++D2 0 (fun K=>PT LL c.Sheet.Pen.Band (gt (D6 c.gaps c.ticks s) i) (gt (E7 c.Sheet.Pen s.offset) K))):=(SO _).symm
  rw[b9]
  refine Di (fun(j:Nat) (L:Int) (vq:Value)=>(E7 c.Sheet.Pen s.offset).length-j) (fun j L vq=>[blk R 246 [J ((gt (D6 c.gaps c.ticks s) i).column),J ((gt (D6 c.gaps c.ticks s) i).ago),J L],blk w 150 [vq],A5 (vq) 155 (Cr LL c.Sheet.Pen.Band (D6 c.gaps c.ticks s) (E7 c.Sheet.Pen s.offset) i++D2 j (fun K=>PT LL c.Sheet.Pen.Band (gt (D6 c.gaps c.ticks s) i) (gt (E7 c.Sheet.Pen s.offset) K)))]) (fun j L vq=>[(2,Pt b1 0),(7,Pt w 0),(8,Pt R 0),(26,d2),(27,J (↑(E7 c.Sheet.Pen s.offset).length)),(28,J j)]) (fun j L vq=>j≤(E7 c.Sheet.Pen s.offset).length) 0 ((gt (D6 c.gaps c.ticks s) i).offset) vo ?_ ?_
  ·exact EF _
  rintro j L vq a2
  try dsimp only at a2
  have hj:=a2
  have e7:(D2 j (fun K=>PT LL c.Sheet.Pen.Band (gt (D6 c.gaps c.ticks s) i) (gt (E7 c.Sheet.Pen s.offset) K))).length=j:=B5 _ _
  refine have e8:=fun h_:j<(E7 c.Sheet.Pen s.offset).length=>B3R (off:=s.offset) h_;q' 2 O<|c' (X.lss O O) (fun d3=>?_) fun d3=>?_
  ·refine U 10 O<|x' j I O O fun f6 b0=>g' b0 O fun f7 b3=>?_
   obtain rfl:=b3
   refine n' zeroValue155 O fun f8=>w' 0 O O O<|U 3 O<|B9 11 [10] [10]<|Z O O (A.f O)<|Z O O (A.b 0 O O O)<|Z O O (J9 isAgg122 rfl d)<|U' 1 O<|Z O O (A.f O)<|have c0:=Q4 (Iu hpc);Z O O (A.f O)<|Z O O (A.f O)<|Z O O (A.i O (W5 c0))<|U' 1 O<|Z O O (A.f O)<|B4 O O O O (C1 (k:=1) sizeOf3 rfl rfl rfl rfl (J' rfl))<|V' 1 O<|B9 13 [10,11,12] [11,12]<|Z O O (A.b 2 O O O)<|Z O O (J9 isAgg122 rfl d)<|U' 1 O<|have c1:=A3V hpc;Z O O (A.f O) ?_
   have c2:Cells D ((pc).add 24) [.map (some ix)]:=(by have h_:=A0Q c1;rw[hix]at h_;exact h_)
   refine Z O O (J9 isAgg215 rfl c2)<|Z O O (L9 1 O O O)<|Z O O (A6T (k:=((StateT.mk ((gt (D6 c.gaps c.ticks s) i).column) ((gt (D6 c.gaps c.ticks s) i).ago) (((gt (E7 c.Sheet.Pen s.offset) j).To)-c.Sheet.Pen.Band)))) runUnderlying215 A0G zeroValue3 rfl rfl hmz)<|Z O O (A.f O)<|Z O O (J5 (k:=0) (vs:=[J (((gt (E7 c.Sheet.Pen s.offset) j).Change).Lo),J (((gt (E7 c.Sheet.Pen s.offset) j).Change).Hi)]) isAgg23 sizeOf23 rfl rfl rfl rfl)<|DW.x (V:=Value.agg [J (AL LL ((StateT.mk ((gt (D6 c.gaps c.ticks s) i).column) ((gt (D6 c.gaps c.ticks s) i).ago) (((gt (E7 c.Sheet.Pen s.offset) j).To)-c.Sheet.Pen.Band)))),J (((gt (E7 c.Sheet.Pen s.offset) j).Change).Lo),J (((gt (E7 c.Sheet.Pen s.offset) j).Change).Hi)].toArray) O O (X.build zeroValue155 runUnderlying155 (Qf _ underlying155) rfl rfl) (by decide) ?_
   refine As rfl rfl rfl (G6 Qz rfl rfl rfl (by decide)) (by decide) fun f9=>?_
   refine Ae rfl rfl rfl rfl (G1 (k:=3) (a:=(EdgeT.mk (AL LL ((StateT.mk ((gt (D6 c.gaps c.ticks s) i).column) ((gt (D6 c.gaps c.ticks s) i).ago) (((gt (E7 c.Sheet.Pen s.offset) j).To)-c.Sheet.Pen.Band)))) ((gt (E7 c.Sheet.Pen s.offset) j).Change))) Qz rfl rfl rfl rfl (by first|omega|(simp;done)|(simp;omega)) (by decide)) (by decide) (fun d4=>?_)
   refine B4 O O O O (T1 (k:=3) rfl trivial (D1 rfl rfl rfl) fun b4=>C1 (k:=2) sizeOf150 rfl rfl rfl b4 (J' rfl))<|V' 7 O ?_
   have c3:((Cr LL c.Sheet.Pen.Band (D6 c.gaps c.ticks s) (E7 c.Sheet.Pen s.offset) i++D2 j (fun K=>PT LL c.Sheet.Pen.Band (gt (D6 c.gaps c.ticks s) i) (gt (E7 c.Sheet.Pen s.offset) K)))++[(EdgeT.mk (AL LL ((StateT.mk ((gt (D6 c.gaps c.ticks s) i).column) ((gt (D6 c.gaps c.ticks s) i).ago) (((gt (E7 c.Sheet.Pen s.offset) j).To)-c.Sheet.Pen.Band)))) ((gt (E7 c.Sheet.Pen s.offset) j).Change))])=(Cr LL c.Sheet.Pen.Band (D6 c.gaps c.ticks s) (E7 c.Sheet.Pen s.offset) i++D2 (j+1) (fun K=>PT LL c.Sheet.Pen.Band (gt (D6 c.gaps c.ticks s) i) (gt (E7 c.Sheet.Pen s.offset) K))):=(by rw[O9,←Se];rfl)
   rw[c3]
   exact O7 (j+1) (((gt (E7 c.Sheet.Pen s.offset) j).To)-c.Sheet.Pen.Band) d4<|by omega
  refine U 9 O ?_
  have c4:(Cr LL c.Sheet.Pen.Band (D6 c.gaps c.ticks s) (E7 c.Sheet.Pen s.offset) i++D2 j (fun K=>PT LL c.Sheet.Pen.Band (gt (D6 c.gaps c.ticks s) i) (gt (E7 c.Sheet.Pen s.offset) K)))=(Cr LL c.Sheet.Pen.Band (D6 c.gaps c.ticks s) (E7 c.Sheet.Pen s.offset) (i+1)):=(by rw[show j=(E7 c.Sheet.Pen s.offset).length by omega];rfl)
  rw[c4]
  exact P6 (vq,Cr LL c.Sheet.Pen.Band (D6 c.gaps c.ticks s) (E7 c.Sheet.Pen s.offset) (i+1)) (Mem.le_refl _) (.cons _ (.refl _)) rfl
 ·intro D gh l r
  obtain⟨vo,M_⟩:=gh
  replace r:M_=Cr LL c.Sheet.Pen.Band (D6 c.gaps c.ticks s) (E7 c.Sheet.Pen s.offset) (D6 c.gaps c.ticks s).length:=r
  subst r
  have a0:=JI c.gaps c.ticks s
  have b8:(Cr LL c.Sheet.Pen.Band (D6 c.gaps c.ticks s) (E7 c.Sheet.Pen s.offset) (D6 c.gaps c.ticks s).length).length≤34:=A5x a0 Y
  refine I8 (σ':=[(2,Pt b1 0),(3,Pt b2 0),(5,Pt u 0),(7,Pt w 0),(22,.pointer (some (pc))),(23,.agg [J s.column,J s.ago,J s.offset].toArray),(24,.func (.func 255) #[] E.toArray)]) (.cons rfl (.cons rfl (.cons rfl (.cons rfl (.cons rfl (.cons rfl (.cons rfl .nil))))))) ?_
  show WK _ _ D [blk w 150 [vo],A5 (vo) 155 (Cr LL c.Sheet.Pen.Band (D6 c.gaps c.ticks s) (E7 c.Sheet.Pen s.offset) (D6 c.gaps c.ticks s).length)] [(2,Pt b1 0),(3,Pt b2 0),(5,Pt u 0),(7,Pt w 0),(22,.pointer (some (pc))),(23,.agg [J s.column,J s.ago,J s.offset].toArray),(24,.func (.func 255) #[] E.toArray)] _
  refine P4<|E2<|q' 2 O<|b' 0 O O O<|U 4 O ?_
  refine E4 1 rfl rfl (by unfold C7;omega) (fun g0 d5 b5=>?_)
  exact A0 O O<|C2<|b5
 ·intro i m1 gh e0 hi r
  exact r.elim
 intro id i m1 gh e0 hi r
 exact r.elim
theorem A1L(m:Mem)(hpc:At m pc c){ix:Nat}(hmz:MapZ m ix (J 0) (fun s_:StateT=>J (AL c.L s_)))(hix:c.index.v= .map (some ix))(hch:ChN c c.L){zero:Int}(hz: -200≤zero∧zero≤200):Pure prog 58 #[.pointer (some pc),J zero] m (fun m' v=>∃r,v= .agg r.toArray∧Enc.rd m' r (TrackT.mk (BD c c.L zero))):=by
 refine have b4:=hch.ticks;have b5:=hch.len;F6 func58 O ntmps58 fun b9=>q' 2 O<|n' zeroValue79 O fun S=>U 4 O<|n' zeroValue79 O fun W=>U 4 O<|Bu 149 1<|q' 5 O ?_
 refine lp (G:=Nat×Value×List Value×Mem) (fun(k,vO,xO,mm)=>(c.ticks+1).toNat-k) (fun(k,vO,xO,mm)=>mm) (fun(k,vO,xO,mm)=>[row (vO) 149 1 (DU c c.L zero k).length (xO),blk W 79 [vO],blk S 79 [S0]]) (fun(k,vO,xO,mm)=>[(0,.pointer (some (pc))),(1,J zero),(4,Pt S 0),(5,Pt W 0),(6,J k)]) (fun(k,vO,xO,mm)=>k≤(c.ticks+1).toNat∧m.le mm∧RdL mm xO (DU c c.L zero k)) ((0,Value.slice none 0 0,[],m)) ?_ ?_
 ·exact⟨EF _,Mem.le_refl _,RdL.nil⟩
 rintro⟨k,vO,xO,mm⟩ Q
 conv=>enter [7];dsimp only
 conv=>enter [8];dsimp only
 try dsimp only at Q
 obtain⟨hk,F,g⟩:=Q
 replace hpc:=hpc.mono F
 replace hmz:=hmz.mono F
 have b6:(DU c c.L zero k).length=k:=B5 _ _
 refine q' 6 O<|f' O t'<|i' (Cc hpc) O<|c' (X.leq O O) (fun h5=>?_) fun h5=>?_
 ·refine U 8 O<|Bu 152 2<|q' 9 O<|f' O t'<|s' (ME hpc) O fun v7 o=>have c8:=o.le;l' o O<|U 4 O ?_
  refine lp (G:=Nat×Value×List Value×Mem) (fun(b,vS,xS,mn)=>c.L.length-b) (fun(b,vS,xS,mn)=>mn) (fun(b,vS,xS,mn)=>[row (vS) 152 2 (O6 c c.L zero ↑k b).length (xS),row (vO) 149 1 (DU c c.L zero k).length (xO),blk W 79 [vO],blk S 79 [S0]]) (fun(b,vS,xS,mn)=>[(0,.pointer (some (pc))),(1,J zero),(4,Pt S 0),(5,Pt W 0),(6,J k),(7,vS),(22,v7),(23,J c.L.length),(24,J b)]) (fun(b,vS,xS,mn)=>b≤c.L.length∧mm.le mn∧RdL mn xS (O6 c c.L zero ↑k b)) ((0,Value.slice none 0 0,[],mm)) ?_ ?_
  ·exact⟨EF _,Mem.le_refl _,RdL.nil⟩
  rintro⟨b,vS,xS,mn⟩ D
  conv=>enter [7];dsimp only
  conv=>enter [8];dsimp only
  try dsimp only at D
  obtain⟨c9,n,hxS⟩:=D
  replace hpc:=hpc.mono n
  replace hmz:=hmz.mono n
  replace g:=g.mono n
  replace o:=o.mono n
  have b7:(O6 c c.L zero ↑k b).length=b:=B5 _ _
  refine have P:=fun Y:b<c.L.length=>hch.st Y;q' 2 O<|c' (X.lss O O) (fun a0=>?_) fun a0=>?_
  ·refine U 10 O<|x' b o O O fun c0 H=>g' H O fun c1 I=>?_
   obtain rfl:=I
   refine n' zeroValue246 O fun c2=>w' 0 O O O<|U 3 O ?_
   have u:=P (by omega)
   refine q' 2 O<|a' 0 O O<|U 2 O<|C0 (T.call call115 rfl (A2N _ _ _ hpc _ (gt c.L b) rfl _ _ hch u hz)) (by decide) fun a1 E f K=>?_
   obtain⟨b0,R,d⟩:=K
   rw[←R]at d
   clear R b0
   refine have hpc:=hpc.mono f;have hmz:=hmz.mono f;have g:=g.mono f;have hxS:=hxS.mono f;have b8:=d.le;WL.x (V:=Value.agg [E,S0].toArray) (X.build zeroValue152 runUnderlying152 (A6U _ underlying152) rfl (by simp only[Instr.fill,D7 d.one];rfl)) (by decide) ?_
   refine n' zeroValue152 O fun c3=>w' 0 O O O<|U 8 O<|f' O t'<|i' (Cc hpc) O<|c' (X.lss O O) (fun a2=>?_) fun a2=>?_
   ·refine U 5 O<|a' 1 O O ?_
    refine C0 (T.call call116 rfl (A7s _ hpc hmz hix hch (s:=(gt c.L b)) rfl u)) (by decide) (fun a3 a4 l p=>?_)
    refine have g:=g.mono l;have hxS:=hxS.mono l;have d:=d.mono l;f' O t'<|G7 (C1 (k:=0) sizeOf150 rfl rfl rfl p.one (J' rfl))<|U 4 O<|a' 0 O O<|R0 (G6 Qw rfl rfl rfl (by decide)) (by decide) fun c4=>?_
    refine G2 (Ax (k:=2) (n':=((O6 c c.L zero ↑k b)++[(NodeT.mk (AP c ((gt c.L b)) ↑k zero) (Cq c c.L (gt c.L b)))]).length) Qw rfl rfl rfl rfl rfl (A4 d.one (A4 p.one C6)) (by simp) (by first|omega|(simp;omega)) (by first|omega|(simp;omega))) (by decide) (fun a5=>?_)
    refine have w:=RdL.snoc (a:=(NodeT.mk (AP c ((gt c.L b)) ↑k zero) (Cq c c.L (gt c.L b)))) hxS ⟨_,_,rfl,d,p⟩;U 9 O ?_
    have y:((O6 c c.L zero ↑k b)++[(NodeT.mk (AP c ((gt c.L b)) ↑k zero) (Cq c c.L (gt c.L b)))])=(O6 c c.L zero ↑k (b+1)):=(by unfold O6;rw[O9];unfold Ki;first|(rw[D' (by omega)];done)|(rw[A' (by omega)];done)|rfl)
    rw[y]
    rw[y]at w
    refine nx ((b+1,a5,xS++[E,a4],a3)) ?_ ?_
    ·exact⟨by omega,(Mem.le_trans n (Mem.le_trans f l)),w⟩
    (dsimp only;omega)
   refine U 7 O<|a' 0 O O<|R0 (G6 Qw rfl rfl rfl (by decide)) (by decide) fun c5=>?_
   refine G2 (Ax (k:=2) (n':=((O6 c c.L zero ↑k b)++[(NodeT.mk (AP c ((gt c.L b)) ↑k zero) ([]))]).length) Qw rfl rfl rfl rfl rfl (A4 d.one (A4 rfl C6)) (by simp) (by first|omega|(simp;omega)) (by first|omega|(simp;omega))) (by decide) (fun a6=>?_)
   refine have z:=RdL.snoc (a:=(NodeT.mk (AP c ((gt c.L b)) ↑k zero) ([]))) hxS ⟨_,_,rfl,d,.nil⟩;U 9 O ?_
   have A:((O6 c c.L zero ↑k b)++[(NodeT.mk (AP c ((gt c.L b)) ↑k zero) ([]))])=(O6 c c.L zero ↑k (b+1)):=(by unfold O6;rw[O9];unfold Ki;first|(rw[D' (by omega)];done)|(rw[A' (by omega)];done)|rfl)
   rw[A]
   rw[A]at z
   refine nx ((b+1,a6,xS++[E,S0],a1)) ?_ ?_
   ·exact⟨by omega,(Mem.le_trans n f),z⟩
   (dsimp only;omega)
  refine U 10 O<|f' O t'<|b' 2 O O O<|U 1 O ?_
  refine Ml 0 rfl rfl hxS (by first|(unfold O6;rw[B5];unfold C7;omega)|(unfold DU;rw[B5];unfold C7;omega)) (fun a7 q t=>?_)
  refine have g:=g.mono q;R0 (G6 B4u rfl (D7 t.one) rfl (by decide)) (by decide) fun c6=>?_
  refine G2 (Ax (k:=0) (n':=((DU c c.L zero k)++[O6 c c.L zero ↑k b]).length) B4u rfl rfl rfl rfl rfl (A4 t.one C6) (by simp) (by first|omega|(simp;omega)) (by first|omega|(simp;omega))) (by decide) (fun a8=>?_)
  refine have B:=RdL.snoc (a:=O6 c c.L zero ↑k b) g ⟨_,rfl,t⟩;f' O t' ?_
  refine E8 (k:=0) rfl (fun M=>?_)
  refine G7 (C1 (k:=1) sizeOf77 rfl rfl rfl M (J' rfl))<|U 9 O ?_
  have C:((DU c c.L zero k)++[O6 c c.L zero ↑k b])=(DU c c.L zero (k+1)):=(by unfold DU;rw[O9];rw[show b=c.L.length by omega])
  rw[C]
  rw[C]at B
  refine nx ((k+1,a8,xO++[vS],a7)) ?_ ?_
  ·exact⟨by omega,(Mem.le_trans F (Mem.le_trans n q)),B⟩
  (dsimp only;omega)
 refine U 10 O<|a' 1 O O ?_
 refine E8 (k:=0) rfl (fun b3=>?_)
 refine w' 2 O O O<|U 3 O ?_
 refine M7 0 rfl rfl g (by first|(unfold O6;rw[B5];unfold C7;omega)|(unfold DU;rw[B5];unfold C7;omega)) (fun c7 a9 N=>?_)
 exact Ad 1 O O O isAgg79 sizeOf79<|C2<|⟨_,rfl,⟨_,rfl,by(have Y:=N);rw[show k=(c.ticks+1).toNat by omega]at Y;exact Y⟩⟩
end Go.Proofs.T10
