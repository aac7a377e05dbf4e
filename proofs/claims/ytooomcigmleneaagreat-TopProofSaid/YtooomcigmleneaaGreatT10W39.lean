import Derived.Test.YtooomcigmleneaaGreatT10W38
set_option linter.all false
set_option maxHeartbeats 16000000
namespace Go.Proofs.S10
open Tryz Go Go.Kx Go.Proofs.T10
set_option maxRecDepth 20000
theorem A4W(fs:Array Field)(h:prog.underlying 289=some (.struct fs))(w:World):(fs.mapM fun f=>do pure (f.offset,←sizeOf f.type):Sem _).run prog w= .ok #[(0,1),(1,1),(2,1),(3,1),(4,1),(5,1),(6,1),(7,1),(8,4)] w:=by
 rw[underlying289]at h;cases h;simp[sizeOf58,sizeOf280,sizeOf282,sizeOf283,sizeOf284,sizeOf285,sizeOf286,sizeOf287]
def rgB(x:RegT):Prop:=(x.Sheets.length≤5000∧x.Reads.length≤5000∧x.Stations.length≤1000)∧ES x.Stations∧∀a∈x.Sheets,MP a
theorem B3N{b:BaseT}(h:MM b=0):b.Stations.length≤32∧ES b.Stations:=by
 have c:Pw b:=by
  unfold MM at h
  split at h
  ·assumption
  ·omega
 have a:=c.1.1
 exact⟨(Ef a).1,fun i hi=>by have d:=(CH a hi).2.1;omega⟩
theorem A7N{k:Int}{a:NoteT}(h:([k]:List Int).length=0∨∃i,i<([k]:List Int).length∧gt [k] i=a.Kind):a.Kind=k:=by
 rcases h with h|⟨i,h1,h2⟩
 ·simp at h
 ·have:i=0:=by simp at h1;omega
  subst this;exact h2.symm
theorem Gm{G:Prop}(h:G:=by exact⟨by omega,(by first|omega|(simp only[F',N',P',I'];omega))⟩):G:=h
theorem B4D(m:Mem)(cb:List Value)(b:BaseT)(hb:Enc.rd m cb b){v:Value}{l:List NoteT}(hl:Sl m v l)(hz:MM b=0)(hn:l.length≤400)(hk4m_:∀a,a∈l→a.Kind=4→0<b.Stations.length)(hsbm_:∀a,a∈l→Po a.Sheet):Pure prog 81 #[.agg cb.toArray,v] m (fun m' v=>∃r,∃x:RegT,v= .agg r.toArray∧Enc.rd m' r x∧rgB x):=by
 obtain⟨v1,rfl,j7⟩:=hb
 have s7:=j7.le
 obtain⟨q7,f9⟩:=B3N hz
 unfold ES at f9
 refine F6 func81 O ntmps81 fun r5=>q' 2 O<|o' O O fun b4=>Au (Cv (cs:=[v]) rfl (D7 hl.one)) (by decide) fun b5=>n' zeroValue58 O fun b6=>U 3 O<|fz (x:=b) 2 O O ⟨_,rfl,j7⟩ fun m7 i6 d1=>have hl:=hl.mono i6;fz (x:=l) 1 O O ⟨_,rfl,hl⟩ fun r6 g1 d=>have d1:=d1.mono g1;q' 1 O<|s' d O fun e0 e9=>?_
 have p6:=e9.le
 refine C0 (T.call call152 rfl (A6d _ e9)) (by decide) (fun g2 _ d2 E=>?_)
 obtain⟨b18,rfl,s⟩:=E
 replace d1:=d1.mono d2
 replace d:=d.mono d2
 replace s:MapN g2 b18:=s
 refine WL.to (Y4 NName (NoteV g2)) (by decide) (fun u_ m_ H_ Y=>?_)
 obtain⟨o,b20,rfl,rfl⟩:=Y
 replace o:=o.symm
 subst o
 refine WL.to (Y4 NName Q7) (by decide) (fun u_ m_ H_ Y=>?_)
 obtain⟨o,u,rfl,rfl⟩:=Y
 replace o:=o.symm
 subst o
 refine WL.to (Y4 NName (InPool (([]:List (Nat×Nat))) 0)) (by decide) (fun u_ m_ H_ Y=>?_)
 obtain⟨o,w,rfl,rfl⟩:=Y
 replace o:=o.symm
 subst o
 refine WL.to (Y4 NName (F9 Mark)) (by decide) (fun u_ m_ H_ Y=>?_)
 obtain⟨o,z,rfl,rfl⟩:=Y
 replace o:=o.symm
 subst o
 refine WL.to (Y4 NName (F9 NName)) (by decide) (fun u_ m_ H_ Y=>?_)
 obtain⟨o,B,rfl,rfl⟩:=Y
 replace o:=o.symm
 subst o
 refine WL.to (Y4 NName (F9 ReadT)) (by decide) (fun u_ m_ H_ Y=>?_)
 obtain⟨o,C,rfl,rfl⟩:=Y
 replace o:=o.symm
 subst o
 refine WL.to (Y4 NName Z2) (by decide) (fun u_ m_ H_ Y=>?_)
 obtain⟨o,D,rfl,rfl⟩:=Y
 replace o:=o.symm
 subst o
 refine WL.y (V:=Value.agg [.map (some b18),.map (some b20),.map (some u),.map (some w),.map (some z),.map (some B),.map (some C),.map (some D),S0,S0,S0,S0].toArray) (X.build zeroValue289 runUnderlying289 (A4W _ underlying289) rfl (by kernel_rfl)) ?_
 refine n' zeroValue289 O fun q=>w' 0 O O O<|U 3 O<|I5 NName 73<|q' 1 O<|f' O t'<|s' (Y3 d1) O fun e1 f8=>?_
 have p7:=f8.le
 refine C5 (H3 call84 rfl (A0s _ f8 (by omega) ‹_›)) (by decide) (fun r7 Es33 R b2 E=>?_)
 obtain⟨a4,rfl,F,j8⟩:=E
 refine have d:=d.mono b2;have s:=s.mono b2;f' O t'<|f' O t'<|G7 (C1 (k:=2) sizeOf47 rfl rfl rfl j8 (J' rfl))<|U 5 O<|s' d O fun e2 c2=>?_
 have p8:=c2.le
 refine C0 (M5 (α:=Int) (vals:=[J 1,J 3]) (L:=[1,3]) Y1 rfl (.cons rfl rfl (.cons rfl rfl .nil)) rfl rfl) (by decide) (fun r8 e3 a0 i7=>?_)
 replace d:=d.mono a0
 replace s:=s.mono a0
 replace F:=F.mono a0
 replace c2:=c2.mono a0
 refine C0 (T.call call153 rfl (KG _ c2 i7 (by omega))) (by decide) (fun r9 _ a5 E=>?_)
 obtain⟨d0,j9,rfl,n0,h7⟩:=E
 refine have d:=d.mono a5;have s:=s.mono a5;have F:=F.mono a5;U 3 O ?_
 refine IC (S:=Mem) (G:=Nat) (ps:=[28]) (n:=j9) (A:=Qy (fun a=>a∈l) ([1,3])) rfl call231 h7 (fun d3:Mem=>[row (R) 128 4 (b.Stations).length (a4),A5 (S0) 73 (([]:List NName)),blk q 289 [.map (some b18),.map (some b20),.map (some u),.map (some w),.map (some z),.map (some B),.map (some C),.map (some D),S0,S0,R,S0],mapE D NName Z2,mapE C NName (F9 ReadT),mapE B NName (F9 NName),mapE z NName (F9 Mark),mapE w NName (InPool (([]:List (Nat×Nat))) 0),mapE u NName Q7,mapE b20 NName (NoteV d3),blk b6 58 [S0,S0,S0,S0]]) (fun _ m_ d3=>d3.le m_) (fun _ _ _ _=>False) g2 rfl (Mem.le_trans b2 (Mem.le_trans a0 a5)) (fun _ _ _ _ o h_=>Mem.le_trans h_ o) (by simp) (fun m1 a1 h=>by obtain⟨c,x,rfl,_⟩:=h;rfl) (fun b_ a1 gh=>blk b_ 200 ((a1.getD 0 undef).cells.toList)::(fun d3:Mem=>[row (R) 128 4 (b.Stations).length (a4),A5 (S0) 73 (([]:List NName)),blk q 289 [.map (some b18),.map (some b20),.map (some u),.map (some w),.map (some z),.map (some B),.map (some C),.map (some D),S0,S0,R,S0],mapE D NName Z2,mapE C NName (F9 ReadT),mapE B NName (F9 NName),mapE z NName (F9 Mark),mapE w NName (InPool (([]:List (Nat×Nat))) 0),mapE u NName Q7,mapE b20 NName (NoteV d3),blk b6 58 [S0,S0,S0,S0]]) gh) (fun b_ a1=>(6,Pt b_ 0)::[(0,.agg [v1,J b.Wind.Fixed,J b.Wind.Each,J b.Term,J b.Ticks,J b.Clerks].toArray),(1,v),(2,Pt b4 0),(3,Pt b5 0),(4,Pt b6 0),(10,e0),(11,.map (some b18)),(12,.map (some b20)),(13,.map (some u)),(14,.map (some w)),(15,.map (some z)),(16,.map (some B)),(17,.map (some C)),(18,.map (some D)),(19,.agg [.map (some b18),.map (some b20),.map (some u),.map (some w),.map (some z),.map (some B),.map (some C),.map (some D),S0,S0,S0,S0].toArray),(5,Pt q 0),(20,.pointer (some (((⟨b4,0,none⟩:Addr)).add 0))),(21,e1),(22,R),(23,Pt q 8),(24,Pt q 10),(25,e2),(26,e3),(27,.func (.func 231) #[] d0.toArray)]) ?_ ?_ ?_ ?_ ?_
 ·intro lo B1 a3 gh a1 KK l5 i5 Q n1
  obtain⟨c_,g,h8,h9,k0,k1⟩:=i5
  have h5:a1=[.agg c_.toArray]:=(by have:=Sd Array.toList h8;simpa using this)
  subst h5
  obtain⟨s8,s9,t0,t1,rfl,k2,k3,k4,k5⟩:=h9
  have p9:=k2.le
  have q0:=k3.le
  have q1:=k4.le
  have q2:=k5.le
  refine qb ?_
  exact q' 1 O<|n' zeroValue200 O fun l6=>w' 0 O O O<|U 1 O<|I8 (.cons rfl (.cons rfl (.cons rfl (.cons rfl (.cons rfl (.cons rfl (.cons rfl (.cons rfl (.cons rfl (.cons rfl (.cons rfl (.cons rfl (.cons rfl (.cons rfl (.cons rfl (.cons rfl (.cons rfl (.cons rfl (.cons rfl (.cons rfl (.cons rfl (.cons rfl (.cons rfl (.cons rfl (.cons rfl .nil))))))))))))))))))))))))) (n1 l6)
 ·intro lo B1 i a3 gh a1 b_ l5 hi Q i5 c1
  replace d:=d.mono Q
  replace s:=s.mono Q
  replace F:=F.mono Q
  obtain⟨c_,g,h8,h9,k0,k1⟩:=i5
  have h5:a1=[.agg c_.toArray]:=(by have:=Sd Array.toList h8;simpa using this)
  subst h5
  obtain⟨k6,k7,k8,k9,rfl,a8,a9,b0,b1⟩:=h9
  have q3:=a8.le
  have q4:=a9.le
  have q5:=b0.le
  have q6:=b1.le
  show WK _ _ a3 [blk b_ 200 [J g.Clerk,J g.Num,J g.Clock,J g.Day,J g.Kind,J g.Station,J g.Week,J g.Sheet.Paper.Pitch,J g.Sheet.Paper.Height,J g.Sheet.Paper.Radius,J g.Sheet.Paper.Low,J g.Sheet.Paper.High,J g.Sheet.Paper.Columns,J g.Sheet.Paper.Along.Lo,J g.Sheet.Paper.Along.Hi,J g.Sheet.Paper.Across.Lo,J g.Sheet.Paper.Across.Hi,k6,k7,k8,k9,J g.Sheet.Pen.Band,J g.Sheet.Pen.Zero.Lo,J g.Sheet.Pen.Zero.Hi,J g.Sheet.Pen.Rate,J g.Mark.Column,J g.Mark.Ticks.Lo,J g.Mark.Ticks.Hi,J g.Read.Station,J g.Read.Week,J g.Read.Tick,J g.Read.Levels.Lo,J g.Read.Levels.Hi,J g.Height.Week,J g.Height.Metres.Lo,J g.Height.Metres.Hi,J g.Ref.Clerk,J g.Ref.Num],row (R) 128 4 (b.Stations).length (a4),A5 (S0) 73 (([]:List NName)),blk q 289 [.map (some b18),.map (some b20),.map (some u),.map (some w),.map (some z),.map (some B),.map (some C),.map (some D),S0,S0,R,S0],mapE D NName Z2,mapE C NName (F9 ReadT),mapE B NName (F9 NName),mapE z NName (F9 Mark),mapE w NName (InPool (([]:List (Nat×Nat))) 0),mapE u NName Q7,mapE b20 NName (NoteV gh),blk b6 58 [S0,S0,S0,S0]] [(6,Pt b_ 0),(0,.agg [v1,J b.Wind.Fixed,J b.Wind.Each,J b.Term,J b.Ticks,J b.Clerks].toArray),(1,v),(2,Pt b4 0),(3,Pt b5 0),(4,Pt b6 0),(10,e0),(11,.map (some b18)),(12,.map (some b20)),(13,.map (some u)),(14,.map (some w)),(15,.map (some z)),(16,.map (some B)),(17,.map (some C)),(18,.map (some D)),(19,.agg [.map (some b18),.map (some b20),.map (some u),.map (some w),.map (some z),.map (some B),.map (some C),.map (some D),S0,S0,S0,S0].toArray),(5,Pt q 0),(20,.pointer (some (((⟨b4,0,none⟩:Addr)).add 0))),(21,e1),(22,R),(23,Pt q 8),(24,Pt q 10),(25,e2),(26,e3),(27,.func (.func 231) #[] d0.toArray)] _
  refine WK.wk (H':=[blk b_ 200 [J g.Clerk,J g.Num,J g.Clock,J g.Day,J g.Kind,J g.Station,J g.Week,J g.Sheet.Paper.Pitch,J g.Sheet.Paper.Height,J g.Sheet.Paper.Radius,J g.Sheet.Paper.Low,J g.Sheet.Paper.High,J g.Sheet.Paper.Columns,J g.Sheet.Paper.Along.Lo,J g.Sheet.Paper.Along.Hi,J g.Sheet.Paper.Across.Lo,J g.Sheet.Paper.Across.Hi,k6,k7,k8,k9,J g.Sheet.Pen.Band,J g.Sheet.Pen.Zero.Lo,J g.Sheet.Pen.Zero.Hi,J g.Sheet.Pen.Rate,J g.Mark.Column,J g.Mark.Ticks.Lo,J g.Mark.Ticks.Hi,J g.Read.Station,J g.Read.Week,J g.Read.Tick,J g.Read.Levels.Lo,J g.Read.Levels.Hi,J g.Height.Week,J g.Height.Metres.Lo,J g.Height.Metres.Hi,J g.Ref.Clerk,J g.Ref.Num],row (R) 128 4 (b.Stations).length (a4),A5 (S0) 73 (([]:List NName)),blk q 289 [.map (some b18),.map (some b20),.map (some u),.map (some w),.map (some z),.map (some B),.map (some C),.map (some D),S0,S0,R,S0],mapE D NName Z2,mapE C NName (F9 ReadT),mapE B NName (F9 NName),mapE z NName (F9 Mark),mapE w NName (InPool (([]:List (Nat×Nat))) 0),mapE u NName Q7,mapE b20 NName (NoteV a3),blk b6 58 [S0,S0,S0,S0]]) (U1 (U1 (U1 (U1 (U1 (U1 (U1 (U1 (U1 (U1 (mapE.up (fun _ h_=>h_.mono c1) (.refl _)))))))))))) ?_
  refine qb ?_
  refine q' 4 O<|f' O t'<|b' 0 O O O<|c' (X.eql O O) (fun l7=>?_) fun l7=>?_
  ·exact U 4 O<|B9 7 [6] []<|Z O O (A.f O)<|Z O O (A.b 3 O O O)<|Z O O (L9 0 O O O)<|Z O O (X.call call154 rfl (J8 _ _ g ⟨_,_,_,_,rfl,a8,a9,b0,b1⟩))<|Z O O (A.f O)<|Z O O (J5 (k:=0) (vs:=[J g.Read.Station,J g.Read.Week,J g.Read.Tick,J g.Read.Levels.Lo,J g.Read.Levels.Hi]) isAgg196 sizeOf196 rfl rfl rfl rfl)<|Bl O O O (M2 (k:=(I0 g)) runUnderlying286 G5 rfl rfl rfl (show A7 _ 5=_ from rfl) ⟨g.Read,rfl⟩)<|V' 4 O<|P6 a3 (Mem.le_refl _) (.cons _ (.refl _)) (Mem.le_refl _)
  refine U 6 O<|B9 6 [5] []<|Z O O (A.f O)<|Z O O (A.b 3 O O O)<|Z O O (L9 0 O O O)<|Z O O (X.call call154 rfl (J8 _ _ g ⟨_,_,_,_,rfl,a8,a9,b0,b1⟩))<|Z O O (L9 0 O O O)<|Bl O O O (M2 (k:=(I0 g)) runUnderlying280 G5 rfl rfl rfl (show A7 _ 10=_ from rfl) ⟨_,g,rfl,⟨_,_,_,_,rfl,a8,a9,b0,b1⟩⟩)<|V' 1 O<|B9 10 [9] []<|Z O O (A.f O)<|Z O O (A.b 3 O O O)<|Z O O (L9 0 O O O)<|Z O O (X.call call154 rfl (J8 _ _ g ⟨_,_,_,_,rfl,a8,a9,b0,b1⟩))<|Z O O (A.f O)<|Z O O (A.b 0 O O O)<|Z O O (A.f O)<|Z O O (A.b 0 O O O)<|DW.x (V:=Value.agg [.pointer none,J g.Station,J g.Week].toArray) O O (X.build zeroValue296 runUnderlying296 (Gj _ underlying296) rfl rfl) (by decide) ?_
  exact Bl O O O (M2 (k:=(I0 g)) runUnderlying282 G5 rfl rfl rfl (show A7 _ 9=_ from rfl) ⟨_,_,rfl⟩)<|V' 1 O<|P6 a3 (Mem.le_refl _) (.cons _ (.refl _)) (Mem.le_refl _)
 ·intro i a3 gh Q hi c1
  refine have d:=d.mono Q;have s:=s.mono Q;have F:=F.mono Q;I8 (σ':=[(0,.agg [v1,J b.Wind.Fixed,J b.Wind.Each,J b.Term,J b.Ticks,J b.Clerks].toArray),(1,v),(2,Pt b4 0),(3,Pt b5 0),(4,Pt b6 0),(10,e0),(11,.map (some b18)),(12,.map (some b20)),(13,.map (some u)),(14,.map (some w)),(15,.map (some z)),(16,.map (some B)),(17,.map (some C)),(18,.map (some D)),(19,.agg [.map (some b18),.map (some b20),.map (some u),.map (some w),.map (some z),.map (some B),.map (some C),.map (some D),S0,S0,S0,S0].toArray),(5,Pt q 0),(20,.pointer (some (((⟨b4,0,none⟩:Addr)).add 0))),(21,e1),(22,R),(23,Pt q 8),(24,Pt q 10),(25,e2),(26,e3),(27,.func (.func 231) #[] d0.toArray)]) (.cons rfl (.cons rfl (.cons rfl (.cons rfl (.cons rfl (.cons rfl (.cons rfl (.cons rfl (.cons rfl (.cons rfl (.cons rfl (.cons rfl (.cons rfl (.cons rfl (.cons rfl (.cons rfl (.cons rfl (.cons rfl (.cons rfl (.cons rfl (.cons rfl (.cons rfl (.cons rfl (.cons rfl .nil)))))))))))))))))))))))) ?_
  show WK _ _ a3 [row (R) 128 4 (b.Stations).length (a4),A5 (S0) 73 (([]:List NName)),blk q 289 [.map (some b18),.map (some b20),.map (some u),.map (some w),.map (some z),.map (some B),.map (some C),.map (some D),S0,S0,R,S0],mapE D NName Z2,mapE C NName (F9 ReadT),mapE B NName (F9 NName),mapE z NName (F9 Mark),mapE w NName (InPool (([]:List (Nat×Nat))) 0),mapE u NName Q7,mapE b20 NName (NoteV gh),blk b6 58 [S0,S0,S0,S0]] [(0,.agg [v1,J b.Wind.Fixed,J b.Wind.Each,J b.Term,J b.Ticks,J b.Clerks].toArray),(1,v),(2,Pt b4 0),(3,Pt b5 0),(4,Pt b6 0),(10,e0),(11,.map (some b18)),(12,.map (some b20)),(13,.map (some u)),(14,.map (some w)),(15,.map (some z)),(16,.map (some B)),(17,.map (some C)),(18,.map (some D)),(19,.agg [.map (some b18),.map (some b20),.map (some u),.map (some w),.map (some z),.map (some B),.map (some C),.map (some D),S0,S0,S0,S0].toArray),(5,Pt q 0),(20,.pointer (some (((⟨b4,0,none⟩:Addr)).add 0))),(21,e1),(22,R),(23,Pt q 8),(24,Pt q 10),(25,e2),(26,e3),(27,.func (.func 231) #[] d0.toArray)] _
  refine P4<|E2<|q' 1 O ?_
  refine FJ 9 rfl rfl (fun i8 a6 d4=>?_)
  replace d:=d.mono a6
  replace s:=s.mono a6
  replace F:=F.mono a6
  replace d4:MapN i8 b20:=d4.up (fun _ h_=>h_.mono (Mem.le_trans c1 a6))
  refine Bu 76 24<|I5 ReadT 196<|A7g 73 2<|WK.p [12,5,10,9,8,7,6,5,2,1,1,1] ?_
  obtain⟨g0,i0⟩:∃g_:Fo,g_=⟨q,b18,b20,u,w,z,B,C,D,(Value.slice none 0 0),[],[],((Value.slice none 0 0)),[],R,a4,b.Stations,Value.slice none 0 0,[],0⟩:=⟨_,rfl⟩
  have h6:foP i8 g0 0 b.Stations.length:=(by subst i0;exact⟨s,d4,RdL.nil,F,⟨E' _,E' _,E' _,rfl,(by omega)⟩,f9,(fun a ha=>by cases ha)⟩)
  have m3:g0.b=q:=(by subst i0;rfl)
  refine A9s (H':=[blk b6 58 [S0,S0,S0,S0]]++Pk g0) (by subst i0;rfl)<|q' 1 O<|y' (X.makeFunc (by intro x hx;simp at hx;subst hx;all_goals exact⟨_,rfl⟩) rfl)<|U 6 O<|y' (Bv (by intro x hx;simp at hx;subst hx;all_goals exact⟨_,rfl⟩) rfl) ?_
  refine C0 (M5 (α:=Int) (vals:=[J 5]) (L:=[5]) Y1 rfl (.cons rfl rfl .nil) rfl rfl) (by decide) (fun s0 s1 d5 i9=>?_)
  replace d:=d.mono d5
  replace h6:=h6.mono d5
  refine Il (CP (A:=[blk b6 58 [S0,S0,S0,S0]]) call155 rfl rfl rfl (Fv _ (fb:=q) (N:=b.Stations.length) B6i d i9 hn h6 m3 (by omega) (fun _ _ _=>trivial))) (by decide) (fun s2 Es85 _ g3 E=>?_)
  obtain⟨rfl,t2,rfl,l0,d7⟩:=E
  refine have d:=d.mono g3;U 5 O<|y' (Bv (by intro x hx;simp at hx;subst hx;all_goals exact⟨_,rfl⟩) rfl) ?_
  refine C0 (M5 (α:=Int) (vals:=[J 2]) (L:=[2]) Y1 rfl (.cons rfl rfl .nil) rfl rfl) (by decide) (fun s3 s4 d6 hs93=>?_)
  replace d:=d.mono d6
  replace d7:=d7.mono d6
  refine Il (CP (A:=[blk b6 58 [S0,S0,S0,S0]]) call155 rfl rfl rfl (Fv _ (fb:=q) (N:=b.Stations.length) B5Q d hs93 hn d7 l0 (by omega) (fun _ _ _=>trivial))) (by decide) (fun s5 Es95 _ g4 E=>?_)
  obtain⟨rfl,t3,rfl,l1,d8⟩:=E
  refine have d:=d.mono g4;U 5 O<|y' (Bv (by intro x hx;simp at hx;subst hx;all_goals exact⟨_,rfl⟩) rfl) ?_
  refine C0 (M5 (α:=Int) (vals:=[J 6]) (L:=[6]) Y1 rfl (.cons rfl rfl .nil) rfl rfl) (by decide) (fun n3 n4 c3 hs103=>?_)
  replace d:=d.mono c3
  replace d8:=d8.mono c3
  refine Il (CP (A:=[blk b6 58 [S0,S0,S0,S0]]) call155 rfl rfl rfl (Fv _ (fb:=q) (N:=b.Stations.length) B6G d hs103 hn d8 l1 (by omega) (fun _ _ _=>trivial))) (by decide) (fun n5 Es105 _ e4 E=>?_)
  obtain⟨rfl,q8,rfl,i1,b8⟩:=E
  refine have d:=d.mono e4;U 5 O<|y' (Bv (by intro x hx;simp at hx;subst hx;all_goals exact⟨_,rfl⟩) rfl) ?_
  refine C0 (M5 (α:=Int) (vals:=[J 1]) (L:=[1]) Y1 rfl (.cons rfl rfl .nil) rfl rfl) (by decide) (fun n6 n7 c4 g5=>?_)
  replace d:=d.mono c4
  replace b8:=b8.mono c4
  refine Il (CP (A:=[blk b6 58 [S0,S0,S0,S0]]) call155 rfl rfl rfl (Fv _ (fb:=q) (N:=b.Stations.length) B6e d g5 hn b8 i1 (by omega) (fun a ha _=>hsbm_ a ha))) (by decide) (fun n8 Es115 _ e5 E=>?_)
  obtain⟨rfl,q9,rfl,i2,b9⟩:=E
  refine have d:=d.mono e5;U 5 O<|y' (Bv (by intro x hx;simp at hx;subst hx;all_goals exact⟨_,rfl⟩) rfl) ?_
  refine C0 (M5 (α:=Int) (vals:=[J 4]) (L:=[4]) Y1 rfl (.cons rfl rfl .nil) rfl rfl) (by decide) (fun n9 o0 c5 g6=>?_)
  replace d:=d.mono c5
  replace b9:=b9.mono c5
  refine Il (CP (A:=[blk b6 58 [S0,S0,S0,S0]]) call155 rfl rfl rfl (Fv _ (fb:=q) (N:=b.Stations.length) B6C d g6 hn b9 i2 (by omega) (fun a ha j0=>hk4m_ a ha (A7N j0)))) (by decide) (fun o1 Es125 _ e6 E=>?_)
  obtain⟨rfl,r0,rfl,i3,c0⟩:=E
  refine have d:=d.mono e6;U 5 O<|y' (X.makeFunc (by intro x hx;simp at hx;subst hx;all_goals exact⟨_,rfl⟩) rfl) ?_
  refine C0 (M5 (α:=Int) (vals:=[J 3]) (L:=[3]) Y1 rfl (.cons rfl rfl .nil) rfl rfl) (by decide) (fun o2 o3 c6 g7=>?_)
  replace d:=d.mono c6
  replace c0:=c0.mono c6
  refine Il (CP (A:=[blk b6 58 [S0,S0,S0,S0]]) call155 rfl rfl rfl (Fv _ (fb:=q) (N:=b.Stations.length) B5Z d g7 hn c0 i3 (by omega) (fun _ _ _=>trivial))) (by decide) (fun j1 Es135 _ e7 E=>?_)
  obtain⟨rfl,l2,rfl,d9,i4⟩:=E
  refine have d:=d.mono e7;U 4 O ?_
  obtain⟨fb,f0,f1,f2,f3,f4,f5,f6,f7,vS,xS,LS,vR,LR,vT,xT,LT,vC,ps,K⟩:=l2
  obtain⟨hM0,hM1,hxS,hxT,hbd,hts,hfi⟩:=i4
  dsimp only at d9 hbd hM0 hM1 hxS hxT hts hfi
  subst d9
  show WK _ _ j1 [blk b6 58 [S0,S0,S0,S0],blk fb 289 [.map (some f0),.map (some f1),.map (some f2),.map (some f3),.map (some f4),.map (some f5),.map (some f6),.map (some f7),vS,vR,vT,vC],mapE f2 NName Q7,mapE f3 NName (InPool ps K),mapE f4 NName (F9 Mark),mapE f5 NName (F9 NName),mapE f6 NName (F9 ReadT),mapE f7 NName Z2,row (vS) 76 24 (LS).length (xS),A5 (vR) 196 (LR),row (vT) 128 4 (LT).length (xT),A5 (vC) 73 (([]:List NName)),K7 73 2 ps] _ _
  refine q' 1 O<|s' d O fun j2 b3=>have m4:=b3.le;l' b3 O<|U 4 O ?_
  refine Di (fun(k:Nat) (vD:Value) (LD:List NName)=>l.length-k) (fun k vD LD=>[blk b6 58 [S0,S0,S0,S0],blk fb 289 [.map (some f0),.map (some f1),.map (some f2),.map (some f3),.map (some f4),.map (some f5),.map (some f6),.map (some f7),vS,vR,vT,vD],mapE f2 NName Q7,mapE f3 NName (InPool ps K),mapE f4 NName (F9 Mark),mapE f5 NName (F9 NName),mapE f6 NName (F9 ReadT),mapE f7 NName Z2,row (vS) 76 24 (LS).length (xS),A5 (vR) 196 (LR),row (vT) 128 4 (LT).length (xT),A5 (vD) 73 (LD),K7 73 2 ps]) (fun k vD LD=>[(4,Pt b6 0),(5,Pt fb 0),(77,j2),(78,J l.length),(79,J k)]) (fun k vD LD=>k≤l.length∧LD.length≤k) 0 vC [] ?_ ?_
  ·exact⟨EF _,E' _⟩
  rintro k vD LD ⟨j0,t4⟩
  refine N5 (fun c7=>?_)
  refine q' 2 O<|c' (X.lss O O) (fun j3=>?_) fun j3=>?_
  ·refine U 10 O<|x' k b3 O O fun o4 g8=>g' g8 O fun o5 g9=>?_
   obtain⟨r1,r2,r3,r4,rfl,H,I,M,P⟩:=g9
   refine have m5:=H.le;have m6:=I.le;have m8:=M.le;have m9:=P.le;n' zeroValue200 O fun o6=>w' 0 O O O<|U 5 O<|f' O t'<|b' 0 O O O<|c' (X.eql O O) (fun j4=>?_) fun j4=>?_
   ·refine U 4 O<|a' 0 O O ?_
    refine C5 (K5 [2,7] call162 O (S6 _ _ (gt l k) ⟨_,_,_,_,rfl,H,I,M,P⟩ hM0)) (by decide) (fun o7 s6 u_ t E=>?_)
    obtain⟨rfl,rfl⟩:=E
    refine have hxS:=hxS.mono t;have hxT:=hxT.mono t;have H:=H.mono t;have I:=I.mono t;have M:=M.mono t;have P:=P.mono t;U 3 O<|B9 5 [4] []<|Z O O (A.f O)<|Z O O (A.b 0 O O O)<|Z O O (L9 2 O O O)<|Z O O (X.call call154 rfl (J8 _ _ (gt l k) ⟨_,_,_,_,rfl,H,I,M,P⟩)) ?_
    refine BA rfl rfl rfl (V2 (k:=(I0 ((gt l k)))) runUnderlying287 G5 zeroValue4 rfl rfl (show A7 _ 1=_ from rfl) ⟨false,rfl⟩) (by decide) (fun o8 h0=>?_)
    obtain⟨l3,rfl⟩:=h0
    cases l3
    ·exact V' 10 O<|G9 c7 t<|WK.p [2,2,0,1,1,1,1,1]<|O7 (k+1) vD LD<|Gm
    refine V' 2 O<|B9 10 [5,6,9] [6,9]<|Z O O (A.f O)<|Z O O (A.f O)<|Z O O (A.b 0 O O O)<|Z O O (L9 2 O O O)<|Z O O (X.call call154 rfl (J8 _ _ (gt l k) ⟨_,_,_,_,rfl,H,I,M,P⟩))<|As O O O (G6 GB rfl rfl rfl (by decide)) (by decide) fun o9=>?_
    refine Ae rfl rfl rfl rfl (G1 (k:=12) (a:=I0 ((gt l k))) GB rfl rfl rfl rfl (by first|omega|(simp;done)|(simp;omega)) (by decide)) (by decide) (fun j5=>?_)
    exact Z O O (A.f O)<|Z O O (A.f O)<|B4 O O O O (T1 (k:=12) rfl trivial (D1 rfl rfl rfl) fun h1=>C1 (k:=0) sizeOf56 rfl rfl rfl h1 (J' rfl))<|V' 7 O<|G9 c7 t<|WK.p [2,2,0,1,1,1,1,1]<|O7 (k+1) j5 (LD++[I0 ((gt l k))])<|Gm
   refine U 6 O<|B9 5 [4] []<|Z O O (A.f O)<|Z O O (A.b 2 O O O)<|Z O O (L9 0 O O O)<|Z O O (X.call call154 rfl (J8 _ _ (gt l k) ⟨_,_,_,_,rfl,H,I,M,P⟩)) ?_
   refine BA rfl rfl rfl (V2 (k:=(I0 ((gt l k)))) runUnderlying287 G5 zeroValue4 rfl rfl (show A7 _ 8=_ from rfl) ⟨false,rfl⟩) (by decide) (fun p0 h2=>?_)
   obtain⟨l4,rfl⟩:=h2
   cases l4
   ·exact V' 10 O<|O7 (k+1) vD LD<|Gm
   refine V' 2 O<|B9 10 [5,6,9] [6,9]<|Z O O (A.f O)<|Z O O (A.f O)<|Z O O (A.b 2 O O O)<|Z O O (L9 0 O O O)<|Z O O (X.call call154 rfl (J8 _ _ (gt l k) ⟨_,_,_,_,rfl,H,I,M,P⟩))<|As O O O (G6 GB rfl rfl rfl (by decide)) (by decide) fun p1=>?_
   refine Ae rfl rfl rfl rfl (G1 (k:=12) (a:=I0 ((gt l k))) GB rfl rfl rfl rfl (by first|omega|(simp;done)|(simp;omega)) (by decide)) (by decide) (fun j6=>?_)
   exact Z O O (A.f O)<|Z O O (A.f O)<|B4 O O O O (T1 (k:=12) rfl trivial (D1 rfl rfl rfl) fun h3=>C1 (k:=2) sizeOf56 rfl rfl rfl h3 (J' rfl))<|V' 7 O<|O7 (k+1) j6 (LD++[I0 ((gt l k))])<|Gm
  refine U 11 O<|f' O t'<|y' (J5 (k:=1) (vs:=[vS,vR,vT,vD]) isAgg58 sizeOf58 rfl rfl rfl rfl) ?_
  refine E8 (k:=8) rfl (fun l8=>?_)
  refine E8 (k:=9) rfl (fun l9=>?_)
  refine E8 (k:=10) rfl (fun m0=>?_)
  refine E8 (k:=11) rfl (fun m2=>?_)
  refine w' 0 O O O<|U 3 O ?_
  refine M7 8 rfl rfl hxS (by unfold C7;omega) (fun p2 e8 W=>?_)
  replace hxT:=hxT.mono e8
  refine E4 8 rfl rfl (by unfold C7;omega) (fun p3 c8 a2=>?_)
  replace hxT:=hxT.mono c8
  replace W:=W.mono c8
  refine M7 8 rfl rfl hxT (by unfold C7;omega) (fun p4 c9 b7=>?_)
  replace W:=W.mono c9
  replace a2:=a2.mono c9
  refine E4 8 rfl rfl (by unfold C7;omega) (fun p5 a7 h4=>?_)
  exact have W:=W.mono a7;have a2:=a2.mono a7;have b7:=b7.mono a7;Ad 0 O O O isAgg58 sizeOf58<|C2<|⟨_,((RegT.mk (LS) (LR) (LT) (LD))),rfl,⟨_,_,_,_,rfl,W,a2,b7,h4⟩,⟨(by(try dsimp only);omega),(by(try dsimp only);omega),(by(try dsimp only);omega)⟩,hts,hfi⟩
 ·intro i m1 gh n2 hi c1
  exact c1.elim
 intro id i m1 gh n2 hi c1
 exact c1.elim
theorem B7F:rgB (RegT.mk [] [] [] []):=⟨⟨EF _,EF _,EF _⟩,fun i hi=>by simp at hi,fun a b=>by cases b⟩
theorem B2R{s:Sheet}(h:OD s):Po s:=by
 have a:=h.1
 unfold Po;omega
theorem A7B(m:Mem)(cb:List Value)(b:BaseT)(hb:Enc.rd m cb b)(vl:Value)(l:List NoteT)(hl:Sl m vl l)(hfl_:A3z l):Pure prog 36 #[.agg cb.toArray,vl] m (fun m' v=>∃(r0:List Value) (x0:RegT) (z1:Int),v= .tuple #[.agg r0.toArray,J z1]∧Enc.rd m' r0 x0∧rgB x0∧(z1=0→MM b=0)):=by
 obtain⟨v1,rfl,A⟩:=hb
 refine have a4:=A.le;have ll:=hl.le;F6 func36 O ntmps36 fun S=>q' 2 O<|o' O O fun b4=>n' zeroValue58 O fun b5=>U 5 O<|fz (x:=b) 1 O O ⟨_,rfl,A⟩ fun m6 t g=>have hl:=hl.mono t;q' 1 O<|g' g O fun c9 u=>?_
 obtain⟨a5,rfl,d⟩:=u
 refine have K:=d.le;U 1 O ?_
 refine C0 (M5 (α:=List NoteT) (vals:=[vl]) (L:=[l]) B6K rfl (.cons (D7 hl.one) ⟨_,rfl,hl⟩ .nil) rfl rfl) (by decide) (fun W Y c w=>?_)
 refine have hl:=hl.mono c;have g:=g.mono c;have d:=d.mono c;C0 (T.call call80 rfl (B2X _ _ b ⟨_,rfl,d⟩ _ _ w)) (by decide) fun a0 a1 k y=>?_
 obtain⟨a6,rfl,B⟩:=y
 refine have hl:=hl.mono k;have g:=g.mono k;U 6 O<|e' (X.neq O O) (fun E=>?_) fun E=>?_
 ·refine U 5 O<|WL.x (V:=Value.agg [S0,S0,S0,S0].toArray) (X.build zeroValue58 runUnderlying58 (FZ _ underlying58) rfl rfl) (by decide) ?_
  exact U 1 O<|w' 0 O O O<|U 5 O<|E6 0 O O O O isAgg58 sizeOf58<|C2<|⟨_,((RegT.mk ([]) ([]) ([]) ([]))),_,rfl,⟨_,_,_,_,rfl,.nil,.nil,.nil,.nil⟩,⟨B7F,fun h_=>by first|(exfalso;omega)|exact f.1⟩⟩
 refine U 6 O ?_
 have f:MM b=0∧l.length≤400∧∀q,q<l.length→(gt l q).Kind=4→0<b.Stations.length:=(by have h1_:=B (by omega);exact⟨h1_.1,h1_.2 0 (O' _)⟩)
 refine q' 1 O<|g' g O fun a2 z=>?_
 obtain⟨a7,rfl,n⟩:=z
 refine have M:=n.le;U 1 O ?_
 refine C0 (T.call call81 rfl (B4D _ _ b ⟨_,rfl,n⟩ hl (f.1) (by omega) (fun a F=>by obtain⟨i,hi,rfl⟩:=Z6 F;exact f.2.2 i hi) (fun a F=>by obtain⟨i,hi,rfl⟩:=Z6 F;exact B2R (hfl_.1 i hi)))) (by decide) (fun a3 _ G H=>?_)
 obtain⟨a8,I,rfl,C,D⟩:=H
 obtain⟨a9,b0,b1,b2,rfl,o,p,r,s⟩:=C
 exact have N:=o.le;have P:=p.le;have Q:=r.le;have R:=s.le;w' 0 O O O<|U 4 O<|E6 0 O O O O isAgg58 sizeOf58<|C2<|⟨_,I,_,rfl,⟨_,_,_,_,rfl,o,p,r,s⟩,⟨D,fun h_=>by first|(exfalso;omega)|exact f.1⟩⟩
end Go.Proofs.S10
