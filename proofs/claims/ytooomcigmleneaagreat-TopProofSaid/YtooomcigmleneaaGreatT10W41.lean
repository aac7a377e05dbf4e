import Derived.Test.YtooomcigmleneaaGreatT10W22
import Derived.Test.YtooomcigmleneaaGreatT10PWk
set_option linter.all false
set_option maxHeartbeats 8000000
namespace Go.Proofs.T10
open Tryz Go Go.Kx
set_option maxRecDepth 20000
def ChB(m:Mem)(c:Chart)(vl:Value)(ix:Nat)(cs:List Value):Prop:=∃v10 v11 v12 v13 v18 v19 v21 v22 v25:Value,cs=[J c.Sheet.Paper.Pitch,J c.Sheet.Paper.Height,J c.Sheet.Paper.Radius,J c.Sheet.Paper.Low,J c.Sheet.Paper.High,J c.Sheet.Paper.Columns,J c.Sheet.Paper.Along.Lo,J c.Sheet.Paper.Along.Hi,J c.Sheet.Paper.Across.Lo,J c.Sheet.Paper.Across.Hi,v10,v11,v12,v13,J c.Sheet.Pen.Band,J c.Sheet.Pen.Zero.Lo,J c.Sheet.Pen.Zero.Hi,J c.Sheet.Pen.Rate,v18,v19,J c.ticks,v21,v22,vl,.map (some ix),v25]∧Sl m v10 c.Sheet.Trace∧Sl m v11 c.Sheet.Blots∧Sl m v12 c.Sheet.Drum.Rates∧Sl m v13 c.Sheet.Drum.Stops∧Sl m v18 c.marks∧Sl m v19 c.reads∧Sl m v21 c.ink∧Sl m v22 c.gaps∧Sl m v25 c.zeroes
theorem B2K(m:Mem){cw cf:List Value}{w:WeekT}{f:FiledT}(hw:Enc.rd m cw w)(hf:Enc.rd m cf f)(station:Int)(hpe:M9 f.Sheet.Pen)(hrl:w.Reads.length≤1000)(hdl:f.Sheet.Drum.Rates.length≤1000):Mut prog 40 #[.agg cw.toArray,.agg cf.toArray,J station] m [] (fun m' Es u=>∃(b ix:Nat) (cs:List Value),u=Pt b 0∧Es=[blk b 218 cs,Be ix (J 0) (fun s_:StateT=>J (AL [] s_))]∧ChB m' (JF w f station (RawV.mk (.map (some ix)) rfl)) (S0) ix cs):=by
 obtain⟨v1,v3,v5,rfl,d2,d3,d4⟩:=hw
 have i5:=d2.le
 have i6:=d3.le
 have i7:=d4.le
 obtain⟨i8,i9,j0,j1,j2,j3,rfl,K,L,M,N,P,Q⟩:=hf
 have f1:=K.le
 have f2:=L.le
 have f3:=M.le
 have f4:=N.le
 have f5:=P.le
 have f6:=Q.le
 have c6:=hpe
 unfold M9 at c6
 refine G3 func40 O ntmps40 fun g8=>q' 2 O<|o' O O fun g9=>o' O O fun h0=>U 4 O<|fz (x:=w) 1 O O ⟨_,_,_,rfl,d2,d3,d4⟩ fun h1 B H=>have K:=K.mono B;have L:=L.mono B;have M:=M.mono B;have N:=N.mono B;have P:=P.mono B;have Q:=Q.mono B;fz (x:=f) 0 O O ⟨_,_,_,_,_,_,rfl,K,L,M,N,P,Q⟩ fun h2 a7 a3=>have H:=H.mono a7;q' 1 O<|f' O t'<|g' (CE a3) O fun h3 b5=>?_
 obtain⟨Y,a0,R,S,rfl,g,n,c,d⟩:=b5
 refine have f7:=g.le;have f8:=n.le;have f9:=c.le;have g0:=d.le;f' O t'<|s' (Gw a3) O fun a1 o=>have g1:=o.le;f' O t'<|have c7:=Aw (Cj H);f' O t'<|i' c7 O ?_
 refine WL.to (A2K StateT (J 0)) (by decide) (fun v_ m_ H_ d8=>?_)
 obtain⟨e5,E,rfl,rfl⟩:=d8
 rw[e5]
 refine WL.y (V:=Value.agg [J f.Sheet.Paper.Pitch,J f.Sheet.Paper.Height,J f.Sheet.Paper.Radius,J f.Sheet.Paper.Low,J f.Sheet.Paper.High,J f.Sheet.Paper.Columns,J f.Sheet.Paper.Along.Lo,J f.Sheet.Paper.Along.Hi,J f.Sheet.Paper.Across.Lo,J f.Sheet.Paper.Across.Hi,Y,a0,R,S,J f.Sheet.Pen.Band,J f.Sheet.Pen.Zero.Lo,J f.Sheet.Pen.Zero.Hi,J f.Sheet.Pen.Rate,a1,S0,J w.Base.Ticks,S0,S0,S0,.map (some E),S0].toArray) (X.build zeroValue218 runUnderlying218 (A5H _ underlying218) rfl (by simp only[Instr.fill,D7 o.one,D7 g.one,D7 n.one,D7 c.one,D7 d.one];kernel_rfl)) ?_
 refine o' O O fun F=>U 5 O<|I5 ReadT 196<|I5 Span 23<|I5 Int 3<|q' 1 O<|f' O t'<|s' (In H) O fun d9 W=>have g2:=W.le;l' W O<|U 4 O ?_
 refine S5 (fun(k:Nat) (va:Value)=>w.Reads.length-k) (fun k va=>[A5 (((S0))) 3 (([]:List Int)),A5 ((S0)) 23 (([]:List Span)),A5 (va) 196 (P8 w.Reads station k),blk F 218 [J f.Sheet.Paper.Pitch,J f.Sheet.Paper.Height,J f.Sheet.Paper.Radius,J f.Sheet.Paper.Low,J f.Sheet.Paper.High,J f.Sheet.Paper.Columns,J f.Sheet.Paper.Along.Lo,J f.Sheet.Paper.Along.Hi,J f.Sheet.Paper.Across.Lo,J f.Sheet.Paper.Across.Hi,Y,a0,R,S,J f.Sheet.Pen.Band,J f.Sheet.Pen.Zero.Lo,J f.Sheet.Pen.Zero.Hi,J f.Sheet.Pen.Rate,a1,va,J w.Base.Ticks,S0,(S0),S0,.map (some E),((S0))],Be E (J 0) (fun s_:StateT=>J (AL ([]) s_))]) (fun k va=>[(2,J station),(7,Pt F 0),(25,d9),(26,J w.Reads.length),(27,J k)]) (fun k va=>k≤w.Reads.length) 0 (Value.slice none 0 0) ?_ ?_
 ·exact EF _
 rintro k va a5
 try dsimp only at a5
 have hk:=a5
 refine N5 (fun I=>?_)
 refine have g3:=Da (l:=w.Reads) (st:=station) k;q' 2 O<|c' (X.lss O O) (fun e0=>?_) fun e0=>?_
 ·refine U 10 O<|x' k W O O fun h4 b6=>g' b6 O fun h5 b7=>?_
  obtain rfl:=b7
  refine n' zeroValue196 O fun h6=>w' 0 O O O<|U 3 O<|fz (x:=gt w.Reads k) 0 O O O fun h7 t a4=>have g:=g.mono t;have n:=n.mono t;have c:=c.mono t;have d:=d.mono t;have o:=o.mono t;q' 1 O<|f' O t'<|i' (DI a4) O<|U 1 O<|c' (X.eql O O) (fun e1=>?_) fun e1=>?_
  ·refine U 3 O<|B9 11 [6,7,10] [7,10]<|U' 3 O<|Z O O (A.f O)<|Z O O (A.b 3 O O O)<|G' a4 O O O fun h8 b8=>?_
   obtain rfl:=b8
   refine As rfl rfl rfl (G6 Ot rfl rfl rfl (by decide)) (by decide) fun h9=>?_
   refine Ae rfl rfl rfl rfl (G1 (k:=2) (a:=gt w.Reads k) Ot rfl rfl rfl rfl (by first|omega|(simp;done)|(simp;omega)) (by decide)) (by decide) (fun e2=>?_)
   refine U' 1 O<|Z O O (A.f O)<|B4 O O O O (T1 (k:=2) rfl trivial (D1 rfl rfl rfl) fun b9=>C1 (k:=3) sizeOf55 rfl rfl rfl b9 (J' rfl))<|V' 7 O<|G9 I t ?_
   have c8:((P8 w.Reads station k)++[gt w.Reads k])=(P8 w.Reads station (k+1)):=(by first|exact Nl ‹_›|exact Qb ‹_›)
   rw[c8]
   exact K2 (k+1) e2<|by omega
  refine U 11 O<|G9 I t ?_
  have c9:(P8 w.Reads station k)=(P8 w.Reads station (k+1)):=(by first|exact Nl ‹_›|exact Qb ‹_›)
  rw[c9]
  exact K2 (k+1) va<|by omega
 refine U 10 O ?_
 have d0:(P8 w.Reads station k)=(P8 w.Reads station w.Reads.length):=(by rw[show k=w.Reads.length by omega])
 rw[d0]
 refine q' 4 O<|f' O t'<|y' (J5 (k:=3) (vs:=[J f.Sheet.Paper.Pitch,J f.Sheet.Paper.Height,J f.Sheet.Paper.Radius,J f.Sheet.Paper.Low,J f.Sheet.Paper.High,J f.Sheet.Paper.Columns,J f.Sheet.Paper.Along.Lo,J f.Sheet.Paper.Along.Hi,J f.Sheet.Paper.Across.Lo,J f.Sheet.Paper.Across.Hi,Y,a0,R,S,J f.Sheet.Pen.Band,J f.Sheet.Pen.Zero.Lo,J f.Sheet.Pen.Zero.Hi,J f.Sheet.Pen.Rate]) isAgg35 sizeOf35 rfl rfl rfl rfl)<|C0 (T.call call95 rfl (B0M _ _ f.Sheet ⟨_,_,_,_,rfl,g,n,c,d⟩)) (by decide) fun i0 i1 C c0=>?_
 obtain⟨j4,rfl,d5⟩:=c0
 replace g:=g.mono C
 replace n:=n.mono C
 replace c:=c.mono C
 replace d:=d.mono C
 replace o:=o.mono C
 obtain⟨d6,rfl,r⟩:=d5
 refine have g4:=r.le;y' (Rv runUnderlying104 rfl sizeOf67 rfl isAgg67 rfl)<|U 1 O<|f' O t'<|G7 (C1 (k:=3) sizeOf67 rfl rfl rfl r.one (J' rfl))<|U 7 O<|f' O t'<|f' O t'<|f' O t'<|b' 3 O O O<|l' c O<|U 4 O ?_
 refine S5 (fun(i:Nat) (vb:Value)=>f.Sheet.Drum.Rates.length-i) (fun i vb=>[A5 (((S0))) 3 (([]:List Int)),A5 (vb) 23 (Af f.Sheet.Drum i),A5 (va) 196 (P8 w.Reads station w.Reads.length),blk F 218 [J f.Sheet.Paper.Pitch,J f.Sheet.Paper.Height,J f.Sheet.Paper.Radius,J f.Sheet.Paper.Low,J f.Sheet.Paper.High,J f.Sheet.Paper.Columns,J f.Sheet.Paper.Along.Lo,J f.Sheet.Paper.Along.Hi,J f.Sheet.Paper.Across.Lo,J f.Sheet.Paper.Across.Hi,Y,a0,R,S,J f.Sheet.Pen.Band,J f.Sheet.Pen.Zero.Lo,J f.Sheet.Pen.Zero.Hi,J f.Sheet.Pen.Rate,a1,va,J w.Base.Ticks,d6,vb,S0,.map (some E),((S0))],Be E (J 0) (fun s_:StateT=>J (AL ([]) s_))]) (fun i vb=>[(7,Pt F 0),(61,J f.Sheet.Drum.Rates.length),(62,J i)]) (fun i vb=>i≤f.Sheet.Drum.Rates.length) 0 (Value.slice none 0 0) ?_ ?_
 ·exact EF _
 rintro i vb a6
 try dsimp only at a6
 have hi:=a6
 refine N5 (fun a2=>?_)
 have g5:(Af f.Sheet.Drum i).length=i:=B5 _ _
 refine q' 2 O<|c' (X.lss O O) (fun e3=>?_) fun e3=>?_
 ·refine U 18 O<|f' O t'<|f' O t'<|y' (J5 (k:=3) (vs:=[R,S]) isAgg31 sizeOf31 rfl rfl rfl rfl)<|U 1 O<|y' (X.call call96 rfl (B5M _ _ f.Sheet.Drum ⟨_,_,rfl,c,d⟩ _))<|U 3 O<|n' zeroValue23 O fun i2=>w' 0 O O O<|U 3 O<|fz (α:=Span) (x:=(DA f.Sheet.Drum ↑i).1) 0 O O O fun i3 v c1=>have g:=g.mono v;have n:=n.mono v;have c:=c.mono v;have d:=d.mono v;have o:=o.mono v;have r:=r.mono v;B9 11 [6,7,10] [7,10]<|U' 3 O<|Z O O (A.f O)<|Z O O (A.b 3 O O O)<|G' c1 O O O fun i4 c2=>?_
  obtain rfl:=c2
  refine As rfl rfl rfl (G6 K9 rfl rfl rfl (by decide)) (by decide) fun e6=>?_
  refine Ae rfl rfl rfl rfl (G1 (k:=1) (a:=(DA f.Sheet.Drum ↑i).1) K9 rfl rfl rfl rfl (by first|omega|(simp;done)|(simp;omega)) (by decide)) (by decide) (fun c3=>?_)
  refine U' 1 O<|Z O O (A.f O)<|B4 O O O O (T1 (k:=1) rfl trivial (D1 rfl rfl rfl) fun a8=>C1 (k:=3) sizeOf28 rfl rfl rfl a8 (J' rfl))<|V' 7 O<|G9 a2 v ?_
  have b1:((Af f.Sheet.Drum i)++[(DA f.Sheet.Drum ↑i).1])=(Af f.Sheet.Drum (i+1)):=(O9 _ _).symm
  rw[b1]
  exact K2 (i+1) c3<|by omega
 refine U 11 O ?_
 have b2:(Af f.Sheet.Drum i)=(Af f.Sheet.Drum f.Sheet.Drum.Rates.length):=(by rw[show i=f.Sheet.Drum.Rates.length by omega])
 rw[b2]
 refine q' 3 O<|f' O t'<|f' O t'<|f' O t'<|f' O t'<|b' 3 O O O<|U 4 O ?_
 refine Di (fun(z:Nat) (vc:Value) (zi:Int)=>AQ f.Sheet.Pen-z) (fun z vc zi=>[A5 (vc) 3 (GF f.Sheet.Pen z),A5 (vb) 23 (Af f.Sheet.Drum f.Sheet.Drum.Rates.length),A5 (va) 196 (P8 w.Reads station w.Reads.length),blk F 218 [J f.Sheet.Paper.Pitch,J f.Sheet.Paper.Height,J f.Sheet.Paper.Radius,J f.Sheet.Paper.Low,J f.Sheet.Paper.High,J f.Sheet.Paper.Columns,J f.Sheet.Paper.Along.Lo,J f.Sheet.Paper.Along.Hi,J f.Sheet.Paper.Across.Lo,J f.Sheet.Paper.Across.Hi,Y,a0,R,S,J f.Sheet.Pen.Band,J f.Sheet.Pen.Zero.Lo,J f.Sheet.Pen.Zero.Hi,J f.Sheet.Pen.Rate,a1,va,J w.Base.Ticks,d6,vb,S0,.map (some E),vc],Be E (J 0) (fun s_:StateT=>J (AL ([]) s_))]) (fun z vc zi=>[(7,Pt F 0),(13,J zi)]) (fun z vc zi=>z≤AQ f.Sheet.Pen∧zi=f.Sheet.Pen.Zero.Lo+↑z) 0 (Value.slice none 0 0) f.Sheet.Pen.Zero.Lo ?_ ?_
 ·exact⟨EF _,by simp⟩
 rintro z vc zi ⟨hz,d7⟩
 have g6:(GF f.Sheet.Pen z).length=z:=B5 _ _
 have g7:AQ f.Sheet.Pen≤1000:=(by unfold AQ;omega)
 refine q' 2 O ?_
 subst d7
 refine q' 4 O<|f' O t'<|f' O t'<|f' O t'<|f' O t'<|b' 3 O O O<|c' (X.leq O O) (fun c4=>?_) fun c4=>?_
 ·refine U 11 O<|f' O t'<|b' 3 O O O<|U 1 O<|R0 (G6 Y1 rfl rfl rfl (by decide)) (by decide) fun e7=>?_
  refine G2 (G1 (k:=0) (a:=(f.Sheet.Pen.Zero.Lo+↑z:Int)) Y1 rfl rfl rfl rfl (by first|omega|(simp;done)|(simp;omega)) (by decide)) (by decide) (fun c5=>?_)
  refine U 1 O<|f' O t' ?_
  refine E8 (k:=0) rfl (fun a9=>?_)
  refine G7 (C1 (k:=3) sizeOf27 rfl rfl rfl a9 (J' rfl))<|U 9 O ?_
  have b3:((GF f.Sheet.Pen z)++[(f.Sheet.Pen.Zero.Lo+↑z:Int)])=(GF f.Sheet.Pen (z+1)):=(O9 _ _).symm
  rw[b3]
  refine O7 (z+1) c5 ((f.Sheet.Pen.Zero.Lo+↑z)+1) ?_ ?_
  ·exact⟨by unfold AQ at *; omega,by omega⟩
  ((try dsimp only);unfold AQ at *; omega)
 refine U 9 O ?_
 have d1:z=AQ f.Sheet.Pen:=(by unfold AQ at *; omega)
 refine E4 2 rfl rfl (by first|(have:=Da (l:=w.Reads) (st:=station) w.Reads.length;unfold C7;omega)|(unfold Af;rw[B5];unfold C7;omega)|(unfold GF AQ;rw[B5];unfold C7;omega)) (fun e8 s D=>?_)
 replace g:=g.mono s
 replace n:=n.mono s
 replace c:=c.mono s
 replace d:=d.mono s
 replace o:=o.mono s
 replace r:=r.mono s
 refine E4 1 rfl rfl (by first|(have:=Da (l:=w.Reads) (st:=station) w.Reads.length;unfold C7;omega)|(unfold Af;rw[B5];unfold C7;omega)|(unfold GF AQ;rw[B5];unfold C7;omega)) (fun e9 q G=>?_)
 replace g:=g.mono q
 replace n:=n.mono q
 replace c:=c.mono q
 replace d:=d.mono q
 replace o:=o.mono q
 replace r:=r.mono q
 replace D:=D.mono q
 have b4:(GF f.Sheet.Pen z)=(GF f.Sheet.Pen (AQ f.Sheet.Pen)):=(by rw[d1])
 rw[b4]
 refine E4 0 rfl rfl (by first|(have:=Da (l:=w.Reads) (st:=station) w.Reads.length;unfold C7;omega)|(unfold Af;rw[B5];unfold C7;omega)|(unfold GF AQ;rw[B5];unfold C7;omega)) (fun f0 p b0=>?_)
 refine have g:=g.mono p;have n:=n.mono p;have c:=c.mono p;have d:=d.mono p;have o:=o.mono p;have r:=r.mono p;have D:=D.mono p;have G:=G.mono p;q' 6 O ?_
 refine A0 rfl rfl (fun w' e4=>B3 (e4.weaken (.cons_cons _ (.cons_cons _ .slnil))) ?_)
 exact⟨F,E,_,rfl,rfl,⟨_,_,_,_,_,_,_,_,_,rfl,g,n,c,d,o,D,r,G,b0⟩⟩
theorem Hr(m:Mem)(cw:List Value)(w:WeekT)(hw:Enc.rd m cw w)(i:Int):Exact prog 106 #[.agg cw.toArray,J i] m (.bool (decide (0≤i∧i<(w.Sheets.length:Int)))):=by
 obtain⟨u,v,y,rfl,c,d,f⟩:=hw
 refine have r:=c.le;have s:=d.le;have t:=f.le;D4 func106 O ntmps106 fun n=>q' 2 O<|o' O O fun o=>U 4 O<|fz (x:=w) 0 O O ⟨_,_,_,rfl,c,d,f⟩ fun p g b=>q' 2 O<|c' (X.geq O O) (fun k=>?_) fun k=>?_
 ·refine U 4 O<|f' O t'<|U 1 O<|s' (X7 b) O fun q a=>have l:=a.le;U 1 O<|l' a O<|U 7 O<|A0 O O<|A8 ?_
  first|exact D5 (by omega)|exact B2 (by omega)|exact D8 (by omega)
 refine U 11 O<|A0 O O<|A8 ?_
 first|exact D5 (by omega)|exact B2 (by omega)|exact D8 (by omega)
theorem RB(m:Mem):Exact prog 47 #[] m (.bool true):=by
 refine D4 func47 O ntmps47 fun a=>q' 11 O<|A0 O O<|A8 ?_
 first|rfl|(simp[*];done)
theorem HY{G:Prop}(h:G:=by first|exact B0 (by unfold X9;rw[D' ‹_›])|exact B0 (by unfold X9;rw[A' ‹_›,D' ‹_›])|exact B0 (by unfold X9;rw[A' ‹_›,A' ‹_›])):G:=h
theorem OH(m:Mem)(pc:Addr)(c:Chart)(hc:At m pc c)(col:Int)(hcol: -1≤col∧col≤(c.gaps.length:Int)):Exact prog 253 #[.pointer (some (pc)),J col] m (J (X9 c.gaps c.ticks col)):=by
 refine D4 func253 O ntmps253 fun k=>q' 14 O<|c' (X.eql O O) (fun l=>?_) fun l=>?_
 ·exact U 12 O<|A0 O O<|A8<|HY
 refine U 8 O<|f' O t'<|s' (V0 hc) O fun q a=>have p:=a.le;l' a O<|c' (X.eql O O) (fun n=>?_) fun n=>?_
 ·exact U 12 O<|A0 O O<|A8<|HY
 exact U 8 O<|B9 14 [] []<|U' 2 O<|Z O O (A.f O)<|S' (V0 hc) O O O fun r b=>have g:=b.le;U' 1 O<|J0 O O (BV runUnderlying28 sizeOf23 rfl rfl b (by omega) (by omega)) (by decide) fun o d=>Z O O (A.f O)<|Z O O (A.i O (J7 d))<|U' 2 O<|Z O O (A.f O)<|Z O O (A.i O (Cc hc))<|Z O O (Hw rfl rfl)<|U' 1 O<|V' 2 O<|A0 O O<|A8<|HY
theorem B2f(m:Mem)(pc:Addr)(c:Chart)(hc:At m pc c)(hg:Ei c.gaps)(ht:1≤c.ticks∧c.ticks≤400)(hb:0≤c.Sheet.Pen.Band∧c.Sheet.Pen.Band≤8):Exact prog 252 #[.pointer (some (pc))] m (J (NG c.gaps c.ticks c.Sheet.Pen.Band)):=by
 refine have n:=hg.1;D4 func252 O ntmps252 fun q=>q' 17 O ?_
 refine Di (fun(k:Nat) (zc:Int) (zs:Int)=>c.gaps.length+2-k) (fun k zc zs=>[]) (fun k zc zs=>[(0,.pointer (some (pc))),(3,J zs),(4,J zc)]) (fun k zc zs=>k≤c.gaps.length+2∧zc=(k:Int)-1∧zs=DT c.gaps c.ticks k) 0 (-1) 0 ?_ ?_
 ·exact⟨EF _,by omega,rfl⟩
 rintro k zc zs ⟨u,g,l⟩
 refine have o:=(Hn hg ht hb.1 k u).2;have b:=fun r=>Ij hg ht (col:=zc) r;q' 6 O<|f' O t'<|s' (V0 hc) O fun v a=>have t:=a.le;l' a O<|c' (X.leq O O) (fun s=>?_) fun s=>?_
 ·refine U 11 O<|y' (X.call call253 rfl (OH _ _ _ hc _ (by omega))) ?_
  have d:=b (by omega)
  exact U 11 O<|O7 (k+1) (zc+1) (zs+(X9 c.gaps c.ticks zc))<|⟨by omega,by omega,by rw[DT,←g];omega⟩
 refine U 9 O ?_
 obtain rfl:k=c.gaps.length+2:=(by omega)
 have p: -10000000≤zs*(2*c.Sheet.Pen.Band+1)∧zs*(2*c.Sheet.Pen.Band+1)≤10000000:=(by have h1_:0≤zs*(2*c.Sheet.Pen.Band+1):=Int.mul_nonneg (by omega) (by omega);have h2_:zs*(2*c.Sheet.Pen.Band+1)≤81000*17:=Int.mul_le_mul (by omega) (by omega) (by omega) (by omega);omega)
 exact q' 4 O<|f' O t'<|have f:=Q4 (Iu hc);f' O t'<|f' O t'<|i' (W5 f) O<|y' (X.mul rfl rfl (by omega) (by omega))<|U 1 O<|y' (X.mul rfl rfl (by omega) (by omega))<|U 4 O<|A0 O O<|A8<|B0 (by rw[l];rfl)
theorem A8q(m:Mem)(pc:Addr)(c:Chart)(hc:At m pc c)(hg:Ei c.gaps)(ht:1≤c.ticks∧c.ticks≤400)(hb:0≤c.Sheet.Pen.Band∧c.Sheet.Pen.Band≤8):Exact prog 185 #[.pointer (some (pc))] m (.bool (decide (4000<NG c.gaps c.ticks c.Sheet.Pen.Band))):=by
 refine D4 func185 O ntmps185 fun a=>q' 8 O<|y' (X.call call252 rfl (B2f _ _ _ hc hg ht hb))<|U 5 O<|A0 O O<|A8 ?_
 first|rfl|(simp[*];done)
open Go.Proofs.S10
theorem A4X(m:Mem){b ix:Nat}{c:Chart}{v10:Value}(hs10:Sl m v10 c.Sheet.Trace){v11:Value}(hs11:Sl m v11 c.Sheet.Blots){v12:Value}(hs12:Sl m v12 c.Sheet.Drum.Rates){v13:Value}(hs13:Sl m v13 c.Sheet.Drum.Stops){v18:Value}(hs18:Sl m v18 c.marks){v19:Value}(hs19:Sl m v19 c.reads){v21:Value}(hs21:Sl m v21 c.ink){v22:Value}(hs22:Sl m v22 c.gaps){v25:Value}(hs25:Sl m v25 c.zeroes)(hg:Ei c.gaps)(ht:1≤c.ticks∧c.ticks≤400)(hb:0≤c.Sheet.Pen.Band∧c.Sheet.Pen.Band≤8):Mut prog 186 #[Pt b 0] m [blk b 218 [J c.Sheet.Paper.Pitch,J c.Sheet.Paper.Height,J c.Sheet.Paper.Radius,J c.Sheet.Paper.Low,J c.Sheet.Paper.High,J c.Sheet.Paper.Columns,J c.Sheet.Paper.Along.Lo,J c.Sheet.Paper.Along.Hi,J c.Sheet.Paper.Across.Lo,J c.Sheet.Paper.Across.Hi,v10,v11,v12,v13,J c.Sheet.Pen.Band,J c.Sheet.Pen.Zero.Lo,J c.Sheet.Pen.Zero.Hi,J c.Sheet.Pen.Rate,v18,v19,J c.ticks,v21,v22,S0,.map (some ix),v25],Be ix (J 0) (fun s_:StateT=>J (AL ([]) s_))] (fun _ Es u=>u= .tuple #[]∧∃vl,Es=[A5 vl 246 (Ej c.gaps c.ticks c.Sheet.Pen.Band),blk b 218 [J c.Sheet.Paper.Pitch,J c.Sheet.Paper.Height,J c.Sheet.Paper.Radius,J c.Sheet.Paper.Low,J c.Sheet.Paper.High,J c.Sheet.Paper.Columns,J c.Sheet.Paper.Along.Lo,J c.Sheet.Paper.Along.Hi,J c.Sheet.Paper.Across.Lo,J c.Sheet.Paper.Across.Hi,v10,v11,v12,v13,J c.Sheet.Pen.Band,J c.Sheet.Pen.Zero.Lo,J c.Sheet.Pen.Zero.Hi,J c.Sheet.Pen.Rate,v18,v19,J c.ticks,v21,v22,vl,.map (some ix),v25],Be ix (J 0) (fun s_:StateT=>J (AL (Ej c.gaps c.ticks c.Sheet.Pen.Band) s_))]):=by
 refine have M:=hg.1;have v:=hs10.le;have w:=hs11.le;have y:=hs12.le;have z:=hs13.le;have B:=hs18.le;have C:=hs19.le;have D:=hs21.le;have E:=hs22.le;have F:=hs25.le;G3 func186 O ntmps186 fun T=>q' 1 O<|I5 StateT 246<|q' 5 O ?_
 have G:(([]:List StateT))=(X2 c.gaps c.ticks c.Sheet.Pen.Band 0):=rfl
 rw[G]
 refine Di (fun(k:Nat) (zc:Int) (vk:Value)=>c.gaps.length+2-k) (fun k zc vk=>[A5 (vk) 246 (X2 c.gaps c.ticks c.Sheet.Pen.Band k),blk b 218 [J c.Sheet.Paper.Pitch,J c.Sheet.Paper.Height,J c.Sheet.Paper.Radius,J c.Sheet.Paper.Low,J c.Sheet.Paper.High,J c.Sheet.Paper.Columns,J c.Sheet.Paper.Along.Lo,J c.Sheet.Paper.Along.Hi,J c.Sheet.Paper.Across.Lo,J c.Sheet.Paper.Across.Hi,v10,v11,v12,v13,J c.Sheet.Pen.Band,J c.Sheet.Pen.Zero.Lo,J c.Sheet.Pen.Zero.Hi,J c.Sheet.Pen.Rate,v18,v19,J c.ticks,v21,v22,vk,.map (some ix),v25],Be ix (J 0) (fun s_:StateT=>J (AL (X2 c.gaps c.ticks c.Sheet.Pen.Band k) s_))]) (fun k zc vk=>[(0,Pt b 0),(2,J zc)]) (fun k zc vk=>k≤c.gaps.length+2∧zc=(k:Int)-1) 0 (-1) (Value.slice none 0 0) ?_ ?_
 ·exact⟨EF _,by omega⟩
 rintro k zc vk ⟨hk,L⟩
 refine have N:=A5w hg ht hb hk;have l:=fun W=>Ij hg ht (col:=zc) W;q' 6 O<|f' O t'<|b' 1 O O O<|l' hs22 O<|c' (X.leq O O) (fun Y=>?_) fun Y=>?_
 ·refine U 11 O<|y' (Ft call253 rfl (fun w_ d=>OH _ _ ((Chart.mk (c.Sheet) (c.marks) (c.reads) (c.ticks) (c.ink) (c.gaps) (X2 c.gaps c.ticks c.Sheet.Pen.Band k) ((RawV.mk (.map (some ix)) rfl)) (c.zeroes))) (d.blkAt (k:=1) rfl ⟨_,_,_,_,_,_,_,_,_,_,rfl,(hs10.mono d.leAll),(hs11.mono d.leAll),(hs12.mono d.leAll),(hs13.mono d.leAll),(hs18.mono d.leAll),(hs19.mono d.leAll),(hs21.mono d.leAll),(hs22.mono d.leAll),(d.rowFSl (k:=0) rfl (by simp only[F',P',NW];unfold C7;omega)),(hs25.mono d.leAll)⟩) _ (show-1≤zc∧zc≤(c.gaps.length:Int)from by omega))) ?_
  have H:=l (by omega)
  refine U 4 O ?_
  have I:(X2 c.gaps c.ticks c.Sheet.Pen.Band k)=(X2 c.gaps c.ticks c.Sheet.Pen.Band k++Dd zc c.Sheet.Pen.Band 0):=(SO _).symm
  rw[I]
  refine S5 (fun(a:Nat) (va:Value)=>(X9 c.gaps c.ticks zc).toNat-a) (fun a va=>[A5 (va) 246 (X2 c.gaps c.ticks c.Sheet.Pen.Band k++Dd zc c.Sheet.Pen.Band a),blk b 218 [J c.Sheet.Paper.Pitch,J c.Sheet.Paper.Height,J c.Sheet.Paper.Radius,J c.Sheet.Paper.Low,J c.Sheet.Paper.High,J c.Sheet.Paper.Columns,J c.Sheet.Paper.Along.Lo,J c.Sheet.Paper.Along.Hi,J c.Sheet.Paper.Across.Lo,J c.Sheet.Paper.Across.Hi,v10,v11,v12,v13,J c.Sheet.Pen.Band,J c.Sheet.Pen.Zero.Lo,J c.Sheet.Pen.Zero.Hi,J c.Sheet.Pen.Rate,v18,v19,J c.ticks,v21,v22,va,.map (some ix),v25],Be ix (J 0) (fun s_:StateT=>J (AL (X2 c.gaps c.ticks c.Sheet.Pen.Band k++Dd zc c.Sheet.Pen.Band a) s_))]) (fun a va=>[(0,Pt b 0),(2,J zc),(17,J (X9 c.gaps c.ticks zc)),(18,J a)]) (fun a va=>a≤(X9 c.gaps c.ticks zc).toNat) 0 vk ?_ ?_
  ·exact EF _
  rintro a va s
  try dsimp only at s
  have ha:=s
  have P:=B4V (col:=zc) hb.2 (a:=a) (by omega)
  refine q' 2 O<|c' (X.lss O O) (fun h6=>?_) fun h6=>?_
  ·refine U 18 O<|f' O t'<|f' O t'<|f' O t'<|b' 1 O O O<|y' (X.neg rfl (by omega) (by omega))<|U 4 O ?_
   have K:(X2 c.gaps c.ticks c.Sheet.Pen.Band k++Dd zc c.Sheet.Pen.Band a)=(X2 c.gaps c.ticks c.Sheet.Pen.Band k++Dd zc c.Sheet.Pen.Band a++IE zc ↑a c.Sheet.Pen.Band 0):=(SO _).symm
   rw[K]
   refine Di (fun(j:Nat) (zj:Int) (vj:Value)=>V3 c.Sheet.Pen.Band-j) (fun j zj vj=>[A5 (vj) 246 (X2 c.gaps c.ticks c.Sheet.Pen.Band k++Dd zc c.Sheet.Pen.Band a++IE zc ↑a c.Sheet.Pen.Band j),blk b 218 [J c.Sheet.Paper.Pitch,J c.Sheet.Paper.Height,J c.Sheet.Paper.Radius,J c.Sheet.Paper.Low,J c.Sheet.Paper.High,J c.Sheet.Paper.Columns,J c.Sheet.Paper.Along.Lo,J c.Sheet.Paper.Along.Hi,J c.Sheet.Paper.Across.Lo,J c.Sheet.Paper.Across.Hi,v10,v11,v12,v13,J c.Sheet.Pen.Band,J c.Sheet.Pen.Zero.Lo,J c.Sheet.Pen.Zero.Hi,J c.Sheet.Pen.Rate,v18,v19,J c.ticks,v21,v22,vj,.map (some ix),v25],Be ix (J 0) (fun s_:StateT=>J (AL (X2 c.gaps c.ticks c.Sheet.Pen.Band k++Dd zc c.Sheet.Pen.Band a++IE zc ↑a c.Sheet.Pen.Band j) s_))]) (fun j zj vj=>[(0,Pt b 0),(2,J zc),(3,J a),(4,J zj),(17,J (X9 c.gaps c.ticks zc)),(18,J a)]) (fun j zj vj=>j≤V3 c.Sheet.Pen.Band∧zj=(j:Int)-c.Sheet.Pen.Band) 0 (-c.Sheet.Pen.Band) va ?_ ?_
   ·exact⟨EF _,by omega⟩
   rintro j zj vj ⟨hj,hzj⟩
   refine have Q:=Hy hb.2;have R:=NW zc ↑a c.Sheet.Pen.Band j;q' 6 O<|f' O t'<|f' O t'<|f' O t'<|b' 1 O O O<|c' (X.leq O O) (fun h9=>?_) fun h9=>?_
   ·refine U 12 O<|WL.x (V:=Value.agg [J zc,J a,J zj].toArray) (X.build zeroValue246 runUnderlying246 (BI _ underlying246) rfl rfl) (by decide) ?_
    refine n' zeroValue246 O fun a0=>w' 0 O O O<|U 3 O<|B9 11 [10] [10]<|U' 2 O<|Z O O (A.f O)<|Z O O (A.b 2 O O O)<|Z O O (L9 0 O O O)<|U' 2 O<|Z O O (A.f O)<|Z O O (A.b 2 O O O)<|Z O O (V8 (k:=1) runUnderlying216 rfl rfl)<|B4 O O O O (A0r (k:=((StateT.mk (zc) (↑a) (zj)))) runUnderlying215 A0G rfl rfl rfl (show A7 _ 3=_ from rfl))<|V' 1 O<|A9w (k:=3) O (fun q_=>A8S (X2 c.gaps c.ticks c.Sheet.Pen.Band k++Dd zc c.Sheet.Pen.Band a++IE zc ↑a c.Sheet.Pen.Band j) ((StateT.mk (zc) (↑a) (zj))) q_)<|B9 11 [6,7,10] [7,10]<|U' 3 O<|Z O O (A.f O)<|Z O O (A.b 2 O O O)<|Z O O (L9 0 O O O)<|As O O O (G6 B0n rfl rfl rfl (by decide)) (by decide) fun a1=>?_
    refine Ae rfl rfl rfl rfl (G1 (k:=1) (a:=(StateT.mk (zc) (↑a) (zj))) B0n rfl rfl rfl rfl (by first|omega|(simp;done)|(simp;omega)) (by decide)) (by decide) (fun v12=>?_)
    refine U' 1 O<|Z O O (A.f O)<|B4 O O O O (T1 (k:=1) rfl trivial (D1 rfl rfl rfl) fun g=>C1 (k:=2) sizeOf216 rfl rfl rfl g (J' rfl))<|V' 8 O ?_
    have n:((X2 c.gaps c.ticks c.Sheet.Pen.Band k++Dd zc c.Sheet.Pen.Band a++IE zc ↑a c.Sheet.Pen.Band j)++[(StateT.mk (zc) (↑a) (zj))])=(X2 c.gaps c.ticks c.Sheet.Pen.Band k++Dd zc c.Sheet.Pen.Band a++IE zc ↑a c.Sheet.Pen.Band (j+1)):=(by rw[A8K,←hzj,Se,Se])
    rw[n]
    refine O7 (j+1) (zj+1) v12 ?_ ?_
    ·exact⟨BT hzj ‹_›,by omega⟩
    (have S:=BT hzj ‹_›;(try dsimp only);omega)
   refine U 14 O ?_
   have o:j=V3 c.Sheet.Pen.Band:=PR hzj ‹_› hj hb.1
   have p:(X2 c.gaps c.ticks c.Sheet.Pen.Band k++Dd zc c.Sheet.Pen.Band a++IE zc ↑a c.Sheet.Pen.Band j)=(X2 c.gaps c.ticks c.Sheet.Pen.Band k++Dd zc c.Sheet.Pen.Band (a+1)):=(by rw[o,Dd,Se])
   rw[p]
   exact K2 (a+1) vj<|by omega
  refine U 16 O ?_
  have q:a=(X9 c.gaps c.ticks zc).toNat:=(by omega)
  have r:(X2 c.gaps c.ticks c.Sheet.Pen.Band k++Dd zc c.Sheet.Pen.Band a)=(X2 c.gaps c.ticks c.Sheet.Pen.Band (k+1)):=(by rw[q,X2,←L])
  rw[r]
  exact O7 (k+1) (zc+1) va<|⟨by omega,by omega⟩
 refine U 7 O ?_
 refine D0 rfl (fun w' t=>B3 (t.weaken (.cons_cons _ (.cons_cons _ (.cons_cons _ .slnil)))) ?_)
 obtain rfl:k=c.gaps.length+2:=(by omega)
 exact⟨rfl,_,rfl⟩
theorem HZ(m:Mem)(cw:List Value)(w:WeekT)(hw:Enc.rd m cw w){i:Int}{k:Nat}(hi:i=k)(hk:k<w.Sheets.length)(hok_:ShOk w (gt w.Sheets k)):Pure prog 107 #[.agg cw.toArray,J i] m (fun m' v=>if Dk w (gt w.Sheets k)then v= .tuple #[.pointer none,J 2]else∃(p:Addr) (ix:Nat),v= .tuple #[.pointer (some p),J 0]∧At m' p (BL w (gt w.Sheets k) ix)∧MapZ m' ix (J 0) (fun s_:StateT=>J (AL (chL w (gt w.Sheets k)) s_))):=by
 obtain⟨v1,v3,v5,rfl,a2,a3,a4⟩:=hw
 have e5:=a2.le
 have e6:=a3.le
 have e7:=a4.le
 subst hi
 have z:=hok_.pen
 unfold M9 at z
 refine have z:=z.1;F6 func107 O ntmps107 fun d1=>q' 2 O<|o' O O fun d2=>U 5 O<|fz (x:=w) 0 O O ⟨_,_,_,rfl,a2,a3,a4⟩ fun d3 a5 C=>B9 14 [12] []<|G' C O O O fun d4 X=>?_
 obtain⟨e8,e9,f0,rfl,I,K,L⟩:=X
 refine have b0:=I.le;have b1:=K.le;have b2:=L.le;Z O O (A.f O)<|S' (X7 C) O O O fun d5 G=>have b3:=G.le;U' 1 O<|X' k G O O O O fun d6 Y=>G' Y O O O fun d7 a0=>?_
 obtain⟨f1,f2,f3,f4,f5,f6,rfl,M,N,P,Q,R,S⟩:=a0
 refine have b4:=M.le;have b5:=N.le;have b6:=P.le;have b7:=Q.le;have b8:=R.le;have b9:=S.le;Z O O (A.f O)<|S' (X7 C) O O O fun d8 H=>have c0:=H.le;U' 1 O<|X' k H O O O O fun d9 a1=>Z O O (A.f O)<|Z O O (A.i O (AE a1)) ?_
 refine AY rfl rfl rfl (H3 call40 rfl (B2K _ (w:=w) (f:=gt w.Sheets k) ⟨_,_,_,rfl,I,K,L⟩ ⟨_,_,_,_,_,_,rfl,M,N,P,Q,R,S⟩ _ hok_.pen (by have:=hok_.rlen;omega) (by have:=hok_.rates;omega))) (by decide) (fun e0 Es59 e1 a6 T=>?_)
 obtain⟨f7,E,d0,rfl,rfl,W⟩:=T
 obtain⟨f8,f9,g0,g1,g2,g3,g4,g5,g6,rfl,g,l,n,o,q,r,s,t,u⟩:=W
 refine have c1:=g.le;have c2:=l.le;have c3:=n.le;have c4:=o.le;have c5:=q.le;have c6:=r.le;have c7:=s.le;have c8:=t.le;have c9:=u.le;U' 1 O<|V' 5 O<|c' (Ft call185 rfl (fun w_ y=>A8q _ _ (JF w (gt w.Sheets k) ((gt w.Sheets k).Station) (RawV.mk (.map (some E)) rfl)) (y.blkAt (k:=0) rfl ⟨_,_,_,_,_,_,_,_,_,_,rfl,(g.mono y.leAll),(l.mono y.leAll),(n.mono y.leAll),(o.mono y.leAll),(q.mono y.leAll),(r.mono y.leAll),(s.mono y.leAll),(t.mono y.leAll),.nil,(u.mono y.leAll)⟩) hok_.gaps hok_.ticks z)) (fun a7=>?_) fun a7=>?_
 ·refine U 11 O<|B7 O O O<|C2 ?_
  rw[D' ‹_›]
 refine U 8 O ?_
 refine C5 (C8 (A:=[]) call186 rfl (.refl _) (A4X _ (c:=(JF w (gt w.Sheets k) ((gt w.Sheets k).Station) (RawV.mk (.map (some E)) rfl))) g l n o q r s t u hok_.gaps hok_.ticks z)) (by decide) (fun e2 e3 v_ b T=>?_)
 obtain⟨rfl,g7,rfl⟩:=T
 refine have g:=g.mono b;have l:=l.mono b;have n:=n.mono b;have o:=o.mono b;have q:=q.mono b;have r:=r.mono b;have s:=s.mono b;have t:=t.mono b;have u:=u.mono b;U 3 O ?_
 refine E4 0 rfl rfl (by exact Sz (A5w hok_.gaps hok_.ticks z (E' _)) (by decide)) (fun e4 d D=>?_)
 replace g:=g.mono d
 replace l:=l.mono d
 replace n:=n.mono d
 replace o:=o.mono d
 replace q:=q.mono d
 replace r:=r.mono d
 replace s:=s.mono d
 replace t:=t.mono d
 replace u:=u.mono d
 refine Qh 1 rfl rfl (fun a8 a B=>?_)
 refine have g:=g.mono a;have l:=l.mono a;have n:=n.mono a;have o:=o.mono a;have q:=q.mono a;have r:=r.mono a;have s:=s.mono a;have t:=t.mono a;have u:=u.mono a;have D:=D.mono a;fz (x:=BL w (gt w.Sheets k) E) 0 O O ⟨_,_,_,_,_,_,_,_,_,_,rfl,g,l,n,o,q,r,s,t,D,u⟩ fun a9 F V=>have B:=B.mono F;q' 7 O<|B7 O O O<|C2 ?_
 rw[A' ‹_›];exact⟨_,_,rfl,V,B⟩
theorem A5f(m:Mem){Aa Bb:List Span}{pa pb:Addr}(hpa:At m pa Aa)(hpb:At m pb Bb):S1 prog 302 [.pointer (some pa),.pointer (some pb)] m false (F5 Aa Bb).length (KA (F5 Aa Bb)):=by
 intro lo S HS I Ix s0 b4 a4 hy h0
 refine G3 func302 O ntmps302 fun b5=>q' 7 O ?_
 have a5:m.le m:=Mem.le_refl _
 refine lp (G:=Nat×Nat×Nat×Mem×S) (fun(i,k,y,mm,ss)=>(Aa.length-i)+(Bb.length-k)) (fun(i,k,y,mm,ss)=>mm) (fun(i,k,y,mm,ss)=>([]++HS ss)) (fun(i,k,y,mm,ss)=>[(0,.func (.yield lo) #[] #[]),(1,.pointer (some (pa))),(2,.pointer (some (pb))),(4,J i),(5,J k)]) (fun(i,k,y,mm,ss)=>m.le mm∧I y mm ss∧(F5 Aa Bb).drop y=F5 (Aa.drop i) (Bb.drop k)∧i≤Aa.length∧k≤Bb.length∧y≤(F5 Aa Bb).length) ((0,0,0,m,s0)) ?_ ?_
 ·exact⟨Mem.le_refl _,h0,rfl,EF _,EF _,EF _⟩
 rintro⟨i,k,y,mm,ss⟩ R
 conv=>enter [7];dsimp only
 conv=>enter [8];dsimp only
 try dsimp only at R
 obtain⟨d,W,C,d4,d5,o⟩:=R
 refine have hpa:=hpa.mono d;have hpb:=hpb.mono d;q' 4 O<|s' hpa O fun v2 D=>have d2:=D.le;l' D O<|c' (X.lss O O) (fun h5=>?_) fun h5=>?_
 ·refine U 4 O<|s' hpb O fun v6 E=>have d3:=E.le;U 1 O<|l' E O<|U 1 O<|c' (X.lss O O) (fun h9=>?_) fun h9=>?_
  ·refine U 8 O ?_
   have l:=A3G C (by omega) (by omega)
   refine B9 25 [23,24] [24]<|S' hpa O O O fun b6 p=>have a6:=p.le;U' 1 O<|X' i p O O O O fun b7 F=>Z O O (A.f O)<|Z O O (A.i O (P5 F))<|S' hpb O O O fun b8 q=>have a7:=q.le;U' 1 O<|X' k q O O O O fun b9 H=>Z O O (A.f O)<|Z O O (A.i O (P5 H))<|Z O O (EG rfl rfl)<|S' hpa O O O fun c0 r=>have a8:=r.le;U' 1 O<|X' i r O O O O fun c1 K=>Z O O (A.f O)<|Z O O (A.i O (J7 K))<|S' hpb O O O fun c2 s=>have a9:=s.le;U' 1 O<|X' k s O O O O fun c3 L=>Z O O (A.f O)<|Z O O (A.i O (J7 L))<|Z O O (Hw rfl rfl)<|DW.x (V:=Value.agg [J (max ((gt Aa i).Lo) ((gt Bb k).Lo)),J (min ((gt Aa i).Hi) ((gt Bb k).Hi))].toArray) O O (X.build zeroValue23 runUnderlying23 (H6 _ underlying23) rfl rfl) (by decide) ?_
   refine N3 O O O (T.alloc zeroValue23 rfl) (by decide) fun Y=>W' 0 O O O O O<|V' 4 O<|f' O t'<|b' 0 O O O<|f' O t'<|b' 0 O O O<|c' (X.leq O O) (fun a0=>?_) fun a0=>?_
   ·refine U 4 O<|a' 0 O O<|U 1 O ?_
    have a:=l;rw[D' (show(V9 (gt Aa i) (gt Bb k)).Lo≤(V9 (gt Aa i) (gt Bb k)).Hi from by assumption)]at a
    refine AB (T.yield (A:=[blk Y 23 [J (max ((gt Aa i).Lo) ((gt Bb k).Lo)),J (min ((gt Aa i).Hi) ((gt Bb k).Hi))]]) rfl rfl rfl (hy y _ _ _ a.1 d (by show _=_;rw[a.2.1];rfl) W)) (by decide) (fun z a1 B=>?_) (fun z a1 B=>?_)
    ·obtain⟨b,s2_,rfl,hI2_⟩:=B
     refine have hpa:=hpa.mono b;have hpb:=hpb.mono b;U 9 O<|B9 11 [] []<|S' hpa O O O fun c4 t=>have b0:=t.le;U' 1 O<|X' i t O O O O fun c5 M=>Z O O (A.f O)<|Z O O (A.i O (J7 M))<|S' hpb O O O fun c6 u=>have b1:=u.le;U' 1 O<|X' k u O O O O fun c7 N=>Z O O (A.f O)<|Z O O (A.i O (J7 N))<|C' O O (X.lss O O) (fun a2=>?_) fun a2=>?_
     ·refine V' 9 O ?_
      refine nx ((i+1,k,y+1,z,s2_)) ?_ ?_
      ·exact⟨(Mem.le_trans d b),hI2_,(by have c:=a.2.2;rw[D' ‹_›]at c;exact c),by omega,by omega,(by have c:=a.1;omega)⟩
      (dsimp only;omega)
     refine V' 9 O ?_
     refine nx ((i,k+1,y+1,z,s2_)) ?_ ?_
     ·exact⟨(Mem.le_trans d b),hI2_,(by have c:=a.2.2;rw[A' ‹_›]at c;exact c),by omega,by omega,(by have c:=a.1;omega)⟩
     (dsimp only;omega)
    obtain⟨b,s2_,rfl,hI2_⟩:=B
    refine have hpa:=hpa.mono b;have hpb:=hpb.mono b;U 11 O ?_
    refine E9 rfl (fun w' g=>B3 (g.weaken (.cons _ (.refl _))) ?_)
    exact⟨s2_,rfl,.inr ⟨y+1,a.1,hI2_⟩⟩
   refine U 12 O<|B9 11 [] []<|S' hpa O O O fun c8 v=>have b2:=v.le;U' 1 O<|X' i v O O O O fun c9 P=>Z O O (A.f O)<|Z O O (A.i O (J7 P))<|S' hpb O O O fun d0 w=>have b3:=w.le;U' 1 O<|X' k w O O O O fun d1 Q=>Z O O (A.f O)<|Z O O (A.i O (J7 Q))<|C' O O (X.lss O O) (fun a3=>?_) fun a3=>?_
   ·refine V' 9 O ?_
    refine nx ((i+1,k,y,mm,ss)) ?_ ?_
    ·exact⟨d,W,(by have c:=(A' (show¬(V9 (gt Aa i) (gt Bb k)).Lo≤(V9 (gt Aa i) (gt Bb k)).Hi from by assumption)▸l);rw[D' ‹_›]at c;exact c),by omega,by omega,o⟩
    (dsimp only;omega)
   refine V' 9 O ?_
   refine nx ((i,k+1,y,mm,ss)) ?_ ?_
   ·exact⟨d,W,(by have c:=(A' (show¬(V9 (gt Aa i) (gt Bb k)).Lo≤(V9 (gt Aa i) (gt Bb k)).Hi from by assumption)▸l);rw[A' ‹_›]at c;exact c),by omega,by omega,o⟩
   (dsimp only;omega)
  refine U 8 O ?_
  refine D0 rfl (fun w' g=>B3 (g.weaken (.refl _)) ?_)
  have n:=Pb C o (fun c=>by omega)
  subst n
  exact⟨ss,rfl,.inl W⟩
 refine U 13 O ?_
 refine D0 rfl (fun w' g=>B3 (g.weaken (.refl _)) ?_)
 have n:=Pb C o (fun c=>by omega)
 subst n
 exact⟨ss,rfl,.inl W⟩
theorem A5v(m:Mem){va vb:Value}{Aa Bb:List Span}(hA:Sl m va Aa)(hB:Sl m vb Bb):Pure prog 258 #[va,vb] m (fun m' v=>∃lb,v= .func (.func 302) #[] lb.toArray∧S1 prog 302 lb m' false (F5 Aa Bb).length (KA (F5 Aa Bb))):=by
 exact F6 func258 O ntmps258 fun g=>q' 2 O<|Au (Cv (cs:=[va]) rfl (D7 hA.one)) (by decide) fun k=>Au (Cv (cs:=[vb]) rfl (D7 hB.one)) (by decide) fun l=>U 4 O<|fz (x:=Aa) 1 O O ⟨_,rfl,hA⟩ fun n b a=>have hB:=hB.mono b;fz (x:=Bb) 0 O O ⟨_,rfl,hB⟩ fun o c d=>have a:=a.mono c;q' 1 O<|y' (X.makeFunc (by intro x f;simp at f;rcases f with rfl|rfl;all_goals exact⟨_,rfl⟩) rfl)<|U 4 O<|A0 O O<|C2<|⟨_,rfl,A5f _ a d⟩
theorem NO(m:Mem){va vb:Value}{Aa Bb:List Span}(hA:Sl m va Aa)(hB:Sl m vb Bb)(hab:Aa.length+Bb.length≤4000000000):Mut prog 209 #[va,vb] m [] (fun _ Es u=>Es=[A5 u 23 ((F5 Aa Bb))]∧u.oneCell'=true):=by
 refine G3 func209 O ntmps209 fun l=>q' 9 O ?_
 refine C0 (T.call call258 rfl (A5v _ hA hB)) (by decide) (fun p _ f a=>?_)
 obtain⟨n,rfl,b⟩:=a
 refine C5 (H3 call212 rfl (Nd _ (L:=(F5 Aa Bb)) call302 b (by have s:=EC _ Aa Bb rfl;omega))) (by decide) (fun q Es6 r g a=>?_)
 obtain⟨rfl,o⟩:=a
 refine E8 (k:=0) rfl (fun c=>?_)
 refine U 4 O ?_
 refine A0 rfl rfl (fun w' d=>B3 (d.weaken (.cons_cons _ .slnil)) ?_)
 exact⟨rfl,c⟩
theorem B2P(m:Mem)(va:Value)(a:List Span)(ha:Sl m va a)(vb:Value)(b:List Span)(hb:Sl m vb b):Pure prog 198 #[va,vb] m (fun m' v=>∃r0,v= .tuple #[r0,J (B7i a b)]∧Sl m' r0 (LP a b)):=by
 refine have la:=ha.le;have lb:=hb.le;F6 func198 O ntmps198 fun q=>q' 10 O<|c' (X.call call65 rfl (Hh _ _ _ ha)) (fun r=>?_) fun r=>?_
 ·refine U 5 O<|c' (X.call call65 rfl (Hh _ _ _ hb)) (fun s=>?_) fun s=>?_
  ·refine U 9 O ?_
   have c:I7 a∧I7 b:=⟨by first|assumption|(apply Sj;assumption),by first|assumption|(apply Sj;assumption)⟩
   refine have o:=c.1.1;have p:=c.2.1;q' 3 O ?_
   refine C5 (H3 call209 rfl (NO _ ha hb (by omega))) (by decide) (fun u Es4 w l k=>?_)
   obtain⟨rfl,t⟩:=k
   refine U 5 O ?_
   refine E4 0 rfl rfl (by have f:=EC _ a b rfl;unfold C7;omega) (fun x n g=>?_)
   exact B7 O O O<|C2<|⟨_,G4 rfl (B0 (D' c).symm),by unfold LP;rw[D' c];exact g⟩
  refine U 14 O<|B7 O O O<|C2 ?_
  (have d:¬(I7 a∧I7 b):=(fun f=>by have h1_:=f.1;have h2_:=f.2;contradiction));exact⟨_,G4 rfl (B0 (A' d).symm),by unfold LP;rw[A' d];exact .nil⟩
 refine U 17 O<|B7 O O O<|C2 ?_
 (have d:¬(I7 a∧I7 b):=(fun f=>by have h1_:=f.1;have h2_:=f.2;contradiction));exact⟨_,G4 rfl (B0 (A' d).symm),by unfold LP;rw[A' d];exact .nil⟩
end Go.Proofs.T10
