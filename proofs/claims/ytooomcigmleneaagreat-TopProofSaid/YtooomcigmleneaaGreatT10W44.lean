import Derived.Test.YtooomcigmleneaaGreatT10W41
set_option linter.all false
set_option maxHeartbeats 4000000
namespace Go.Proofs.T10
open Tryz Go Go.Kx Go.Proofs.S10
set_option maxRecDepth 20000
variable{G:Prop}
theorem B1M(m:Mem){cx:List Value}{x:Mark}(hx:Enc.rd m cx x){ps pt:Addr}{s:StateT}{tick:Int}(hps:At m ps s)(hpt:At m pt tick):Exact prog 197 #[.agg cx.toArray,.pointer (some ps),.pointer (some pt)] m (.bool (decide ((x).Column=s.column∧¬((x).Ticks.Lo≤tick∧tick≤(x).Ticks.Hi)))):=by
 obtain rfl:=hx
 refine D4 func197 O ntmps197 fun d=>q' 2 O<|o' O O fun g=>U 4 O<|fz (x:=x) 0 O O O fun k a b=>have hps:=hps.mono a;have hpt:=hpt.mono a;q' 1 O<|f' O t'<|i' (A6R b) O<|f' O t'<|i' (I9 hps) O<|c' (X.eql O O) (fun f=>?_) fun f=>?_
 ·refine U 2 O<|f' O t'<|U 1 O<|g' (A4s b) O fun l c=>?_
  obtain rfl:=c
  refine U 1 O<|i' hpt O<|U 1 O<|y' (X.call call55 rfl (IU _ _ x.Ticks rfl _))<|U 1 O<|y' (Cu rfl)<|U 5 O<|A0 O O<|A8 ?_
  first|exact D5 (by omega)|exact B2 (by omega)|exact D8 (by omega)
 refine U 11 O<|A0 O O<|A8 ?_
 first|exact D5 (by omega)|exact B2 (by omega)|exact D8 (by omega)
theorem B1O(m:Mem){vl:Value}{l:List Mark}(hl:Sl m vl l){fn:Nat}{caps:List Value}{p:Nat→Prop}[DecidablePred p](hE:Enters prog fn)(hcl:∀i,i<l.length→Exact prog fn (#[.agg (Flat.enc (gt l i)).toArray]++caps.toArray) m (.bool (decide (p i)))):Exact prog 196 #[vl,.func (.func fn) #[] caps.toArray] m (.bool (decide (¬∀i,i<l.length→¬p i))):=by
 exact have b:=hl.le;D4 func196 O ntmps196 fun a=>q' 9 O<|y' (X.call call245 rfl (A4x _ hl hE hcl))<|U 5 O<|A0 O O<|A8<|D8 (BS p l.length)
theorem X1(h:G:=by exact⟨fun h_=>by first|(cases h_;done)|(rw[A0t hf_ hl_];first|exact .inl ⟨by assumption,by simp_all⟩|exact .inr ⟨by assumption,by simp_all⟩;done),fun h_=>by first|(cases h_;done)|(rw[A0t hf_ hl_];rintro(⟨h1_,h2_⟩|⟨h1_,h2_⟩) <;> simp_all;done)⟩):G:=h
theorem IA(h:G:=by first|exact⟨by omega,by rw[A1J ‹_›,←hlo],by rw[A1J ‹_›,←hhi]⟩|exact⟨by omega,by rw[A4P ‹_›,←hlo],by rw[A4P ‹_›,←hhi]⟩):G:=h
theorem EI(h:G:=by exact⟨fun h_=>by first|(cases h_;done)|(unfold Gl;omega;done),fun h_=>by first|(cases h_;done)|(unfold Gl;omega;done)⟩):G:=h
theorem CJ(h:G:=by exact⟨fun h_=>by first|(cases h_;done)|(unfold Iq;rw[ho1_,ho2_];first|(exact .inl (by omega))|(exact .inr ⟨hyes12_ (by first|rfl|assumption),by first|assumption|exact Sv h_⟩);done),fun h_=>by first|(cases h_;done)|(unfold Iq;rw[ho1_,ho2_];rintro(h1_|h1_) <;> first|omega|exact absurd h1_.1 (hno12_ (by first|rfl|assumption))|exact absurd h1_.2 (by first|assumption|exact Th h_);done)⟩):G:=h
theorem A2N(m:Mem)(pc:Addr)(c:Chart)(hc:At m pc c)(cs:List Value)(s:StateT)(hs:Enc.rd m cs s)(tick:Int)(zero:Int){LL:List StateT}(hch:ChN c LL)(hso:LK c.gaps c.ticks c.Sheet.Pen.Band s)(hz: -200≤zero∧zero≤200):Pure prog 115 #[.pointer (some (pc)),.agg cs.toArray,J tick,J zero] m (fun m' v=>∃r0,v=r0∧Sl m' r0 (AP c s tick zero)):=by
 obtain rfl:=hs
 have a7:=hch.pen
 unfold M9 at a7
 refine have f0:=hch.ticks;have f1:=hch.ink;have d8:=hso.1;have d9:=hso.2.2;have W:=hch.reads;F6 func115 O ntmps115 fun g5=>q' 2 O<|o' O O fun b1=>o' O O fun b2=>U 2 O<|fz (x:=s) 1 O O O fun m3 a2 d=>have hc:=hc.mono a2;fz (x:=tick) 0 O O O fun m6 H B=>have hc:=hc.mono H;have d:=d.mono H;E2 ?_
 refine cu2 (fun(f_:Bool) (l_:Bool)=>m6) (fun f_ l_=>[]) (fun f_ l_=>[(0,.pointer (some (pc))),(3,J zero),(5,Pt b1 0),(6,Pt b2 0),(9,.bool (f_)),(10,.bool (l_))]) (fun f_ l_=>(f_=true↔(s.column= -1∨(s.column=0∧s.ago=0)))∧(l_=true↔s.column=(c.gaps.length:Int))) ?_ ?_
 ·refine B9 23 [] []<|Z O O (A.f O)<|Z O O (A.i O (I9 d))<|C' O O (X.eql O O) (fun b3=>?_) fun b3=>?_
  ·refine U' 10 O<|Z O O (A.f O)<|Z O O (A.i O (I9 d))<|U' 2 O<|Z O O (A.f O)<|S' (V0 hc) O O O fun g6 I=>have f2:=I.le;Z O O (A.l O I)<|C' O O (X.eql O O) (fun b4=>?_) fun b4=>?_
   ·refine U' 2 O<|V' 1 O<|CZ true true ?_
    refine⟨⟨fun a=>?_,fun a=>?_⟩,⟨fun a=>?_,fun a=>?_⟩⟩ <;> first|rfl|trivial|omega|(exact absurd a (by decide))|(exfalso;omega)|(exact SF (by omega))|(have h1_:=Sv a;omega)
   refine U' 2 O<|V' 1 O<|CZ true false ?_
   refine⟨⟨fun a=>?_,fun a=>?_⟩,⟨fun a=>?_,fun a=>?_⟩⟩ <;> first|rfl|trivial|omega|(exact absurd a (by decide))|(exfalso;omega)|(exact SF (by omega))|(have h1_:=Sv a;omega)
  refine U' 1 O<|Z O O (A.f O)<|Z O O (A.i O (I9 d))<|C' O O (X.eql O O) (fun b5=>?_) fun b5=>?_
  ·refine U' 1 O<|Z O O (A.f O)<|Z O O (A.i O (Bs d))<|C' O O (X.eql O O) (fun b6=>?_) fun b6=>?_
   ·refine U' 2 O<|Z O O (A.f O)<|Z O O (A.i O (I9 d))<|U' 2 O<|Z O O (A.f O)<|S' (V0 hc) O O O fun g7 K=>have f3:=K.le;Z O O (A.l O K)<|C' O O (X.eql O O) (fun b7=>?_) fun b7=>?_
    ·refine U' 2 O<|V' 1 O<|CZ true true ?_
     refine⟨⟨fun a=>?_,fun a=>?_⟩,⟨fun a=>?_,fun a=>?_⟩⟩ <;> first|rfl|trivial|omega|(exact absurd a (by decide))|(exfalso;omega)|(exact SF (by omega))|(have h1_:=Sv a;omega)
    refine U' 2 O<|V' 1 O<|CZ true false ?_
    refine⟨⟨fun a=>?_,fun a=>?_⟩,⟨fun a=>?_,fun a=>?_⟩⟩ <;> first|rfl|trivial|omega|(exact absurd a (by decide))|(exfalso;omega)|(exact SF (by omega))|(have h1_:=Sv a;omega)
   refine U' 2 O<|Z O O (A.f O)<|Z O O (A.i O (I9 d))<|U' 2 O<|Z O O (A.f O)<|S' (V0 hc) O O O fun g8 M=>have f4:=M.le;Z O O (A.l O M)<|C' O O (X.eql O O) (fun b8=>?_) fun b8=>?_
   ·refine U' 2 O<|V' 1 O<|CZ false true ?_
    refine⟨⟨fun a=>?_,fun a=>?_⟩,⟨fun a=>?_,fun a=>?_⟩⟩ <;> first|rfl|trivial|omega|(exact absurd a (by decide))|(exfalso;omega)|(exact SF (by omega))|(have h1_:=Sv a;omega)
   refine U' 2 O<|V' 1 O<|CZ false false ?_
   refine⟨⟨fun a=>?_,fun a=>?_⟩,⟨fun a=>?_,fun a=>?_⟩⟩ <;> first|rfl|trivial|omega|(exact absurd a (by decide))|(exfalso;omega)|(exact SF (by omega))|(have h1_:=Sv a;omega)
  refine U' 6 O<|Z O O (A.f O)<|Z O O (A.i O (I9 d))<|U' 2 O<|Z O O (A.f O)<|S' (V0 hc) O O O fun g9 N=>have f5:=N.le;Z O O (A.l O N)<|C' O O (X.eql O O) (fun b9=>?_) fun b9=>?_
  ·refine U' 2 O<|V' 1 O<|CZ false true ?_
   refine⟨⟨fun a=>?_,fun a=>?_⟩,⟨fun a=>?_,fun a=>?_⟩⟩ <;> first|rfl|trivial|omega|(exact absurd a (by decide))|(exfalso;omega)|(exact SF (by omega))|(have h1_:=Sv a;omega)
  refine U' 2 O<|V' 1 O<|CZ false false ?_
  refine⟨⟨fun a=>?_,fun a=>?_⟩,⟨fun a=>?_,fun a=>?_⟩⟩ <;> first|rfl|trivial|omega|(exact absurd a (by decide))|(exfalso;omega)|(exact SF (by omega))|(have h1_:=Sv a;omega)
 rintro f_ l_ ⟨hf_,hl_⟩
 refine q' 1 O ?_
 refine Bm (fun(u:Bool)=>m6) (fun u=>[]) (fun u=>[(0,.pointer (some (pc))),(3,J zero),(5,Pt b1 0),(6,Pt b2 0),(56,.bool (u))]) (fun u=>(u=true→Lf c s tick)∧(u=false→¬Lf c s tick)) ?_ ?_
 ·refine B9 18 [] []<|Z O O (A.i O B)<|C' O O (X.eql O O) (fun c0=>?_) fun c0=>?_
  ·refine Qg ?_
   refine Z8 rfl rfl (X.not rfl) (by decide) (fun c1=>?_) (fun c1=>?_)
   ·exact U' 13 O<|V' 1 O<|H5 true<|X1
   refine U' 2 O<|Z O O (A.i O B)<|U' 2 O<|Z O O (A.f O)<|Z O O (A.i O (Cc hc))<|C' O O (X.eql O O) (fun c2=>?_) fun c2=>?_
   ·refine Qg ?_
    refine Z8 rfl rfl (X.not rfl) (by decide) (fun c3=>?_) (fun c3=>?_)
    ·exact U' 2 O<|V' 1 O<|H5 true<|X1
    exact U' 2 O<|V' 1 O<|H5 false<|X1
   exact U' 5 O<|V' 1 O<|H5 false<|X1
  refine U' 5 O<|Z O O (A.i O B)<|U' 2 O<|Z O O (A.f O)<|Z O O (A.i O (Cc hc))<|C' O O (X.eql O O) (fun c4=>?_) fun c4=>?_
  ·refine Qg ?_
   refine Z8 rfl rfl (X.not rfl) (by decide) (fun c5=>?_) (fun c5=>?_)
   ·exact U' 2 O<|V' 1 O<|H5 true<|X1
   exact U' 2 O<|V' 1 O<|H5 false<|X1
  exact U' 5 O<|V' 1 O<|H5 false<|X1
 rintro u ⟨y,q⟩
 refine L1 rfl (fun c6=>?_) (fun c6=>?_)
 ·refine q' 7 O<|A0 O O<|C2 ?_
  refine⟨_,rfl,?_⟩;first|(rw[AP,D' (y ‹_›)];exact .nil)|(rw[AP,A' (q ‹_›),D' (t ‹_›)];exact .nil)
 refine q' 4 O<|f' O t'<|i' (GC d) O<|U 8 O<|y' (X.neg rfl (by omega) (by omega))<|y' (EG rfl rfl)<|U 2 O<|y' (Hw rfl rfl)<|WL.x (V:=Value.agg [J (max 0 (-(s.offset+zero))),J (min 12000 (12000-(s.offset+zero)))].toArray) (X.build zeroValue23 runUnderlying23 (H6 _ underlying23) rfl rfl) (by decide) ?_
 refine n' zeroValue23 O fun z=>w' 0 O O O<|U 7 O<|f' O t'<|s' (A3g hc) O fun c7 C=>have f6:=C.le;l' C O<|U 4 O ?_
 refine Di (fun(k:Nat) (lo:Int) (hi:Int)=>c.reads.length-k) (fun k lo hi=>[blk z 23 [J lo,J hi]]) (fun k lo hi=>[(0,.pointer (some (pc))),(5,Pt b1 0),(6,Pt b2 0),(11,J (s.offset+zero)),(12,Pt z 0),(71,c7),(72,J c.reads.length),(73,J k)]) (fun k lo hi=>k≤c.reads.length∧lo=(EU c.reads tick (s.offset+zero) (Iw (s.offset+zero)) k).Lo∧hi=(EU c.reads tick (s.offset+zero) (Iw (s.offset+zero)) k).Hi) 0 (max 0 (-(s.offset+zero))) (min 12000 (12000-(s.offset+zero))) ?_ ?_
 ·exact⟨EF _,rfl,rfl⟩
 rintro k lo hi ⟨hk,hlo,hhi⟩
 have f7:=Np (l:=c.reads) (tick:=tick) (b:=s.offset+zero) (o:=Iw (s.offset+zero)) (by omega) W.2 (by unfold Iw;(try dsimp only);omega) k hk
 refine have f8:=fun a:k<c.reads.length=>W.2 k a;q' 2 O<|c' (X.lss O O) (fun c8=>?_) fun c8=>?_
 ·refine U 10 O<|x' k C O O fun h0 a3=>g' a3 O fun h1 a4=>?_
  obtain rfl:=a4
  refine n' zeroValue196 O fun h2=>w' 0 O O O<|U 4 O<|f' O t'<|b' 0 O O O<|i' B O<|c' (X.eql O O) (fun c9=>?_) fun c9=>?_
  ·refine U 4 O<|f' O t'<|b' 1 O O O<|f' O t'<|f' O t'<|b' 0 O O O<|U 2 O<|y' (EG rfl rfl)<|f' O t'<|b' 1 O O O<|f' O t'<|f' O t'<|b' 0 O O O<|U 2 O<|y' (Hw rfl rfl)<|WL.x (V:=Value.agg [J (max lo ((((gt c.reads k).Levels).Lo)-(s.offset+zero))),J (min hi ((((gt c.reads k).Levels).Hi)-(s.offset+zero)))].toArray) (X.build zeroValue23 runUnderlying23 (H6 _ underlying23) rfl rfl) (by decide) ?_
   exact w' 1 O O O<|U 8 O<|O7 (k+1) (max lo ((((gt c.reads k).Levels).Lo)-(s.offset+zero))) (min hi ((((gt c.reads k).Levels).Hi)-(s.offset+zero)))<|IA
  exact U 11 O<|O7 (k+1) lo hi<|IA
 refine U 9 O ?_
 refine Bm (fun(g:Bool)=>m6) (fun g=>[blk z 23 [J lo,J hi]]) (fun g=>[(0,.pointer (some (pc))),(5,Pt b1 0),(6,Pt b2 0),(12,Pt z 0),(15,.bool (g))]) (fun g=>(g=true→Gl s)∧(g=false→¬Gl s)) ?_ ?_
 ·refine q' 1 O<|f' O t'<|i' (I9 d) O<|c' (X.geq O O) (fun d0=>?_) fun d0=>?_
  ·refine U 2 O<|f' O t'<|U 1 O<|i' (Bs d) O<|U 1 O<|c' (X.eql O O) (fun d1=>?_) fun d1=>?_
   ·exact U 4 O<|H5 true<|EI
   exact U 4 O<|H5 false<|EI
  exact U 8 O<|H5 false<|EI
 rintro g ⟨hyes12_,hno12_⟩
 have e0:k=c.reads.length:=(by omega)
 have D:AR c tick (s.offset+zero)=Span.mk lo hi:=(by subst e0;rw[hlo,hhi];rfl)
 have ho1_:(AR c tick (s.offset+zero)).Lo=lo:=(by rw[D])
 have ho2_:(AR c tick (s.offset+zero)).Hi=hi:=(by rw[D])
 refine q' 1 O ?_
 refine Bm (fun(n:Bool)=>m6) (fun n=>[blk z 23 [J lo,J hi]]) (fun n=>[(0,.pointer (some (pc))),(5,Pt b1 0),(12,Pt z 0),(15,.bool (g)),(122,.bool (n))]) (fun n=>(n=true→Iq c s tick (s.offset+zero))∧(n=false→¬Iq c s tick (s.offset+zero))) ?_ ?_
 ·refine q' 1 O<|f' O t'<|b' 0 O O O<|f' O t'<|b' 0 O O O<|c' (X.gtr O O) (fun d2=>?_) fun d2=>?_
  ·exact U 13 O<|H5 true<|CJ
  refine U 4 O ?_
  refine J6 (X.move rfl) (by decide) (fun d3=>?_) (fun d3=>?_)
  ·refine U 5 O<|f' O t'<|U 1 O<|s' (A4n hc) O fun h3 P=>have f9:=P.le;U 1 O<|y' (X.makeFunc (by intro x hx;simp at hx;rcases hx with rfl|rfl;all_goals exact⟨_,rfl⟩) rfl)<|U 1 O<|c' (X.call call196 rfl (B1O (p:=fun i=>((gt c.marks i).Column=s.column∧¬((gt c.marks i).Ticks.Lo≤tick∧tick≤(gt c.marks i).Ticks.Hi))) _ P (caps:=[Pt b1 0,Pt b2 0]) call197 (fun i _=>B1M _ (x:=gt c.marks i) rfl d B))) (fun d4=>?_) fun d4=>?_
   ·exact U 5 O<|H5 true<|CJ
   exact U 5 O<|H5 false<|CJ
  exact U 11 O<|H5 false<|CJ
 rintro n ⟨t,r⟩
 refine L1 rfl (fun d5=>?_) (fun d5=>?_)
 ·refine q' 7 O<|A0 O O<|C2 ?_
  refine⟨_,rfl,?_⟩;first|(rw[AP,D' (y ‹_›)];exact .nil)|(rw[AP,A' (q ‹_›),D' (t ‹_›)];exact .nil)
 refine q' 4 O<|B9 13 [] []<|U' 1 O ?_
 refine Z8 rfl rfl (X.move rfl) (by decide) (fun d6=>?_) (fun d6=>?_)
 ·refine U' 2 O<|Z O O (A.f O)<|S' (MV hc) O O O fun h4 Q=>have g0:=Q.le;Z O O (A.f O)<|Z O O (A.i O (I9 d)) ?_
  try have E:0≤s.column∧s.ago=0:=hyes12_ ‹_›
  refine J0 O O (BV runUnderlying67 sizeOf28 rfl rfl Q (by omega) (by omega)) (by decide) fun h5 a5=>S' a5 O O O fun h6 R=>have g1:=R.le;Z O O (A.l O R)<|C' O O (X.gtr O O) (fun d7=>?_) fun d7=>?_
  ·refine U' 1 O<|V' 3 O ?_
   have E:0≤s.column∧s.ago=0:=hyes12_ ‹_›
   refine B9 16 [9,10] []<|U' 2 O<|Z O O (A.f O)<|S' (MV hc) O O O fun h7 S=>have g2:=S.le;Z O O (A.f O)<|Z O O (A.i O (I9 d))<|J0 O O (BV runUnderlying67 sizeOf28 rfl rfl S (by omega) (by omega)) (by decide) fun h8 a6=>S' a6 O O O fun h9 w=>have g3:=w.le;Z O O (L9 0 O O O) ?_
   refine W2 rfl rfl rfl (M5 (α:=Span) (vals:=[.agg [J lo,J hi].toArray]) (L:=[(Span.mk (lo) (hi))]) K9 rfl (.cons rfl rfl .nil) rfl rfl) (by decide) (fun e2 e3 G hs103=>?_)
   refine have w:=w.mono G;W2 O O O (T.call call198 rfl (B2P _ _ _ w _ _ hs103)) (by decide) fun e4 e5 a8 Y=>?_
   obtain⟨g4,rfl,F⟩:=Y
   refine have e1:=F.le;U' 5 O<|V' 9 O<|A0 O O<|C2 ?_
   refine⟨_,rfl,?_⟩;rw[AP,A' (q ‹_›),A' (r ‹_›),D' ⟨hyes12_ ‹_›,by omega⟩,D];exact F
  refine U' 1 O<|V' 6 O<|a' 0 O O ?_
  refine C0 (M5 (α:=Span) (vals:=[.agg [J lo,J hi].toArray]) (L:=[(Span.mk (lo) (hi))]) K9 rfl (.cons rfl rfl .nil) rfl rfl) (by decide) (fun e6 e7 a9 a0=>?_)
  refine U 4 O<|A0 O O<|C2 ?_
  refine⟨_,rfl,?_⟩;rw[AP,A' (q ‹_›),A' (r ‹_›),A' (fun a=>by first|exact absurd a.1 (hno12_ ‹_›)|(have h1_:=a.2;omega)),D];exact a0
 refine d_6 ?_
 try have E:0≤s.column∧s.ago=0:=hyes12_ ‹_›
 refine U' 5 O<|V' 6 O<|a' 0 O O ?_
 refine C0 (M5 (α:=Span) (vals:=[.agg [J lo,J hi].toArray]) (L:=[(Span.mk (lo) (hi))]) K9 rfl (.cons rfl rfl .nil) rfl rfl) (by decide) (fun e8 e9 b0 a1=>?_)
 refine U 4 O<|A0 O O<|C2 ?_
 refine⟨_,rfl,?_⟩;rw[AP,A' (q ‹_›),A' (r ‹_›),A' (fun a=>by first|exact absurd a.1 (hno12_ ‹_›)|(have h1_:=a.2;omega)),D];exact a1
theorem Cp(h:G:=by exact⟨fun h_=>by first|(cases h_;done)|(rw[A1m hzj hlo hhi];exact⟨by assumption,by assumption,by first|exact .inl ‹_›|exact .inr ‹_›⟩;done),fun h_=>by first|(cases h_;done)|(rw[A1m hzj hlo hhi];rintro⟨h1_,h2_,h3_⟩;first|contradiction|(rcases h3_ with h3_|h3_ <;> first|contradiction|omega);done)⟩):G:=h
theorem Rm(m:Mem)(cp:List Value)(p:Pen)(hp:Enc.rd m cp p)(offset:Int)(hpe:M9 p)(hof: -p.Band≤offset∧offset≤p.Band):Pure prog 199 #[.agg cp.toArray,J offset] m (fun m' v=>∃r0,v= .tuple #[r0,J 0]∧Sl m' r0 (E7 p offset)):=by
 obtain rfl:=hp
 have o:=hpe
 unfold M9 at o
 refine F6 func199 O ntmps199 fun a0=>q' 2 O<|o' O O fun E=>U 3 O<|fz (x:=p) 0 O O O fun F T c=>E2<|q' 2 O<|g' c O fun c5 G=>?_
 obtain rfl:=G
 refine y' (X.call call8 rfl (Mp _ _ p rfl))<|U 8 O<|y' (OpX.f (X.neq rfl rfl) (fun W=>W (RG hpe)))<|U 7 O<|f' O t'<|i' (W5 c) O<|y' (X.neg rfl (by omega) (by omega))<|f' O t'<|i' (W5 c) O<|y' (OpX.t (X.call call26 rfl (DV _ _ _ _)) hof)<|U 9 O<|I5 EdgeT 155<|q' 7 O<|f' O t'<|i' (W5 c) O<|y' (X.neg rfl (by omega) (by omega))<|U 4 O ?_
 refine Di (fun(j:Nat) (zj:Int) (vo:Value)=>V3 p.Band-j) (fun j zj vo=>[A5 (vo) 155 (CF p offset j)]) (fun j zj vo=>[(1,J offset),(2,Pt E 0),(7,vo),(8,J zj)]) (fun j zj vo=>j≤V3 p.Band∧zj=(j:Int)-p.Band) 0 (-p.Band) (Value.slice none 0 0) ?_ ?_
 ·exact⟨EF _,by omega⟩
 rintro j zj vo ⟨hj,hzj⟩
 have Y:=KZ offset hpe j hj
 have u:(j:Int)=zj+p.Band:=(by omega)
 refine q' 4 O<|f' O t'<|i' (W5 c) O<|c' (X.leq O O) (fun H=>?_) fun H=>?_
 ·refine U 9 O<|n' zeroValue23 O fun g=>U 2 O ?_
  refine Bm (fun(hi:Int)=>F) (fun hi=>[blk g 23 [J 0,J hi],A5 (vo) 155 (CF p offset j)]) (fun hi=>[(1,J offset),(2,Pt E 0),(7,vo),(8,J zj),(9,Pt g 0)]) (fun hi=>hi=(Ey p offset j).Hi) ?_ ?_
  ·refine q' 3 O<|f' O t'<|i' (W5 c) O<|c' (X.eql O O) (fun I=>?_) fun I=>?_
   ·refine U 4 O<|f' O t'<|i' (LY c) O<|f' O t'<|i' (W5 c) O<|U 3 O<|f' O t'<|G7 (C1 (k:=0) sizeOf3 rfl rfl rfl rfl (J' rfl))<|U 2 O<|H5 ((p.Rate-p.Band)+offset) ?_
    unfold Ey;first|(rw[D' (by omega)];done)|(rw[A' (by omega)];done)|((try dsimp only);first|(rw[D' (by omega)];done)|(rw[A' (by omega)];done))
   refine U 5 O<|H5 0 ?_
   unfold Ey;first|(rw[D' (by omega)];done)|(rw[A' (by omega)];done)|((try dsimp only);first|(rw[D' (by omega)];done)|(rw[A' (by omega)];done))
  rintro hi q
  try dsimp only at q
  have hhi:=q
  refine Bm (fun(lo:Int)=>F) (fun lo=>[blk g 23 [J lo,J hi],A5 (vo) 155 (CF p offset j)]) (fun lo=>[(1,J offset),(2,Pt E 0),(7,vo),(8,J zj),(9,Pt g 0)]) (fun lo=>lo=(Ey p offset j).Lo) ?_ ?_
  ·refine q' 3 O<|f' O t'<|i' (W5 c) O<|y' (X.neg rfl (by omega) (by omega))<|c' (X.eql O O) (fun K=>?_) fun K=>?_
   ·refine U 4 O<|f' O t'<|i' (LY c) O<|y' (X.neg rfl (by omega) (by omega))<|f' O t'<|i' (W5 c) O<|U 3 O<|f' O t'<|G7 (C1 (k:=0) sizeOf3 rfl rfl rfl rfl (J' rfl))<|U 2 O<|H5 (((-p.Rate)+p.Band)+offset) ?_
    unfold Ey;first|(rw[D' (by omega)];done)|(rw[A' (by omega)];done)|((try dsimp only);first|(rw[D' (by omega)];done)|(rw[A' (by omega)];done))
   refine U 5 O<|H5 0 ?_
   unfold Ey;first|(rw[D' (by omega)];done)|(rw[A' (by omega)];done)|((try dsimp only);first|(rw[D' (by omega)];done)|(rw[A' (by omega)];done))
  rintro lo r
  try dsimp only at r
  have hlo:=r
  have y:Ey p offset j=Span.mk lo hi:=(by rw[hlo,hhi])
  refine Bm (fun(d:Bool)=>F) (fun d=>[blk g 23 [J lo,J hi],A5 (vo) 155 (CF p offset j)]) (fun d=>[(1,J offset),(2,Pt E 0),(7,vo),(8,J zj),(9,Pt g 0),(80,.bool (d))]) (fun d=>(d=true→KI p offset j)∧(d=false→¬KI p offset j)) ?_ ?_
  ·refine B9 21 [] []<|Z O O (A.f O)<|Z O O (A.b 0 O O O)<|C' O O (X.leq O O) (fun L=>?_) fun L=>?_
   ·refine U' 1 O<|Z O O (A.f O)<|Z O O (A.b 0 O O O)<|C' O O (X.geq O O) (fun M=>?_) fun M=>?_
    ·refine U' 2 O<|Z O O (L9 0 O O O)<|DW.x (V:=Value.agg [J 0,J 0].toArray) O O (X.build zeroValue23 runUnderlying23 (H6 _ underlying23) rfl rfl) (by decide) ?_
     refine CM rfl rfl (MX (a:=(Span.mk (lo) (hi))) (b:=(Span.mk (0) (0))) A8c (fun w=>Ed 9998 _ _ w) rfl rfl) (by decide) (fun N=>?_) (fun N=>?_)
     ·exact U' 9 O<|V' 1 O<|H5 true<|Cp
     refine U' 3 O<|Z O O (X.call call32 rfl (Oi _ _ _ (by omega) (by omega)))<|Z O O (A.f O)<|Z O O (A.i O (LY c))<|C' O O (X.leq O O) (fun P=>?_) fun P=>?_
     ·exact U' 2 O<|V' 1 O<|H5 true<|Cp
     exact U' 2 O<|V' 1 O<|H5 false<|Cp
    exact U' 14 O<|V' 1 O<|H5 false<|Cp
   exact U' 18 O<|V' 1 O<|H5 false<|Cp
  rintro d ⟨l,n⟩
  refine L1 rfl (fun Q=>?_) (fun Q=>?_)
  ·refine q' 3 O<|f' O t'<|i' (W5 c) O<|U 1 O<|a' 0 O O<|WL.x (V:=Value.agg [J (zj+p.Band),J lo,J hi].toArray) (X.build zeroValue155 runUnderlying155 (Qf _ underlying155) rfl rfl) (by decide) ?_
   refine R0 (G6 Qz rfl rfl rfl (by decide)) (by decide) fun a1=>?_
   refine G2 (G1 (k:=1) (a:=(EdgeT.mk (zj+p.Band) ((Span.mk (lo) (hi))))) Qz rfl rfl rfl rfl (by first|omega|(simp;done)|(simp;omega)) (by decide)) (by decide) (fun R=>?_)
   refine U 10 O ?_
   have z:((CF p offset j)++[(EdgeT.mk (zj+p.Band) ((Span.mk (lo) (hi))))])=(CF p offset (j+1)):=(by rw[←B2H (l ‹_›),y,←u])
   rw[z]
   refine O7 (j+1) (zj+1) R ?_ ?_
   ·exact⟨BT hzj ‹_›,by omega⟩
   (have B:=BT hzj ‹_›;(try dsimp only);omega)
  refine q' 9 O ?_
  have C:(CF p offset j)=(CF p offset (j+1)):=B3x (n ‹_›)
  rw[C]
  refine O7 (j+1) (zj+1) vo ?_ ?_
  ·exact⟨BT hzj ‹_›,by omega⟩
  (have B:=BT hzj ‹_›;(try dsimp only);omega)
 refine U 9 O ?_
 have D:(CF p offset j)=(E7 p offset):=(by rw[PR hzj ‹_› hj o.1.1];rfl)
 rw[D]
 refine q' 7 O ?_
 refine E4 0 rfl rfl (by have W:=KZ offset hpe _ (E' _);unfold C7 E7;omega) (fun a2 S s=>?_)
 exact B7 O O O<|C2<|⟨_,rfl,s⟩
end Go.Proofs.T10
