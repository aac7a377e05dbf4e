import Derived.Test.YtooomcigmleneaaGreatT10W49
set_option linter.all false
set_option maxHeartbeats 4000000
namespace Go.Proofs.T10
open Tryz Go Go.Kx Go.Proofs.S10
set_option maxRecDepth 20000
theorem A3d(m:Mem){vl:Value}{l:List Span}(hl:Sl m vl l){by_:Int}(hv:CR l)(hb_: -300≤by_∧by_≤300):Pure prog 189 #[vl,J by_] m (fun m' v=>Sl m' v (Aj l ⟨by_,by_⟩)):=by
 refine have r:=BJ hv;have d:=DM hv;F6 func189 O ntmps189 fun u=>q' 6 O<|I5 Span 23<|q' 8 O<|l' hl O<|U 4 O ?_
 refine S5 (fun(k:Nat) (vo:Value)=>l.length-k) (fun k vo=>[A5 (vo) 23 (D2 k (fun b=>Span.mk ((gt l b).Lo+by_) ((gt l b).Hi+by_)))]) (fun k vo=>[(1,J by_),(5,vo),(8,vl),(9,J l.length),(10,J k)]) (fun k vo=>k≤l.length) 0 (Value.slice none 0 0) ?_ ?_
 ·exact EF _
 rintro k vo n
 try dsimp only at n
 have E:=n
 have s:(D2 k (fun b=>Span.mk ((gt l b).Lo+by_) ((gt l b).Hi+by_))).length=k:=B5 _ _
 refine have t:=fun h_:k<l.length=>d k h_;q' 2 O<|c' (X.lss O O) (fun w=>?_) fun w=>?_
 ·refine U 10 O<|x' k hl O O fun A o=>g' o O fun B p=>?_
  obtain rfl:=p
  refine n' zeroValue23 O fun C=>w' 0 O O O<|U 4 O<|f' O t'<|b' 0 O O O<|U 2 O<|f' O t'<|b' 0 O O O<|U 2 O<|WL.x (V:=Value.agg [J (((gt l k).Lo)+by_),J (((gt l k).Hi)+by_)].toArray) (X.build zeroValue23 runUnderlying23 (H6 _ underlying23) rfl rfl) (by decide) ?_
  refine R0 (G6 K9 rfl rfl rfl (by decide)) (by decide) fun D=>?_
  refine G2 (G1 (k:=1) (a:=(Span.mk (((gt l k).Lo)+by_) (((gt l k).Hi)+by_))) K9 rfl rfl rfl rfl (by first|omega|(simp;done)|(simp;omega)) (by decide)) (by decide) (fun y=>?_)
  refine U 9 O ?_
  have f:((D2 k (fun b=>Span.mk ((gt l b).Lo+by_) ((gt l b).Hi+by_)))++[(Span.mk (((gt l k).Lo)+by_) (((gt l k).Hi)+by_))])=(D2 (k+1) (fun b=>Span.mk ((gt l b).Lo+by_) ((gt l b).Hi+by_))):=(O9 _ _).symm
  rw[f]
  exact K2 (k+1) y<|by omega
 refine U 10 O ?_
 have g:(D2 k (fun b=>Span.mk ((gt l b).Lo+by_) ((gt l b).Hi+by_)))=(Aj l ⟨by_,by_⟩):=(by rw[show k=l.length by omega];exact A1F l ⟨by_,by_⟩)
 rw[g]
 refine q' 6 O ?_
 refine E4 0 rfl rfl (by unfold C7;rw[DN];omega) (fun z q c=>?_)
 exact A0 O O<|C2<|c
theorem B5o(m:Mem)(ca:List Value)(a:Span)(ha:Enc.rd m ca a)(cb:List Value)(b:Span)(hb:Enc.rd m cb b):Exact prog 190 #[.agg ca.toArray,.agg cb.toArray] m (J (Lp a b)):=by
 obtain rfl:=ha
 obtain rfl:=hb
 exact D4 func190 O ntmps190 fun c=>q' 2 O<|o' O O fun d=>o' O O fun f=>U 5 O<|f' O t'<|b' 1 O O O<|f' O t'<|b' 0 O O O<|y' (Mj rfl rfl)<|U 4 O<|A0 O O<|A8<|B0 rfl
theorem A7x:CmpOk 190 Lp:=⟨call190,fun m a b=>B5o m _ a rfl _ b rfl,fun _ _ c d=>LU c d⟩
theorem KL(m:Mem){v:Value}{L:List Span}(hL:Sl m v L)(hn:L.length≤4000000000)(hv:Aq L):Pure prog 110 #[v] m (fun m' v=>Sl m' v (K4 L)):=by
 refine F6 func110 O ntmps110 fun V=>q' 8 O ?_
 refine C0 (T.call call127 rfl (Ja _ hL)) (by decide) (fun m1 _ N n=>?_)
 obtain⟨a3,rfl,C⟩:=n
 refine C5 (H3 call125 rfl (OY _ (L:=L) call213 C (by omega) (A2s hv) A7x)) (by decide) (fun m5 Es6 P Q n=>?_)
 obtain⟨R9,rfl,S,c⟩:=n
 refine U 4 O<|I5 Span 23<|q' 6 O ?_
 have r:(([]:List Span))=(C4 (R9.take 0)):=rfl
 rw[r]
 have R:R9.length=L.length:=c.1.length_eq
 have t:Aq R9:=Io hv c.1
 refine q' 2 O<|y' (V8 (k:=1) runUnderlying28 rfl rfl)<|U 4 O ?_
 refine S5 (fun(k:Nat) (vq:Value)=>R9.length-k) (fun k vq=>[A5 (vq) 23 (C4 (R9.take k)),A5 (P) 23 (R9)]) (fun k vq=>[(3,vq),(10,P),(11,J R9.length),(12,J k)]) (fun k vq=>k≤R9.length) 0 (Value.slice none 0 0) ?_ ?_
 ·exact EF _
 rintro k vq g
 try dsimp only at g
 have hk:=g
 have d:=Hv (l:=R9.take k) (fun s W=>t s (TQ W))
 have p:=d.2
 rw[Sr]at p
 have M:(C4 (R9.take k)).length≤k:=(by omega)
 have D:0<(C4 (R9.take k)).length→-1000000000≤(gt (C4 (R9.take k)) ((C4 (R9.take k)).length-1)).Hi∧(gt (C4 (R9.take k)) ((C4 (R9.take k)).length-1)).Hi≤1000000000:=fun o=>(by have h1_:=QV d.1 (i:=(C4 (R9.take k)).length-1) (by omega);omega)
 refine q' 2 O<|c' (X.lss O O) (fun E=>?_) fun E=>?_
 ·refine U 10 O<|y' (A9 1 k)<|y' (A.fs 1 (k) 0 [J (((gt R9 k)).Lo),J (((gt R9 k)).Hi)] O O O O)<|n' zeroValue23 O fun Y=>w' 0 O O O<|U 5 O<|y' (V8 (k:=1) runUnderlying28 rfl rfl)<|U 4 O<|B9 14 [] []<|U' 1 O<|C' O O (X.gtr O O) (fun F=>?_) fun F=>?_
  ·refine U' 1 O<|Z O O (A.f O)<|Z O O (A.b 0 O O O)<|U' 3 O<|Z O O (A9 1 ((C4 (R9.take k)).length-1))<|Z O O (A.f O)<|Z O O (P2 (k:=1) (i:=(C4 (R9.take k)).length-1) (off:=1) (u:=J (((gt (C4 (R9.take k)) ((C4 (R9.take k)).length-1))).Hi)) isAgg3 rfl rfl (by first|omega|(simp;omega)|simp) rfl)<|U' 1 O<|C' O O (X.leq O O) (fun G=>?_) fun G=>?_
   ·refine U' 1 O<|V' 2 O<|B9 15 [14] [14]<|U' 6 O<|Z O O (A9 1 ((C4 (R9.take k)).length-1))<|Z O O (A.f O)<|Z O O (P2 (k:=1) (i:=(C4 (R9.take k)).length-1) (off:=1) (u:=J (((gt (C4 (R9.take k)) ((C4 (R9.take k)).length-1))).Hi)) isAgg3 rfl rfl (by first|omega|(simp;omega)|simp) rfl)<|Z O O (A.f O)<|Z O O (A.b 0 O O O)<|Z O O (EG rfl rfl)<|Z O O (A9 1 ((C4 (R9.take k)).length-1))<|Z O O (A.f O)<|B4 O O O O (D3 (k:=1) (i:=(C4 (R9.take k)).length-1) (off:=1) (us:=[J (max (((gt (C4 (R9.take k)) ((C4 (R9.take k)).length-1))).Hi) (((gt R9 k)).Hi))]) ((Span.mk (((gt (C4 (R9.take k)) ((C4 (R9.take k)).length-1))).Lo) (max (((gt (C4 (R9.take k)) ((C4 (R9.take k)).length-1))).Hi) (((gt R9 k)).Hi)))) sizeOf3 rfl rfl rfl rfl (O' _) rfl (by first|omega|(simp;omega)|simp) rfl rfl (A4 rfl C6))<|V' 7 O ?_
    have w:((C4 (R9.take k)).set ((C4 (R9.take k)).length-1) ((Span.mk (((gt (C4 (R9.take k)) ((C4 (R9.take k)).length-1))).Lo) (max (((gt (C4 (R9.take k)) ((C4 (R9.take k)).length-1))).Hi) (((gt R9 k)).Hi)))))=(C4 (R9.take (k+1))):=((Ao (by omega)).trans (HX ⟨by omega,by omega⟩)).symm
    rw[w]
    exact K2 (k+1) vq<|by omega
   refine U' 1 O<|V' 4 O<|a' 0 O O<|R0 (G6 K9 rfl rfl rfl (by decide)) (by decide) fun a0=>?_
   refine G2 (G1 (k:=1) (a:=gt R9 k) K9 rfl rfl rfl rfl (by first|omega|(simp;done)|(simp;omega)) (by decide)) (by decide) (fun H=>?_)
   refine U 9 O ?_
   have x:((C4 (R9.take k))++[gt R9 k])=(C4 (R9.take (k+1))):=((Ao (by omega)).trans (CY (fun o=>by have h1_:=o.1;have h2_:=o.2;omega))).symm
   rw[x]
   exact K2 (k+1) H<|by omega
  refine U' 12 O<|V' 4 O<|a' 0 O O<|R0 (G6 K9 rfl rfl rfl (by decide)) (by decide) fun a1=>?_
  refine G2 (G1 (k:=1) (a:=gt R9 k) K9 rfl rfl rfl rfl (by first|omega|(simp;done)|(simp;omega)) (by decide)) (by decide) (fun I=>?_)
  refine U 9 O ?_
  have y:((C4 (R9.take k))++[gt R9 k])=(C4 (R9.take (k+1))):=((Ao (by omega)).trans (CY (fun o=>by have h1_:=o.1;have h2_:=o.2;omega))).symm
  rw[y]
  exact K2 (k+1) I<|by omega
 refine U 10 O ?_
 have z:k=R9.length:=(by omega)
 have B:(C4 (R9.take k))=(K4 L):=(by rw[z,Un];exact HN c.1 c.2 (AW hv))
 rw[B]
 refine q' 6 O ?_
 refine E4 0 rfl rfl (by have o:=AZ hv;unfold C7;omega) (fun a2 K q=>?_)
 exact A0 O O<|C2<|q
theorem RR(m:Mem){pc:Addr}{c:Chart}(hpc:At m pc c){vl:Value}{l:List (List Span)}(hl:Sl m vl l){zero:Int}(hg:AM l)(ho:∀i,i<l.length→-300≤(gt c.L i).offset+zero∧(gt c.L i).offset+zero≤300)(hn:l.length≤4000)(hlL:l.length≤c.L.length)(hzz: -200≤zero∧zero≤200):Pure prog 109 #[.pointer (some pc),vl,J zero] m (fun m' v=>Sl m' v (Kg c.L l zero)):=by
 refine F6 func109 O ntmps109 fun F=>q' 6 O<|I5 Span 23<|q' 8 O<|l' hl O<|U 4 O ?_
 have z:(([]:List Span))=(Dp c.L l zero 0):=rfl
 rw[z]
 refine Iz (fun(k:Nat) (vo:Value) (mm:Mem)=>l.length-k) (fun k vo mm=>mm) (fun k vo mm=>[A5 (vo) 23 (Dp c.L l zero k)]) (fun k vo mm=>[(0,.pointer (some (pc))),(2,J zero),(7,vo),(10,vl),(11,J l.length),(12,J k)]) (fun k vo mm=>k≤l.length∧m.le mm) 0 (Value.slice none 0 0) m ?_ ?_
 ·exact⟨EF _,Mem.le_refl _⟩
 rintro k vo mm ⟨R,d⟩
 refine have hpc:=hpc.mono d;have hl:=hl.mono d;have A:=(DX hg ho k R).2;have B:=fun s:k<l.length=>ho k s;have C:=DN (gt l k) ⟨(gt c.L k).offset+zero,(gt c.L k).offset+zero⟩;have D:=fun s:k<l.length=>BJ (hg k s);q' 2 O<|c' (X.lss O O) (fun G=>?_) fun G=>?_
 ·refine U 11 O<|x' k hl O O fun S t=>s' t O fun V f=>have Q:=f.le;U 9 O<|f' O t'<|s' (ME hpc) O fun H a=>have E:=a.le;U 1 O<|x' k a O O fun I g=>f' O t'<|i' (GC g) O<|U 2 O ?_
  refine C0 (T.call call189 rfl (A3d _ f (hg k (by omega)) (by omega))) (by decide) (fun u K b n=>?_)
  refine G2 (X5 (α:=Span) (fun _ _ _ h=>h) (k:=0) K9 rfl rfl n rfl (by first|omega|(simp;omega)) (by first|omega|(simp;omega))) (by decide) (fun w=>?_)
  refine U 9 O ?_
  have q:((Dp c.L l zero k)++(Aj (gt l k) ⟨((gt c.L k).offset)+zero,((gt c.L k).offset)+zero⟩))=(Dp c.L l zero (k+1)):=rfl
  rw[q]
  exact O7 (k+1) w u<|⟨by omega,(Mem.le_trans d b)⟩
 refine U 10 O ?_
 have r:(Dp c.L l zero k)=(Dp c.L l zero l.length):=(by rw[show k=l.length by omega])
 rw[r]
 refine q' 2 O ?_
 refine BR 0 rfl rfl (by have s:=(DX hg ho l.length (E' _)).2;unfold C7;omega) (fun M x o=>?_)
 refine C0 (T.call call110 rfl (KL _ o (by have s:=(DX hg ho l.length (E' _)).2;omega) (DX hg ho l.length (E' _)).1)) (by decide) (fun N P y p=>?_)
 exact U 4 O<|A0 O O<|C2<|p
def trA(c:Chart):Nat→Mem→Array Value→Prop:=fun i b a=>∃v,a=#[.agg [v].toArray,J (gt c.zeroes i)]∧Sl b v (X4 c (gt c.zeroes i))
theorem A4u(m:Mem){pc:Addr}{c:Chart}(hpc:At m pc c){ix:Nat}(hmz:MapZ m ix (J 0) (fun s_:StateT=>J (AL c.L s_)))(hix:c.index.v= .map (some ix))(hch:ChN c c.L){pb pa pw pt:Addr}(hcc:Cells m pb [.pointer (some pc)])(hca:Cells m pa [.bool true])(hz:Ii c):S1 prog 111 [.pointer (some pb),.pointer (some pa),.pointer (some pw),.pointer (some pt)] m false c.zeroes.length (trA c):=by
 intro lo S HS I Ix H B n K M
 refine G3 func111 O ntmps111 fun C=>q' 2 O<|o' O O fun r=>U 4 O<|y' (J9 isAgg122 rfl hcc)<|U 1 O<|f' O t'<|s' (A2C hpc) O fun D d=>have G:=d.le;l' d O<|U 4 O ?_
 have z:m.le m:=Mem.le_refl _
 refine Iz (fun(k:Nat) (mm:Mem) (ss:S)=>c.zeroes.length-k) (fun k mm ss=>mm) (fun k mm ss=>([blk r 239 [.func (.yield lo) #[] #[]]]++HS ss)) (fun k mm ss=>[(1,.pointer (some pb)),(2,.pointer (some pa)),(3,.pointer (some pw)),(4,.pointer (some pt)),(5,Pt r 0),(13,D),(14,J c.zeroes.length),(15,J k)]) (fun k mm ss=>m.le mm∧I k mm ss∧k≤c.zeroes.length) 0 m H ?_ ?_
 ·exact⟨Mem.le_refl _,M,EF _⟩
 rintro k mm ss ⟨b,o,P⟩
 replace hcc:=hcc.mono b
 replace hca:=hca.mono b
 replace hpc:=hpc.mono b
 replace hmz:=hmz.mono b
 replace d:=d.mono b
 replace o:=o
 refine q' 2 O<|c' (X.lss O O) (fun E=>?_) fun E=>?_
 ·refine U 10 O<|x' k d O O fun N s=>i' s O<|n' zeroValue3 O fun t=>G7 (C1 (k:=0) sizeOf3 rfl rfl rfl rfl (J' rfl))<|U 4 O<|y' (J9 isAgg122 rfl hcc)<|b' 0 O O O ?_
  refine C0 (T.call call58 rfl (A1L _ hpc hmz hix hch (hz.2 k (by omega)))) (by decide) (fun F _ a u=>?_)
  obtain⟨_,rfl,y,rfl,q⟩:=u
  refine have hca:=hca.mono a;n' zeroValue79 O fun w=>w' 0 O O O<|U 5 O<|y' (J9 isAgg4 rfl hca)<|U 5 O<|have o:=n _ _ _ _ a o;q' 1 O<|b' 2 O O O<|a' 0 O O<|b' 1 O O O ?_
  refine AB (T.yield (A:=[blk w 79 [y],blk t 3 [J (gt c.zeroes k)],blk r 239 [.func (.yield lo) #[] #[]]]) rfl rfl rfl (K k _ _ _ (by omega) (Mem.le_trans b a) ⟨_,rfl,q⟩ o)) (by decide) (fun p x g=>?_) (fun p x g=>?_)
  ·obtain⟨f,s2_,rfl,hI2_⟩:=g
   exact U 15 O<|O7 (k+1) p s2_<|⟨(Mem.le_trans b (Mem.le_trans a f)),hI2_,by omega⟩
  obtain⟨f,s2_,rfl,hI2_⟩:=g
  refine U 11 O ?_
  refine E9 rfl (fun w' l=>B3 (l.weaken (.cons _ (.cons _ (.cons _ (.refl _))))) ?_)
  exact⟨s2_,rfl,.inr ⟨k+1,by omega,hI2_⟩⟩
 refine U 8 O ?_
 refine D0 rfl (fun w' l=>B3 (l.weaken (.cons _ (.refl _))) ?_)
 obtain rfl:k=c.zeroes.length:=(by omega)
 exact⟨ss,rfl,.inl o⟩
theorem A0u(m:Mem){pc:Addr}{c:Chart}(hpc:At m pc c){ix:Nat}(hmz:MapZ m ix (J 0) (fun s_:StateT=>J (AL c.L s_)))(hix:c.index.v= .map (some ix))(hch:ChN c c.L){term:Int}(hz:Ii c):Pure prog 52 #[.pointer (some pc),J term,S0,.bool true] m (fun m' v=>∃lb,v= .func (.func 111) #[] lb.toArray∧S1 prog 111 lb m' false c.zeroes.length (trA c)):=by
 refine F6 func52 O ntmps52 fun p=>q' 2 O<|o' O O fun s=>o' O O fun t=>o' O O fun u=>o' O O fun w=>U 4 O ?_
 refine M6 3 rfl rfl (fun y g a=>?_)
 replace hpc:=hpc.mono g
 replace hmz:=hmz.mono g
 refine M6 2 rfl rfl (fun z f l=>?_)
 replace hpc:=hpc.mono f
 replace hmz:=hmz.mono f
 replace a:=a.mono f
 refine M6 1 rfl rfl (fun q b n=>?_)
 replace hpc:=hpc.mono b
 replace hmz:=hmz.mono b
 replace a:=a.mono b
 refine M6 0 rfl rfl (fun r d k=>?_)
 exact have hpc:=hpc.mono d;have hmz:=hmz.mono d;have a:=a.mono d;q' 1 O<|y' (X.makeFunc (by intro x o;simp at o;rcases o with rfl|rfl|rfl|rfl;all_goals exact⟨_,rfl⟩) rfl)<|U 4 O<|A0 O O<|C2<|⟨_,rfl,A4u _ hpc hmz hix hch a k hz⟩
theorem B4Y(m:Mem){pc:Addr}{c:Chart}(hpc:At m pc c){ix:Nat}(hmz:MapZ m ix (J 0) (fun s_:StateT=>J (AL c.L s_)))(hix:c.index.v= .map (some ix))(hch:ChN c c.L){term:Int}(hz:Ii c):Pure prog 49 #[.pointer (some pc),J term,S0,.bool true] m (fun m' v=>Sl m' v (Eg c)):=by
 refine have f9:=hch.ticks;have g0:=hch.len;F6 func49 O ntmps49 fun g6=>q' 2 O<|o' O O fun b1=>U 4 O ?_
 refine M6 0 rfl rfl (fun m2 a8 q=>?_)
 refine have hpc:=hpc.mono a8;have hmz:=hmz.mono a8;q' 1 O<|y' (J9 isAgg122 rfl q)<|U 1 O<|f' O t'<|i' (Cc hpc) O<|U 1 O ?_
 have f3:c.ticks+1=((L7 c:Nat):Int):=(by unfold L7;omega)
 have g1:L7 c≤401:=(by omega)
 rw[f3]
 refine G2 (PQ (L7 c) Lq rfl rfl (by omega) (by decide)) (by decide) (fun E=>?_)
 refine Au (T.alloc zeroValue67 rfl) (by decide) fun W=>?_
 refine E8 (k:=1) rfl (fun d9=>?_)
 refine G7 (C1 (k:=0) sizeOf67 rfl rfl rfl d9 (J' rfl))<|U 4 O<|A6p Span 23 (L7 c)<|q' 1 O<|y' (J9 isAgg122 rfl q)<|U 3 O ?_
 refine C0 (T.call call52 rfl (A0u _ hpc hmz hix hch hz)) (by decide) (fun m9 _ a0 b6=>?_)
 obtain⟨Q,rfl,c2⟩:=b6
 refine have hpc:=hpc.mono a0;have q:=q.mono a0;U 3 O ?_
 refine N8 (S:=List Value×List (List Span)) (G:=Nat) (ps:=[27,28]) (n:=c.zeroes.length) (A:=(trA c)) rfl call111 c2 (fun Y:List Value×List (List Span)=>[mF 23 Y.1 Y.2,blk W 67 [E],row (E) 28 1 (Y.1).length (Y.1)]) (fun i _ Y=>Y.1.length=L7 c∧Y.2=E3 c i) (fun _ _ _ _=>False) (List.replicate (L7 c) (Value.slice none 0 0),List.replicate (L7 c) ([]:List Span)) rfl ⟨Tf ..,rfl⟩ (fun h=>by cases h) (fun _ _ _ _ _ h=>h) (by simp) (fun i m1 l h=>by obtain⟨_,p,_⟩:=h;rw[show l=_ from p];rfl) (fun b_ l gh=>blk b_ 79 ((l.getD 0 undef).cells.toList)::(fun Y:List Value×List (List Span)=>[mF 23 Y.1 Y.2,blk W 67 [E],row (E) 28 1 (Y.1).length (Y.1)]) gh) (fun b_ l=>(11,l.getD 1 undef)::(10,Pt b_ 0)::[(0,.pointer (some (pc))),(1,J term),(2,S0),(3,.bool true),(4,Pt b1 0),(8,S0),(16,.pointer (some (pc))),(17,.pointer (some (pc))),(18,.pointer (some ((pc).add 20))),(19,J c.ticks),(20,J (↑(L7 c))),(21,E),(9,Pt W 0),(22,.pointer (some (pc))),(23,J term),(24,S0),(25,.bool true),(26,.func (.func 111) #[] Q.toArray)]) ?_ ?_ ?_ ?_ ?_
 ·intro lo B1 i R gh l KK d8 c3 B f7
  obtain⟨vt,a7,d6⟩:=c3
  have c1:l=[.agg [vt].toArray,J (gt c.zeroes i)]:=(by have:=Sd Array.toList a7;simpa using this)
  subst c1
  refine qb ?_
  exact q' 2 O<|n' zeroValue79 O fun e0=>w' 0 O O O<|U 5 O<|I8 (.cons rfl (.cons rfl (.cons rfl (.cons rfl (.cons rfl (.cons rfl (.cons rfl (.cons rfl (.cons rfl (.cons rfl (.cons rfl (.cons rfl (.cons rfl (.cons rfl (.cons rfl (.cons rfl (.cons rfl (.cons rfl (.cons rfl (.cons rfl .nil)))))))))))))))))))) (f7 e0)
 ·intro lo B1 i R gh l b_ d8 hi B c3 M
  obtain⟨vt,a7,d6⟩:=c3
  have c1:l=[.agg [vt].toArray,J (gt c.zeroes i)]:=(by have:=Sd Array.toList a7;simpa using this)
  subst c1
  obtain⟨ws,M_⟩:=gh
  obtain⟨r,I⟩:=M
  replace I:M_=E3 c i:=I
  replace r:ws.length=L7 c:=r
  subst I
  have s:=hz.2 i hi
  have b0:=Jj hch s
  have g2:=LV hch (gt c.zeroes i)
  have u:=AV c i
  have f4:=If (X4 c (gt c.zeroes i))
  replace hpc:=hpc.mono B
  replace q:=q.mono B
  show WK _ _ R [blk b_ 79 [vt],mF 23 ws (E3 c i),blk W 67 [E],row (E) 28 1 (ws).length (ws)] [(11,J (gt c.zeroes i)),(10,Pt b_ 0),(0,.pointer (some (pc))),(1,J term),(2,S0),(3,.bool true),(4,Pt b1 0),(8,S0),(16,.pointer (some (pc))),(17,.pointer (some (pc))),(18,.pointer (some ((pc).add 20))),(19,J c.ticks),(20,J (↑(L7 c))),(21,E),(9,Pt W 0),(22,.pointer (some (pc))),(23,J term),(24,S0),(25,.bool true),(26,.func (.func 111) #[] Q.toArray)] _
  refine qb ?_
  refine q' 3 O<|a' 0 O O ?_
  refine C0 (T.call call108 rfl (B5f _ (t:=((TrackT.mk (X4 c (gt c.zeroes i))))) ⟨_,rfl,d6⟩ b0)) (by decide) (fun b8 _ F b6=>?_)
  obtain⟨d7,rfl,w⟩:=b6
  replace hpc:=hpc.mono F
  replace q:=q.mono F
  replace w:Sl b8 d7 (FX (X4 c (gt c.zeroes i))):=w
  refine have g3:=w.le;U 9 O<|b' 2 O O O<|y' (U5 (k:=3) runUnderlying67 rfl rfl)<|U 4 O ?_
  have d1:E3 c i=U6 (E3 c i) (fun a=>gt (E3 c i) a++W6 c (gt c.zeroes i) a) 0:=rfl
  rw[d1]
  refine Iz (fun(t:Nat) (xs:List Value) (mq:Mem)=>L7 c-t) (fun t xs mq=>mq) (fun t xs mq=>[blk b_ 79 [vt],mF 23 xs (U6 (E3 c i) (fun a=>gt (E3 c i) a++W6 c (gt c.zeroes i) a) t),blk W 67 [E],row (E) 28 1 (xs).length (xs)]) (fun t xs mq=>[(4,Pt b1 0),(9,Pt W 0),(11,J (gt c.zeroes i)),(12,d7),(35,J ws.length),(36,J t)]) (fun t xs mq=>t≤L7 c∧b8.le mq∧xs.length=L7 c) 0 ws b8 ?_ ?_
  ·exact⟨EF _,Mem.le_refl _,r⟩
  rintro t xs mq ⟨ht,K,f⟩
  replace hpc:=hpc.mono K
  replace q:=q.mono K
  replace w:=w.mono K
  have d:(U6 (E3 c i) (fun a=>gt (E3 c i) a++W6 c (gt c.zeroes i) a) t).length=L7 c:=(HM (by rw[u];exact ht)).trans u
  have P:gt (U6 (E3 c i) (fun a=>gt (E3 c i) a++W6 c (gt c.zeroes i) a) t) t=gt (E3 c i) t:=A2d (E' _)
  have g4:=Sd List.length P
  have a4:=fun p:t<L7 c=>(FH hch hz i (by omega) t p).2
  have b2:=fun p:t<L7 c=>(A1G hch s p).2
  have o:=fun p:t<L7 c=>JB b0 (k:=t) (by omega)
  have x:=fun p:t<L7 c=>KX (c:=c) (z:=gt c.zeroes i) (k:=t) (by omega)
  refine have d2:=hz.1;q' 2 O<|c' (X.lss O O) (fun e1=>?_) fun e1=>?_
  ·refine U 14 O<|L4 (π:=sq [1,2,3,4,5,6,7,8,9,10,11] (.fork (sq [0,12,13,14,15] .done) (.cons 12 (.fork (sq [0,13,14,15] .done) (sq [13,0,14,15] .done))))) [0,12,13,15] [13,15] O (by kernel_rfl)<|U' 1 O<|Z O O (A.b 2 O O O)<|U' 1 O<|Z O O (K0 (k:=3) runUnderlying67 sizeOf28 rfl rfl rfl (by first|omega|(simp;omega)|simp) (by first|omega|(simp;omega)|simp))<|Z O O (Az (k:=3) isAgg28 rfl rfl (by first|omega|(simp;omega)|simp))<|Z O O (J9 isAgg122 rfl q)<|U' 2 O<|X' t w O O O O fun g7 c4=>S' c4 O O O fun g8 C=>have g5:=C.le;U' 1 O ?_
   refine DW.fork (SW _ _) ?_ ?_
   ·refine JP O O O (fun _=>(BZ (k:=2) isAgg67 rfl rfl rfl)) (by decide) ?_
    have b3:=C
    rw[NN (by omega)]at b3
    refine W2 rfl rfl rfl (T.call call109 rfl (RR _ hpc b3 (o (by omega)).1 (fun i_ e2=>Mm hch s (by have p:=(o (by omega)).2;have h1_:=x (by omega);omega)) (by have p:=(o (by omega)).2;have h1_:=x (by omega);omega) (by have p:=(o (by omega)).2;have h1_:=x (by omega);omega) s)) (by decide) (fun c5 e3 H a1=>?_)
    replace hpc:=hpc.mono H
    replace C:=C.mono H
    replace a1:Sl c5 e3 (W6 c (gt c.zeroes i) t):=a1
    have d3:=b2 (by omega)
    refine Ae rfl rfl rfl rfl (Cf (α:=Span) (fun _ _ _ h=>h) (j:=1) (i:=t) K9 rfl rfl a1 rfl (by rw[d];exact f) (by rw[d];omega) (by omega) (by omega)) (by decide) (fun e4=>?_)
    refine Z O O (K0 (k:=3) runUnderlying67 sizeOf28 rfl rfl rfl (by first|omega|(simp;omega)|simp) (by first|omega|(simp;omega)|simp))<|B4 O O O O (Dc (j:=1) (i:=t) rfl (by rw[I',I',d];exact f) (by rw[I',d];omega) (Fs (by omega)) trivial (D1 rfl rfl rfl) fun c6=>Y9 (k:=3) (i:=t) sizeOf28 rfl rfl c6 rfl (by omega))<|V' 7 O ?_
    have D:(U6 (E3 c i) (fun a=>gt (E3 c i) a++W6 c (gt c.zeroes i) a) t).set t (gt (U6 (E3 c i) (fun a=>gt (E3 c i) a++W6 c (gt c.zeroes i) a) t) t++(W6 c (gt c.zeroes i) t))=U6 (E3 c i) (fun a=>gt (E3 c i) a++W6 c (gt c.zeroes i) a) (t+1):=(by rw[P];exact Hx (by omega))
    rw[D]
    exact O7 (t+1) (xs.set t e4) c5<|⟨by omega,(Mem.le_trans K H),by rw[I'];exact f⟩
   have b4:=C
   rw[NN (by omega)]at b4
   refine W2 rfl rfl rfl (T.call call109 rfl (RR _ hpc b4 (o (by omega)).1 (fun i_ e2=>Mm hch s (by have p:=(o (by omega)).2;have h1_:=x (by omega);omega)) (by have p:=(o (by omega)).2;have h1_:=x (by omega);omega) (by have p:=(o (by omega)).2;have h1_:=x (by omega);omega) s)) (by decide) (fun b9 e5 a2 N=>?_)
   replace N:Sl b9 e5 (W6 c (gt c.zeroes i) t):=N
   have d3:=b2 (by omega)
   refine DW.fork (SW _ _) ?_ ?_
   ·refine JP rfl rfl rfl (fun _=>(BZ (k:=2) isAgg67 rfl rfl rfl)) (by decide) ?_
    refine Ae rfl rfl rfl rfl (Cf (α:=Span) (fun _ _ _ h=>h) (j:=1) (i:=t) K9 rfl rfl N rfl (by rw[d];exact f) (by rw[d];omega) (by omega) (by omega)) (by decide) (fun e6=>?_)
    refine Z O O (K0 (k:=3) runUnderlying67 sizeOf28 rfl rfl rfl (by first|omega|(simp;omega)|simp) (by first|omega|(simp;omega)|simp))<|B4 O O O O (Dc (j:=1) (i:=t) rfl (by rw[I',I',d];exact f) (by rw[I',d];omega) (Fs (by omega)) trivial (D1 rfl rfl rfl) fun c7=>Y9 (k:=3) (i:=t) sizeOf28 rfl rfl c7 rfl (by omega))<|V' 7 O ?_
    have D:(U6 (E3 c i) (fun a=>gt (E3 c i) a++W6 c (gt c.zeroes i) a) t).set t (gt (U6 (E3 c i) (fun a=>gt (E3 c i) a++W6 c (gt c.zeroes i) a) t) t++(W6 c (gt c.zeroes i) t))=U6 (E3 c i) (fun a=>gt (E3 c i) a++W6 c (gt c.zeroes i) a) (t+1):=(by rw[P];exact Hx (by omega))
    rw[D]
    exact O7 (t+1) (xs.set t e6) b9<|⟨by omega,(Mem.le_trans K a2),by rw[I'];exact f⟩
   refine Ae rfl rfl rfl rfl (Cf (α:=Span) (fun _ _ _ h=>h) (j:=1) (i:=t) K9 rfl rfl N rfl (by rw[d];exact f) (by rw[d];omega) (by omega) (by omega)) (by decide) (fun e7=>?_)
   refine JP O O O (fun _=>(BZ (k:=2) isAgg67 rfl rfl rfl)) (by decide)<|Z O O (K0 (k:=3) runUnderlying67 sizeOf28 rfl rfl rfl (by first|omega|(simp;omega)|simp) (by first|omega|(simp;omega)|simp))<|B4 O O O O (Dc (j:=1) (i:=t) rfl (by rw[I',I',d];exact f) (by rw[I',d];omega) (Fs (by omega)) trivial (D1 rfl rfl rfl) fun c8=>Y9 (k:=3) (i:=t) sizeOf28 rfl rfl c8 rfl (by omega))<|V' 7 O ?_
   have D:(U6 (E3 c i) (fun a=>gt (E3 c i) a++W6 c (gt c.zeroes i) a) t).set t (gt (U6 (E3 c i) (fun a=>gt (E3 c i) a++W6 c (gt c.zeroes i) a) t) t++(W6 c (gt c.zeroes i) t))=U6 (E3 c i) (fun a=>gt (E3 c i) a++W6 c (gt c.zeroes i) a) (t+1):=(by rw[P];exact Hx (by omega))
   rw[D]
   exact O7 (t+1) (xs.set t e7) b9<|⟨by omega,(Mem.le_trans K a2),by rw[I'];exact f⟩
  refine U 9 O ?_
  have f5:U6 (E3 c i) (fun a=>gt (E3 c i) a++W6 c (gt c.zeroes i) a) t=E3 c (i+1):=(by rw[show t=L7 c by omega];rfl)
  rw[f5]
  exact P6 (xs,E3 c (i+1)) (Mem.le_trans F K) (.cons _ (.refl _)) ⟨f,rfl⟩
 ·intro R gh B M
  obtain⟨ws,M_⟩:=gh
  obtain⟨r,I⟩:=M
  replace I:M_=E3 c c.zeroes.length:=I
  replace r:ws.length=L7 c:=r
  subst I
  refine have u:=AV c c.zeroes.length;I8 (σ':=[(0,.pointer (some (pc))),(1,J term),(2,S0),(3,.bool true),(4,Pt b1 0),(8,S0),(16,.pointer (some (pc))),(17,.pointer (some (pc))),(18,.pointer (some ((pc).add 20))),(19,J c.ticks),(20,J (↑(L7 c))),(21,E),(9,Pt W 0),(22,.pointer (some (pc))),(23,J term),(24,S0),(25,.bool true),(26,.func (.func 111) #[] Q.toArray)]) (.cons rfl (.cons rfl (.cons rfl (.cons rfl (.cons rfl (.cons rfl (.cons rfl (.cons rfl (.cons rfl (.cons rfl (.cons rfl (.cons rfl (.cons rfl (.cons rfl (.cons rfl (.cons rfl (.cons rfl (.cons rfl .nil)))))))))))))))))) ?_
  show WK _ _ R [mF 23 ws (E3 c c.zeroes.length),blk W 67 [E],row (E) 28 1 (ws).length (ws)] [(0,.pointer (some (pc))),(1,J term),(2,S0),(3,.bool true),(4,Pt b1 0),(8,S0),(16,.pointer (some (pc))),(17,.pointer (some (pc))),(18,.pointer (some ((pc).add 20))),(19,J c.ticks),(20,J (↑(L7 c))),(21,E),(9,Pt W 0),(22,.pointer (some (pc))),(23,J term),(24,S0),(25,.bool true),(26,.func (.func 111) #[] Q.toArray)] _
  refine P4<|E2<|q' 2 O ?_
  refine Kl 0 rfl rfl (by rw[u];exact r) (A3R hch hz) (fun c9 e8 c0=>?_)
  refine q' 1 O<|b' 0 O O O<|y' (U5 (k:=1) runUnderlying67 rfl rfl)<|U 4 O ?_
  refine Iz (fun(n:Nat) (xs:List Value) (mn:Mem)=>L7 c-n) (fun n xs mn=>mn) (fun n xs mn=>[blk W 67 [E],row (E) 28 1 (xs).length (xs)]) (fun n xs mn=>[(9,Pt W 0),(56,J ws.length),(57,J n)]) (fun n xs mn=>n≤L7 c∧c9.le mn∧RdL mn xs (U6 (E3 c c.zeroes.length) (fun a=>K4 (gt (E3 c c.zeroes.length) a)) n)) 0 ws c9 ?_ ?_
  ·exact⟨EF _,Mem.le_refl _,c0⟩
  rintro n xs mn ⟨hn,f6,V⟩
  have a5:(U6 (E3 c c.zeroes.length) (fun a=>K4 (gt (E3 c c.zeroes.length) a)) n).length=L7 c:=(HM (by rw[u];exact hn)).trans u
  have d4:=V.len1
  rw[a5]at d4
  refine have a4:=fun p:n<L7 c=>FH hch hz _ (E' _) n p;have d2:=hz.1;q' 2 O<|c' (X.lss O O) (fun e9=>?_) fun e9=>?_
  ·refine U 14 O<|B9 9 [6,8] [8]<|Z O O (A.b 0 O O O)<|U' 1 O<|Z O O (A.b 0 O O O)<|U' 1 O<|Z O O (K0 (k:=1) runUnderlying67 sizeOf28 rfl rfl rfl (by first|omega|(simp;omega)|simp) (by first|omega|(simp;omega)|simp)) ?_
   have d5:Sl mn (gt xs n) (gt (E3 c c.zeroes.length) n):=(by have p:=V.slAt (i:=n) (by rw[a5];omega);rw[A2d (E' _)]at p;exact p)
   refine DW.y rfl rfl (Az (k:=1) (i:=n) isAgg28 rfl rfl (by omega)) ?_
   refine W2 rfl rfl rfl (T.call call110 rfl (KL _ d5 (by have p:=a4 (by omega);omega) (a4 (by omega)).1)) (by decide) (fun f0 f1 a3 a9=>?_)
   exact have V:=V.mono a3;Z O O (K0 (k:=1) runUnderlying67 sizeOf28 rfl rfl rfl (by first|omega|(simp;omega)|simp) (by first|omega|(simp;omega)|simp))<|B4 O O O O (Y9 (k:=1) (i:=n) sizeOf28 rfl rfl a9.one rfl (by omega))<|V' 7 O<|O7 (n+1) (xs.set n f1) f0<|⟨by omega,(Mem.le_trans f6 a3),(by have p:=V.setS (i:=n) (by rw[a5];omega) a9;rw[Hx (g:=(fun a=>K4 (gt (E3 c c.zeroes.length) a))) (by omega)]at p;exact p)⟩
  refine U 10 O ?_
  have b5:RdL mn xs (Eg c):=(by have p:=V;rw[show n=L7 c by omega]at p;exact p)
  have a6:=b5.len1
  refine M7 (α:=List Span) (L:=Eg c) 1 rfl (by rw[←a6];rfl) b5 (by rw[←a6];unfold C7;omega) (fun g9 f2 d0=>?_)
  exact q' 1 O<|b' 0 O O O<|U 4 O<|A0 O O<|C2<|d0
 ·intro i m1 gh f8 hi M
  exact M.elim
 intro id i m1 gh f8 hi M
 exact M.elim
end Go.Proofs.T10
