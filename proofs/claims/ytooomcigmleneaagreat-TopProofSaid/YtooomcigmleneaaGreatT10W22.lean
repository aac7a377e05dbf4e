import Derived.Test.YtooomcigmleneaaGreatT10SWk
set_option linter.all false
set_option maxHeartbeats 4000000
namespace Go.Proofs.T10
open Tryz Go Go.Kx
set_option maxRecDepth 20000
theorem A4z(m:Mem)(n:Int)(lo:Int)(hi:Int):Exact prog 122 #[J n,J lo,J hi] m (.bool (decide (lo≤n∧n≤hi))):=by
 refine D4 func122 O ntmps122 fun a=>q' 9 O<|c' (X.geq O O) (fun b=>?_) fun b=>?_
 ·refine U 12 O<|A0 O O<|A8 ?_
  first|exact D5 (by omega)|exact B2 (by omega)|exact D8 (by omega)
 refine U 9 O<|A0 O O<|A8 ?_
 first|exact D5 (by omega)|exact B2 (by omega)|exact D8 (by omega)
theorem B2S(m:Mem){v:Value}{L:List RawV}(hL:Sl m v L):Exact prog 63 #[v] m (.bool (decide (1≤(L.length:Int)∧(L.length:Int)≤30000))):=by
 refine D4 func63 O ntmps63 fun a=>q' 8 O<|l' hL O<|y' (X.call call122 rfl (A4z _ _ _ _))<|U 4 O<|A0 O O<|A8 ?_
 first|rfl|(simp[*];done)
theorem A8H(m:Mem){L:List RawV}{ps pn:Addr}(hps:At m ps L)(hpn:At m pn (62:Int))(h1:0<L.length)(h2:L.length≤62):S1 prog 211 [.pointer (some ps),.pointer (some pn)] m false 1 (fun _ m1 args=>∃v,args=#[v]∧Sl m1 v L):=by
 intro lo S HS I Ix P E x Q R
 refine G3 func211 O ntmps211 fun F=>q' 6 O ?_
 have y:m.le m:=Mem.le_refl _
 refine lp (G:=Nat×Int×Mem×S) (fun(k,z,mm,ss)=>1-k) (fun(k,z,mm,ss)=>mm) (fun(k,z,mm,ss)=>([]++HS ss)) (fun(k,z,mm,ss)=>[(0,.func (.yield lo) #[] #[]),(1,.pointer (some (ps))),(2,.pointer (some (pn))),(4,J z)]) (fun(k,z,mm,ss)=>m.le mm∧I k mm ss∧((k=0∧z=0)∨(k=1∧z=62))) ((0,0,m,P)) ?_ ?_
 ·exact⟨Mem.le_refl _,R,.inl ⟨rfl,rfl⟩⟩
 rintro⟨k,z,mm,ss⟩ s
 conv=>enter [7];dsimp only
 conv=>enter [8];dsimp only
 try dsimp only at s
 obtain⟨b,D,hk⟩:=s
 refine have hps:=hps.mono b;have hpn:=hpn.mono b;q' 4 O<|s' hps O fun V n=>have M:=n.le;l' n O<|c' (X.lss O O) (fun H=>?_) fun H=>?_
 ·refine U 8 O ?_
  have w:z=0:=(by omega)
  rw[w]
  refine B9 7 [] []<|Z O O (A.i O hpn)<|S' hps O O O fun W o=>have N:=o.le;U' 1 O<|J0 O O (B5S 0 underlying92 sizeOf5 rfl rfl o (by omega) (by omega)) (by decide) fun Y p=>Z O O (A.l O p)<|Z O O (Hw rfl rfl)<|U' 1 O<|V' 4 O<|s' hps O fun K c=>have B:=c.le;U 7 O<|Q9 (B1J 0 L.length underlying92 sizeOf5 rfl rfl rfl rfl c rfl (by rw[Ul];omega) (by rw[Ul];omega) (by omega) (by omega)) (by decide) fun t q=>?_
  have g:Sl mm t L:=(by have C:=q.1;rw[Ul,Ts,Un]at C;exact C)
  refine AB (T.yield (A:=[]) rfl rfl rfl (Q k _ _ _ (by omega) b ⟨_,rfl,g⟩ D)) (by decide) (fun r u d=>?_) (fun r u d=>?_)
  ·obtain⟨a,s2_,rfl,hI2_⟩:=d
   refine have hpn:=hpn.mono a;U 9 O<|i' hpn O<|U 4 O ?_
   refine nx ((k+1,0+62,r,s2_)) ?_ ?_
   ·exact⟨Mem.le_trans b a,hI2_,.inr ⟨by omega,by omega⟩⟩
   (dsimp only;omega)
  obtain⟨a,s2_,rfl,hI2_⟩:=d
  refine U 9 O ?_
  refine E9 rfl (fun w' f=>B3 (f.weaken (.refl _)) ?_)
  exact⟨s2_,rfl,.inr ⟨k+1,by omega,hI2_⟩⟩
 refine U 7 O ?_
 refine D0 rfl (fun w' f=>B3 (f.weaken (.refl _)) ?_)
 obtain rfl:k=1:=(by omega)
 exact⟨ss,rfl,.inl D⟩
theorem A9C(m:Mem){v:Value}{L:List RawV}(hL:Sl m v L)(h1:0<L.length)(h2:L.length≤62):Pure prog 123 #[v,J 62] m (fun m' v=>∃lb,v= .func (.func 211) #[] lb.toArray∧S1 prog 211 lb m' false 1 (fun _ m1 args=>∃v,args=#[v]∧Sl m1 v L)):=by
 exact F6 func123 O ntmps123 fun g=>q' 2 O<|Au (Cv (cs:=[v]) rfl (D7 hL.one)) (by decide) fun k=>o' O O fun l=>U 5 O<|fz (α:=(List RawV)) (x:=L) 1 O O ⟨_,rfl,hL⟩ fun n d a=>fz (α:=Int) (x:=62) 0 O O O fun o b c=>have a:=a.mono b;q' 1 O<|i' c O<|U 8 O<|y' (X.makeFunc (by intro x f;simp at f;rcases f with rfl|rfl;all_goals exact⟨_,rfl⟩) rfl)<|U 4 O<|A0 O O<|C2<|⟨_,rfl,A8H _ a c h1 h2⟩
theorem A8i(m:Mem){v:Value}{L:List RawV}(hL:Sl m v L)(h1:0<L.length)(h2:L.length≤62):Mut prog 64 #[v] m [] (fun _ Es u=>∃ys,Es=[row u 160 64 1 ys]∧Bk ys∧u.oneCell'=true):=by
 refine G3 func64 O ntmps64 fun Y=>q' 2 O<|Au (Cv (cs:=[v]) rfl (D7 hL.one)) (by decide) fun E=>U 5 O<|n' zeroValue157 O fun r=>U 4 O<|fz (α:=(List RawV)) (x:=L) 1 O O ⟨_,rfl,hL⟩ fun m3 V f=>Bu 160 64<|q' 1 O<|s' f O fun F B=>?_
 have a3:=B.le
 refine C0 (T.call call123 rfl (A9C _ B h1 h2)) (by decide) (fun m9 _ w H=>?_)
 obtain⟨d,rfl,z⟩:=H
 refine have f:=f.mono w;U 3 O ?_
 refine WC.rangeFunc (S:=Value×Nat×List Value) (G:=Unit) (ps:=[8]) (n:=1) (A:=(fun _ p a=>∃v,a=#[v]∧Sl p v L)) rfl call211 z (fun g:Value×Nat×List Value=>[row (g.1) 160 64 (g.2.1) (g.2.2),blk r 157 [g.1]]) (fun i _ g=>B5v i g) (fun _ _ _ _=>False) (S0,0,[]) rfl A6l (fun h=>by cases h) (fun _ _ _ _ _ h=>h) (by simp) (fun i p a h=>by obtain⟨_,rfl,_⟩:=h;rfl) (fun _ gh=>(fun g:Value×Nat×List Value=>[row (g.1) 160 64 (g.2.1) (g.2.2),blk r 157 [g.1]]) gh) (fun _ a=>(4,a.headD undef)::[(0,v),(1,Pt E 0),(2,S0),(3,Pt r 0),(6,F),(7,.func (.func 211) #[] d.toArray)]) ?_ ?_ ?_ ?_ ?_
 ·intro lo B1 p gh a KK o Q
  obtain⟨x,rfl⟩:=len1 o
  refine qb ?_
  exact q' 4 O<|I8 (.cons rfl (.cons rfl (.cons rfl (.cons rfl (.cons rfl (.cons rfl (.cons rfl .nil))))))) (Q ())
 ·intro lo B1 i p gh a _ o hi q R c
  obtain⟨x,rfl⟩:=len1 o
  obtain⟨vp,M,D⟩:=R
  obtain rfl:x=vp:=(by simpa using M)
  obtain rfl:i=0:=(by omega)
  obtain rfl:gh=(S0,0,[]):=c.elim (fun h=>h.2) (fun h=>absurd h.1 (by decide))
  replace f:=f.mono q
  show WK _ _ p [row (S0) 160 64 (0) ([]),blk r 157 [S0]] ((4,x)::[(0,v),(1,Pt E 0),(2,S0),(3,Pt r 0),(6,F),(7,.func (.func 211) #[] d.toArray)]) _
  refine qb ?_
  refine q' 3 O<|Au (T.alloc (cs:=List.replicate 64 (.int .u8 0)) zeroValue160 rfl) (by decide) fun a0=>U 5 O<|l' D O<|y' (O8 runUnderlying3 runUnderlying5 rfl (Fw (by omega) (by omega)))<|y' (A0d 0 underlying160 sizeOf5 rfl rfl rfl (by decide))<|G7 (C1 (k:=0) (off:=0) sizeOf5 rfl rfl rfl rfl (by rw[(Bk.zero).1];decide))<|U 5 O<|b' 2 O O O<|y' (U5 (k:=1) runUnderlying157 rfl rfl)<|s' f O fun a1 s=>have W:=s.le;l' s O<|U 1 O<|y' (X.quo rfl rfl (by omega) (by omega) (by omega))<|y' (OpX.t (X.eql rfl rfl) (by omega))<|U 4 O<|y' (A0d 1 underlying160 sizeOf5 rfl rfl rfl (by decide))<|G7 (C1 (k:=0) (off:=1) sizeOf5 rfl rfl rfl rfl (by rw[((Bk.zero).set 0 (v:=.int .u8 (↑L.length)) rfl).1];decide))<|U 3 O<|A6Q (k:=0) (n:=64) O (((Bk.zero).set 0 (v:=.int .u8 (↑L.length)) rfl).set 1 (v:=.int .u8 (1)) rfl).1 (by decide)<|q' 1 O<|y' (B2B 2 underlying160 sizeOf5 rfl rfl rfl (by decide))<|U 1 O ?_
  refine WL.to (B1z (k:=0) underlying92 sizeOf5 rfl rfl D rfl (((Bk.zero).set 0 (v:=.int .u8 (↑L.length)) rfl).set 1 (v:=.int .u8 (1)) rfl) (by omega) (by omega) (by omega)) (by decide) (fun _ m_ H_ I=>?_)
  obtain⟨rfl,l,b,rfl⟩:=I
  refine U 3 O<|b' 2 O O O<|y' (Fl (k:=0) (off:=0) (us:=l) isAgg160 sizeOf160 rfl rfl (b).1 Bk.part)<|R0 (G6 (cs:=l) B0s rfl rfl b.1 (by decide)) (by decide) fun a2=>?_
  refine G2 (Ax (k:=1) (n':=1) B0s rfl rfl rfl rfl b.1 b.2 rfl (by decide) (by decide)) (by decide) (fun J=>?_)
  refine E8 (k:=1) rfl (fun C=>?_)
  refine G7 (C1 (k:=2) sizeOf157 rfl rfl rfl C (J' rfl))<|U 2 O ?_
  refine OB (k:=1) rfl (fun y=>?_)
  exact P6 (J,1,[]++l) (Mem.le_refl _) (.cons _ (.refl _)) (.inr ⟨rfl,rfl,b,y⟩)
 ·intro p gh q c
  obtain⟨vo,n_,ys⟩:=gh
  obtain⟨N,P,y⟩:n_=1∧Bk ys∧vo.oneCell'=true:=c.elim (fun h=>absurd h.1 (by decide)) (fun h=>h.2)
  subst N
  refine I8 (σ':=[(0,v),(1,Pt E 0),(2,S0),(3,Pt r 0),(6,F),(7,.func (.func 211) #[] d.toArray)]) (.cons rfl (.cons rfl (.cons rfl (.cons rfl (.cons rfl (.cons rfl .nil)))))) ?_
  show WK _ _ p [row (vo) 160 64 (1) (ys),blk r 157 [vo]] [(0,v),(1,Pt E 0),(2,S0),(3,Pt r 0),(6,F),(7,.func (.func 211) #[] d.toArray)] _
  refine P4<|E2<|q' 2 O<|b' 1 O O O<|U 4 O ?_
  refine A0 rfl rfl (fun w' K=>B3 (K.weaken (.cons_cons _ (.cons _ .slnil))) ?_)
  exact⟨_,rfl,P,y⟩
 ·intro i p gh q hi c
  exact c.elim
 intro id i p gh q hi c
 exact c.elim
theorem A9O(m:Mem){v:Value}{L:List RawV}(hL:Sl m v L)(h1:0<L.length)(h2:L.length≤1):Pure prog 21 #[v] m (fun m' u=>∃(r:Value) (M:List RawV),u= .tuple #[r,J 0]∧Sl m' r M∧M.length=1):=by
 refine F6 func21 O ntmps21 fun q=>q' 10 O<|y' (OpX.t (X.call call63 rfl (B2S _ hL)) ⟨by omega,by omega⟩)<|U 7 O<|I5 RawV 92<|Bu 92 1<|q' 8 O ?_
 refine C5 (H3 call64 rfl (A8i _ hL h1 (by omega))) (by decide) (fun A Es2 o p g=>?_)
 obtain⟨b,rfl,c,y⟩:=g
 refine y' (U5 (k:=0) runUnderlying157 rfl rfl)<|U 4 O ?_
 refine Di (fun(k:Nat) (vo:Value) (M:List RawV)=>1-k) (fun k vo M=>[row (o) 160 64 (1) (b),row ((S0)) 92 1 (([]:List (List RawV))).length ([]),A5 (vo) 92 (M)]) (fun k vo M=>[(4,vo),(11,o),(12,J 1),(13,J k)]) (fun k vo M=>k≤1∧M.length=k) 0 (Value.slice none 0 0) [] ?_ ?_
 ·exact⟨by omega,rfl⟩
 rintro k vo M ⟨B,z⟩
 refine q' 2 O<|c' (X.lss O O) (fun s=>?_) fun s=>?_
 ·refine U 10 O<|y' (OZ (k:=0) k runUnderlying157 sizeOf160 rfl rfl rfl (by omega) (by omega))<|y' (Fl (k:=0) (us:=b) isAgg160 sizeOf160 rfl rfl c.1 (B3Q (by omega)))<|Au (T.alloc (cs:=List.replicate 64 (.int .u8 0)) zeroValue160 rfl) (by decide) fun d=>G7 (JJ (k:=0) (vs:=b) sizeOf160 rfl rfl rfl c.2 c.1 (by simp))<|U 4 O<|y' (B2y underlying160 sizeOf5 rfl)<|R0 (G6 B3J rfl rfl rfl (by decide)) (by decide) fun w=>?_
  refine G2 (G1 (k:=3) (a:=RawV.mk (.slice (some ⟨d,0,none⟩) 64 64) rfl) B3J rfl rfl rfl rfl (by omega) (by decide)) (by decide) (fun l=>?_)
  exact U 9 O<|O7 (k+1) l (M++[RawV.mk (.slice (some ⟨d,0,none⟩) 64 64) rfl])<|⟨by omega,by rw[F',z];rfl⟩
 refine U 17 O ?_
 refine E4 2 rfl rfl (by unfold C7;omega) (fun x n f=>?_)
 exact B7 O O O<|C2<|⟨_,_,rfl,f,by omega⟩
theorem B5g(m:Mem):Exact prog 25 #[S0] m (J 23):=by
 refine D4 func25 O ntmps25 fun b=>q' 14 O<|y' (X.len (α:=Int) runUnderlying92 rfl .nil)<|U 4 O ?_
 refine J4 (fun(a:Unit)=>0) (fun a=>[]) (fun a=>[(3,J 23),(6,S0),(7,J 0),(8,J 0)]) (fun a=>True) () ?_ ?_
 ·trivial
 rintro a c
 refine q' 19 O<|A0 O O<|A8 ?_
 first|rfl|(simp[*];done)
theorem B3u(m:Mem):Exact prog 7 #[] m (.bool true):=by
 refine D4 func7 O ntmps7 fun a2=>q' 7 O ?_
 refine C0 (M5 (α:=RawV) (vals:=[.int .u8 7]) (L:=[RawV.mk (.int .u8 7) rfl]) B7D rfl (.cons rfl rfl .nil) rfl rfl) (by decide) (fun m1 v2 R N=>?_)
 refine C0 (T.call call21 rfl (A9O _ N (by decide) (by decide))) (by decide) (fun m5 _ S P=>?_)
 obtain⟨v7,M8,rfl,d,a1⟩:=P
 refine U 9 O<|WL.x (V:=Value.agg [J 0,J 2].toArray) (X.build zeroValue23 runUnderlying23 (H6 _ underlying23) rfl rfl) (by decide) ?_
 refine WL.y (V:=Value.agg [J 5,J 5].toArray) (X.build zeroValue23 runUnderlying23 (H6 _ underlying23) rfl rfl) ?_
 refine C0 (M5 (α:=Span) (vals:=[.agg [J 0,J 2].toArray,.agg [J 5,J 5].toArray]) (L:=[(Span.mk (0) (2)),(Span.mk (5) (5))]) K9 rfl (.cons rfl rfl (.cons rfl rfl .nil)) rfl rfl) (by decide) (fun a3 a4 v p=>?_)
 refine have d:=d.mono v;WL.x (V:=Value.agg [J 2,J 4].toArray) (X.build zeroValue23 runUnderlying23 (H6 _ underlying23) rfl rfl) (by decide) ?_
 refine C0 (M5 (α:=Span) (vals:=[.agg [J 2,J 4].toArray]) (L:=[(Span.mk (2) (4))]) K9 rfl (.cons rfl rfl .nil) rfl rfl) (by decide) (fun a5 a6 q B=>?_)
 refine have d:=d.mono q;have p:=p.mono q;C0 (T.call call22 rfl (B0H _ _ _ p _ _ B)) (by decide) fun a7 a8 z C=>?_
 obtain⟨c4,rfl,c⟩:=C
 refine have d:=d.mono z;have W:=c.le;U 9 O<|WL.x (V:=Value.agg [J 1,J 0,J 0,J 9].toArray) (X.build zeroValue33 runUnderlying33 (A9U _ underlying33) rfl rfl) (by decide) ?_
 refine C0 (M5 (α:=Int) (vals:=[J 5,J 7,J 4]) (L:=[5,7,4]) Y1 rfl (.cons rfl rfl (.cons rfl rfl (.cons rfl rfl .nil))) rfl rfl) (by decide) (fun a9 b0 r D=>?_)
 refine have d:=d.mono r;have c:=c.mono r;C0 (T.call call23 rfl (A7b _ _ ((Pen.mk (1) ((Span.mk (0) (0))) (9))) rfl _ _ _ D)) (by decide) fun b1 b2 s E=>?_
 obtain⟨c5,rfl,f⟩:=E
 refine have d:=d.mono s;have c:=c.mono s;have Y:=f.le;U 9 O<|WL.x (V:=Value.agg [J 2,J 3].toArray) (X.build zeroValue23 runUnderlying23 (H6 _ underlying23) rfl rfl) (by decide) ?_
 refine C0 (M5 (α:=Span) (vals:=[.agg [J 2,J 3].toArray]) (L:=[(Span.mk (2) (3))]) K9 rfl (.cons rfl rfl .nil) rfl rfl) (by decide) (fun b3 Q l o=>?_)
 refine have d:=d.mono l;have c:=c.mono l;have f:=f.mono l;WL.x (V:=Value.agg [Q,S0].toArray) (X.build zeroValue31 runUnderlying31 (A0A _ underlying31) rfl (by simp only[Instr.fill,D7 o.one];rfl)) (by decide) ?_
 refine WL.y (V:=Value.agg [J 5,J 5].toArray) (X.build zeroValue23 runUnderlying23 (H6 _ underlying23) rfl rfl) ?_
 refine WL.y (V:=Value.agg [J 1,J 5,J 5].toArray) (X.build zeroValue98 runUnderlying98 (A9c _ underlying98) rfl rfl) ?_
 refine C0 (M5 (α:=Mark) (vals:=[.agg [J 1,J 5,J 5].toArray]) (L:=[(Mark.mk (1) ((Span.mk (5) (5))))]) RK rfl (.cons rfl rfl .nil) rfl rfl) (by decide) (fun b4 b5 k F=>?_)
 refine have d:=d.mono k;have c:=c.mono k;have f:=f.mono k;have o:=o.mono k;C0 (T.call call24 rfl (A2P _ _ ((Drum.mk ([(Span.mk (2) (3))]) ([]))) ⟨_,_,rfl,o,.nil⟩ _ _ F)) (by decide) fun b6 b7 n G=>?_
 obtain⟨c6,rfl,g⟩:=G
 refine have d:=d.mono n;have c:=c.mono n;have f:=f.mono n;have a0:=g.le;U 8 O ?_
 rw[show Rb (([(Span.mk (0) (2)),(Span.mk (5) (5))])) (([(Span.mk (2) (4))]))=[⟨0,5⟩]from B5l]at c
 rw[show QZ (([(Span.mk (0) (2)),(Span.mk (5) (5))])) (([(Span.mk (2) (4))]))=0 from B2p]
 rw[show Ob (((Pen.mk (1) ((Span.mk (0) (0))) (9)))) 5 (([5,7,4]))=[5,6,5]from B3D]at f
 rw[show Dt (((Pen.mk (1) ((Span.mk (0) (0))) (9)))) 5 (([5,7,4]))=0 from B1X]
 rw[show(GD (((Drum.mk ([(Span.mk (2) (3))]) ([])))) (([(Mark.mk (1) ((Span.mk (5) (5))))]))).1=[2,5]from B3X]at g
 rw[show(GD (((Drum.mk ([(Span.mk (2) (3))]) ([])))) (([(Mark.mk (1) ((Span.mk (5) (5))))]))).2=0 from B3i]
 refine q' 7 O<|l' d O<|U 1 O<|y' (OpX.t (X.eql rfl rfl) (by omega))<|U 11 O<|l' c O<|U 1 O<|y' (OpX.t (X.eql rfl rfl) (by decide))<|U 5 O<|Q9 (Mv 0 runUnderlying28 sizeOf23 rfl rfl c (by decide)) (by decide) fun b8 H=>U 1 O<|g' H O fun b9 I=>?_
 obtain rfl:=I
 refine U 1 O<|WL.x (V:=Value.agg [J 0,J 5].toArray) (X.build zeroValue23 runUnderlying23 (H6 _ underlying23) rfl rfl) (by decide) ?_
 refine U 1 O<|y' (OpX.t (EE (a:=gt ([⟨0,5⟩]) 0) (b:=(Span.mk (0) (5))) A8c (fun w=>Ed 9998 _ _ w) rfl rfl) (by decide))<|U 11 O ?_
 refine C0 (M5 (α:=Int) (vals:=[J 5,J 6,J 5]) (L:=[5,6,5]) Y1 rfl (.cons rfl rfl (.cons rfl rfl (.cons rfl rfl .nil))) rfl rfl) (by decide) (fun c0 c1 u K=>?_)
 refine have f:=f.mono u;have g:=g.mono u;U 1 O<|y' (OpX.t (X.call call9 rfl (B0m _ _ _ f _ _ K)) rfl)<|U 11 O ?_
 refine C0 (M5 (α:=Int) (vals:=[J 2,J 5]) (L:=[2,5]) Y1 rfl (.cons rfl rfl (.cons rfl rfl .nil)) rfl rfl) (by decide) (fun c2 c3 A M=>?_)
 refine have g:=g.mono A;U 1 O<|y' (OpX.t (X.call call9 rfl (B0m _ _ _ g _ _ M)) rfl)<|U 3 O<|y' (X.call call25 rfl (B5g _))<|U 7 O<|A0 O O<|A8 ?_
 first|rfl|(simp[*];done)
theorem A1R{G:Prop}(h:G:=by first|exact D5 (by omega)|exact B2 (by omega)|exact D8 (by omega)|exact D8 ⟨fun h=>⟨by omega,h⟩,fun h=>h.2⟩):G:=h
theorem IU(m:Mem)(cs:List Value)(s:Span)(hs:Enc.rd m cs s)(n:Int):Exact prog 55 #[.agg cs.toArray,J n] m (.bool (decide (s.Lo≤n∧n≤s.Hi))):=by
 obtain rfl:=hs
 refine D4 func55 O ntmps55 fun a=>q' 2 O<|o' O O fun c=>U 5 O<|f' O t'<|b' 0 O O O<|U 1 O<|c' (X.leq O O) (fun b=>?_) fun b=>?_
 ·exact U 4 O<|f' O t'<|U 1 O<|b' 0 O O O<|U 7 O<|A0 O O<|A8<|A1R
 exact U 10 O<|A0 O O<|A8<|A1R
theorem Pr{G:Prop}(h:G:=by first|exact B0 (W8 (by omega) hall ‹_›).symm|exact B0 (W3 (fun j hj=>hall j (by omega))).symm):G:=h
theorem B3L(m:Mem){vl:Value}{l:List ReadT}(hl:Sl m vl l){fn:Nat}{caps:List Value}{p:Nat→Prop}[DecidablePred p](hE:Enters prog fn)(hcl:(∀i,i<l.length→Exact prog fn (#[.agg (Flat.enc (gt l i)).toArray]++caps.toArray) m (.bool (decide (p i))))):Exact prog 174 #[vl,.func (.func fn) #[] caps.toArray] m (J (U3 p l.length)):=by
 refine have n:=hl.le;D4 func174 O ntmps174 fun d=>q' 9 O<|l' hl O<|U 4 O ?_
 refine J4 (fun(k:Nat)=>l.length-k) (fun k=>[]) (fun k=>[(0,vl),(1,.func (.func fn) #[] caps.toArray),(7,J l.length),(8,J k)]) (fun k=>k≤l.length∧(∀j,j<k→¬p j)) 0 ?_ ?_
 ·exact⟨EF _,fun j a=>absurd a (R' _)⟩
 rintro k ⟨r,hall⟩
 refine q' 2 O<|c' (X.lss O O) (fun f=>?_) fun f=>?_
 ·refine U 19 O<|x' k hl O O fun o b=>g' b O fun q c=>?_
  obtain rfl:=c
  refine c' (E1 hE rfl rfl (hcl k (by omega))) (fun g=>?_) fun g=>?_
  ·exact U 15 O<|A0 O O<|A8<|Pr
  exact U 11 O<|I6 (k+1)<|⟨by omega,fun j a=>by rcases Sc.1 a with h|h;exact hall j h;subst h;assumption⟩
 exact U 15 O<|A0 O O<|A8<|Pr
theorem B5h(m:Mem){vl:Value}{l:List ReadT}(hl:Sl m vl l){fn:Nat}{caps:List Value}{p:Nat→Prop}[DecidablePred p](hE:Enters prog fn)(hcl:(∀i,i<l.length→Exact prog fn (#[.agg (Flat.enc (gt l i)).toArray]++caps.toArray) m (.bool (decide (p i))))):Exact prog 92 #[vl,.func (.func fn) #[] caps.toArray] m (.bool (decide (¬∀i,i<l.length→¬p i))):=by
 exact have b:=hl.le;D4 func92 O ntmps92 fun a=>q' 9 O<|y' (X.call call174 rfl (B3L _ hl hE hcl))<|U 5 O<|A0 O O<|A8<|D8 (BS p l.length)
theorem A8s(m:Mem)(va:Value)(a:List Int)(ha:Sl m va a)(vb:Value)(b:List Int)(hb:Sl m vb b):Exact prog 180 #[va,vb] m (.bool (decide (a=b))):=by
 refine have la:=ha.le;have lb:=hb.le;have g:=ha.le;have l:=hb.le;D4 func180 O ntmps180 fun n=>q' 9 O<|l' ha O<|U 1 O<|l' hb O<|e' (X.neq O O) (fun o=>?_) fun o=>?_
 ·exact U 10 O<|A0 O O<|A8<|B2 (fun e=>by subst e;omega)
 refine U 9 O<|l' ha O<|U 4 O ?_
 refine J4 (fun(k:Nat)=>a.length-k) (fun k=>[]) (fun k=>[(0,va),(1,vb),(12,J a.length),(13,J k)]) (fun k=>k≤a.length∧(∀j,j<k→gt a j=gt b j)) 0 ?_ ?_
 ·exact⟨EF _,fun j c=>absurd c (R' _)⟩
 rintro k ⟨t,hall⟩
 refine q' 2 O<|c' (X.lss O O) (fun p=>?_) fun p=>?_
 ·refine U 15 O<|B9 9 [] []<|U' 2 O<|X' k ha O O O O fun r d=>Z O O (A.i O d)<|U' 2 O<|X' k hb O O O O fun s f=>Z O O (A.i O f) ?_
  refine CM rfl rfl (X.neq rfl rfl) (by decide) (fun q=>?_) (fun q=>?_)
  ·exact V' 13 O<|A0 O O<|A8<|B2 (fun e=>by subst e;contradiction)
  exact V' 10 O<|I6 (k+1)<|⟨by omega,fun j c=>by rcases Sc.1 c with h|h;exact hall j h;subst h;(first|assumption|(apply Sj;assumption))⟩
 exact U 15 O<|A0 O O<|A8<|D5 (Dy (by omega) (fun j c=>hall j (by omega)))
theorem B0M(m:Mem)(cx:List Value)(x:Sheet)(hx:Enc.rd m cx x):Pure prog 95 #[.agg cx.toArray] m (fun m' v=>∃r0,v= .agg r0.toArray∧Enc.rd m' r0 (Inked.mk (EO x.Paper x.Trace x.Blots))):=by
 obtain⟨A,B,C,D,rfl,b,c,l,n⟩:=hx
 refine have z:=b.le;have p:=c.le;have q:=l.le;have r:=n.le;F6 func95 O ntmps95 fun t=>q' 2 O<|o' O O fun u=>n' zeroValue104 O fun w=>U 4 O<|f' O t'<|y' (J5 (k:=1) (vs:=[J x.Paper.Pitch,J x.Paper.Height,J x.Paper.Radius,J x.Paper.Low,J x.Paper.High,J x.Paper.Columns,J x.Paper.Along.Lo,J x.Paper.Along.Hi,J x.Paper.Across.Lo,J x.Paper.Across.Hi]) isAgg25 sizeOf25 rfl rfl rfl rfl)<|f' O t'<|b' 1 O O O<|f' O t'<|b' 1 O O O ?_
 refine C0 (T.call call28 rfl (B0r _ _ x.Paper rfl _ _ b _ _ c)) (by decide) (fun d _ f g=>?_)
 obtain⟨_,rfl,o,rfl,a⟩:=g
 replace a:Sl d o (EO x.Paper x.Trace x.Blots):=a
 exact have s:=a.le;U 3 O<|n' zeroValue104 O fun y=>w' 0 O O O<|U 5 O<|a' 0 O O<|w' 1 O O O<|U 3 O<|Ad 1 O O O isAgg104 sizeOf104<|C2<|⟨_,rfl,⟨_,rfl,a⟩⟩
end Go.Proofs.T10
namespace Go.Proofs.S10
open Tryz Go Go.Kx Go.Proofs.T10
set_option maxRecDepth 20000
theorem V5{G:Prop}(h:G:=by first|exact B2 (fun h_=>by have h0_:=h_;unfold Fz at h0_;omega)|exact D8 ⟨fun h_=>(by unfold Fz;omega),fun h_=>(by unfold Fz at h_;omega)⟩):G:=h
theorem Pf(m:Mem)(cw:List Value)(w:WeekT)(hw:Enc.rd m cw w)(cf:List Value)(f:FiledT)(hf:Enc.rd m cf f):Exact prog 91 #[.agg cw.toArray,.agg cf.toArray] m (.bool (decide (Fz w f))):=by
 obtain⟨v1,v3,v5,rfl,S,V,W⟩:=hw
 have e8:=S.le
 have e9:=V.le
 have f0:=W.le
 obtain⟨f1,f2,f3,f4,f5,f6,rfl,g,k,l,n,o,p⟩:=hf
 refine have b4:=g.le;have b5:=k.le;have b6:=l.le;have b7:=n.le;have b8:=o.le;have b9:=p.le;D4 func91 O ntmps91 fun d2=>q' 2 O<|o' O O fun d3=>o' O O fun d4=>U 4 O<|fz (x:=w) 1 O O ⟨_,_,_,rfl,S,V,W⟩ fun d5 b d=>have g:=g.mono b;have k:=k.mono b;have l:=l.mono b;have n:=n.mono b;have o:=o.mono b;have p:=p.mono b;fz (x:=f) 0 O O ⟨_,_,_,_,_,_,rfl,g,k,l,n,o,p⟩ fun d6 F c=>have d:=d.mono F;q' 1 O<|f' O t'<|have R:=Y3 (Cj d);f' O t'<|s' R O fun d7 y=>have c0:=y.le;f' O t'<|i' (AE c) O<|y' (X.call call42 rfl (El _ _ _ y _))<|U 9 O<|f' O t'<|g' (CE c) O fun d8 J=>?_
 obtain⟨f7,f8,f9,g0,rfl,B,C,D,E⟩:=J
 refine have c1:=B.le;have c2:=C.le;have c3:=D.le;have c4:=E.le;n' zeroValue35 O fun d9=>w' 0 O O O<|U 4 O<|fz (x:=f.Sheet) 0 O O ⟨_,_,_,_,rfl,B,C,D,E⟩ fun e0 q a=>have d:=d.mono q;have c:=c.mono q;q' 2 O<|e' (X.neq O O) (fun Y=>?_) fun Y=>?_
 ·exact U 23 O<|A0 O O<|A8<|V5
 refine U 2 O<|f' O t'<|U 1 O<|i' (Ks c) O<|U 1 O<|f' O t'<|U 1 O<|i' (Ic d) O<|U 1 O<|e' (X.neq O O) (fun a0=>?_) fun a0=>?_
 ·exact U 17 O<|A0 O O<|A8<|V5
 refine U 3 O<|f' O t'<|U 1 O<|g' (U7 a) O fun e1 K=>?_
 obtain rfl:=K
 refine U 1 O<|y' (X.call call141 rfl (LB _ _ f.Sheet.Paper rfl))<|U 1 O<|e' (X.neq O O) (fun a1=>?_) fun a1=>?_
 ·exact U 11 O<|A0 O O<|A8<|V5
 refine U 9 O<|f' O t'<|g' (U7 a) O fun e2 L=>?_
 obtain rfl:=L
 refine f' O t'<|s' (Bc a) O fun e3 z=>have c5:=z.le;f' O t'<|s' (Cg a) O fun e4 A=>?_
 have c6:=A.le
 refine C0 (T.call call28 rfl (B0r _ _ f.Sheet.Paper rfl _ _ z _ _ A)) (by decide) (fun a2 _ r a3=>?_)
 obtain⟨_,rfl,b0,rfl,u⟩:=a3
 replace c:=c.mono r
 replace a:=a.mono r
 replace u:Sl a2 b0 (EO f.Sheet.Paper f.Sheet.Trace f.Sheet.Blots):=u
 refine have c7:=u.le;U 3 O<|n' zeroValue104 O fun e5=>w' 0 O O O<|U 6 O<|e' (X.neq O O) (fun a4=>?_) fun a4=>?_
 ·exact U 16 O<|A0 O O<|A8<|V5
 refine U 2 O<|f' O t'<|U 1 O<|g' (S7 a) O fun e6 M=>?_
 obtain⟨g1,g2,rfl,hs91,hs93⟩:=M
 refine have c8:=hs91.le;have c9:=hs93.le;U 1 O<|y' (X.call call172 rfl (Im _ _ f.Sheet.Drum ⟨_,_,rfl,hs91,hs93⟩))<|U 1 O<|e' (X.neq O O) (fun a5=>?_) fun a5=>?_
 ·exact U 11 O<|A0 O O<|A8<|V5
 refine U 8 O<|f' O t'<|g' (S7 a) O fun e7 N=>?_
 obtain⟨d0,d1,rfl,v,hs103⟩:=N
 refine have a6:=v.le;have a7:=hs103.le;f' O t'<|s' (Gw c) O fun b1 s=>have a8:=s.le;y' (X.call call173 rfl (A0k _ _ f.Sheet.Drum ⟨_,_,rfl,v,hs103⟩ _ _ s))<|U 9 O<|f' O t'<|have H:=Av (S7 a);f' O t'<|s' H O fun b2 t=>have a9:=t.le;l' t O<|U 1 O<|f' O t'<|have I:=An (U7 a);f' O t'<|i' I O<|c' (X.eql O O) (fun P=>?_) fun P=>?_
 ·refine U 2 O<|f' O t'<|U 1 O<|g' (Q4 a) O fun b3 G=>?_
  obtain rfl:=G
  refine U 1 O<|y' (X.call call8 rfl (Mp _ _ f.Sheet.Pen rfl))<|U 1 O<|c' (X.eql O O) (fun Q=>?_) fun Q=>?_
  ·exact U 11 O<|A0 O O<|A8<|V5
  exact U 9 O<|A0 O O<|A8<|V5
 exact U 14 O<|A0 O O<|A8<|V5
theorem Bt{G:Prop}(h:G:=by first|exact B2 (fun h_=>by have h0_:=h_;unfold Fk at h0_;first|omega|(dsimp only at *; omega))|exact D8 ⟨fun h_=>(by unfold Fk;first|omega|(dsimp only at *; omega)),fun h_=>(by unfold Fk at h_;omega)⟩):G:=h
theorem B0c(m:Mem)(cw:List Value)(w:WeekT)(hw:Enc.rd m cw w)(cr:List Value)(r:ReadT)(hr:Enc.rd m cr r):Exact prog 94 #[.agg cw.toArray,.agg cr.toArray] m (.bool (decide (Fk w r))):=by
 obtain⟨P,Q,R,rfl,o,p,q⟩:=hw
 have L:=o.le
 have M:=p.le
 have N:=q.le
 obtain rfl:=hr
 refine D4 func94 O ntmps94 fun B=>q' 2 O<|o' O O fun C=>o' O O fun D=>U 4 O<|fz (x:=w) 1 O O ⟨_,_,_,rfl,o,p,q⟩ fun E s a=>fz (x:=r) 0 O O O fun F g b=>have a:=a.mono g;q' 1 O<|f' O t'<|have l:=Y3 (Cj a);f' O t'<|s' l O fun G f=>have A:=f.le;f' O t'<|i' (DI b) O<|y' (X.call call42 rfl (El _ _ _ f _))<|U 9 O<|f' O t'<|g' (Nq b) O fun H k=>?_
 obtain rfl:=k
 refine n' zeroValue23 O fun I=>w' 0 O O O<|U 3 O<|fz (x:=r.Levels) 0 O O O fun K d c=>have a:=a.mono d;have b:=b.mono d;q' 2 O<|c' (X.eql O O) (fun t=>?_) fun t=>?_
 ·refine U 2 O<|f' O t'<|U 1 O<|i' (Nc b) O<|U 1 O<|f' O t'<|U 1 O<|i' (Ic a) O<|U 1 O<|c' (X.eql O O) (fun u=>?_) fun u=>?_
  ·refine U 3 O<|f' O t'<|U 1 O<|have n:=Aw (Cj a);f' O t'<|U 1 O<|i' n O<|U 1 O<|WL.x (V:=Value.agg [J 0,J w.Base.Ticks].toArray) (X.build zeroValue23 runUnderlying23 (H6 _ underlying23) rfl rfl) (by decide) ?_
   refine U 1 O<|f' O t'<|U 1 O<|i' (Nb b) O<|U 1 O<|c' (X.call call55 rfl (IU _ _ ((Span.mk (0) (w.Base.Ticks))) rfl _)) (fun v=>?_) fun v=>?_
   ·refine U 3 O<|f' O t'<|U 1 O<|i' (P5 c) O<|U 1 O<|c' (X.leq O O) (fun y=>?_) fun y=>?_
    ·refine U 3 O<|f' O t'<|U 1 O<|i' (P5 c) O<|U 1 O<|f' O t'<|U 1 O<|i' (J7 c) O<|U 1 O<|c' (X.leq O O) (fun z=>?_) fun z=>?_
     ·exact U 3 O<|f' O t'<|U 1 O<|i' (J7 c) O<|U 7 O<|A0 O O<|A8<|Bt
     exact U 10 O<|A0 O O<|A8<|Bt
    exact U 17 O<|A0 O O<|A8<|Bt
   exact U 22 O<|A0 O O<|A8<|Bt
  exact U 31 O<|A0 O O<|A8<|Bt
 exact U 37 O<|A0 O O<|A8<|Bt
theorem B5W(m:Mem)(cr:List Value)(r:ReadT)(hr:Enc.rd m cr r){pw:Addr}{w:WeekT}(hpw:At m pw w):Exact prog 93 #[.agg cr.toArray,.pointer (some pw)] m (.bool (decide (¬Fk w r))):=by
 obtain rfl:=hr
 refine D4 func93 O ntmps93 fun p=>q' 2 O<|o' O O fun t=>U 4 O<|fz (x:=r) 0 O O O fun u c g=>have hpw:=hpw.mono c;q' 1 O<|g' hpw O fun v k=>?_
 obtain⟨y,z,s,rfl,f,a,b⟩:=k
 refine have l:=f.le;have n:=a.le;have o:=b.le;g' g O fun q d=>?_
 obtain rfl:=d
 refine y' (X.call call94 rfl (B0c _ _ w ⟨_,_,_,rfl,f,a,b⟩ _ r rfl))<|y' (Cu rfl)<|U 4 O<|A0 O O<|A8 ?_
 first|rfl|(simp[*];done)
theorem Q2{G:Prop}(h:G:=by first|exact B0 (A7P (by omega)).symm|(have hn_:¬Du w:=(fun h_=>by have h1_:=h_.1;unfold Kb at h1_;first|omega|(dsimp only at *; omega));exact B0 (FN (by omega) hn_).symm)|(have hn_:¬Du w:=(fun h_=>by have h1_:=h_.2.1;omega);exact B0 (FN (by omega) hn_).symm)|(have hn_:¬Du w:=(fun h_=>by have h1_:=(h_.2.2.1 k (by omega)).1 (by omega);omega);exact B0 (FN (by omega) hn_).symm)|(have hn_:¬Du w:=(fun h_=>by exact absurd (h_.2.2.1 k (by omega)).2 ‹_›);exact B0 (FN (by omega) hn_).symm)|(have hn_:¬Du w:=(fun h_=>by exact B4Q ‹_› h_.2.2.2);exact B0 (FN (by omega) hn_).symm)|exact B0 (A8J (by omega) ⟨hH_,by omega,fun j hj=>hall j (by omega),B5w ‹_›⟩).symm):G:=h
theorem My{G:Prop}(h:G:=by exact⟨by omega,fun j hj=>by rcases Sc.1 hj with h|h;exact hall j h;subst h;exact⟨fun h0_=>by omega,by first|assumption|(apply Sj;assumption)⟩⟩):G:=h
theorem Ka(m:Mem)(cw:List Value)(w:WeekT)(hw:Enc.rd m cw w):Exact prog 39 #[.agg cw.toArray] m (J (AN w)):=by
 obtain⟨v1,v3,v5,rfl,b5,b6,b7⟩:=hw
 refine have j6:=b5.le;have j7:=b6.le;have j8:=b7.le;D4 func39 O ntmps39 fun i0=>q' 2 O<|o' O O fun a4=>U 5 O<|fz (x:=w) 0 O O ⟨_,_,_,rfl,b5,b6,b7⟩ fun i1 b8 a=>q' 1 O<|f' O t'<|have b4:=Y3 (Cj a);f' O t'<|s' b4 O fun i2 H=>have f3:=H.le;y' (X.call call89 rfl (Kc _ _ _ H))<|U 10 O<|e' (X.neq O O) (fun b9=>?_) fun b9=>?_
 ·exact U 11 O<|A0 O O<|A8<|Q2
 refine U 7 O<|f' O t'<|g' (Cj a) O fun i3 a5=>?_
 obtain⟨j9,rfl,M⟩:=a5
 refine have f4:=M.le;n' zeroValue51 O fun i4=>w' 0 O O O<|U 4 O<|fz (x:=w.Base) 0 O O ⟨_,rfl,M⟩ fun i5 a0 c=>have a:=a.mono a0;q' 1 O<|f' O t'<|g' (MU c) O fun i6 a6=>?_
 obtain rfl:=a6
 refine y' (X.call call90 rfl (KO _ _ w.Base.Wind rfl))<|e' (X.neq O O) (fun c0=>?_) fun c0=>?_
 ·exact U 33 O<|A0 O O<|A8<|Q2
 refine U 2 O<|WL.x (V:=Value.agg [J 1,J 400].toArray) (X.build zeroValue23 runUnderlying23 (H6 _ underlying23) rfl rfl) (by decide) ?_
 refine U 1 O<|f' O t'<|U 1 O<|i' (Aw c) O<|U 1 O<|c' (X.call call55 rfl (IU _ _ ((Span.mk (1) (400))) rfl _)) (fun c1=>?_) fun c1=>?_
 ·refine U 5 O<|f' O t'<|U 1 O<|i' (Aw c) O<|U 1 O<|WL.x (V:=Value.agg [J 0,J w.Base.Ticks].toArray) (X.build zeroValue23 runUnderlying23 (H6 _ underlying23) rfl rfl) (by decide) ?_
  refine U 1 O<|f' O t'<|U 1 O<|i' (MC c) O<|U 1 O<|c' (X.call call55 rfl (IU _ _ ((Span.mk (0) (w.Base.Ticks))) rfl _)) (fun c2=>?_) fun c2=>?_
  ·refine U 5 O<|WL.x (V:=Value.agg [J 0,J 10000].toArray) (X.build zeroValue23 runUnderlying23 (H6 _ underlying23) rfl rfl) (by decide) ?_
   refine U 1 O<|f' O t'<|U 1 O<|i' (Ic a) O<|U 1 O<|c' (X.call call55 rfl (IU _ _ ((Span.mk (0) (10000))) rfl _)) (fun c3=>?_) fun c3=>?_
   ·refine U 10 O ?_
    have hH_:Kb w:=(by unfold Kb;first|omega|(dsimp only at *; omega))
    refine q' 1 O<|f' O t'<|s' (X7 a) O fun i7 I=>have f5:=I.le;l' I O<|c' (X.gtr O O) (fun c4=>?_) fun c4=>?_
    ·exact U 16 O<|A0 O O<|A8<|Q2
    refine U 2 O<|f' O t'<|U 1 O<|s' (In a) O fun i8 K=>have f6:=K.le;U 1 O<|l' K O<|U 1 O<|c' (X.gtr O O) (fun c5=>?_) fun c5=>?_
    ·exact U 11 O<|A0 O O<|A8<|Q2
    refine U 9 O<|f' O t'<|s' (X7 a) O fun c6 g=>have f7:=g.le;l' g O<|U 4 O ?_
    refine J4 (fun(k:Nat)=>w.Sheets.length-k) (fun k=>[]) (fun k=>[(1,Pt a4 0),(58,c6),(59,J w.Sheets.length),(60,J k)]) (fun k=>k≤w.Sheets.length∧(∀j,j<k→Qq w j)) 0 ?_ ?_
    ·exact⟨EF _,fun j hj=>absurd hj (R' _)⟩
    rintro k ⟨hk,hall⟩
    refine N5 (fun d=>?_)
    refine q' 2 O<|c' (X.lss O O) (fun c7=>?_) fun c7=>?_
    ·refine U 11 O<|x' k g O O fun i9 a7=>g' a7 O fun j0 a8=>?_
     obtain⟨k0,k1,k2,k3,k4,k5,rfl,N,P,Q,R,S,T⟩:=a8
     refine have f8:=N.le;have f9:=P.le;have g0:=Q.le;have g1:=R.le;have g2:=S.le;have g3:=T.le;n' zeroValue76 O fun j1=>U 1 O<|w' 0 O O O<|U 3 O<|fz (x:=gt w.Sheets k) 0 O O ⟨_,_,_,_,_,_,rfl,N,P,Q,R,S,T⟩ fun j2 b l=>have a:=a.mono b;B9 20 [] []<|U' 1 O<|C' O O (X.gtr O O) (fun c8=>?_) fun c8=>?_
     ·refine U' 1 O<|Z O O (A.f O)<|Z O O (A.i O (AE l))<|Z O O (A.f O)<|S' (X7 a) O O O fun j3 L=>have g4:=L.le;U' 2 O<|J0 O O (T9 (k-1) runUnderlying54 sizeOf76 rfl rfl L (by omega) (by omega)) (by decide) fun j4 a9=>Z O O (A.f O)<|Z O O (A.i O (AE a9))<|C' O O (X.leq O O) (fun c9=>?_) fun c9=>?_
      ·exact U' 7 O<|V' 13 O<|A0 O O<|A8<|Q2
      refine U' 2 O<|G' a O O O fun j5 b0=>?_
      obtain⟨k6,k7,k8,rfl,W,Y,o⟩:=b0
      refine have d0:=W.le;have d1:=Y.le;have d2:=o.le;G' l O O O fun e9 a1=>?_
      obtain⟨g5,g6,g7,g8,g9,h0,rfl,hs107,q,r,s,t,u⟩:=a1
      refine have d3:=hs107.le;have d4:=q.le;have d5:=r.le;have d6:=s.le;have d7:=t.le;have d8:=u.le;C' O O (X.call call91 rfl (Pf _ _ w ⟨_,_,_,rfl,W,Y,o⟩ _ (gt w.Sheets k) ⟨_,_,_,_,_,_,rfl,hs107,q,r,s,t,u⟩)) (fun b1=>?_) fun b1=>?_
      ·exact U' 2 O<|V' 10 O<|G9 d b<|I6 (k+1)<|My
      exact U' 2 O<|V' 13 O<|A0 O O<|A8<|Q2
     refine U' 13 O<|G' a O O O fun f0 a2=>?_
     obtain⟨h1,h2,h3,rfl,v,y,z⟩:=a2
     refine have d9:=v.le;have e0:=y.le;have e1:=z.le;G' l O O O fun f1 a3=>?_
     obtain⟨h4,h5,h6,h7,h8,h9,rfl,B,C,D,E,F,G⟩:=a3
     refine have e2:=B.le;have e3:=C.le;have e4:=D.le;have e5:=E.le;have e6:=F.le;have e7:=G.le;C' O O (X.call call91 rfl (Pf _ _ w ⟨_,_,_,rfl,v,y,z⟩ _ (gt w.Sheets k) ⟨_,_,_,_,_,_,rfl,B,C,D,E,F,G⟩)) (fun b2=>?_) fun b2=>?_
     ·exact U' 2 O<|V' 10 O<|G9 d b<|I6 (k+1)<|My
     exact U' 2 O<|V' 13 O<|A0 O O<|A8<|Q2
    refine U 12 O<|f' O t'<|s' (In a) O fun f2 n=>have e8:=n.le;y' (X.makeFunc (by intro x hx;simp at hx;subst hx;all_goals exact⟨_,rfl⟩) rfl)<|c' (X.call call92 rfl (B5h (p:=fun i=>¬Fk w (gt w.Reads i)) _ n (caps:=[Pt a4 0]) call93 (fun i hi=>B5W _ _ (gt w.Reads i) rfl a))) (fun b3=>?_) fun b3=>?_
    ·exact U 10 O<|A0 O O<|A8<|Q2
    exact U 11 O<|A0 O O<|A8<|Q2
   exact U 13 O<|A0 O O<|A8<|Q2
  exact U 20 O<|A0 O O<|A8<|Q2
 exact U 29 O<|A0 O O<|A8<|Q2
end Go.Proofs.S10
