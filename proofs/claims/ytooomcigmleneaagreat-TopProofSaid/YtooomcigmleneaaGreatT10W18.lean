import Derived.Test.YtooomcigmleneaaGreatT10W17
set_option linter.all false
set_option maxHeartbeats 1000000
namespace Go.Proofs.T10
open Tryz Go Go.Kx
set_option maxRecDepth 20000
theorem A0c(m:Mem)(cp:List Value)(p:Pen)(hp:Enc.rd m cp p)(cmo:List Value)(mo:Moment)(hmo:Enc.rd m cmo mo)(hms: -100000≤mo.Shown∧mo.Shown≤100000)(hmr: -100000≤mo.Real∧mo.Real≤100000):Exact prog 133 #[.agg cp.toArray,.agg cmo.toArray] m (.bool (decide (Je p mo))):=by
 obtain rfl:=hp
 obtain rfl:=hmo
 refine D4 func133 O ntmps133 fun a=>q' 2 O<|o' O O fun c=>o' O O fun d=>U 4 O<|B9 10 [] []<|Z O O (A.f O)<|Z O O (A.b 0 O O O)<|Z O O (A.f O)<|Z O O (A.b 0 O O O)<|Z O O (X.call call32 rfl (Oi _ _ _ (by omega) (by omega)))<|Z O O (A.f O)<|Z O O (A.f O)<|Z O O (A.b 1 O O O)<|U' 2 O<|V' 2 O<|A0 O O<|A8 ?_
 first|rfl|(simp[*];done)
theorem Ie{G:Prop}(h:G:=by first|exact G4 (Ff (by rw[IV ⟨by assumption,by omega⟩]) (by rw[IV ⟨by assumption,by omega⟩])) (D5 ⟨by assumption,by omega⟩)|(have hn_:¬Fb p mo r:=(fun h_=>by have h1_:=h_.1;have h2_:=h_.2;first|contradiction|omega);exact G4 (Ff (by rw[RZ hn_]) (by rw[RZ hn_])) (B2 hn_))):G:=h
theorem B1H(m:Mem)(cp:List Value)(p:Pen)(hp:Enc.rd m cp p)(cmo:List Value)(mo:Moment)(hmo:Enc.rd m cmo mo)(r:Int)(hms: -100000≤mo.Shown∧mo.Shown≤100000)(hmr: -100000≤mo.Real∧mo.Real≤100000)(hr: -100000≤r∧r≤100000)(hpp:M9 p):Exact prog 134 #[.agg cp.toArray,.agg cmo.toArray,J r] m (.tuple #[.agg [J ((DG p mo r).Shown),J ((DG p mo r).Real)].toArray,.bool (decide (Fb p mo r))]):=by
 obtain rfl:=hp
 obtain rfl:=hmo
 refine have g:=hpp.1;D4 func134 O ntmps134 fun a=>q' 2 O<|o' O O fun k=>o' O O fun l=>n' zeroValue172 O fun n=>U 5 O<|B9 14 [] []<|Z O O (L9 2 O O O)<|Z O O (L9 1 O O O)<|C' O O (X.call call133 rfl (A0c _ _ p rfl _ mo rfl (by omega) (by omega))) (fun c=>?_) fun c=>?_
 ·refine U' 3 O<|Z O O (A.f O)<|Z O O (A.b 1 O O O)<|Z O O (X.call call32 rfl (Oi _ _ _ (by omega) (by omega)))<|Z O O (A.f O)<|Z O O (A.f O)<|Z O O (A.b 2 O O O)<|C' O O (X.gtr O O) (fun d=>?_) fun d=>?_
  ·refine U' 1 O<|V' 4 O<|WL.x (V:=Value.agg [J 0,J 0].toArray) (X.build zeroValue172 runUnderlying172 (Gg _ underlying172) rfl rfl) (by decide) ?_
   exact w' 0 O O O<|U 5 O<|E6 0 O O O O isAgg172 sizeOf172<|A8<|Ie
  refine U' 1 O<|V' 6 O<|a' 2 O O<|f' O t'<|b' 1 O O O<|U 1 O<|y' (X.call call33 rfl (B4f _ _ p rfl _ _ (by omega) (by omega)))<|U 1 O<|WL.x (V:=Value.agg [J (BF p.Band mo.Shown r),J r].toArray) (X.build zeroValue172 runUnderlying172 (Gg _ underlying172) rfl rfl) (by decide) ?_
  exact w' 0 O O O<|U 4 O<|E6 0 O O O O isAgg172 sizeOf172<|A8<|Ie
 refine U' 11 O<|V' 4 O<|WL.x (V:=Value.agg [J 0,J 0].toArray) (X.build zeroValue172 runUnderlying172 (Gg _ underlying172) rfl rfl) (by decide) ?_
 exact w' 0 O O O<|U 5 O<|E6 0 O O O O isAgg172 sizeOf172<|A8<|Ie
theorem Jk{G:Prop}(h:G:=by first|exact⟨s2_,rfl,.inl (by obtain⟨n_,hn_⟩:∃n_,L.length=n_+1:=⟨i,by omega⟩;have hin_:n_=i:=(by omega);rw[hn_,hin_,A4I hki_];exact hI2_)⟩|exact⟨s2_,rfl,.inr ⟨i+1,A2t hki_ hi,hI2_⟩⟩):G:=h
theorem A5S(m:Mem){p:Pen}{first:Int}{L:List Int}{pf pl pp:Addr}(hpf:At m pf first)(hpl:At m pl L)(hpp:At m pp p)(hpn:M9 p)(hfb: -50000≤first∧first≤50000)(hlv:FB L)(hlen_:0<L.length):S1 prog 132 [.pointer (some pf),.pointer (some pl),.pointer (some pp)] m false (Bg p first L L.length) (A7k p first L):=by
 intro lo S HS I Ix s0 a2 K hy h0
 refine have N:=hlv 0 hlen_;have P:=hpn.1;G3 func132 O ntmps132 fun a3=>q' 1 O<|B9 7 [5,6] [6]<|Z O O (A.i O hpf)<|S' hpl O O O fun v1 r=>have a8:=r.le;X' 0 r O O O O fun p4 C=>Z O O (A.i O C)<|DW.x (V:=Value.agg [J first,J (gt L 0)].toArray) O O (X.build zeroValue172 runUnderlying172 (Gg _ underlying172) rfl rfl) (by decide) ?_
 refine N3 O O O (T.alloc zeroValue172 rfl) (by decide) fun s=>W' 0 O O O O O<|V' 1 O ?_
 refine Bm (fun(n:Bool)=>m) (fun n=>([blk s 172 [J first,J (gt L 0)]]++HS s0)) (fun n=>[(0,.func (.yield lo) #[] #[]),(2,.pointer (some (pl))),(3,.pointer (some (pp))),(5,Pt s 0),(6,.bool (n))]) (fun n=>n=FM p first L 0) ?_ ?_
 ·refine q' 1 O<|g' hpp O fun c7 D=>?_
  obtain rfl:=D
  refine a' 0 O O<|c' (X.call call133 rfl (A0c _ _ p rfl _ ((Moment.mk (first) (gt L 0))) rfl (by dsimp only;omega) (by dsimp only;omega))) (fun h9=>?_) fun h9=>?_
  ·refine U 3 O<|H5 true ?_
   first|exact(SF ‹_›).symm|exact(Tg ‹_›).symm|rfl
  refine U 3 O<|H5 false ?_
  first|exact(SF ‹_›).symm|exact(Tg ‹_›).symm|rfl
 rintro n k
 try dsimp only at k
 refine have g:=k;q' 2 O<|g' hpp O fun a4 t=>?_
 obtain rfl:=t
 refine y' (Bv (by intro x hx;simp at hx;subst hx;all_goals exact⟨_,rfl⟩) rfl)<|U 9 O ?_
 have Q:m.le m:=Mem.le_refl _
 refine lp (G:=Nat×Bool×Int×Int×Mem×S) (fun(i,ob,ms,mr,mm,ss)=>L.length-i) (fun(i,ob,ms,mr,mm,ss)=>mm) (fun(i,ob,ms,mr,mm,ss)=>([blk s 172 [J ms,J mr]]++HS ss)) (fun(i,ob,ms,mr,mm,ss)=>[(0,.func (.yield lo) #[] #[]),(2,.pointer (some (pl))),(5,Pt s 0),(6,.bool (ob)),(7,.func (.func 134) [.agg [J p.Band,J p.Zero.Lo,J p.Zero.Hi,J p.Rate].toArray].toArray #[]),(8,J i)]) (fun(i,ob,ms,mr,mm,ss)=>m.le mm∧I i mm ss∧i<L.length∧(ob=true→FM p first L i=true)∧(ob=false→FM p first L i=false)∧(ob=true→ms=Y8 p.Band first L i∧mr=gt L i)∧∀j,j<i→FM p first L j=true) ((0,n,first,gt L 0,m,s0)) ?_ ?_
 ·exact⟨Mem.le_refl _,h0,hlen_,fun c=>g▸c,fun c=>g▸c,fun _=>⟨rfl,rfl⟩,fun j M=>absurd M (R' _)⟩
 rintro⟨i,ob,ms,mr,mm,ss⟩ l
 conv=>enter [7];dsimp only
 conv=>enter [8];dsimp only
 try dsimp only at l
 obtain⟨q,hI,hi,y,z,B,hall⟩:=l
 refine have hpl:=hpl.mono q;have R:=B3K hpn hfb hlv i hi;have W:=hlv i hi;q' 4 O ?_
 refine J6 (X.move rfl) (by decide) (fun E=>?_) (fun E=>?_)
 ·refine U 3 O<|a' 0 O O<|U 1 O ?_
  have hki_:=y ‹_›
  have w:=B ‹_›
  obtain⟨rfl,rfl⟩:=w
  refine AB (T.yield (A:=[blk s 172 [J (Y8 p.Band first L i),J (gt L i)]]) rfl rfl rfl (hy i _ _ _ (A2t hki_ hi) q (by rfl) hI)) (by decide) (fun u F o=>?_) (fun u F o=>?_)
  ·obtain⟨a,s2_,rfl,hI2_⟩:=o
   refine have hpl:=hpl.mono a;U 7 O<|s' hpl O fun a5 d=>have Y:=d.le;U 1 O<|l' d O<|U 1 O<|c' (X.lss O O) (fun H=>?_) fun H=>?_
   ·refine U 8 O ?_
    have a0:=hlv (i+1) (by omega)
    refine B9 13 [11] [11]<|U' 1 O<|Z O O (L9 0 O O O)<|S' hpl O O O fun a6 f=>have a1:=f.le;U' 2 O<|J0 O O (T9 (i+1) runUnderlying27 sizeOf3 rfl rfl f (by omega) (by omega)) (by decide) fun a7 v=>Z O O (A.i O v)<|Z O O (B2Y call134 rfl rfl (B1H _ _ p rfl _ ((Moment.mk (Y8 p.Band first L i) (gt L i))) rfl (gt L (i+1)) (by dsimp only;omega) (by dsimp only;omega) (by omega) hpn))<|U' 3 O<|W' 0 O O O O O<|U' 1 O<|V' 8 O ?_
    refine nx ((i+1,decide (Fb p (((Moment.mk (Y8 p.Band first L i) (gt L i)))) ((gt L (i+1)))),(DG p (((Moment.mk (Y8 p.Band first L i) (gt L i)))) ((gt L (i+1)))).Shown,(DG p (((Moment.mk (Y8 p.Band first L i) (gt L i)))) ((gt L (i+1)))).Real,u,s2_)) ?_ ?_
    ·exact⟨Mem.le_trans q a,hI2_,by omega,fun c=>by rw[FM,hki_];exact c,fun c=>by rw[FM,hki_];exact c,fun c=>by rw[IV (Sv c)];exact⟨rfl,rfl⟩,fun j M=>QA (by omega) hki_⟩
    (dsimp only;omega)
   refine U 8 O ?_
   refine D0 rfl (fun w' b=>B3 (b.weaken (.cons _ (.refl _))) ?_)
   exact Jk
  obtain⟨a,s2_,rfl,hI2_⟩:=o
  refine U 15 O ?_
  refine D0 rfl (fun w' b=>B3 (b.weaken (.cons _ (.refl _))) ?_)
  exact Jk
 refine U 18 O ?_
 refine D0 rfl (fun w' b=>B3 (b.weaken (.cons _ (.refl _))) ?_)
 exact⟨ss,rfl,.inl (by rw[Pi (z (by first|assumption|(simpa using by assumption))) hall L.length (by omega)];exact hI)⟩
theorem A9x(m:Mem){p:Pen}{first:Int}{v:Value}{L:List Int}(hL:Sl m v L)(hpn:M9 p)(hfb: -50000≤first∧first≤50000)(hlv:FB L)(hlen_:0<L.length):Pure prog 70 #[.agg [J p.Band,J p.Zero.Lo,J p.Zero.Hi,J p.Rate].toArray,J first,v] m (fun m' v=>∃lb,v= .func (.func 132) #[] lb.toArray∧S1 prog 132 lb m' false (Bg p first L L.length) (A7k p first L)):=by
 exact F6 func70 O ntmps70 fun l=>q' 2 O<|o' O O fun o=>o' O O fun q=>Au (Cv (cs:=[v]) rfl (D7 hL.one)) (by decide) fun r=>U 4 O<|fz (x:=first) 1 O O O fun s d a=>have hL:=hL.mono d;fz (α:=(List Int)) (x:=L) 0 O O ⟨_,rfl,hL⟩ fun t f c=>have a:=a.mono f;fz (x:=p) 0 O O O fun n b g=>have a:=a.mono b;have c:=c.mono b;q' 1 O<|y' (X.makeFunc (by intro x k;simp at k;rcases k with rfl|rfl|rfl;all_goals exact⟨_,rfl⟩) rfl)<|U 4 O<|A0 O O<|C2<|⟨_,rfl,A5S _ a c g hpn hfb hlv hlen_⟩
theorem GG{G:Prop}(h:G:=by first|exact⟨_,G4 rfl (B0 (by rw[QB (by omega)])),by rw[KQ (by rw[QB (by omega)];omega)];exact .nil⟩|exact⟨_,G4 rfl (B0 (by rw[Pd (by omega) (by omega)])),by rw[KQ (by rw[Pd (by omega) (by omega)];omega)];exact .nil⟩|exact⟨_,G4 rfl (B0 (by rw[Nj (by omega) (by omega) (by omega)])),by rw[KQ (by rw[Nj (by omega) (by omega) (by omega)];omega)];exact .nil⟩):G:=h
theorem A7b(m:Mem)(cp:List Value)(p:Pen)(hp:Enc.rd m cp p)(first:Int)(vreal:Value)(real:List Int)(hreal:Sl m vreal real):Pure prog 23 #[.agg cp.toArray,J first,vreal] m (fun m' v=>∃r0,v= .tuple #[r0,J (Dt p first real)]∧Sl m' r0 (Ob p first real)):=by
 obtain rfl:=hp
 refine have lreal:=hreal.le;F6 func23 O ntmps23 fun a4=>q' 2 O<|o' O O fun q=>U 7 O<|a' 0 O O<|U 1 O ?_
 refine C0 (M5 (α:=Int) (vals:=[J first]) (L:=[first]) Y1 rfl (.cons rfl rfl .nil) rfl rfl) (by decide) (fun m2 P D Q=>?_)
 refine have hreal:=hreal.mono D;y' (X.call call68 rfl (B1N _ _ p rfl _ _ Q))<|U 6 O<|e' (X.neq O O) (fun h6=>?_) fun h6=>?_
 ·exact U 12 O<|B7 O O O<|C2<|GG
 refine U 9 O<|y' (X.call call69 rfl (B3T _ _ _ hreal))<|U 6 O<|e' (X.neq O O) (fun h7=>?_) fun h7=>?_
 ·exact U 12 O<|B7 O O O<|C2<|GG
 refine U 7 O<|n' zeroValue27 O fun r=>U 4 O ?_
 have s:=B1t (p:=p) (first:=first) (by omega)
 have H:=A9B (l:=real) (by omega)
 refine I5 Int 3<|q' 1 O<|a' 2 O O<|WL.x (V:=Value.agg [J p.Band,J p.Zero.Lo,J p.Zero.Hi,J p.Rate].toArray) (X.build zeroValue113 runUnderlying113 (A5m _ underlying113) rfl rfl) (by decide) ?_
 refine U 2 O ?_
 refine C0 (T.call call70 rfl (A9x _ (p:=p) (first:=first) hreal s.1 s.2 H.2 (by omega))) (by decide) (fun m9 _ w R=>?_)
 obtain⟨f,rfl,z⟩:=R
 refine have hreal:=hreal.mono w;U 3 O<|WK.p [1] ?_
 refine N8 (S:=Value×List Int) (G:=Nat) (ps:=[29]) (n:=Bg p first real real.length) (A:=A7k p first real) rfl call132 z (fun o:Value×List Int=>[blk r 27 [o.1],A5 (o.1) 3 (o.2),blk q 33 [J p.Band,J p.Zero.Lo,J p.Zero.Hi,J p.Rate]]) (fun i _ o=>o.2=D2 i (Y8 p.Band first real)) (fun _ _ _ _=>False) (Value.slice none 0 0,([]:List Int)) rfl rfl (fun h=>by cases h) (fun _ _ _ _ _ h=>h) (by simp) (fun i m1 b h=>by rw[show b=_ from h];rfl) (fun C b gh=>blk C 172 ((b.getD 0 undef).cells.toList)::(fun o:Value×List Int=>[blk r 27 [o.1],A5 (o.1) 3 (o.2),blk q 33 [J p.Band,J p.Zero.Lo,J p.Zero.Hi,J p.Rate]]) gh) (fun C b=>(11,Pt C 0)::[(0,.agg [J p.Band,J p.Zero.Lo,J p.Zero.Hi,J p.Rate].toArray),(1,J first),(2,vreal),(3,Pt q 0),(6,S0),(7,J 0),(12,.agg [J p.Band,J p.Zero.Lo,J p.Zero.Hi,J p.Rate].toArray),(13,J first),(14,P),(15,J (X0 p (([first])))),(8,J (X0 p (([first])))),(16,J (X0 p (([first])))),(17,.bool false),(19,vreal),(20,J (O2 real)),(9,J (O2 real)),(21,J (O2 real)),(22,.bool false),(10,Pt r 0),(24,.agg [J p.Band,J p.Zero.Lo,J p.Zero.Hi,J p.Rate].toArray),(25,.agg [J p.Band,J p.Zero.Lo,J p.Zero.Hi,J p.Rate].toArray),(26,J first),(27,vreal),(28,.func (.func 132) #[] f.toArray)]) ?_ ?_ ?_ ?_ ?_
 ·intro lo B1 i g gh b KK N B d a2
  have y:b=[.agg [J (Y8 p.Band first real i),J (gt real i)].toArray]:=(by have:=Sd Array.toList (show b.toArray=#[.agg [J (Y8 p.Band first real i),J (gt real i)].toArray]from B);simpa using this)
  subst y
  refine qb ?_
  exact q' 1 O<|n' zeroValue172 O fun W=>w' 0 O O O<|U 1 O<|I8 (.cons rfl (.cons rfl (.cons rfl (.cons rfl (.cons rfl (.cons rfl (.cons rfl (.cons rfl (.cons rfl (.cons rfl (.cons rfl (.cons rfl (.cons rfl (.cons rfl (.cons rfl (.cons rfl (.cons rfl (.cons rfl (.cons rfl (.cons rfl (.cons rfl (.cons rfl (.cons rfl (.cons rfl (.cons rfl .nil))))))))))))))))))))))))) (a2 W)
 ·intro lo B1 i g gh b C N hi d B c
  have y:b=[.agg [J (Y8 p.Band first real i),J (gt real i)].toArray]:=(by have:=Sd Array.toList (show b.toArray=#[.agg [J (Y8 p.Band first real i),J (gt real i)].toArray]from B);simpa using this)
  subst y
  obtain⟨vo,M_⟩:=gh
  replace c:M_=D2 i (Y8 p.Band first real):=c
  subst c
  have I:=OE (p:=p) (first:=first) (L:=real) real.length
  replace hreal:=hreal.mono d
  have t:(D2 i (Y8 p.Band first real)).length=i:=B5 _ _
  show WK _ _ g [blk C 172 [J (Y8 p.Band first real i),J (gt real i)],blk r 27 [vo],A5 (vo) 3 (D2 i (Y8 p.Band first real)),blk q 33 [J p.Band,J p.Zero.Lo,J p.Zero.Hi,J p.Rate]] [(11,Pt C 0),(0,.agg [J p.Band,J p.Zero.Lo,J p.Zero.Hi,J p.Rate].toArray),(1,J first),(2,vreal),(3,Pt q 0),(6,S0),(7,J 0),(12,.agg [J p.Band,J p.Zero.Lo,J p.Zero.Hi,J p.Rate].toArray),(13,J first),(14,P),(15,J (X0 p (([first])))),(8,J (X0 p (([first])))),(16,J (X0 p (([first])))),(17,.bool false),(19,vreal),(20,J (O2 real)),(9,J (O2 real)),(21,J (O2 real)),(22,.bool false),(10,Pt r 0),(24,.agg [J p.Band,J p.Zero.Lo,J p.Zero.Hi,J p.Rate].toArray),(25,.agg [J p.Band,J p.Zero.Lo,J p.Zero.Hi,J p.Rate].toArray),(26,J first),(27,vreal),(28,.func (.func 132) #[] f.toArray)] _
  refine qb ?_
  refine q' 2 O<|b' 1 O O O<|f' O t'<|b' 0 O O O<|R0 (G6 Y1 rfl rfl rfl (by decide)) (by decide) fun a5=>?_
  refine G2 (G1 (k:=2) (a:=Y8 p.Band first real i) Y1 rfl rfl rfl rfl (by first|omega|(simp;done)|(simp;omega)) (by decide)) (by decide) (fun Y=>?_)
  refine E8 (k:=2) rfl (fun E=>?_)
  refine G7 (C1 (k:=1) sizeOf27 rfl rfl rfl E (J' rfl))<|U 2 O ?_
  have K:((D2 i (Y8 p.Band first real))++[Y8 p.Band first real i])=(D2 (i+1) (Y8 p.Band first real)):=(O9 _ _).symm
  rw[K]
  exact P6 (Y,D2 (i+1) (Y8 p.Band first real)) (Mem.le_refl _) (.cons _ (.refl _)) rfl
 ·intro g gh d c
  obtain⟨vo,M_⟩:=gh
  replace c:M_=D2 (Bg p first real real.length) (Y8 p.Band first real):=c
  subst c
  replace hreal:=hreal.mono d
  have t:(D2 (Bg p first real real.length) (Y8 p.Band first real)).length=Bg p first real real.length:=B5 _ _
  refine have I:=OE (p:=p) (first:=first) (L:=real) real.length;I8 (σ':=[(0,.agg [J p.Band,J p.Zero.Lo,J p.Zero.Hi,J p.Rate].toArray),(1,J first),(2,vreal),(3,Pt q 0),(6,S0),(7,J 0),(12,.agg [J p.Band,J p.Zero.Lo,J p.Zero.Hi,J p.Rate].toArray),(13,J first),(14,P),(15,J (X0 p (([first])))),(8,J (X0 p (([first])))),(16,J (X0 p (([first])))),(17,.bool false),(19,vreal),(20,J (O2 real)),(9,J (O2 real)),(21,J (O2 real)),(22,.bool false),(10,Pt r 0),(24,.agg [J p.Band,J p.Zero.Lo,J p.Zero.Hi,J p.Rate].toArray),(25,.agg [J p.Band,J p.Zero.Lo,J p.Zero.Hi,J p.Rate].toArray),(26,J first),(27,vreal),(28,.func (.func 132) #[] f.toArray)]) (.cons rfl (.cons rfl (.cons rfl (.cons rfl (.cons rfl (.cons rfl (.cons rfl (.cons rfl (.cons rfl (.cons rfl (.cons rfl (.cons rfl (.cons rfl (.cons rfl (.cons rfl (.cons rfl (.cons rfl (.cons rfl (.cons rfl (.cons rfl (.cons rfl (.cons rfl (.cons rfl (.cons rfl .nil)))))))))))))))))))))))) ?_
  show WK _ _ g [blk r 27 [vo],A5 (vo) 3 (D2 (Bg p first real real.length) (Y8 p.Band first real)),blk q 33 [J p.Band,J p.Zero.Lo,J p.Zero.Hi,J p.Rate]] [(0,.agg [J p.Band,J p.Zero.Lo,J p.Zero.Hi,J p.Rate].toArray),(1,J first),(2,vreal),(3,Pt q 0),(6,S0),(7,J 0),(12,.agg [J p.Band,J p.Zero.Lo,J p.Zero.Hi,J p.Rate].toArray),(13,J first),(14,P),(15,J (X0 p (([first])))),(8,J (X0 p (([first])))),(16,J (X0 p (([first])))),(17,.bool false),(19,vreal),(20,J (O2 real)),(9,J (O2 real)),(21,J (O2 real)),(22,.bool false),(10,Pt r 0),(24,.agg [J p.Band,J p.Zero.Lo,J p.Zero.Hi,J p.Rate].toArray),(25,.agg [J p.Band,J p.Zero.Lo,J p.Zero.Hi,J p.Rate].toArray),(26,J first),(27,vreal),(28,.func (.func 132) #[] f.toArray)] _
  refine P4<|E2<|q' 3 O<|b' 0 O O O<|y' (V8 (k:=1) runUnderlying27 rfl rfl)<|U 1 O<|l' hreal O<|c' (X.lss O O) (fun a0=>?_) fun a0=>?_
  ·exact U 11 O<|B7 O O O<|C2<|GG
  refine U 7 O<|b' 0 O O O<|U 5 O ?_
  refine E4 1 rfl rfl (by rw[t];unfold C7;omega) (fun a6 a1 F=>?_)
  refine B7 O O O<|C2 ?_
  have u:=B2E (p:=p) (first:=first) (L:=real) (by omega) (by omega) (by omega)
  have M:Bg p first real real.length=real.length:=(by omega)
  exact⟨_,G4 rfl (B0 u.symm),by rw[B0X u];have h_:=F;rw[M]at h_;exact h_⟩
 ·intro i m1 gh a3 hi c
  exact c.elim
 intro id i m1 gh a3 hi c
 exact c.elim
theorem Eh{G:Prop}(h:G:=by first|exact D5 (fun i hi=>hall i (by omega))|exact B2 (fun h_=>by have h1_:=h_ k (by omega);omega)):G:=h
theorem A7t(m:Mem)(vl:Value)(l:List Span)(hl:Sl m vl l):Exact prog 124 #[vl] m (.bool (decide (Ik l))):=by
 refine have ll:=hl.le;D4 func124 O ntmps124 fun g=>q' 14 O<|l' hl O<|U 4 O ?_
 refine S5 (fun(k:Nat) (la:Int)=>l.length-k) (fun k la=>[]) (fun k la=>[(3,J la),(6,vl),(7,J l.length),(8,J k)]) (fun k la=>k≤l.length∧la=Dw l k∧∀j,j<k→Dw l j+2≤(gt l j).Lo∧(gt l j).Lo≤(gt l j).Hi∧(gt l j).Hi≤100000) 0 (-100002) ?_ ?_
 ·exact⟨EF _,rfl,fun j a=>absurd a (R' _)⟩
 rintro k la ⟨u,q,hall⟩
 refine have f:=LH hall k (E' _);q' 2 O<|c' (X.lss O O) (fun n=>?_) fun n=>?_
 ·refine U 10 O<|x' k hl O O fun r b=>g' b O fun s c=>?_
  obtain rfl:=c
  refine n' zeroValue23 O fun t=>w' 0 O O O<|U 5 O<|f' O t'<|b' 0 O O O<|U 2 O<|c' (X.lss O O) (fun o=>?_) fun o=>?_
  ·exact U 27 O<|A0 O O<|A8<|Eh
  refine U 2 O<|f' O t'<|U 1 O<|b' 0 O O O<|U 1 O<|f' O t'<|U 1 O<|b' 0 O O O<|U 1 O<|c' (X.gtr O O) (fun p=>?_) fun p=>?_
  ·exact U 21 O<|A0 O O<|A8<|Eh
  refine U 3 O<|f' O t'<|U 1 O<|b' 0 O O O<|U 1 O<|c' (X.gtr O O) (fun d=>?_) fun d=>?_
  ·exact U 16 O<|A0 O O<|A8<|Eh
  exact U 7 O<|f' O t'<|b' 0 O O O<|U 9 O<|K2 (k+1) ((gt l k).Hi)<|⟨by omega,rfl,fun j a=>by rcases Sc.1 a with h|h;exact hall j h;subst h;omega⟩
 exact U 15 O<|A0 O O<|A8<|Eh
theorem Mr{G:Prop}(h:G:=by first|exact D5 ⟨by omega,by assumption⟩|exact B2 (fun h_=>by have h1_:=h_.1;omega)|exact B2 (fun h_=>absurd h_.2 ‹_›)|exact D8 ⟨fun h_=>⟨by omega,h_⟩,fun h_=>h_.2⟩):G:=h
theorem Hh(m:Mem)(vl:Value)(l:List Span)(hl:Sl m vl l):Exact prog 65 #[vl] m (.bool (decide (I7 l))):=by
 refine have ll:=hl.le;D4 func65 O ntmps65 fun a=>q' 8 O<|l' hl O<|c' (X.leq O O) (fun b=>?_) fun b=>?_
 ·exact U 4 O<|y' (X.call call124 rfl (A7t _ _ _ hl))<|U 5 O<|A0 O O<|A8<|Mr
 exact U 8 O<|A0 O O<|A8<|Mr
theorem B2b(m:Mem){L:List Span}{pl:Addr}(hpl:At m pl L):S1 prog 213 [.pointer (some pl)] m false L.length (KA L):=by
 intro lo S HS I Ix y t q z B
 refine G3 func213 O ntmps213 fun u=>q' 2 O<|s' hpl O fun v a=>have x:=a.le;l' a O<|U 4 O ?_
 have r:m.le m:=Mem.le_refl _
 refine Iz (fun(k:Nat) (mm:Mem) (ss:S)=>L.length-k) (fun k mm ss=>mm) (fun k mm ss=>([]++HS ss)) (fun k mm ss=>[(0,.func (.yield lo) #[] #[]),(5,v),(6,J L.length),(7,J k)]) (fun k mm ss=>m.le mm∧I k mm ss∧k≤L.length) 0 m y ?_ ?_
 ·exact⟨Mem.le_refl _,B,EF _⟩
 rintro k mm ss ⟨f,s,E⟩
 refine have a:=a.mono f;q' 2 O<|c' (X.lss O O) (fun w=>?_) fun w=>?_
 ·refine U 10 O<|x' k a O O fun C l=>g' l O fun D n=>?_
  obtain rfl:=n
  refine n' zeroValue23 O fun o=>w' 0 O O O<|U 5 O<|a' 0 O O ?_
  refine AB (T.yield (A:=[blk o 23 [J ((gt L k).Lo),J ((gt L k).Hi)]]) rfl rfl rfl (z k _ _ _ (by omega) f rfl s)) (by decide) (fun g p c=>?_) (fun g p c=>?_)
  ·obtain⟨b,s2_,rfl,hI2_⟩:=c
   exact U 12 O<|O7 (k+1) g s2_<|⟨Mem.le_trans f b,hI2_,by omega⟩
  obtain⟨b,s2_,rfl,hI2_⟩:=c
  refine U 9 O ?_
  refine E9 rfl (fun w' d=>B3 (d.weaken (.cons _ (.refl _))) ?_)
  exact⟨s2_,rfl,.inr ⟨k+1,by omega,hI2_⟩⟩
 refine U 8 O ?_
 refine D0 rfl (fun w' d=>B3 (d.weaken (.refl _)) ?_)
 obtain rfl:k=L.length:=(by omega)
 exact⟨ss,rfl,.inl s⟩
theorem Ja(m:Mem){v:Value}{L:List Span}(hL:Sl m v L):Pure prog 127 #[v] m (fun m' v=>∃lb,v= .func (.func 213) #[] lb.toArray∧S1 prog 213 lb m' false L.length (KA L)):=by
 exact F6 func127 O ntmps127 fun d=>q' 2 O<|Au (Cv (cs:=[v]) rfl (D7 hL.one)) (by decide) fun f=>U 4 O<|fz (α:=(List Span)) (x:=L) 0 O O ⟨_,rfl,hL⟩ fun g b a=>q' 1 O<|y' (X.makeFunc (by intro x c;simp at c;subst c;all_goals exact⟨_,rfl⟩) rfl)<|U 4 O<|A0 O O<|C2<|⟨_,rfl,B2b _ a⟩
theorem A4E(m:Mem){gf:Nat}{lb:List Value}{L:List Span}(hE:Enters prog gf)(hit:S1 prog gf lb m false L.length (KA L))(hn:L.length≤4000000000):Mut prog 259 #[S0,.func (.func gf) #[] lb.toArray] m [] (fun _ Es u=>Es=[A5 u 23 L]∧u.oneCell'=true):=by
 refine G3 func259 O ntmps259 fun F=>q' 2 O<|o' O O fun l=>U 5 O<|I5 Span 23<|q' 5 O<|WK.p [1] ?_
 refine N8 (S:=Value×List Span) (G:=Nat) (ps:=[7]) (n:=L.length) (A:=KA L) rfl hE hit (fun g:Value×List Span=>[blk l 28 [g.1],A5 (g.1) 23 (g.2)]) (fun i _ g=>g.2=D2 i (gt L)) (fun _ _ _ _=>False) (Value.slice none 0 0,([]:List Span)) rfl rfl (fun h=>by cases h) (fun _ _ _ _ _ h=>h) (by simp) (fun i E b h=>by rw[show b=_ from h];rfl) (fun r b gh=>blk r 23 ((b.getD 0 undef).cells.toList)::(fun g:Value×List Span=>[blk l 28 [g.1],A5 (g.1) 23 (g.2)]) gh) (fun r b=>(5,Pt r 0)::[(0,S0),(1,.func (.func gf) #[] lb.toArray),(2,Pt l 0),(4,S0),(6,.func (.func gf) #[] lb.toArray)]) ?_ ?_ ?_ ?_ ?_
 ·intro lo B1 i d gh b KK t q f C
  have o:b=[.agg [J ((gt L i).Lo),J ((gt L i).Hi)].toArray]:=(by have:=Sd Array.toList (show b.toArray=#[.agg [J ((gt L i).Lo),J ((gt L i).Hi)].toArray]from q);simpa using this)
  subst o
  refine qb ?_
  exact q' 1 O<|n' zeroValue23 O fun H=>w' 0 O O O<|U 1 O<|I8 (.cons rfl (.cons rfl (.cons rfl (.cons rfl (.cons rfl (.cons rfl .nil)))))) (C H)
 ·intro lo B1 i d gh b r t hi f q c
  have o:b=[.agg [J ((gt L i).Lo),J ((gt L i).Hi)].toArray]:=(by have:=Sd Array.toList (show b.toArray=#[.agg [J ((gt L i).Lo),J ((gt L i).Hi)].toArray]from q);simpa using this)
  subst o
  obtain⟨vo,B⟩:=gh
  replace c:B=D2 i (gt L):=c
  subst c
  have s:(D2 i (gt L)).length=i:=B5 _ _
  show WK _ _ d [blk r 23 [J ((gt L i).Lo),J ((gt L i).Hi)],blk l 28 [vo],A5 (vo) 23 (D2 i (gt L))] [(5,Pt r 0),(0,S0),(1,.func (.func gf) #[] lb.toArray),(2,Pt l 0),(4,S0),(6,.func (.func gf) #[] lb.toArray)] _
  refine qb ?_
  refine q' 2 O<|b' 1 O O O<|a' 0 O O<|R0 (G6 K9 rfl rfl rfl (by decide)) (by decide) fun K=>?_
  refine G2 (G1 (k:=2) (a:=gt L i) K9 rfl rfl rfl rfl (by first|omega|(simp;done)|(simp;omega)) (by decide)) (by decide) (fun I=>?_)
  refine E8 (k:=2) rfl (fun v=>?_)
  refine G7 (C1 (k:=1) sizeOf28 rfl rfl rfl v (J' rfl))<|U 2 O ?_
  have y:((D2 i (gt L))++[gt L i])=(D2 (i+1) (gt L)):=(O9 _ _).symm
  rw[y]
  exact P6 (I,D2 (i+1) (gt L)) (Mem.le_refl _) (.cons _ (.refl _)) rfl
 ·intro d gh f c
  obtain⟨vo,B⟩:=gh
  replace c:B=D2 L.length (gt L):=c
  subst c
  have s:(D2 L.length (gt L)).length=L.length:=B5 _ _
  refine I8 (σ':=[(0,S0),(1,.func (.func gf) #[] lb.toArray),(2,Pt l 0),(4,S0),(6,.func (.func gf) #[] lb.toArray)]) (.cons rfl (.cons rfl (.cons rfl (.cons rfl (.cons rfl .nil))))) ?_
  show WK _ _ d [blk l 28 [vo],A5 (vo) 23 (D2 L.length (gt L))] [(0,S0),(1,.func (.func gf) #[] lb.toArray),(2,Pt l 0),(4,S0),(6,.func (.func gf) #[] lb.toArray)] _
  refine P4<|E2<|q' 1 O ?_
  have z:(D2 L.length (gt L))=L:=B1m L
  rw[z]
  refine q' 1 O<|b' 0 O O O ?_
  refine E8 (k:=1) rfl (fun w=>?_)
  refine U 4 O ?_
  refine A0 rfl rfl (fun w' x=>B3 (x.weaken (.cons _ (.cons_cons _ .slnil))) ?_)
  exact⟨rfl,w⟩
 ·intro i E gh D hi c
  exact c.elim
 intro id i E gh D hi c
 exact c.elim
theorem Nd(m:Mem){gf:Nat}{lb:List Value}{L:List Span}(hE:Enters prog gf)(hit:S1 prog gf lb m false L.length (KA L))(hn:L.length≤4000000000):Mut prog 212 #[.func (.func gf) #[] lb.toArray] m [] (fun _ Es u=>Es=[A5 u 23 L]∧u.oneCell'=true):=by
 refine G3 func212 O ntmps212 fun d=>q' 8 O ?_
 refine C5 (H3 call259 rfl (A4E _ (L:=L) hE hit (by omega))) (by decide) (fun g Es2 l c a=>?_)
 obtain⟨rfl,f⟩:=a
 refine E8 (k:=0) rfl (fun b=>?_)
 exact U 4 O<|A0 O O<|I2<|⟨rfl,b⟩
theorem OY(m:Mem){gf:Nat}{lb:List Value}{L:List Span}(hE:Enters prog gf)(hit:S1 prog gf lb m false L.length (KA L))(hn:L.length≤4000000000)(hB:Cz L){fc:Nat}{cf:Span→Span→Int}(hC:CmpOk fc cf):Mut prog 125 #[.func (.func gf) #[] lb.toArray,Fc fc] m [] (fun _ Es u=>∃R:List Span,Es=[A5 u 23 R]∧u.oneCell'=true∧R.Perm L∧Srt Span.Lo R 0 R.length):=by
 refine G3 func125 O ntmps125 fun g=>q' 8 O ?_
 refine C5 (H3 call212 rfl (Nd _ (L:=L) hE hit (by omega))) (by decide) (fun o Es2 p d a=>?_)
 obtain⟨rfl,n⟩:=a
 refine U 7 O ?_
 refine C5 (C8 (A:=[]) call148 rfl (.refl _) (A2q _ (L:=L) (by omega) hB hC)) (by decide) (fun q l r f a=>?_)
 obtain⟨rfl,R8,rfl,c⟩:=a
 refine U 5 O ?_
 refine E8 (k:=0) rfl (fun b=>?_)
 exact U 4 O<|A0 O O<|I2<|⟨_,rfl,b,c⟩
theorem FI{G:Prop}(h:G:=by first|exact B0 (B1G (by omega)).symm|exact B0 (B0U (by omega) (by omega)).symm|exact B0 (B2j (by omega) (by omega)).symm):G:=h
theorem BM(m:Mem)(x:Int)(y:Int):Exact prog 88 #[J x,J y] m (J (V7 x y)):=by
 refine D4 func88 O ntmps88 fun a=>q' 8 O<|y' (X.call call169 rfl (Rj _ _))<|U 6 O<|y' (X.call call169 rfl (Rj _ _))<|U 26 O<|c' (X.lss O O) (fun b=>?_) fun b=>?_
 ·exact U 10 O<|A0 O O<|A8<|FI
 refine U 10 O<|c' (X.gtr O O) (fun c=>?_) fun c=>?_
 ·exact U 10 O<|A0 O O<|A8<|FI
 exact U 11 O<|A0 O O<|A8<|FI
theorem B5t(m:Mem)(ca:List Value)(a:Span)(ha:Enc.rd m ca a)(cb:List Value)(b:Span)(hb:Enc.rd m cb b):Exact prog 126 #[.agg ca.toArray,.agg cb.toArray] m (J (V7 a.Lo b.Lo)):=by
 obtain rfl:=ha
 obtain rfl:=hb
 refine D4 func126 O ntmps126 fun c=>q' 2 O<|o' O O fun d=>o' O O fun f=>U 5 O<|f' O t'<|b' 1 O O O<|f' O t'<|b' 0 O O O<|y' (X.call call88 rfl (BM _ _ _))<|U 4 O<|A0 O O<|A8 ?_
 first|rfl|(simp[*];done)
theorem A8A:CmpOk 126 (fun a b=>V7 a.Lo b.Lo):=⟨call126,fun m a b=>B5t m _ a rfl _ b rfl,fun _ _ _ _=>A9M⟩
theorem QK(m:Mem){gf:Nat}{lb:List Value}{L:List Span}(hE:Enters prog gf)(hit:S1 prog gf lb m false L.length (KA L))(hn:L.length≤4000000000)(hv:Aq L):Mut prog 66 #[.func (.func gf) #[] lb.toArray] m [] (fun _ Es u=>Es=[A5 u 23 (K4 L)]∧u.oneCell'=true):=by
 refine G3 func66 O ntmps66 fun P=>q' 8 O ?_
 refine C5 (H3 call125 rfl (OY _ (L:=L) hE hit (by omega) (A2s hv) A8A)) (by decide) (fun W Es2 K M y=>?_)
 obtain⟨R5,rfl,V,c⟩:=y
 refine U 4 O<|I5 Span 23<|q' 6 O ?_
 have H:(([]:List Span))=(C4 (R5.take 0)):=rfl
 rw[H]
 have N:R5.length=L.length:=c.1.length_eq
 have o:Aq R5:=Io hv c.1
 refine q' 2 O<|y' (V8 (k:=1) runUnderlying28 rfl rfl)<|U 4 O ?_
 refine S5 (fun(k:Nat) (vq:Value)=>R5.length-k) (fun k vq=>[A5 (vq) 23 (C4 (R5.take k)),A5 (K) 23 (R5)]) (fun k vq=>[(4,vq),(10,K),(11,J R5.length),(12,J k)]) (fun k vq=>k≤R5.length) 0 (Value.slice none 0 0) ?_ ?_
 ·exact EF _
 rintro k vq w
 try dsimp only at w
 have Y:=w
 have d:=Hv (l:=R5.take k) (fun s Q=>o s (TQ Q))
 have g:=d.2
 rw[Sr]at g
 have I:(C4 (R5.take k)).length≤k:=(by omega)
 have x:0<(C4 (R5.take k)).length→-1000000000≤(gt (C4 (R5.take k)) ((C4 (R5.take k)).length-1)).Hi∧(gt (C4 (R5.take k)) ((C4 (R5.take k)).length-1)).Hi≤1000000000:=fun n=>(by have h1_:=QV d.1 (i:=(C4 (R5.take k)).length-1) (by omega);omega)
 refine q' 2 O<|c' (X.lss O O) (fun z=>?_) fun z=>?_
 ·refine U 10 O<|y' (A9 1 k)<|y' (A.fs 1 (k) 0 [J (((gt R5 k)).Lo),J (((gt R5 k)).Hi)] O O O O)<|n' zeroValue23 O fun R=>w' 0 O O O<|U 5 O<|y' (V8 (k:=1) runUnderlying28 rfl rfl)<|U 4 O<|B9 14 [] []<|U' 1 O<|C' O O (X.gtr O O) (fun B=>?_) fun B=>?_
  ·refine U' 1 O<|Z O O (A.f O)<|Z O O (A.b 0 O O O)<|U' 3 O<|Z O O (A9 1 ((C4 (R5.take k)).length-1))<|Z O O (A.f O)<|Z O O (P2 (k:=1) (i:=(C4 (R5.take k)).length-1) (off:=1) (u:=J (((gt (C4 (R5.take k)) ((C4 (R5.take k)).length-1))).Hi)) isAgg3 rfl rfl (by first|omega|(simp;omega)|simp) rfl)<|U' 1 O<|C' O O (X.leq O O) (fun C=>?_) fun C=>?_
   ·refine U' 1 O<|V' 2 O<|B9 15 [14] [14]<|U' 6 O<|Z O O (A9 1 ((C4 (R5.take k)).length-1))<|Z O O (A.f O)<|Z O O (P2 (k:=1) (i:=(C4 (R5.take k)).length-1) (off:=1) (u:=J (((gt (C4 (R5.take k)) ((C4 (R5.take k)).length-1))).Hi)) isAgg3 rfl rfl (by first|omega|(simp;omega)|simp) rfl)<|Z O O (A.f O)<|Z O O (A.b 0 O O O)<|Z O O (EG rfl rfl)<|Z O O (A9 1 ((C4 (R5.take k)).length-1))<|Z O O (A.f O)<|B4 O O O O (D3 (k:=1) (i:=(C4 (R5.take k)).length-1) (off:=1) (us:=[J (max (((gt (C4 (R5.take k)) ((C4 (R5.take k)).length-1))).Hi) (((gt R5 k)).Hi))]) ((Span.mk (((gt (C4 (R5.take k)) ((C4 (R5.take k)).length-1))).Lo) (max (((gt (C4 (R5.take k)) ((C4 (R5.take k)).length-1))).Hi) (((gt R5 k)).Hi)))) sizeOf3 rfl rfl rfl rfl (O' _) rfl (by first|omega|(simp;omega)|simp) rfl rfl (A4 rfl C6))<|V' 7 O ?_
    have p:((C4 (R5.take k)).set ((C4 (R5.take k)).length-1) ((Span.mk (((gt (C4 (R5.take k)) ((C4 (R5.take k)).length-1))).Lo) (max (((gt (C4 (R5.take k)) ((C4 (R5.take k)).length-1))).Hi) (((gt R5 k)).Hi)))))=(C4 (R5.take (k+1))):=((Ao (by omega)).trans (HX ⟨by omega,by omega⟩)).symm
    rw[p]
    exact K2 (k+1) vq<|by omega
   refine U' 1 O<|V' 4 O<|a' 0 O O<|R0 (G6 K9 rfl rfl rfl (by decide)) (by decide) fun S=>?_
   refine G2 (G1 (k:=1) (a:=gt R5 k) K9 rfl rfl rfl rfl (by first|omega|(simp;done)|(simp;omega)) (by decide)) (by decide) (fun D=>?_)
   refine U 9 O ?_
   have q:((C4 (R5.take k))++[gt R5 k])=(C4 (R5.take (k+1))):=((Ao (by omega)).trans (CY (fun n=>by have h1_:=n.1;have h2_:=n.2;omega))).symm
   rw[q]
   exact K2 (k+1) D<|by omega
  refine U' 12 O<|V' 4 O<|a' 0 O O<|R0 (G6 K9 rfl rfl rfl (by decide)) (by decide) fun T=>?_
  refine G2 (G1 (k:=1) (a:=gt R5 k) K9 rfl rfl rfl rfl (by first|omega|(simp;done)|(simp;omega)) (by decide)) (by decide) (fun E=>?_)
  refine U 9 O ?_
  have r:((C4 (R5.take k))++[gt R5 k])=(C4 (R5.take (k+1))):=((Ao (by omega)).trans (CY (fun n=>by have h1_:=n.1;have h2_:=n.2;omega))).symm
  rw[r]
  exact K2 (k+1) E<|by omega
 refine U 10 O ?_
 have t:k=R5.length:=(by omega)
 have v:(C4 (R5.take k))=(K4 L):=(by rw[t,Un];exact HN c.1 c.2 (AW hv))
 rw[v]
 refine q' 2 O ?_
 refine E8 (k:=0) rfl (fun F=>?_)
 refine U 4 O ?_
 refine A0 rfl rfl (fun w' G=>B3 (G.weaken (.cons_cons _ (.cons _ .slnil))) ?_)
 exact⟨rfl,F⟩
theorem B3q(m:Mem){va vb:Value}{A B:List Span}(hA:Sl m va A)(hB:Sl m vb B)(ha:A.length≤50000)(hb:B.length≤50000):Pure prog 67 #[va,vb] m (fun m' v=>∃lb,v= .func (.func 213) #[] lb.toArray∧S1 prog 213 lb m' false (A++B).length (KA (A++B))):=by
 refine F6 func67 O ntmps67 fun p=>q' 9 O ?_
 refine C0 (M5 (α:=List Span) (vals:=[va,vb]) (L:=[A,B]) Lq rfl (.cons (D7 hA.one) ⟨_,rfl,hA⟩ (.cons (D7 hB.one) ⟨_,rfl,hB⟩ .nil)) rfl rfl) (by decide) (fun t u l f=>?_)
 refine C5 (H3 call128 rfl (Px _ f (by simp) (A1t (by omega) (by omega)))) (by decide) (fun w Es6 x n a=>?_)
 obtain⟨rfl,s⟩:=a
 have d:(EM ([A,B]) [A,B].length)=(A++B):=A0v A B
 rw[d]
 refine BR 0 rfl rfl (by rw[F'];unfold C7;omega) (fun q g c=>?_)
 refine C0 (T.call call127 rfl (Ja _ c)) (by decide) (fun r _ k a=>?_)
 obtain⟨o,rfl,b⟩:=a
 exact U 4 O<|A0 O O<|C2<|⟨_,rfl,b⟩
theorem B0H(m:Mem)(va:Value)(a:List Span)(ha:Sl m va a)(vb:Value)(b:List Span)(hb:Sl m vb b):Pure prog 22 #[va,vb] m (fun m' v=>∃r0,v= .tuple #[r0,J (QZ a b)]∧Sl m' r0 (Rb a b)):=by
 refine have la:=ha.le;have lb:=hb.le;F6 func22 O ntmps22 fun u=>q' 10 O<|c' (X.call call65 rfl (Hh _ _ _ ha)) (fun w=>?_) fun w=>?_
 ·refine U 5 O<|c' (X.call call65 rfl (Hh _ _ _ hb)) (fun x=>?_) fun x=>?_
  ·refine U 9 O ?_
   have c:I7 a∧I7 b:=⟨by first|assumption|(apply Sj;assumption),by first|assumption|(apply Sj;assumption)⟩
   refine have r:=c.1.1;have s:=c.2.1;have f:=JK (RA c.1.2) (RA c.2.2);q' 3 O ?_
   refine C0 (T.call call67 rfl (B3q _ ha hb (by omega) (by omega))) (by decide) (fun A _ q g=>?_)
   obtain⟨z,rfl,n⟩:=g
   refine C5 (H3 call66 rfl (QK _ (L:=(a++b)) call213 n (by rw[F'];omega) f)) (by decide) (fun B Es8 C o g=>?_)
   obtain⟨rfl,t⟩:=g
   refine U 5 O ?_
   refine E4 0 rfl rfl (by have k:=AZ f;rw[F']at k;unfold C7;omega) (fun y p l=>?_)
   exact B7 O O O<|C2<|⟨_,G4 rfl (B0 (A9Z c).symm),by rw[A7M c];exact l⟩
  refine U 14 O<|B7 O O O<|C2 ?_
  (have d:¬(I7 a∧I7 b):=(fun k=>by have h1_:=k.1;have h2_:=k.2;contradiction));exact⟨_,G4 rfl (B0 (A1z d).symm),by rw[A2u d];exact .nil⟩
 refine U 17 O<|B7 O O O<|C2 ?_
 (have d:¬(I7 a∧I7 b):=(fun k=>by have h1_:=k.1;have h2_:=k.2;contradiction));exact⟨_,G4 rfl (B0 (A1z d).symm),by rw[A2u d];exact .nil⟩
end Go.Proofs.T10
