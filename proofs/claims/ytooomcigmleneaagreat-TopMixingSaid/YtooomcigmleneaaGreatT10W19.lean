import Derived.Test.YtooomcigmleneaaGreatKxW
import Derived.Test.YtooomcigmleneaaGreatKyP
import Derived.Test.YtooomcigmleneaaGreatT10Ty
import Derived.Test.YtooomcigmleneaaGreatKxU
import Derived.Test.YtooomcigmleneaaGreatT10Drawn
import Derived.Test.YtooomcigmleneaaGreatT10W18
set_option linter.all false
set_option maxHeartbeats 1000000
namespace Go.Proofs.T10
open Tryz
set_option maxRecDepth 20000
open Go Go.Kx
theorem B2U(m:Mem)(cp:List Value)(p:Pen)(hp:Enc.rd m cp p)(cmo:List Value)(mo:Moment)(hmo:Enc.rd m cmo mo)(hms: -100000≤mo.Shown∧mo.Shown≤100000)(hmr: -100000≤mo.Real∧mo.Real≤100000):Exact prog 133 #[.agg cp.toArray,.agg cmo.toArray] m (.bool (decide (A3u p mo))):=by
 obtain rfl:=hp
 obtain rfl:=hmo
 refine C7 func133 r' ntmps133 fun wld=>q' 2 r'<|o' r' r' fun b1=>o' r' r' fun b2=>v' 4 r'<|B4 10 [] []<|Y' r' r' (A.f r')<|Y' r' r' (A.b 0 r' r' r')<|Y' r' r' (A.f r')<|Y' r' r' (A.b 0 r' r' r')<|Y' r' r' (X.call call32 rfl (B5F _ _ _ (by omega) (by omega)))<|Y' r' r' (A.f r')<|Y' r' r' (A.f r')<|Y' r' r' (A.b 1 r' r' r')<|U' 2 r'<|V' 2 r'<|A0 r' r'<|A7 ?_
 first|rfl|(simp[*];done)
theorem A6n{G:Prop}(h:G:=by first|exact F8 (A2C (by rw[A7g ⟨by assumption,by omega⟩]) (by rw[A7g ⟨by assumption,by omega⟩])) (C9 ⟨by assumption,by omega⟩)|(have hn_:¬A3Y p mo r:=(fun h_=>by have h1_:=h_.1;have h2_:=h_.2;first|contradiction|omega);exact F8 (A2C (by rw[B3w hn_]) (by rw[B3w hn_])) (A9 hn_))):G:=h
theorem C4c(m:Mem)(cp:List Value)(p:Pen)(hp:Enc.rd m cp p)(cmo:List Value)(mo:Moment)(hmo:Enc.rd m cmo mo)(r:Int)(hms: -100000≤mo.Shown∧mo.Shown≤100000)(hmr: -100000≤mo.Real∧mo.Real≤100000)(hr: -100000≤r∧r≤100000)(hpp:Y3 p):Exact prog 134 #[.agg cp.toArray,.agg cmo.toArray,J r] m (.tuple #[.agg [J ((A1X p mo r).Shown),J ((A1X p mo r).Real)].toArray,.bool (decide (A3Y p mo r))]):=by
 obtain rfl:=hp
 obtain rfl:=hmo
 refine have hp_:=hpp.1;C7 func134 r' ntmps134 fun wld=>q' 2 r'<|o' r' r' fun b1=>o' r' r' fun b2=>n' zeroValue172 r' fun b3=>v' 5 r'<|B4 14 [] []<|Y' r' r' (K4 2 r' r' r')<|Y' r' r' (K4 1 r' r' r')<|C' r' r' (X.call call133 rfl (B2U _ _ p rfl _ mo rfl (by omega) (by omega))) (fun h4=>?_) fun h4=>?_
 ·refine U' 3 r'<|Y' r' r' (A.f r')<|Y' r' r' (A.b 1 r' r' r')<|Y' r' r' (X.call call32 rfl (B5F _ _ _ (by omega) (by omega)))<|Y' r' r' (A.f r')<|Y' r' r' (A.f r')<|Y' r' r' (A.b 2 r' r' r')<|C' r' r' (X.gtr r' r') (fun h5=>?_) fun h5=>?_
  ·refine U' 1 r'<|V' 4 r'<|WL.x (V:=Value.agg [J 0,J 0].toArray) (X.build zeroValue172 runUnderlying172 (A3C _ underlying172) rfl rfl) (by decide) ?_
   exact w' 0 r' r' r'<|v' 5 r'<|F2 0 r' r' r' r' isAgg172 sizeOf172<|A7<|A6n
  refine U' 1 r'<|V' 6 r'<|a' 2 r' r'<|f' r' t'<|b' 1 r' r' r'<|v' 1 r'<|y' (X.call call33 rfl (C6B _ _ p rfl _ _ (by omega) (by omega)))<|v' 1 r'<|WL.x (V:=Value.agg [J (Z6 p.Band mo.Shown r),J r].toArray) (X.build zeroValue172 runUnderlying172 (A3C _ underlying172) rfl rfl) (by decide) ?_
  exact w' 0 r' r' r'<|v' 4 r'<|F2 0 r' r' r' r' isAgg172 sizeOf172<|A7<|A6n
 refine U' 11 r'<|V' 4 r'<|WL.x (V:=Value.agg [J 0,J 0].toArray) (X.build zeroValue172 runUnderlying172 (A3C _ underlying172) rfl rfl) (by decide) ?_
 exact w' 0 r' r' r'<|v' 5 r'<|F2 0 r' r' r' r' isAgg172 sizeOf172<|A7<|A6n
theorem A7v{G:Prop}(h:G:=by first|exact⟨s2_,rfl,.inl (by obtain⟨n_,hn_⟩:∃n_,L.length=n_+1:=⟨i,by omega⟩;have hin_:n_=i:=(by omega);rw[hn_,hin_,B1v hki_];exact hI2_)⟩|exact⟨s2_,rfl,.inr ⟨i+1,B5g hki_ hi,hI2_⟩⟩):G:=h
theorem B7H(m:Mem){p:Pen}{first:Int}{L:List Int}{pf pl pp:Addr}(hpf:At m pf first)(hpl:At m pl L)(hpp:At m pp p)(hpn:Y3 p)(hfb: -50000≤first∧first≤50000)(hlv:A2A L)(hlen_:0<L.length):A1i prog 132 [.pointer (some pf),.pointer (some pl),.pointer (some pp)] m false (Y0 p first L L.length) (C1U p first L):=by
 intro lo S HS I Ix s0 hone hmono hy h0
 refine have hl0_:=hlv 0 hlen_;have hpb_:=hpn.1;G3 func132 r' ntmps132 fun wld=>q' 1 r'<|B4 7 [5,6] [6]<|Y' r' r' (A.i r' hpf)<|S' hpl r' r' r' fun v1 hs2=>have hl3:=hs2.le;X' 0 hs2 r' r' r' r' fun p4 hp5=>Y' r' r' (A.i r' hp5)<|DW.x (V:=Value.agg [J first,J (gt L 0)].toArray) r' r' (X.build zeroValue172 runUnderlying172 (A3C _ underlying172) rfl rfl) (by decide) ?_
 refine Q9 r' r' r' (T.alloc zeroValue172 rfl) (by decide) fun b6=>W' 0 r' r' r' r' r'<|V' 1 r' ?_
 refine cu1 (fun(o0:Bool)=>m) (fun o0=>([blk b6 172 [J first,J (gt L 0)]]++HS s0)) (fun o0=>[(0,.func (.yield lo) #[] #[]),(2,.pointer (some (pl))),(3,.pointer (some (pp))),(5,Pt b6 0),(6,.bool (o0))]) (fun o0=>o0=okM p first L 0) ?_ ?_
 ·refine q' 1 r'<|g' hpp r' fun c7 hc8=>?_
  obtain rfl:=hc8
  refine a' 0 r' r'<|c' (X.call call133 rfl (B2U _ _ p rfl _ ((Moment.mk (first) (gt L 0))) rfl (by dsimp only;omega) (by dsimp only;omega))) (fun h9=>?_) fun h9=>?_
  ·refine v' 3 r'<|I9 true ?_
   first|exact(decide_eq_true (by assumption)).symm|exact(decide_eq_false (by assumption)).symm|rfl
  refine v' 3 r'<|I9 false ?_
  first|exact(decide_eq_true (by assumption)).symm|exact(decide_eq_false (by assumption)).symm|rfl
 rintro o0 hF10
 try dsimp only at hF10
 refine have ho0_:=hF10;q' 2 r'<|g' hpp r' fun c11 hc12=>?_
 obtain rfl:=hc12
 refine y' (A0O (by intro x hx;simp at hx;subst hx;all_goals exact⟨_,rfl⟩) rfl)<|v' 9 r' ?_
 have hm0_:m.le m:=Mem.le_refl _
 refine lp (G:=Nat×Bool×Int×Int×Mem×S) (fun(i,ob,ms,mr,mm,ss)=>L.length-i) (fun(i,ob,ms,mr,mm,ss)=>mm) (fun(i,ob,ms,mr,mm,ss)=>([blk b6 172 [J ms,J mr]]++HS ss)) (fun(i,ob,ms,mr,mm,ss)=>[(0,.func (.yield lo) #[] #[]),(2,.pointer (some (pl))),(5,Pt b6 0),(6,.bool (ob)),(7,.func (.func 134) [.agg [J p.Band,J p.Zero.Lo,J p.Zero.Hi,J p.Rate].toArray].toArray #[]),(8,J i)]) (fun(i,ob,ms,mr,mm,ss)=>m.le mm∧I i mm ss∧i<L.length∧(ob=true→okM p first L i=true)∧(ob=false→okM p first L i=false)∧(ob=true→ms=T5 p.Band first L i∧mr=gt L i)∧∀j,j<i→okM p first L j=true) ((0,o0,first,gt L 0,m,s0)) ?_ ?_
 ·exact⟨Mem.le_refl _,h0,hlen_,fun h_=>ho0_▸h_,fun h_=>ho0_▸h_,fun _=>⟨rfl,rfl⟩,fun j hj=>absurd hj (Nat.not_lt_zero _)⟩
 rintro⟨i,ob,ms,mr,mm,ss⟩ hF13
 conv=>enter [7];dsimp only
 conv=>enter [8];dsimp only
 try dsimp only at hF13
 obtain⟨hmm,hI,hi,hko_,hkn_,hmo_,hall⟩:=hF13
 refine have hpl:=hpl.mono hmm;have hsb_:=C6p hpn hfb hlv i hi;have hlb_:=hlv i hi;q' 4 r' ?_
 refine K2 (X.move rfl) (by decide) (fun h14=>?_) (fun h14=>?_)
 ·refine v' 3 r'<|a' 0 r' r'<|v' 1 r' ?_
  have hki_:=hko_ (by assumption)
  have hmv_:=hmo_ (by assumption)
  obtain⟨rfl,rfl⟩:=hmv_
  refine A6o (T.yield (A:=[blk b6 172 [J (T5 p.Band first L i),J (gt L i)]]) rfl rfl rfl (hy i _ _ _ (B5g hki_ hi) hmm (by rfl) hI)) (by decide) (fun m2_ H2_ hT_=>?_) (fun m2_ H2_ hT_=>?_)
  ·obtain⟨hle2_,s2_,rfl,hI2_⟩:=hT_
   refine have hpl:=hpl.mono hle2_;v' 7 r'<|s' hpl r' fun v15 hs16=>have hl17:=hs16.le;v' 1 r'<|l' hs16 r'<|v' 1 r'<|c' (X.lss r' r') (fun h18=>?_) fun h18=>?_
   ·refine v' 8 r' ?_
    have hl1_:=hlv (i+1) (by omega)
    refine B4 13 [11] [11]<|U' 1 r'<|Y' r' r' (K4 0 r' r' r')<|S' hpl r' r' r' fun v19 hs20=>have hl21:=hs20.le;U' 2 r'<|G9 r' r' (Q4 (i+1) runUnderlying27 sizeOf3 rfl rfl hs20 (by omega) (by omega)) (by decide) fun p22 hp23=>Y' r' r' (A.i r' hp23)<|Y' r' r' (C3s call134 rfl rfl (C4c _ _ p rfl _ ((Moment.mk (T5 p.Band first L i) (gt L i))) rfl (gt L (i+1)) (by dsimp only;omega) (by dsimp only;omega) (by omega) hpn))<|U' 3 r'<|W' 0 r' r' r' r' r'<|U' 1 r'<|V' 8 r' ?_
    refine nx ((i+1,decide (A3Y p (((Moment.mk (T5 p.Band first L i) (gt L i)))) ((gt L (i+1)))),(A1X p (((Moment.mk (T5 p.Band first L i) (gt L i)))) ((gt L (i+1)))).Shown,(A1X p (((Moment.mk (T5 p.Band first L i) (gt L i)))) ((gt L (i+1)))).Real,m2_,s2_)) ?_ ?_
    ·exact⟨Mem.le_trans hmm hle2_,hI2_,by omega,fun h_=>by rw[okM,hki_];exact h_,fun h_=>by rw[okM,hki_];exact h_,fun h_=>by have h1_:=of_decide_eq_true h_;rw[A7g h1_];exact⟨rfl,rfl⟩,fun j hj=>A9V (by omega) hki_⟩
    (dsimp only;omega)
   refine v' 8 r' ?_
   refine D9 rfl (fun w' hw'=>B8 (hw'.weaken (.cons _ (.refl _))) ?_)
   exact A7v
  obtain⟨hle2_,s2_,rfl,hI2_⟩:=hT_
  refine v' 15 r' ?_
  refine D9 rfl (fun w' hw'=>B8 (hw'.weaken (.cons _ (.refl _))) ?_)
  exact A7v
 refine v' 18 r' ?_
 refine D9 rfl (fun w' hw'=>B8 (hw'.weaken (.cons _ (.refl _))) ?_)
 exact⟨ss,rfl,.inl (by rw[B1Z (hkn_ (by first|assumption|(simpa using by assumption))) hall L.length (by omega)];exact hI)⟩
theorem C2w(m:Mem){p:Pen}{first:Int}{v:Value}{L:List Int}(hL:Sl m v L)(hpn:Y3 p)(hfb: -50000≤first∧first≤50000)(hlv:A2A L)(hlen_:0<L.length):Pure prog 70 #[.agg [J p.Band,J p.Zero.Lo,J p.Zero.Hi,J p.Rate].toArray,J first,v] m (fun m' v=>∃lb,v= .func (.func 132) #[] lb.toArray∧A1i prog 132 lb m' false (Y0 p first L L.length) (C1U p first L)):=by
 exact H7 func70 r' ntmps70 fun wld=>q' 2 r'<|o' r' r' fun b1=>o' r' r' fun b2=>A1U (A4M (cs:=[v]) rfl (F4 hL.one)) (by decide) fun b3=>v' 4 r'<|fz (x:=first) 1 r' r' r' fun m4 hle5 hp6=>have hL:=hL.mono hle5;fz (α:=(List Int)) (x:=L) 0 r' r' ⟨_,rfl,hL⟩ fun m7 hle8 hp9=>have hp6:=hp6.mono hle8;fz (x:=p) 0 r' r' r' fun m10 hle11 hp12=>have hp6:=hp6.mono hle11;have hp9:=hp9.mono hle11;q' 1 r'<|y' (X.makeFunc (by intro x hx;simp at hx;rcases hx with rfl|rfl|rfl;all_goals exact⟨_,rfl⟩) rfl)<|v' 4 r'<|A0 r' r'<|C5<|⟨_,rfl,B7H _ hp6 hp9 hp12 hpn hfb hlv hlen_⟩
theorem A5t{G:Prop}(h:G:=by first|exact⟨_,F8 rfl (A8 (by rw[B3K (by omega)])),by rw[A8B (by rw[B3K (by omega)];omega)];exact .nil⟩|exact⟨_,F8 rfl (A8 (by rw[B1M (by omega) (by omega)])),by rw[A8B (by rw[B1M (by omega) (by omega)];omega)];exact .nil⟩|exact⟨_,F8 rfl (A8 (by rw[A6G (by omega) (by omega) (by omega)])),by rw[A8B (by rw[A6G (by omega) (by omega) (by omega)];omega)];exact .nil⟩):G:=h
theorem B4b(m:Mem)(cp:List Value)(p:Pen)(hp:Enc.rd m cp p)(first:Int)(vreal:Value)(real:List Int)(hreal:Sl m vreal real):Pure prog 23 #[.agg cp.toArray,J first,vreal] m (fun m' v=>∃r0,v= .tuple #[r0,J (A0S p first real)]∧Sl m' r0 (A6m p first real)):=by
 obtain rfl:=hp
 refine have lreal:=hreal.le;H7 func23 r' ntmps23 fun wld=>q' 2 r'<|o' r' r' fun b1=>v' 7 r'<|a' 0 r' r'<|v' 1 r' ?_
 refine D1 (L5 (α:=Int) (vals:=[J first]) (L:=[first]) L6 rfl (.cons rfl rfl .nil) rfl rfl) (by decide) (fun m2 v3 hle4 hs5=>?_)
 refine have hreal:=hreal.mono hle4;y' (X.call call68 rfl (C3e _ _ p rfl _ _ hs5))<|v' 6 r'<|e' (X.neq r' r') (fun h6=>?_) fun h6=>?_
 ·exact v' 12 r'<|B6 r' r' r'<|C5<|A5t
 refine v' 9 r'<|y' (X.call call69 rfl (B4v _ _ _ hreal))<|v' 6 r'<|e' (X.neq r' r') (fun h7=>?_) fun h7=>?_
 ·exact v' 12 r'<|B6 r' r' r'<|C5<|A5t
 refine v' 7 r'<|n' zeroValue27 r' fun b8=>v' 4 r' ?_
 have haf_:=C3k (p:=p) (first:=first) (by omega)
 have hle_:=B3Z (l:=real) (by omega)
 refine G7 Int 3<|q' 1 r'<|a' 2 r' r'<|WL.x (V:=Value.agg [J p.Band,J p.Zero.Lo,J p.Zero.Hi,J p.Rate].toArray) (X.build zeroValue113 runUnderlying113 (B8q _ underlying113) rfl rfl) (by decide) ?_
 refine v' 2 r' ?_
 refine D1 (T.call call70 rfl (C2w _ (p:=p) (first:=first) hreal haf_.1 haf_.2 hle_.2 (by omega))) (by decide) (fun m9 _ hle10 hR_=>?_)
 obtain⟨lb11,rfl,hit12⟩:=hR_
 refine have hreal:=hreal.mono hle10;v' 3 r'<|WK.p [1] ?_
 refine A0L (S:=Value×List Int) (G:=Nat) (ps:=[29]) (n:=Y0 p first real real.length) (A:=C1U p first real) rfl call132 hit12 (fun x_:Value×List Int=>[blk b8 27 [x_.1],A5 (x_.1) 3 (x_.2),blk b1 33 [J p.Band,J p.Zero.Lo,J p.Zero.Hi,J p.Rate]]) (fun i _ x_=>x_.2=E8 i (T5 p.Band first real)) (fun _ _ _ _=>False) (Value.slice none 0 0,([]:List Int)) rfl rfl (fun h=>by cases h) (fun _ _ _ _ _ h=>h) (by simp) (fun i m1 args h=>by rw[show args=_ from h];rfl) (fun b_ args gh=>blk b_ 172 ((args.getD 0 undef).cells.toList)::(fun x_:Value×List Int=>[blk b8 27 [x_.1],A5 (x_.1) 3 (x_.2),blk b1 33 [J p.Band,J p.Zero.Lo,J p.Zero.Hi,J p.Rate]]) gh) (fun b_ args=>(11,Pt b_ 0)::[(0,.agg [J p.Band,J p.Zero.Lo,J p.Zero.Hi,J p.Rate].toArray),(1,J first),(2,vreal),(3,Pt b1 0),(6,S0),(7,J 0),(12,.agg [J p.Band,J p.Zero.Lo,J p.Zero.Hi,J p.Rate].toArray),(13,J first),(14,v3),(15,J (T2 p (([first])))),(8,J (T2 p (([first])))),(16,J (T2 p (([first])))),(17,.bool false),(19,vreal),(20,J (J4 real)),(9,J (J4 real)),(21,J (J4 real)),(22,.bool false),(10,Pt b8 0),(24,.agg [J p.Band,J p.Zero.Lo,J p.Zero.Hi,J p.Rate].toArray),(25,.agg [J p.Band,J p.Zero.Lo,J p.Zero.Hi,J p.Rate].toArray),(26,J first),(27,vreal),(28,.func (.func 132) #[] lb11.toArray)]) ?_ ?_ ?_ ?_ ?_
 ·intro lo B1 i m1_0 gh args KK hlen hA1 hm1_0 hKK
  have hA2:args=[.agg [J (T5 p.Band first real i),J (gt real i)].toArray]:=(by have:=congrArg Array.toList (show args.toArray=#[.agg [J (T5 p.Band first real i),J (gt real i)].toArray]from hA1);simpa using this)
  subst hA2
  refine qb ?_
  exact q' 1 r'<|n' zeroValue172 r' fun b13=>w' 0 r' r' r'<|v' 1 r'<|R0 (.cons rfl (.cons rfl (.cons rfl (.cons rfl (.cons rfl (.cons rfl (.cons rfl (.cons rfl (.cons rfl (.cons rfl (.cons rfl (.cons rfl (.cons rfl (.cons rfl (.cons rfl (.cons rfl (.cons rfl (.cons rfl (.cons rfl (.cons rfl (.cons rfl (.cons rfl (.cons rfl (.cons rfl (.cons rfl .nil))))))))))))))))))))))))) (hKK b13)
 ·intro lo B1 i m1_0 gh args b_ hlen hi hm1_0 hA1 hI1
  have hA2:args=[.agg [J (T5 p.Band first real i),J (gt real i)].toArray]:=(by have:=congrArg Array.toList (show args.toArray=#[.agg [J (T5 p.Band first real i),J (gt real i)].toArray]from hA1);simpa using this)
  subst hA2
  obtain⟨vo,M_⟩:=gh
  replace hI1:M_=E8 i (T5 p.Band first real):=hI1
  subst hI1
  have hfl_:=A5y (p:=p) (first:=first) (L:=real) real.length
  replace hreal:=hreal.mono hm1_0
  have hol_:(E8 i (T5 p.Band first real)).length=i:=C4 _ _
  show WK _ _ m1_0 [blk b_ 172 [J (T5 p.Band first real i),J (gt real i)],blk b8 27 [vo],A5 (vo) 3 (E8 i (T5 p.Band first real)),blk b1 33 [J p.Band,J p.Zero.Lo,J p.Zero.Hi,J p.Rate]] [(11,Pt b_ 0),(0,.agg [J p.Band,J p.Zero.Lo,J p.Zero.Hi,J p.Rate].toArray),(1,J first),(2,vreal),(3,Pt b1 0),(6,S0),(7,J 0),(12,.agg [J p.Band,J p.Zero.Lo,J p.Zero.Hi,J p.Rate].toArray),(13,J first),(14,v3),(15,J (T2 p (([first])))),(8,J (T2 p (([first])))),(16,J (T2 p (([first])))),(17,.bool false),(19,vreal),(20,J (J4 real)),(9,J (J4 real)),(21,J (J4 real)),(22,.bool false),(10,Pt b8 0),(24,.agg [J p.Band,J p.Zero.Lo,J p.Zero.Hi,J p.Rate].toArray),(25,.agg [J p.Band,J p.Zero.Lo,J p.Zero.Hi,J p.Rate].toArray),(26,J first),(27,vreal),(28,.func (.func 132) #[] lb11.toArray)] _
  refine qb ?_
  refine q' 2 r'<|b' 1 r' r' r'<|f' r' t'<|b' 0 r' r' r'<|T6 (E6 L6 rfl rfl rfl (by decide)) (by decide) fun b14=>?_
  refine G2 (E2 (k:=2) (a:=T5 p.Band first real i) L6 rfl rfl rfl rfl (by first|omega|(simp;done)|(simp;omega)) (by decide)) (by decide) (fun v15=>?_)
  refine F7 (k:=2) rfl (fun ho16=>?_)
  refine I2 (T.storeB (k:=1) sizeOf27 rfl rfl rfl ho16 (Nat.le_of_ble_eq_true rfl))<|v' 2 r' ?_
  have he17:((E8 i (T5 p.Band first real))++[T5 p.Band first real i])=(E8 (i+1) (T5 p.Band first real)):=(L4 _ _).symm
  rw[he17]
  exact A1o (v15,E8 (i+1) (T5 p.Band first real)) (Mem.le_refl _) (.cons _ (.refl _)) rfl
 ·intro m1_0 gh hm1_0 hI1
  obtain⟨vo,M_⟩:=gh
  replace hI1:M_=E8 (Y0 p first real real.length) (T5 p.Band first real):=hI1
  subst hI1
  replace hreal:=hreal.mono hm1_0
  have hol_:(E8 (Y0 p first real real.length) (T5 p.Band first real)).length=Y0 p first real real.length:=C4 _ _
  refine have hfl_:=A5y (p:=p) (first:=first) (L:=real) real.length;R0 (σ':=[(0,.agg [J p.Band,J p.Zero.Lo,J p.Zero.Hi,J p.Rate].toArray),(1,J first),(2,vreal),(3,Pt b1 0),(6,S0),(7,J 0),(12,.agg [J p.Band,J p.Zero.Lo,J p.Zero.Hi,J p.Rate].toArray),(13,J first),(14,v3),(15,J (T2 p (([first])))),(8,J (T2 p (([first])))),(16,J (T2 p (([first])))),(17,.bool false),(19,vreal),(20,J (J4 real)),(9,J (J4 real)),(21,J (J4 real)),(22,.bool false),(10,Pt b8 0),(24,.agg [J p.Band,J p.Zero.Lo,J p.Zero.Hi,J p.Rate].toArray),(25,.agg [J p.Band,J p.Zero.Lo,J p.Zero.Hi,J p.Rate].toArray),(26,J first),(27,vreal),(28,.func (.func 132) #[] lb11.toArray)]) (.cons rfl (.cons rfl (.cons rfl (.cons rfl (.cons rfl (.cons rfl (.cons rfl (.cons rfl (.cons rfl (.cons rfl (.cons rfl (.cons rfl (.cons rfl (.cons rfl (.cons rfl (.cons rfl (.cons rfl (.cons rfl (.cons rfl (.cons rfl (.cons rfl (.cons rfl (.cons rfl (.cons rfl .nil)))))))))))))))))))))))) ?_
  show WK _ _ m1_0 [blk b8 27 [vo],A5 (vo) 3 (E8 (Y0 p first real real.length) (T5 p.Band first real)),blk b1 33 [J p.Band,J p.Zero.Lo,J p.Zero.Hi,J p.Rate]] [(0,.agg [J p.Band,J p.Zero.Lo,J p.Zero.Hi,J p.Rate].toArray),(1,J first),(2,vreal),(3,Pt b1 0),(6,S0),(7,J 0),(12,.agg [J p.Band,J p.Zero.Lo,J p.Zero.Hi,J p.Rate].toArray),(13,J first),(14,v3),(15,J (T2 p (([first])))),(8,J (T2 p (([first])))),(16,J (T2 p (([first])))),(17,.bool false),(19,vreal),(20,J (J4 real)),(9,J (J4 real)),(21,J (J4 real)),(22,.bool false),(10,Pt b8 0),(24,.agg [J p.Band,J p.Zero.Lo,J p.Zero.Hi,J p.Rate].toArray),(25,.agg [J p.Band,J p.Zero.Lo,J p.Zero.Hi,J p.Rate].toArray),(26,J first),(27,vreal),(28,.func (.func 132) #[] lb11.toArray)] _
  refine A0v<|L9<|q' 3 r'<|b' 0 r' r' r'<|y' (S5 (k:=1) runUnderlying27 rfl rfl)<|v' 1 r'<|l' hreal r'<|c' (X.lss r' r') (fun h18=>?_) fun h18=>?_
  ·exact v' 11 r'<|B6 r' r' r'<|C5<|A5t
  refine v' 7 r'<|b' 0 r' r' r'<|v' 5 r' ?_
  refine E1 1 rfl rfl (by rw[hol_];unfold C8;omega) (fun m19 hle20 hs21=>?_)
  refine B6 r' r' r'<|C5 ?_
  have hfe_:=B5n (p:=p) (first:=first) (L:=real) (by omega) (by omega) (by omega)
  have hfn_:Y0 p first real real.length=real.length:=(by omega)
  exact⟨_,F8 rfl (A8 hfe_.symm),by rw[B0W hfe_];have h_:=hs21;rw[hfn_]at h_;exact h_⟩
 ·intro i m1 gh hm1 hi hI1
  exact hI1.elim
 intro id i m1 gh hm1 hi hI1
 exact hI1.elim
end Go.Proofs.T10
namespace Go.Proofs.T10
open Tryz
set_option maxRecDepth 20000
open Go Go.Kx
theorem A3k{G:Prop}(h:G:=by first|exact C9 (fun i hi=>hall i (by omega))|exact A9 (fun h_=>by have h1_:=h_ k (by omega);omega)):G:=h
theorem C0l(m:Mem)(vl:Value)(l:List Span)(hl:Sl m vl l):Exact prog 124 #[vl] m (.bool (decide (B3r l))):=by
 refine have ll:=hl.le;C7 func124 r' ntmps124 fun wld=>q' 14 r'<|l' hl r'<|v' 4 r' ?_
 refine O6 (fun(k:Nat) (la:Int)=>l.length-k) (fun k la=>[]) (fun k la=>[(3,J la),(6,vl),(7,J l.length),(8,J k)]) (fun k la=>k≤l.length∧la=A4R l k∧∀j,j<k→A4R l j+2≤(gt l j).Lo∧(gt l j).Lo≤(gt l j).Hi∧(gt l j).Hi≤100000) 0 (-100002) ?_ ?_
 ·exact⟨Nat.zero_le _,rfl,fun j hj=>absurd hj (Nat.not_lt_zero _)⟩
 rintro k la ⟨hk,hla,hall⟩
 refine have hlb_:=A9e hall k (Nat.le_refl _);q' 2 r'<|c' (X.lss r' r') (fun h2=>?_) fun h2=>?_
 ·refine v' 10 r'<|x' k hl r' r' fun p3 hp4=>g' hp4 r' fun c5 hc6=>?_
  obtain rfl:=hc6
  refine n' zeroValue23 r' fun b7=>w' 0 r' r' r'<|v' 5 r'<|f' r' t'<|b' 0 r' r' r'<|v' 2 r'<|c' (X.lss r' r') (fun h8=>?_) fun h8=>?_
  ·exact v' 27 r'<|A0 r' r'<|A7<|A3k
  refine v' 2 r'<|f' r' t'<|v' 1 r'<|b' 0 r' r' r'<|v' 1 r'<|f' r' t'<|v' 1 r'<|b' 0 r' r' r'<|v' 1 r'<|c' (X.gtr r' r') (fun h9=>?_) fun h9=>?_
  ·exact v' 21 r'<|A0 r' r'<|A7<|A3k
  refine v' 3 r'<|f' r' t'<|v' 1 r'<|b' 0 r' r' r'<|v' 1 r'<|c' (X.gtr r' r') (fun h10=>?_) fun h10=>?_
  ·exact v' 16 r'<|A0 r' r'<|A7<|A3k
  exact v' 7 r'<|f' r' t'<|b' 0 r' r' r'<|v' 9 r'<|J7 (k+1) ((gt l k).Hi)<|⟨by omega,rfl,fun j hj=>by rcases Nat.lt_succ_iff_lt_or_eq.1 hj with h|h;exact hall j h;subst h;omega⟩
 exact v' 15 r'<|A0 r' r'<|A7<|A3k
theorem A9K{G:Prop}(h:G:=by first|exact C9 ⟨by omega,by assumption⟩|exact A9 (fun h_=>by have h1_:=h_.1;omega)|exact A9 (fun h_=>absurd h_.2 (by assumption))|exact D5 ⟨fun h_=>⟨by omega,h_⟩,fun h_=>h_.2⟩):G:=h
theorem B5v(m:Mem)(vl:Value)(l:List Span)(hl:Sl m vl l):Exact prog 65 #[vl] m (.bool (decide (N9 l))):=by
 refine have ll:=hl.le;C7 func65 r' ntmps65 fun wld=>q' 8 r'<|l' hl r'<|c' (X.leq r' r') (fun h1=>?_) fun h1=>?_
 ·exact v' 4 r'<|y' (X.call call124 rfl (C0l _ _ _ hl))<|v' 5 r'<|A0 r' r'<|A7<|A9K
 exact v' 8 r'<|A0 r' r'<|A7<|A9K
theorem C4G(m:Mem){L:List Span}{pl:Addr}(hpl:At m pl L):A1i prog 213 [.pointer (some pl)] m false L.length (spA L):=by
 intro lo S HS I Ix s0 hone hmono hy h0
 refine G3 func213 r' ntmps213 fun wld=>q' 2 r'<|s' hpl r' fun v1 hs2=>have hl3:=hs2.le;l' hs2 r'<|v' 4 r' ?_
 have hm0_:m.le m:=Mem.le_refl _
 refine lp3 (fun(k:Nat) (mm:Mem) (ss:S)=>L.length-k) (fun k mm ss=>mm) (fun k mm ss=>([]++HS ss)) (fun k mm ss=>[(0,.func (.yield lo) #[] #[]),(5,v1),(6,J L.length),(7,J k)]) (fun k mm ss=>m.le mm∧I k mm ss∧k≤L.length) 0 m s0 ?_ ?_
 ·exact⟨Mem.le_refl _,h0,Nat.zero_le _⟩
 rintro k mm ss ⟨hmm,hI,hk⟩
 refine have hs2:=hs2.mono hmm;q' 2 r'<|c' (X.lss r' r') (fun h5=>?_) fun h5=>?_
 ·refine v' 10 r'<|x' k hs2 r' r' fun p6 hp7=>g' hp7 r' fun c8 hc9=>?_
  obtain rfl:=hc9
  refine n' zeroValue23 r' fun b10=>w' 0 r' r' r'<|v' 5 r'<|a' 0 r' r' ?_
  refine A6o (T.yield (A:=[blk b10 23 [J ((gt L k).Lo),J ((gt L k).Hi)]]) rfl rfl rfl (hy k _ _ _ (by omega) hmm rfl hI)) (by decide) (fun m2_ H2_ hT_=>?_) (fun m2_ H2_ hT_=>?_)
  ·obtain⟨hle2_,s2_,rfl,hI2_⟩:=hT_
   exact v' 12 r'<|X1 (k+1) m2_ s2_<|⟨Mem.le_trans hmm hle2_,hI2_,by omega⟩
  obtain⟨hle2_,s2_,rfl,hI2_⟩:=hT_
  refine v' 9 r' ?_
  refine F1 rfl (fun w' hw'=>B8 (hw'.weaken (.cons _ (.refl _))) ?_)
  exact⟨s2_,rfl,.inr ⟨k+1,by omega,hI2_⟩⟩
 refine v' 8 r' ?_
 refine D9 rfl (fun w' hw'=>B8 (hw'.weaken (.refl _)) ?_)
 obtain rfl:k=L.length:=(by omega)
 exact⟨ss,rfl,.inl hI⟩
theorem B9f(m:Mem){v:Value}{L:List Span}(hL:Sl m v L):Pure prog 127 #[v] m (fun m' v=>∃lb,v= .func (.func 213) #[] lb.toArray∧A1i prog 213 lb m' false L.length (spA L)):=by
 exact H7 func127 r' ntmps127 fun wld=>q' 2 r'<|A1U (A4M (cs:=[v]) rfl (F4 hL.one)) (by decide) fun b1=>v' 4 r'<|fz (α:=(List Span)) (x:=L) 0 r' r' ⟨_,rfl,hL⟩ fun m2 hle3 hp4=>q' 1 r'<|y' (X.makeFunc (by intro x hx;simp at hx;subst hx;all_goals exact⟨_,rfl⟩) rfl)<|v' 4 r'<|A0 r' r'<|C5<|⟨_,rfl,C4G _ hp4⟩
theorem B8W(m:Mem){gf:Nat}{lb:List Value}{L:List Span}(hE:Enters prog gf)(hit:A1i prog gf lb m false L.length (spA L))(hn:L.length≤1000000):Mut prog 259 #[S0,.func (.func gf) #[] lb.toArray] m [] (fun _ Es u=>Es=[A5 u 23 L]∧u.oneCell'=true):=by
 refine G3 func259 r' ntmps259 fun wld=>q' 2 r'<|o' r' r' fun b1=>v' 5 r'<|G7 Span 23<|q' 5 r'<|WK.p [1] ?_
 refine A0L (S:=Value×List Span) (G:=Nat) (ps:=[7]) (n:=L.length) (A:=spA L) rfl hE hit (fun x_:Value×List Span=>[blk b1 28 [x_.1],A5 (x_.1) 23 (x_.2)]) (fun i _ x_=>x_.2=E8 i (gt L)) (fun _ _ _ _=>False) (Value.slice none 0 0,([]:List Span)) rfl rfl (fun h=>by cases h) (fun _ _ _ _ _ h=>h) (by simp) (fun i m1 args h=>by rw[show args=_ from h];rfl) (fun b_ args gh=>blk b_ 23 ((args.getD 0 undef).cells.toList)::(fun x_:Value×List Span=>[blk b1 28 [x_.1],A5 (x_.1) 23 (x_.2)]) gh) (fun b_ args=>(5,Pt b_ 0)::[(0,S0),(1,.func (.func gf) #[] lb.toArray),(2,Pt b1 0),(4,S0),(6,.func (.func gf) #[] lb.toArray)]) ?_ ?_ ?_ ?_ ?_
 ·intro lo B1 i m1_0 gh args KK hlen hA1 hm1_0 hKK
  have hA2:args=[.agg [J ((gt L i).Lo),J ((gt L i).Hi)].toArray]:=(by have:=congrArg Array.toList (show args.toArray=#[.agg [J ((gt L i).Lo),J ((gt L i).Hi)].toArray]from hA1);simpa using this)
  subst hA2
  refine qb ?_
  exact q' 1 r'<|n' zeroValue23 r' fun b2=>w' 0 r' r' r'<|v' 1 r'<|R0 (.cons rfl (.cons rfl (.cons rfl (.cons rfl (.cons rfl (.cons rfl .nil)))))) (hKK b2)
 ·intro lo B1 i m1_0 gh args b_ hlen hi hm1_0 hA1 hI1
  have hA2:args=[.agg [J ((gt L i).Lo),J ((gt L i).Hi)].toArray]:=(by have:=congrArg Array.toList (show args.toArray=#[.agg [J ((gt L i).Lo),J ((gt L i).Hi)].toArray]from hA1);simpa using this)
  subst hA2
  obtain⟨vo,M_⟩:=gh
  replace hI1:M_=E8 i (gt L):=hI1
  subst hI1
  have hol_:(E8 i (gt L)).length=i:=C4 _ _
  show WK _ _ m1_0 [blk b_ 23 [J ((gt L i).Lo),J ((gt L i).Hi)],blk b1 28 [vo],A5 (vo) 23 (E8 i (gt L))] [(5,Pt b_ 0),(0,S0),(1,.func (.func gf) #[] lb.toArray),(2,Pt b1 0),(4,S0),(6,.func (.func gf) #[] lb.toArray)] _
  refine qb ?_
  refine q' 2 r'<|b' 1 r' r' r'<|a' 0 r' r'<|T6 (E6 Q7 rfl rfl rfl (by decide)) (by decide) fun b3=>?_
  refine G2 (E2 (k:=2) (a:=gt L i) Q7 rfl rfl rfl rfl (by first|omega|(simp;done)|(simp;omega)) (by decide)) (by decide) (fun v4=>?_)
  refine F7 (k:=2) rfl (fun ho5=>?_)
  refine I2 (T.storeB (k:=1) sizeOf28 rfl rfl rfl ho5 (Nat.le_of_ble_eq_true rfl))<|v' 2 r' ?_
  have he6:((E8 i (gt L))++[gt L i])=(E8 (i+1) (gt L)):=(L4 _ _).symm
  rw[he6]
  exact A1o (v4,E8 (i+1) (gt L)) (Mem.le_refl _) (.cons _ (.refl _)) rfl
 ·intro m1_0 gh hm1_0 hI1
  obtain⟨vo,M_⟩:=gh
  replace hI1:M_=E8 L.length (gt L):=hI1
  subst hI1
  have hol_:(E8 L.length (gt L)).length=L.length:=C4 _ _
  refine R0 (σ':=[(0,S0),(1,.func (.func gf) #[] lb.toArray),(2,Pt b1 0),(4,S0),(6,.func (.func gf) #[] lb.toArray)]) (.cons rfl (.cons rfl (.cons rfl (.cons rfl (.cons rfl .nil))))) ?_
  show WK _ _ m1_0 [blk b1 28 [vo],A5 (vo) 23 (E8 L.length (gt L))] [(0,S0),(1,.func (.func gf) #[] lb.toArray),(2,Pt b1 0),(4,S0),(6,.func (.func gf) #[] lb.toArray)] _
  refine A0v<|L9<|q' 1 r' ?_
  have he7:(E8 L.length (gt L))=L:=C2X L
  rw[he7]
  refine q' 1 r'<|b' 0 r' r' r' ?_
  refine F7 (k:=1) rfl (fun ho_=>?_)
  refine v' 4 r' ?_
  refine A0 rfl rfl (fun w' hw'=>B8 (hw'.weaken (.cons _ (.cons_cons _ .slnil))) ?_)
  exact⟨rfl,ho_⟩
 ·intro i m1 gh hm1 hi hI1
  exact hI1.elim
 intro id i m1 gh hm1 hi hI1
 exact hI1.elim
theorem B6G(m:Mem){gf:Nat}{lb:List Value}{L:List Span}(hE:Enters prog gf)(hit:A1i prog gf lb m false L.length (spA L))(hn:L.length≤1000000):Mut prog 212 #[.func (.func gf) #[] lb.toArray] m [] (fun _ Es u=>Es=[A5 u 23 L]∧u.oneCell'=true):=by
 refine G3 func212 r' ntmps212 fun wld=>q' 8 r' ?_
 refine C2 (J5 call259 rfl (B8W _ (L:=L) hE hit (by omega))) (by decide) (fun m1 Es2 v3 hle4 hR_=>?_)
 obtain⟨rfl,ho5⟩:=hR_
 refine F7 (k:=0) rfl (fun ho_=>?_)
 exact v' 4 r'<|A0 r' r'<|G0<|⟨rfl,ho_⟩
theorem B8b(m:Mem){gf:Nat}{lb:List Value}{L:List Span}(hE:Enters prog gf)(hit:A1i prog gf lb m false L.length (spA L))(hn:L.length≤1000000)(hB:bdS L){fc:Nat}{cf:Span→Span→Int}(hC:CmpOk fc cf):Mut prog 125 #[.func (.func gf) #[] lb.toArray,Fc fc] m [] (fun _ Es u=>∃R:List Span,Es=[A5 u 23 R]∧u.oneCell'=true∧R.Perm L∧Srt Span.Lo R 0 R.length):=by
 refine G3 func125 r' ntmps125 fun wld=>q' 8 r' ?_
 refine C2 (J5 call212 rfl (B6G _ (L:=L) hE hit (by omega))) (by decide) (fun m1 Es2 v3 hle4 hR_=>?_)
 obtain⟨rfl,ho5⟩:=hR_
 refine v' 7 r' ?_
 refine C2 (C3 (A:=[]) call148 rfl (.refl _) (B5O _ (L:=L) (by omega) hB hC)) (by decide) (fun m6 Es_ u_ hle7 hR_=>?_)
 obtain⟨rfl,R8,rfl,hR9⟩:=hR_
 refine v' 5 r' ?_
 refine F7 (k:=0) rfl (fun ho_=>?_)
 exact v' 4 r'<|A0 r' r'<|G0<|⟨_,rfl,ho_,hR9⟩
theorem A4I{G:Prop}(h:G:=by first|exact A8 (C4k (by omega)).symm|exact A8 (C4z (by omega) (by omega)).symm|exact A8 (C4O (by omega) (by omega)).symm):G:=h
theorem A0u(m:Mem)(x:Int)(y:Int):Exact prog 88 #[J x,J y] m (J (S7 x y)):=by
 refine C7 func88 r' ntmps88 fun wld=>q' 8 r'<|y' (X.call call169 rfl (B3m _ _))<|v' 6 r'<|y' (X.call call169 rfl (B3m _ _))<|v' 26 r'<|c' (X.lss r' r') (fun h1=>?_) fun h1=>?_
 ·exact v' 10 r'<|A0 r' r'<|A7<|A4I
 refine v' 10 r'<|c' (X.gtr r' r') (fun h2=>?_) fun h2=>?_
 ·exact v' 10 r'<|A0 r' r'<|A7<|A4I
 exact v' 11 r'<|A0 r' r'<|A7<|A4I
theorem C5O(m:Mem)(ca:List Value)(a:Span)(ha:Enc.rd m ca a)(cb:List Value)(b:Span)(hb:Enc.rd m cb b):Exact prog 126 #[.agg ca.toArray,.agg cb.toArray] m (J (S7 a.Lo b.Lo)):=by
 obtain rfl:=ha
 obtain rfl:=hb
 refine C7 func126 r' ntmps126 fun wld=>q' 2 r'<|o' r' r' fun b1=>o' r' r' fun b2=>v' 5 r'<|f' r' t'<|b' 1 r' r' r'<|f' r' t'<|b' 0 r' r' r'<|y' (X.call call88 rfl (A0u _ _ _))<|v' 4 r'<|A0 r' r'<|A7 ?_
 first|rfl|(simp[*];done)
theorem C0u:CmpOk 126 (fun a b=>S7 a.Lo b.Lo):=⟨call126,fun m a b=>C5O m _ a rfl _ b rfl,fun _ _ _ _=>A4z⟩
theorem C0S(m:Mem){gf:Nat}{lb:List Value}{L:List Span}(hE:Enters prog gf)(hit:A1i prog gf lb m false L.length (spA L))(hn:L.length≤1000000)(hv:spV L):Mut prog 66 #[.func (.func gf) #[] lb.toArray] m [] (fun _ Es u=>Es=[A5 u 23 (Z8 L)]∧u.oneCell'=true):=by
 refine G3 func66 r' ntmps66 fun wld=>q' 8 r' ?_
 refine C2 (J5 call125 rfl (B8b _ (L:=L) hE hit (by omega) (C3A hv) C0u)) (by decide) (fun m1 Es2 v3 hle4 hR_=>?_)
 obtain⟨R5,rfl,ho6,hR7⟩:=hR_
 refine v' 4 r'<|G7 Span 23<|q' 6 r' ?_
 have he8:(([]:List Span))=(D2 (R5.take 0)):=rfl
 rw[he8]
 have hRl_:R5.length=L.length:=hR7.1.length_eq
 have hRv_:spV R5:=B3t hv hR7.1
 refine q' 2 r'<|y' (S5 (k:=1) runUnderlying28 rfl rfl)<|v' 4 r' ?_
 refine O6 (fun(k:Nat) (vq:Value)=>R5.length-k) (fun k vq=>[A5 (vq) 23 (D2 (R5.take k)),A5 (v3) 23 (R5)]) (fun k vq=>[(4,vq),(10,v3),(11,J R5.length),(12,J k)]) (fun k vq=>k≤R5.length) 0 (Value.slice none 0 0) ?_ ?_
 ·exact Nat.zero_le _
 rintro k vq hF9
 try dsimp only at hF9
 have hk:=hF9
 have hmb_:=B4y (l:=R5.take k) (fun s hs=>hRv_ s (List.mem_of_mem_take hs))
 have hml2_:=hmb_.2
 rw[List.length_take]at hml2_
 have hml3_:(D2 (R5.take k)).length≤k:=(by omega)
 have hlast_:0<(D2 (R5.take k)).length→-1000000000≤(gt (D2 (R5.take k)) ((D2 (R5.take k)).length-1)).Hi∧(gt (D2 (R5.take k)) ((D2 (R5.take k)).length-1)).Hi≤1000000000:=fun h_=>(by have h1_:=B9B hmb_.1 (i:=(D2 (R5.take k)).length-1) (by omega);omega)
 refine q' 2 r'<|c' (X.lss r' r') (fun h10=>?_) fun h10=>?_
 ·refine v' 10 r'<|y' (B0 1 k)<|y' (A.fs 1 (k) 0 [J (((gt R5 k)).Lo),J (((gt R5 k)).Hi)] r' r' r' r')<|n' zeroValue23 r' fun b11=>w' 0 r' r' r'<|v' 5 r'<|y' (S5 (k:=1) runUnderlying28 rfl rfl)<|v' 4 r'<|B4 14 [] []<|U' 1 r'<|C' r' r' (X.gtr r' r') (fun h12=>?_) fun h12=>?_
  ·refine U' 1 r'<|Y' r' r' (A.f r')<|Y' r' r' (A.b 0 r' r' r')<|U' 3 r'<|Y' r' r' (B0 1 ((D2 (R5.take k)).length-1))<|Y' r' r' (A.f r')<|Y' r' r' (Q0 (k:=1) (i:=(D2 (R5.take k)).length-1) (off:=1) (u:=J (((gt (D2 (R5.take k)) ((D2 (R5.take k)).length-1))).Hi)) isAgg3 rfl rfl (by first|omega|(simp;omega)|simp) rfl)<|U' 1 r'<|C' r' r' (X.leq r' r') (fun h13=>?_) fun h13=>?_
   ·refine U' 1 r'<|V' 2 r'<|B4 15 [14] [14]<|U' 6 r'<|Y' r' r' (B0 1 ((D2 (R5.take k)).length-1))<|Y' r' r' (A.f r')<|Y' r' r' (Q0 (k:=1) (i:=(D2 (R5.take k)).length-1) (off:=1) (u:=J (((gt (D2 (R5.take k)) ((D2 (R5.take k)).length-1))).Hi)) isAgg3 rfl rfl (by first|omega|(simp;omega)|simp) rfl)<|Y' r' r' (A.f r')<|Y' r' r' (A.b 0 r' r' r')<|Y' r' r' (A7b rfl rfl)<|Y' r' r' (B0 1 ((D2 (R5.take k)).length-1))<|Y' r' r' (A.f r')<|B3 r' r' r' r' (C6 (k:=1) (i:=(D2 (R5.take k)).length-1) (off:=1) (us:=[J (max (((gt (D2 (R5.take k)) ((D2 (R5.take k)).length-1))).Hi) (((gt R5 k)).Hi))]) ((Span.mk (((gt (D2 (R5.take k)) ((D2 (R5.take k)).length-1))).Lo) (max (((gt (D2 (R5.take k)) ((D2 (R5.take k)).length-1))).Hi) (((gt R5 k)).Hi)))) sizeOf3 rfl rfl rfl rfl (Nat.zero_lt_succ _) rfl (by first|omega|(simp;omega)|simp) rfl rfl (A4 rfl C0))<|V' 7 r' ?_
    have he14:((D2 (R5.take k)).set ((D2 (R5.take k)).length-1) ((Span.mk (((gt (D2 (R5.take k)) ((D2 (R5.take k)).length-1))).Lo) (max (((gt (D2 (R5.take k)) ((D2 (R5.take k)).length-1))).Hi) (((gt R5 k)).Hi)))))=(D2 (R5.take (k+1))):=((A2p (by omega)).trans (A8X ⟨by omega,by omega⟩)).symm
    rw[he14]
    exact J7 (k+1) vq<|by omega
   refine U' 1 r'<|V' 4 r'<|a' 0 r' r'<|T6 (E6 Q7 rfl rfl rfl (by decide)) (by decide) fun b15=>?_
   refine G2 (E2 (k:=1) (a:=gt R5 k) Q7 rfl rfl rfl rfl (by first|omega|(simp;done)|(simp;omega)) (by decide)) (by decide) (fun v16=>?_)
   refine v' 9 r' ?_
   have he17:((D2 (R5.take k))++[gt R5 k])=(D2 (R5.take (k+1))):=((A2p (by omega)).trans (A4n (fun h_=>by have h1_:=h_.1;have h2_:=h_.2;omega))).symm
   rw[he17]
   exact J7 (k+1) v16<|by omega
  refine U' 12 r'<|V' 4 r'<|a' 0 r' r'<|T6 (E6 Q7 rfl rfl rfl (by decide)) (by decide) fun b18=>?_
  refine G2 (E2 (k:=1) (a:=gt R5 k) Q7 rfl rfl rfl rfl (by first|omega|(simp;done)|(simp;omega)) (by decide)) (by decide) (fun v19=>?_)
  refine v' 9 r' ?_
  have he20:((D2 (R5.take k))++[gt R5 k])=(D2 (R5.take (k+1))):=((A2p (by omega)).trans (A4n (fun h_=>by have h1_:=h_.1;have h2_:=h_.2;omega))).symm
  rw[he20]
  exact J7 (k+1) v19<|by omega
 refine v' 10 r' ?_
 have hkR_:k=R5.length:=(by omega)
 have he21:(D2 (R5.take k))=(Z8 L):=(by rw[hkR_,List.take_length];exact B0g hR7.1 hR7.2 (B9u hv))
 rw[he21]
 refine q' 2 r' ?_
 refine F7 (k:=0) rfl (fun ho_=>?_)
 refine v' 4 r' ?_
 refine A0 rfl rfl (fun w' hw'=>B8 (hw'.weaken (.cons_cons _ (.cons _ .slnil))) ?_)
 exact⟨rfl,ho_⟩
theorem C5I(m:Mem){va vb:Value}{A B:List Span}(hA:Sl m va A)(hB:Sl m vb B)(ha:A.length≤50000)(hb:B.length≤50000):Pure prog 67 #[va,vb] m (fun m' v=>∃lb,v= .func (.func 213) #[] lb.toArray∧A1i prog 213 lb m' false (A++B).length (spA (A++B))):=by
 refine H7 func67 r' ntmps67 fun wld=>q' 9 r' ?_
 refine D1 (L5 (α:=List Span) (vals:=[va,vb]) (L:=[A,B]) C2t rfl (.cons (F4 hA.one) ⟨_,rfl,hA⟩ (.cons (F4 hB.one) ⟨_,rfl,hB⟩ .nil)) rfl rfl) (by decide) (fun m1 v2 hle3 hs4=>?_)
 refine C2 (J5 call128 rfl (B2a _ hs4 (by simp) (B5c (by omega) (by omega)))) (by decide) (fun m5 Es6 v7 hle8 hR_=>?_)
 obtain⟨rfl,ho9⟩:=hR_
 have he10:(A3K ([A,B]) [A,B].length)=(A++B):=B2W A B
 rw[he10]
 refine A4k 0 rfl rfl (by rw[List.length_append];unfold C8;omega) (fun m11 hle12 hs13=>?_)
 refine D1 (T.call call127 rfl (B9f _ hs13)) (by decide) (fun m14 _ hle15 hR_=>?_)
 obtain⟨lb16,rfl,hit17⟩:=hR_
 exact v' 4 r'<|A0 r' r'<|C5<|⟨_,rfl,hit17⟩
theorem C4v(m:Mem)(va:Value)(a:List Span)(ha:Sl m va a)(vb:Value)(b:List Span)(hb:Sl m vb b):Pure prog 22 #[va,vb] m (fun m' v=>∃r0,v= .tuple #[r0,J (B4r a b)]∧Sl m' r0 (B3u a b)):=by
 refine have la:=ha.le;have lb:=hb.le;H7 func22 r' ntmps22 fun wld=>q' 10 r'<|c' (X.call call65 rfl (B5v _ _ _ ha)) (fun h1=>?_) fun h1=>?_
 ·refine v' 5 r'<|c' (X.call call65 rfl (B5v _ _ _ hb)) (fun h2=>?_) fun h2=>?_
  ·refine v' 9 r' ?_
   have hsm_:N9 a∧N9 b:=⟨by first|assumption|(apply Classical.byContradiction;assumption),by first|assumption|(apply Classical.byContradiction;assumption)⟩
   refine have hs1_:=hsm_.1.1;have hs2_:=hsm_.2.1;have hvv_:=C4p (B2Y hsm_.1.2) (B2Y hsm_.2.2);q' 3 r' ?_
   refine D1 (T.call call67 rfl (C5I _ ha hb (by omega) (by omega))) (by decide) (fun m3 _ hle4 hR_=>?_)
   obtain⟨lb5,rfl,hit6⟩:=hR_
   refine C2 (J5 call66 rfl (C0S _ (L:=(a++b)) call213 hit6 (by rw[List.length_append];omega) hvv_)) (by decide) (fun m7 Es8 v9 hle10 hR_=>?_)
   obtain⟨rfl,ho11⟩:=hR_
   refine v' 5 r' ?_
   refine E1 0 rfl rfl (by have h_:=B6M hvv_;rw[List.length_append]at h_;unfold C8;omega) (fun m12 hle13 hs14=>?_)
   exact B6 r' r' r'<|C5<|⟨_,F8 rfl (A8 (C2j hsm_).symm),by rw[C0w hsm_];exact hs14⟩
  refine v' 14 r'<|B6 r' r' r'<|C5 ?_
  (have hn_:¬(N9 a∧N9 b):=(fun h_=>by have h1_:=h_.1;have h2_:=h_.2;contradiction));exact⟨_,F8 rfl (A8 (B5T hn_).symm),by rw[B5N hn_];exact .nil⟩
 refine v' 17 r'<|B6 r' r' r'<|C5 ?_
 (have hn_:¬(N9 a∧N9 b):=(fun h_=>by have h1_:=h_.1;have h2_:=h_.2;contradiction));exact⟨_,F8 rfl (A8 (B5T hn_).symm),by rw[B5N hn_];exact .nil⟩
end Go.Proofs.T10
