import Derived.Test.YtooomcigmleneaaGreatKxW
import Derived.Test.YtooomcigmleneaaGreatKyP
import Derived.Test.YtooomcigmleneaaGreatT10Ty
import Derived.Test.YtooomcigmleneaaGreatKxU
import Derived.Test.YtooomcigmleneaaGreatT10KWalk2
import Derived.Test.YtooomcigmleneaaGreatT10W25
import Derived.Test.YtooomcigmleneaaGreatT10SWk
set_option linter.all false
set_option maxHeartbeats 4000000
namespace Go.Proofs.T10
open Tryz
set_option maxRecDepth 20000
open Go Go.Kx
theorem C5V(m:Mem)(n:Int){pb pc:Addr}{c:Chart}(hcc:Cells m pb [.pointer (some pc)])(hpc:At m pc c):Exact prog 98 #[J n,.pointer (some pb)] m (.bool (decide (¬(0≤n∧n≤c.ticks)))):=by
 refine C7 func98 r' ntmps98 fun wld=>q' 7 r'<|y' (T4 isAgg122 rfl hcc)<|v' 1 r'<|have hp1:=A6H hpc;f' r' t'<|i' hp1 r'<|WL.x (V:=Value.agg [J 0,J c.ticks].toArray) (X.build zeroValue23 runUnderlying23 (H3 _ underlying23) rfl rfl) (by decide) ?_
 refine v' 1 r'<|y' (X.call call55 rfl (A5u _ _ ((Span.mk (0) (c.ticks))) rfl _))<|y' (A0l rfl)<|v' 4 r'<|A0 r' r'<|A7 ?_
 first|rfl|(simp[*];done)
theorem C4h(m:Mem)(cr:List Value)(r:ReadT)(hr:Enc.rd m cr r){px:Addr}{x:Course}(hpx:At m px x)(hrt:0≤r.Tick∧r.Tick<x.Levels.length):Exact prog 101 #[.agg cr.toArray,.pointer (some px)] m (.bool (decide (¬A5b x r))):=by
 obtain rfl:=hr
 refine C7 func101 r' ntmps101 fun wld=>q' 2 r'<|o' r' r' fun b1=>v' 4 r'<|fz (x:=r) 0 r' r' r' fun m2 hle3 hp4=>have hpx:=hpx.mono hle3;B4 11 [] []<|have hp5:=A3U hp4;Y' r' r' (A.f r')<|G' hp5 r' r' r' fun c6 hc7=>?_
 obtain rfl:=hc7
 exact have hp8:=J1 hpx;Y' r' r' (A.f r')<|S' hp8 r' r' r' fun v9 hs10=>have hl11:=hs10.le;have hp12:=A3V hp4;Y' r' r' (A.f r')<|Y' r' r' (A.i r' hp12)<|G9 r' r' (A0V runUnderlying27 sizeOf3 rfl rfl hs10 (by omega) (by omega)) (by decide) fun p13 hp14=>Y' r' r' (A.i r' hp14)<|Y' r' r' (X.call call55 rfl (A5u _ _ r.Levels rfl _))<|Y' r' r' (A0l rfl)<|U' 1 r'<|V' 2 r'<|A0 r' r'<|A7<|D5 (by unfold A5b;exact Iff.rfl)
theorem P9{G:Prop}(h:G:=by first|exact A9 (fun h_=>by have h1_:=h_.1.1;omega)|exact A9 (fun h_=>by exact absurd h_.1.2.1 (fun hq_=>B3b (by assumption) hq_))|exact A9 (fun h_=>by have h1_:=h_.1.2.2;omega)|exact A9 (fun h_=>by have h1_:=h_.2.1;omega)|exact A9 (fun h_=>by have h1_:=h_.2.2.1 k (by omega);unfold A9m at h1_;first|omega|(dsimp only at *; omega))|exact A9 (fun h_=>by have h1_:=h_.2.2.2.1 q (by omega) (by omega);contradiction)|exact A9 (fun h_=>by exact B3b (by assumption) h_.2.2.2.2.1)|exact A9 (fun h_=>by have h1_:=h_.2.2.2.2.2;omega)|exact D5 ⟨fun h_=>⟨hA_,by omega,fun t ht=>hsh_ t (by omega),fun i hi=>hall i (by omega),B4w (by assumption),h_⟩,fun h_=>h_.2.2.2.2.2⟩):G:=h
theorem A8o{G:Prop}(h:G:=by exact⟨by omega,fun j hj=>by rcases Nat.lt_succ_iff_lt_or_eq.1 hj with h|h;exact hall j h;subst h;unfold B4o;exact fun h_=>by first|(exact absurd h_ (by omega))|assumption|(apply Classical.byContradiction;assumption)⟩):G:=h
theorem C0a(m:Mem)(pc:Addr)(c:Chart)(hc:At m pc c)(cx:List Value)(x:Course)(hx:Enc.rd m cx x)(hch:ChOk c):Exact prog 41 #[.pointer (some (pc)),.agg cx.toArray] m (.bool (decide (A7t c x))):=by
 obtain⟨v1,v3,v5,rfl,hs2,hs4,hs6⟩:=hx
 have hl7:=hs2.le
 have hl8:=hs4.le
 have hl9:=hs6.le
 have hpp_:=hch.pen
 have hpe_:=hch.pen
 unfold Y3 at hpe_
 refine have htk_:=hch.ticks;C7 func41 r' ntmps41 fun wld=>q' 2 r'<|o' r' r' fun b10=>o' r' r' fun b11=>v' 5 r'<|fz (x:=x) 0 r' r' ⟨_,_,_,rfl,hs2,hs4,hs6⟩ fun m12 hle13 hp14=>?_
 replace hc:=hc.mono hle13
 refine A0F 0 rfl rfl (fun m15 hle16 hc17=>?_)
 refine have hc:=hc.mono hle16;have hp14:=hp14.mono hle16;B4 31 [] []<|Y' r' r' (T4 isAgg122 rfl hc17)<|U' 1 r'<|have hp18:=A6f hc;Y' r' r' (A.f r')<|have hp19:=J9 hp18;Y' r' r' (A.f r')<|have hp20:=A4D hp19;Y' r' r' (A.f r')<|G' hp20 r' r' r' fun c21 hc22=>?_
 obtain rfl:=hc22
 refine have hp23:=A1N hp14;Y' r' r' (A.f r')<|Y' r' r' (A.i r' hp23)<|C' r' r' (X.call call55 rfl (A5u _ _ c.Sheet.Pen.Zero rfl _)) (fun h24=>?_) fun h24=>?_
 ·refine U' 2 r'<|have hp25:=K3 hp14;Y' r' r' (A.f r')<|S' hp25 r' r' r' fun v26 hs27=>have hl28:=hs27.le;Y' r' r' (X.makeFunc (by intro x hx;simp at hx;subst hx;all_goals exact⟨_,rfl⟩) rfl)<|C' r' r' (X.call call97 rfl (B3Y (p:=fun i=>¬(0≤gt x.Ticks i∧gt x.Ticks i≤c.ticks)) _ hs27 (caps:=[Pt b10 0]) call98 (fun i _=>C5V _ _ hc17 hc))) (fun h29=>?_) fun h29=>?_
  ·exact U' 16 r'<|V' 9 r'<|A0 r' r'<|A7<|P9
  refine U' 2 r'<|Y' r' r' (T4 isAgg122 rfl hc17)<|U' 1 r'<|have hp30:=A6f hc;Y' r' r' (A.f r')<|have hp31:=F9 hp30;Y' r' r' (A.f r')<|G' hp31 r' r' r' fun c32 hc33=>?_
  obtain⟨v34,v36,rfl,hs35,hs37⟩:=hc33
  refine have hl38:=hs35.le;have hl39:=hs37.le;Y' r' r' (T4 isAgg122 rfl hc17)<|U' 1 r'<|have hp40:=B7n hc;Y' r' r' (A.f r')<|S' hp40 r' r' r' fun v41 hs42=>have hl43:=hs42.le;have hp44:=K3 hp14;Y' r' r' (A.f r')<|S' hp44 r' r' r' fun v45 hs46=>have hl47:=hs46.le;Y' r' r' (X.call call99 rfl (C3w _ _ c.Sheet.Drum ⟨_,_,rfl,hs35,hs37⟩ _ _ hs42 _ _ hs46)) ?_
  refine A0h rfl rfl (X.neq rfl rfl) (by decide) (fun h48=>?_) (fun h48=>?_)
  ·exact U' 1 r'<|V' 9 r'<|A0 r' r'<|A7<|P9
  refine U' 1 r'<|V' 6 r' ?_
  have hA_:B6K c x:=⟨by omega,B4w (by assumption),by omega⟩
  refine have hkl_:=B9e hA_.2.2;have htl_:=hA_.2.1;have hz_:=hA_.1;have hik_:=hch.ink;B4 20 [] []<|have hp49:=T9 hp14;Y' r' r' (A.f r')<|S' hp49 r' r' r' fun v50 hs51=>have hl52:=hs51.le;Y' r' r' (A.l r' hs51)<|Y' r' r' (T4 isAgg122 rfl hc17)<|U' 1 r'<|have hp53:=A6H hc;Y' r' r' (A.f r')<|Y' r' r' (A.i r' hp53)<|U' 1 r' ?_
  refine A0h rfl rfl (X.neq rfl rfl) (by decide) (fun h54=>?_) (fun h54=>?_)
  ·exact U' 11 r'<|V' 9 r'<|A0 r' r'<|A7<|P9
  refine U' 1 r'<|have hp55:=J1 hp14;Y' r' r' (A.f r')<|S' hp55 r' r' r' fun v56 hs57=>have hl58:=hs57.le;Y' r' r' (A.l r' hs57)<|Y' r' r' (T4 isAgg122 rfl hc17)<|U' 1 r'<|have hp59:=A6H hc;Y' r' r' (A.f r')<|Y' r' r' (A.i r' hp59)<|U' 1 r' ?_
  refine A0h rfl rfl (X.neq rfl rfl) (by decide) (fun h60=>?_) (fun h60=>?_)
  ·exact U' 1 r'<|V' 9 r'<|A0 r' r'<|A7<|P9
  refine U' 1 r'<|V' 5 r'<|G7 Moment 172<|q' 7 r'<|have hp61:=T9 hp14;f' r' t'<|s' hp61 r' fun v62 hs63=>have hl64:=hs63.le;l' hs63 r'<|v' 4 r' ?_
  refine O6 (fun(k:Nat) (vo:Value)=>x.Shown.length-k) (fun k vo=>[A5 (vo) 172 (A1d x k)]) (fun k vo=>[(2,Pt b10 0),(3,Pt b11 0),(5,vo),(63,J x.Shown.length),(64,J k)]) (fun k vo=>k≤x.Shown.length∧(∀j,j<k→A9m x j)) 0 (Value.slice none 0 0) ?_ ?_
  ·exact⟨Nat.zero_le _,fun j hj=>absurd hj (Nat.not_lt_zero _)⟩
  rintro k vo ⟨hk,hsh_⟩
  refine q' 2 r'<|c' (X.lss r' r') (fun h66=>?_) fun h66=>?_
  ·refine v' 17 r'<|WL.x (V:=Value.agg [J 0,J 12000].toArray) (X.build zeroValue23 runUnderlying23 (H3 _ underlying23) rfl rfl) (by decide) ?_
   refine have hp67:=T9 hp14;f' r' t'<|s' hp67 r' fun v68 hs69=>have hl70:=hs69.le;v' 1 r'<|x' k hs69 r' r' fun p71 hp72=>i' hp72 r'<|c' (X.call call55 rfl (A5u _ _ ((Span.mk (0) (12000))) rfl _)) (fun h73=>?_) fun h73=>?_
   ·refine v' 3 r'<|WL.x (V:=Value.agg [J 0,J 12000].toArray) (X.build zeroValue23 runUnderlying23 (H3 _ underlying23) rfl rfl) (by decide) ?_
    refine v' 1 r'<|have hp74:=J1 hp14;f' r' t'<|v' 1 r'<|s' hp74 r' fun v75 hs76=>have hl77:=hs76.le;v' 3 r'<|x' k hs76 r' r' fun p78 hp79=>v' 1 r'<|i' hp79 r'<|v' 1 r'<|c' (X.call call55 rfl (A5u _ _ ((Span.mk (0) (12000))) rfl _)) (fun h80=>?_) fun h80=>?_
    ·refine v' 8 r' ?_
     have hlk_:(A1d x k).length=k:=C4 _ _
     have hShownv_:0≤gt x.Shown k∧gt x.Shown k≤12000:=(by first|assumption|(apply Classical.byContradiction;assumption))
     have hLevelsv_:0≤gt x.Levels k∧gt x.Levels k≤12000:=(by first|assumption|(apply Classical.byContradiction;assumption))
     refine B4 18 [15,16] [16]<|U' 1 r'<|have hp81:=T9 hp14;Y' r' r' (A.f r')<|S' hp81 r' r' r' fun v82 hs83=>have hl84:=hs83.le;U' 1 r'<|X' k hs83 r' r' r' r' fun p85 hp86=>Y' r' r' (A.i r' hp86)<|have hp87:=J1 hp14;Y' r' r' (A.f r')<|S' hp87 r' r' r' fun v88 hs89=>have hl90:=hs89.le;U' 1 r'<|X' k hs89 r' r' r' r' fun p91 hp92=>Y' r' r' (A.i r' hp92)<|have hp93:=A1N hp14;Y' r' r' (A.f r')<|Y' r' r' (A.i r' hp93)<|U' 1 r'<|DW.x (V:=Value.agg [J (gt x.Shown k),J ((gt x.Levels k)-x.Zero)].toArray) r' r' (X.build zeroValue172 runUnderlying172 (A3C _ underlying172) rfl rfl) (by decide) ?_
     refine P4 rfl rfl rfl (E6 C2E rfl rfl rfl (by decide)) (by decide) fun b94=>?_
     refine V0 rfl rfl rfl rfl (E2 (k:=0) (a:=(Moment.mk (gt x.Shown k) ((gt x.Levels k)-x.Zero))) C2E rfl rfl rfl rfl (by first|omega|(simp;done)|(simp;omega)) (by decide)) (by decide) (fun v95=>?_)
     refine U' 1 r'<|V' 7 r' ?_
     have he96:((A1d x k)++[(Moment.mk (gt x.Shown k) ((gt x.Levels k)-x.Zero))])=(A1d x (k+1)):=(L4 _ _).symm
     rw[he96]
     exact J7 (k+1) v95<|⟨by omega,fun j hj=>by rcases Nat.lt_succ_iff_lt_or_eq.1 hj with h|h;exact hsh_ j h;subst h;unfold A9m;omega⟩
    exact v' 18 r'<|A0 r' r'<|A7<|P9
   exact v' 26 r'<|A0 r' r'<|A7<|P9
  refine v' 11 r' ?_
  have he97:(A1d x k)=(A1d x x.Shown.length):=(by rw[show k=x.Shown.length by omega])
  rw[he97]
  refine E1 0 rfl rfl (by unfold A1d;rw[C4];unfold C8;omega) (fun m98 hle99 hs100=>?_)
  replace hc:=hc.mono hle99
  replace hp14:=hp14.mono hle99
  replace hc17:=hc17.mono hle99
  have hmn_:(A1d x x.Shown.length).length=x.Shown.length:=C4 _ _
  refine q' 1 r'<|have hp101:=K3 hp14;f' r' t'<|s' hp101 r' fun v102 hs103=>have hl104:=hs103.le;l' hs103 r'<|v' 4 r' ?_
  refine I0 (fun(q:Nat)=>x.Ticks.length-q) (fun q=>[]) (fun q=>[(2,Pt b10 0),(3,Pt b11 0),(5,vo),(104,v102),(105,J x.Ticks.length),(106,J q)]) (fun q=>q≤x.Ticks.length∧(∀j,j<q→B4o c x j)) 0 ?_ ?_
  ·exact⟨Nat.zero_le _,fun j hj=>absurd hj (Nat.not_lt_zero _)⟩
  rintro q ⟨hq,hall⟩
  refine q' 2 r'<|c' (X.lss r' r') (fun h106=>?_) fun h106=>?_
  ·refine v' 11 r'<|x' q hs103 r' r' fun p107 hp108=>i' hp108 r'<|v' 5 r' ?_
   have htq_:=htl_ q (by omega)
   refine B4 25 [] []<|Y' r' r' (T4 isAgg122 rfl hc17)<|U' 1 r'<|have hp109:=A9G hc;Y' r' r' (A.f r')<|S' hp109 r' r' r' fun v110 hs111=>have hl112:=hs111.le;U' 1 r'<|X' q hs111 r' r' r' r' fun p113 hp114=>S' hp114 r' r' r' fun v115 hs116=>have hl117:=hs116.le;Y' r' r' (A.l r' hs116)<|C' r' r' (X.gtr r' r') (fun h118=>?_) fun h118=>?_
   ·refine U' 1 r'<|Y' r' r' (T4 isAgg122 rfl hc17)<|U' 1 r'<|have hp119:=A9G hc;Y' r' r' (A.f r')<|S' hp119 r' r' r' fun v120 hs121=>have hl122:=hs121.le;U' 1 r'<|X' q hs121 r' r' r' r' fun p123 hp124=>S' hp124 r' r' r' fun v125 hs126=>have hl127:=hs126.le;have hp128:=T9 hp14;Y' r' r' (A.f r')<|S' hp128 r' r' r' fun v129 hs130=>have hl131:=hs130.le;U' 1 r'<|G9 r' r' (A0V runUnderlying27 sizeOf3 rfl rfl hs130 (by omega) (by omega)) (by decide) fun p132 hp133=>Y' r' r' (A.i r' hp133)<|C' r' r' (X.call call100 rfl (C6M _ _ _ hs126 _)) (fun h134=>?_) fun h134=>?_
    ·exact U' 2 r'<|V' 10 r'<|G5 (q+1)<|A8o
    exact U' 2 r'<|V' 13 r'<|A0 r' r'<|A7<|P9
   exact U' 16 r'<|V' 10 r'<|G5 (q+1)<|A8o
  refine v' 10 r' ?_
  have hrl_:∀i,i<c.reads.length→0≤(gt c.reads i).Tick∧(gt c.reads i).Tick<x.Levels.length:=fun i hi=>by have:=hch.reads i hi;omega
  refine q' 1 r'<|y' (T4 isAgg122 rfl hc17)<|v' 1 r'<|have hp135:=B7r hc;f' r' t'<|s' hp135 r' fun v136 hs137=>have hl138:=hs137.le;y' (X.makeFunc (by intro x hx;simp at hx;subst hx;all_goals exact⟨_,rfl⟩) rfl)<|c' (X.call call92 rfl (B9w (p:=fun i=>¬A5b x (gt c.reads i)) _ hs137 (caps:=[Pt b11 0]) call101 (fun i hi=>C4h _ _ (gt c.reads i) rfl hp14 (hrl_ i hi)))) (fun h139=>?_) fun h139=>?_
  ·exact v' 21 r'<|A0 r' r'<|A7<|P9
  refine v' 9 r'<|y' (T4 isAgg122 rfl hc17)<|v' 3 r'<|have hp140:=A6f hc;f' r' t'<|v' 1 r'<|have hp141:=J9 hp140;f' r' t'<|v' 1 r'<|g' hp141 r' fun c142 hc143=>?_
  obtain rfl:=hc143
  exact v' 3 r'<|y' (X.call call102 rfl (B9T _ _ c.Sheet.Pen rfl _ _ hs100 (by omega)))<|v' 7 r'<|A0 r' r'<|A7<|P9
 exact U' 22 r'<|V' 9 r'<|A0 r' r'<|A7<|P9
end Go.Proofs.T10
namespace Go.Proofs.S10
open Tryz
set_option maxRecDepth 20000
open Go Go.Kx Go.Proofs.T10
theorem U5{G:Prop}(h:G:=by first|exact A9 (fun h_=>by have h0_:=h_;unfold A1e at h0_;omega)|exact D5 ⟨fun h_=>(by unfold A1e;omega),fun h_=>(by unfold A1e at h_;omega)⟩):G:=h
theorem B1V(m:Mem)(cw:List Value)(w:WeekT)(hw:Enc.rd m cw w)(cf:List Value)(f:FiledT)(hf:Enc.rd m cf f):Exact prog 91 #[.agg cw.toArray,.agg cf.toArray] m (.bool (decide (A1e w f))):=by
 obtain⟨v1,v3,v5,rfl,hs2,hs4,hs6⟩:=hw
 have hl7:=hs2.le
 have hl8:=hs4.le
 have hl9:=hs6.le
 obtain⟨v10,v12,v14,v16,v18,v20,rfl,hs11,hs13,hs15,hs17,hs19,hs21⟩:=hf
 refine have hl22:=hs11.le;have hl23:=hs13.le;have hl24:=hs15.le;have hl25:=hs17.le;have hl26:=hs19.le;have hl27:=hs21.le;C7 func91 r' ntmps91 fun wld=>q' 2 r'<|o' r' r' fun b28=>o' r' r' fun b29=>v' 4 r'<|fz (x:=w) 1 r' r' ⟨_,_,_,rfl,hs2,hs4,hs6⟩ fun m30 hle31 hp32=>have hs11:=hs11.mono hle31;have hs13:=hs13.mono hle31;have hs15:=hs15.mono hle31;have hs17:=hs17.mono hle31;have hs19:=hs19.mono hle31;have hs21:=hs21.mono hle31;fz (x:=f) 0 r' r' ⟨_,_,_,_,_,_,rfl,hs11,hs13,hs15,hs17,hs19,hs21⟩ fun m33 hle34 hp35=>have hp32:=hp32.mono hle34;q' 1 r'<|have hp36:=K9 hp32;f' r' t'<|have hp37:=N3 hp36;f' r' t'<|s' hp37 r' fun v38 hs39=>have hl40:=hs39.le;have hp41:=P7 hp35;f' r' t'<|i' hp41 r'<|y' (X.call call42 rfl (A0Q _ _ _ hs39 _))<|v' 9 r'<|have hp42:=A3j hp35;f' r' t'<|g' hp42 r' fun c43 hc44=>?_
 obtain⟨v45,v47,v49,v51,rfl,hs46,hs48,hs50,hs52⟩:=hc44
 refine have hl53:=hs46.le;have hl54:=hs48.le;have hl55:=hs50.le;have hl56:=hs52.le;n' zeroValue35 r' fun b57=>w' 0 r' r' r'<|v' 4 r'<|fz (x:=f.Sheet) 0 r' r' ⟨_,_,_,_,rfl,hs46,hs48,hs50,hs52⟩ fun m58 hle59 hp60=>have hp32:=hp32.mono hle59;have hp35:=hp35.mono hle59;q' 2 r'<|e' (X.neq r' r') (fun h61=>?_) fun h61=>?_
 ·exact v' 23 r'<|A0 r' r'<|A7<|U5
 refine v' 2 r'<|have hp62:=A8g hp35;f' r' t'<|v' 1 r'<|i' hp62 r'<|v' 1 r'<|have hp63:=A2O hp32;f' r' t'<|v' 1 r'<|i' hp63 r'<|v' 1 r'<|e' (X.neq r' r') (fun h64=>?_) fun h64=>?_
 ·exact v' 17 r'<|A0 r' r'<|A7<|U5
 refine v' 3 r'<|have hp65:=Q2 hp60;f' r' t'<|v' 1 r'<|g' hp65 r' fun c66 hc67=>?_
 obtain rfl:=hc67
 refine v' 1 r'<|y' (X.call call141 rfl (A9c _ _ f.Sheet.Paper rfl))<|v' 1 r'<|e' (X.neq r' r') (fun h68=>?_) fun h68=>?_
 ·exact v' 11 r'<|A0 r' r'<|A7<|U5
 refine v' 9 r'<|have hp69:=Q2 hp60;f' r' t'<|g' hp69 r' fun c70 hc71=>?_
 obtain rfl:=hc71
 refine have hp72:=Z9 hp60;f' r' t'<|s' hp72 r' fun v73 hs74=>have hl75:=hs74.le;have hp76:=A0I hp60;f' r' t'<|s' hp76 r' fun v77 hs78=>?_
 have hl79:=hs78.le
 refine D1 (T.call call28 rfl (B6i _ _ f.Sheet.Paper rfl _ _ hs74 _ _ hs78)) (by decide) (fun m80 _ hle81 hR_=>?_)
 obtain⟨_,rfl,v82,rfl,hs83⟩:=hR_
 replace hp35:=hp35.mono hle81
 replace hp60:=hp60.mono hle81
 replace hs83:Sl m80 v82 (A0R f.Sheet.Paper f.Sheet.Trace f.Sheet.Blots):=hs83
 refine have hl84:=hs83.le;v' 3 r'<|n' zeroValue104 r' fun b85=>w' 0 r' r' r'<|v' 6 r'<|e' (X.neq r' r') (fun h86=>?_) fun h86=>?_
 ·exact v' 16 r'<|A0 r' r'<|A7<|U5
 refine v' 2 r'<|have hp87:=F9 hp60;f' r' t'<|v' 1 r'<|g' hp87 r' fun c88 hc89=>?_
 obtain⟨v90,v92,rfl,hs91,hs93⟩:=hc89
 refine have hl94:=hs91.le;have hl95:=hs93.le;v' 1 r'<|y' (X.call call172 rfl (A6d _ _ f.Sheet.Drum ⟨_,_,rfl,hs91,hs93⟩))<|v' 1 r'<|e' (X.neq r' r') (fun h96=>?_) fun h96=>?_
 ·exact v' 11 r'<|A0 r' r'<|A7<|U5
 refine v' 8 r'<|have hp97:=F9 hp60;f' r' t'<|g' hp97 r' fun c98 hc99=>?_
 obtain⟨v100,v102,rfl,hs101,hs103⟩:=hc99
 refine have hl104:=hs101.le;have hl105:=hs103.le;have hp106:=A1M hp35;f' r' t'<|s' hp106 r' fun v107 hs108=>have hl109:=hs108.le;y' (X.call call173 rfl (B4k _ _ f.Sheet.Drum ⟨_,_,rfl,hs101,hs103⟩ _ _ hs108))<|v' 9 r'<|have hp110:=F9 hp60;f' r' t'<|have hp111:=R9 hp110;f' r' t'<|s' hp111 r' fun v112 hs113=>have hl114:=hs113.le;l' hs113 r'<|v' 1 r'<|have hp115:=Q2 hp60;f' r' t'<|have hp116:=Y7 hp115;f' r' t'<|i' hp116 r'<|c' (X.eql r' r') (fun h117=>?_) fun h117=>?_
 ·refine v' 2 r'<|have hp118:=J9 hp60;f' r' t'<|v' 1 r'<|g' hp118 r' fun c119 hc120=>?_
  obtain rfl:=hc120
  refine v' 1 r'<|y' (X.call call8 rfl (A9u _ _ f.Sheet.Pen rfl))<|v' 1 r'<|c' (X.eql r' r') (fun h121=>?_) fun h121=>?_
  ·exact v' 11 r'<|A0 r' r'<|A7<|U5
  exact v' 9 r'<|A0 r' r'<|A7<|U5
 exact v' 14 r'<|A0 r' r'<|A7<|U5
theorem A0P{G:Prop}(h:G:=by first|exact A9 (fun h_=>by have h0_:=h_;unfold A2G at h0_;first|omega|(dsimp only at *; omega))|exact D5 ⟨fun h_=>(by unfold A2G;first|omega|(dsimp only at *; omega)),fun h_=>(by unfold A2G at h_;omega)⟩):G:=h
theorem C2s(m:Mem)(cw:List Value)(w:WeekT)(hw:Enc.rd m cw w)(cr:List Value)(r:ReadT)(hr:Enc.rd m cr r):Exact prog 94 #[.agg cw.toArray,.agg cr.toArray] m (.bool (decide (A2G w r))):=by
 obtain⟨v1,v3,v5,rfl,hs2,hs4,hs6⟩:=hw
 have hl7:=hs2.le
 have hl8:=hs4.le
 have hl9:=hs6.le
 obtain rfl:=hr
 refine C7 func94 r' ntmps94 fun wld=>q' 2 r'<|o' r' r' fun b10=>o' r' r' fun b11=>v' 4 r'<|fz (x:=w) 1 r' r' ⟨_,_,_,rfl,hs2,hs4,hs6⟩ fun m12 hle13 hp14=>fz (x:=r) 0 r' r' r' fun m15 hle16 hp17=>have hp14:=hp14.mono hle16;q' 1 r'<|have hp18:=K9 hp14;f' r' t'<|have hp19:=N3 hp18;f' r' t'<|s' hp19 r' fun v20 hs21=>have hl22:=hs21.le;have hp23:=A1C hp17;f' r' t'<|i' hp23 r'<|y' (X.call call42 rfl (A0Q _ _ _ hs21 _))<|v' 9 r'<|have hp24:=A3U hp17;f' r' t'<|g' hp24 r' fun c25 hc26=>?_
 obtain rfl:=hc26
 refine n' zeroValue23 r' fun b27=>w' 0 r' r' r'<|v' 3 r'<|fz (x:=r.Levels) 0 r' r' r' fun m28 hle29 hp30=>have hp14:=hp14.mono hle29;have hp17:=hp17.mono hle29;q' 2 r'<|c' (X.eql r' r') (fun h31=>?_) fun h31=>?_
 ·refine v' 2 r'<|have hp32:=A9T hp17;f' r' t'<|v' 1 r'<|i' hp32 r'<|v' 1 r'<|have hp33:=A2O hp14;f' r' t'<|v' 1 r'<|i' hp33 r'<|v' 1 r'<|c' (X.eql r' r') (fun h34=>?_) fun h34=>?_
  ·refine v' 3 r'<|have hp35:=K9 hp14;f' r' t'<|v' 1 r'<|have hp36:=W2 hp35;f' r' t'<|v' 1 r'<|i' hp36 r'<|v' 1 r'<|WL.x (V:=Value.agg [J 0,J w.Base.Ticks].toArray) (X.build zeroValue23 runUnderlying23 (H3 _ underlying23) rfl rfl) (by decide) ?_
   refine v' 1 r'<|have hp37:=A3V hp17;f' r' t'<|v' 1 r'<|i' hp37 r'<|v' 1 r'<|c' (X.call call55 rfl (A5u _ _ ((Span.mk (0) (w.Base.Ticks))) rfl _)) (fun h38=>?_) fun h38=>?_
   ·refine v' 3 r'<|have hp39:=Z0 hp30;f' r' t'<|v' 1 r'<|i' hp39 r'<|v' 1 r'<|c' (X.leq r' r') (fun h40=>?_) fun h40=>?_
    ·refine v' 3 r'<|have hp41:=Z0 hp30;f' r' t'<|v' 1 r'<|i' hp41 r'<|v' 1 r'<|have hp42:=W3 hp30;f' r' t'<|v' 1 r'<|i' hp42 r'<|v' 1 r'<|c' (X.leq r' r') (fun h43=>?_) fun h43=>?_
     ·exact v' 3 r'<|have hp44:=W3 hp30;f' r' t'<|v' 1 r'<|i' hp44 r'<|v' 7 r'<|A0 r' r'<|A7<|A0P
     exact v' 10 r'<|A0 r' r'<|A7<|A0P
    exact v' 17 r'<|A0 r' r'<|A7<|A0P
   exact v' 22 r'<|A0 r' r'<|A7<|A0P
  exact v' 31 r'<|A0 r' r'<|A7<|A0P
 exact v' 37 r'<|A0 r' r'<|A7<|A0P
theorem C7I(m:Mem)(cr:List Value)(r:ReadT)(hr:Enc.rd m cr r){pw:Addr}{w:WeekT}(hpw:At m pw w):Exact prog 93 #[.agg cr.toArray,.pointer (some pw)] m (.bool (decide (¬A2G w r))):=by
 obtain rfl:=hr
 refine C7 func93 r' ntmps93 fun wld=>q' 2 r'<|o' r' r' fun b1=>v' 4 r'<|fz (x:=r) 0 r' r' r' fun m2 hle3 hp4=>have hpw:=hpw.mono hle3;q' 1 r'<|g' hpw r' fun c5 hc6=>?_
 obtain⟨v7,v9,v11,rfl,hs8,hs10,hs12⟩:=hc6
 refine have hl13:=hs8.le;have hl14:=hs10.le;have hl15:=hs12.le;g' hp4 r' fun c16 hc17=>?_
 obtain rfl:=hc17
 refine y' (X.call call94 rfl (C2s _ _ w ⟨_,_,_,rfl,hs8,hs10,hs12⟩ _ r rfl))<|y' (A0l rfl)<|v' 4 r'<|A0 r' r'<|A7 ?_
 first|rfl|(simp[*];done)
theorem O5{G:Prop}(h:G:=by first|exact A8 (B9U (by omega)).symm|(have hn_:¬A0J w:=(fun h_=>by have h1_:=h_.1;unfold A2t at h1_;first|omega|(dsimp only at *; omega));exact A8 (A4y (by omega) hn_).symm)|(have hn_:¬A0J w:=(fun h_=>by have h1_:=h_.2.1;omega);exact A8 (A4y (by omega) hn_).symm)|(have hn_:¬A0J w:=(fun h_=>by have h1_:=(h_.2.2.1 k (by omega)).1 (by omega);omega);exact A8 (A4y (by omega) hn_).symm)|(have hn_:¬A0J w:=(fun h_=>by exact absurd (h_.2.2.1 k (by omega)).2 (by assumption));exact A8 (A4y (by omega) hn_).symm)|(have hn_:¬A0J w:=(fun h_=>by exact B3b (by assumption) h_.2.2.2);exact A8 (A4y (by omega) hn_).symm)|exact A8 (C0k (by omega) ⟨hH_,by omega,fun j hj=>hall j (by omega),B4w (by assumption)⟩).symm):G:=h
theorem A9A{G:Prop}(h:G:=by exact⟨by omega,fun j hj=>by rcases Nat.lt_succ_iff_lt_or_eq.1 hj with h|h;exact hall j h;subst h;exact⟨fun h0_=>by omega,by first|assumption|(apply Classical.byContradiction;assumption)⟩⟩):G:=h
theorem B5K(m:Mem)(cw:List Value)(w:WeekT)(hw:Enc.rd m cw w):Exact prog 39 #[.agg cw.toArray] m (J (U9 w)):=by
 obtain⟨v1,v3,v5,rfl,hs2,hs4,hs6⟩:=hw
 refine have hl7:=hs2.le;have hl8:=hs4.le;have hl9:=hs6.le;C7 func39 r' ntmps39 fun wld=>q' 2 r'<|o' r' r' fun b10=>v' 5 r'<|fz (x:=w) 0 r' r' ⟨_,_,_,rfl,hs2,hs4,hs6⟩ fun m11 hle12 hp13=>q' 1 r'<|have hp14:=K9 hp13;f' r' t'<|have hp15:=N3 hp14;f' r' t'<|s' hp15 r' fun v16 hs17=>have hl18:=hs17.le;y' (X.call call89 rfl (A5H _ _ _ hs17))<|v' 10 r'<|e' (X.neq r' r') (fun h19=>?_) fun h19=>?_
 ·exact v' 11 r'<|A0 r' r'<|A7<|O5
 refine v' 7 r'<|have hp20:=K9 hp13;f' r' t'<|g' hp20 r' fun c21 hc22=>?_
 obtain⟨v23,rfl,hs24⟩:=hc22
 refine have hl25:=hs24.le;n' zeroValue51 r' fun b26=>w' 0 r' r' r'<|v' 4 r'<|fz (x:=w.Base) 0 r' r' ⟨_,rfl,hs24⟩ fun m27 hle28 hp29=>have hp13:=hp13.mono hle28;q' 1 r'<|have hp30:=A4i hp29;f' r' t'<|g' hp30 r' fun c31 hc32=>?_
 obtain rfl:=hc32
 refine y' (X.call call90 rfl (A5x _ _ w.Base.Wind rfl))<|e' (X.neq r' r') (fun h33=>?_) fun h33=>?_
 ·exact v' 33 r'<|A0 r' r'<|A7<|O5
 refine v' 2 r'<|WL.x (V:=Value.agg [J 1,J 400].toArray) (X.build zeroValue23 runUnderlying23 (H3 _ underlying23) rfl rfl) (by decide) ?_
 refine v' 1 r'<|have hp34:=W2 hp29;f' r' t'<|v' 1 r'<|i' hp34 r'<|v' 1 r'<|c' (X.call call55 rfl (A5u _ _ ((Span.mk (1) (400))) rfl _)) (fun h35=>?_) fun h35=>?_
 ·refine v' 5 r'<|have hp36:=W2 hp29;f' r' t'<|v' 1 r'<|i' hp36 r'<|v' 1 r'<|WL.x (V:=Value.agg [J 0,J w.Base.Ticks].toArray) (X.build zeroValue23 runUnderlying23 (H3 _ underlying23) rfl rfl) (by decide) ?_
  refine v' 1 r'<|have hp37:=A1E hp29;f' r' t'<|v' 1 r'<|i' hp37 r'<|v' 1 r'<|c' (X.call call55 rfl (A5u _ _ ((Span.mk (0) (w.Base.Ticks))) rfl _)) (fun h38=>?_) fun h38=>?_
  ·refine v' 5 r'<|WL.x (V:=Value.agg [J 0,J 10000].toArray) (X.build zeroValue23 runUnderlying23 (H3 _ underlying23) rfl rfl) (by decide) ?_
   refine v' 1 r'<|have hp39:=A2O hp13;f' r' t'<|v' 1 r'<|i' hp39 r'<|v' 1 r'<|c' (X.call call55 rfl (A5u _ _ ((Span.mk (0) (10000))) rfl _)) (fun h40=>?_) fun h40=>?_
   ·refine v' 10 r' ?_
    have hH_:A2t w:=(by unfold A2t;first|omega|(dsimp only at *; omega))
    refine q' 1 r'<|have hp41:=N1 hp13;f' r' t'<|s' hp41 r' fun v42 hs43=>have hl44:=hs43.le;l' hs43 r'<|c' (X.gtr r' r') (fun h45=>?_) fun h45=>?_
    ·exact v' 16 r'<|A0 r' r'<|A7<|O5
    refine v' 2 r'<|have hp46:=A2x hp13;f' r' t'<|v' 1 r'<|s' hp46 r' fun v47 hs48=>have hl49:=hs48.le;v' 1 r'<|l' hs48 r'<|v' 1 r'<|c' (X.gtr r' r') (fun h50=>?_) fun h50=>?_
    ·exact v' 11 r'<|A0 r' r'<|A7<|O5
    refine v' 9 r'<|have hp51:=N1 hp13;f' r' t'<|s' hp51 r' fun v52 hs53=>have hl54:=hs53.le;l' hs53 r'<|v' 4 r' ?_
    refine I0 (fun(k:Nat)=>w.Sheets.length-k) (fun k=>[]) (fun k=>[(1,Pt b10 0),(58,v52),(59,J w.Sheets.length),(60,J k)]) (fun k=>k≤w.Sheets.length∧(∀j,j<k→B2r w j)) 0 ?_ ?_
    ·exact⟨Nat.zero_le _,fun j hj=>absurd hj (Nat.not_lt_zero _)⟩
    rintro k ⟨hk,hall⟩
    refine K6 (fun hgood0=>?_)
    refine q' 2 r'<|c' (X.lss r' r') (fun h56=>?_) fun h56=>?_
    ·refine v' 11 r'<|x' k hs53 r' r' fun p57 hp58=>g' hp58 r' fun c59 hc60=>?_
     obtain⟨v61,v63,v65,v67,v69,v71,rfl,hs62,hs64,hs66,hs68,hs70,hs72⟩:=hc60
     refine have hl73:=hs62.le;have hl74:=hs64.le;have hl75:=hs66.le;have hl76:=hs68.le;have hl77:=hs70.le;have hl78:=hs72.le;n' zeroValue76 r' fun b79=>v' 1 r'<|w' 0 r' r' r'<|v' 3 r'<|fz (x:=gt w.Sheets k) 0 r' r' ⟨_,_,_,_,_,_,rfl,hs62,hs64,hs66,hs68,hs70,hs72⟩ fun m80 hle81 hp82=>have hp13:=hp13.mono hle81;B4 20 [] []<|U' 1 r'<|C' r' r' (X.gtr r' r') (fun h83=>?_) fun h83=>?_
     ·refine U' 1 r'<|have hp84:=P7 hp82;Y' r' r' (A.f r')<|Y' r' r' (A.i r' hp84)<|have hp85:=N1 hp13;Y' r' r' (A.f r')<|S' hp85 r' r' r' fun v86 hs87=>have hl88:=hs87.le;U' 2 r'<|G9 r' r' (Q4 (k-1) runUnderlying54 sizeOf76 rfl rfl hs87 (by omega) (by omega)) (by decide) fun p89 hp90=>have hp91:=P7 hp90;Y' r' r' (A.f r')<|Y' r' r' (A.i r' hp91)<|C' r' r' (X.leq r' r') (fun h92=>?_) fun h92=>?_
      ·exact U' 7 r'<|V' 13 r'<|A0 r' r'<|A7<|O5
      refine U' 2 r'<|G' hp13 r' r' r' fun c93 hc94=>?_
      obtain⟨v95,v97,v99,rfl,hs96,hs98,hs100⟩:=hc94
      refine have hl101:=hs96.le;have hl102:=hs98.le;have hl103:=hs100.le;G' hp82 r' r' r' fun c104 hc105=>?_
      obtain⟨v106,v108,v110,v112,v114,v116,rfl,hs107,hs109,hs111,hs113,hs115,hs117⟩:=hc105
      refine have hl118:=hs107.le;have hl119:=hs109.le;have hl120:=hs111.le;have hl121:=hs113.le;have hl122:=hs115.le;have hl123:=hs117.le;C' r' r' (X.call call91 rfl (B1V _ _ w ⟨_,_,_,rfl,hs96,hs98,hs100⟩ _ (gt w.Sheets k) ⟨_,_,_,_,_,_,rfl,hs107,hs109,hs111,hs113,hs115,hs117⟩)) (fun h124=>?_) fun h124=>?_
      ·exact U' 2 r'<|V' 10 r'<|E5 hgood0 hle81<|G5 (k+1)<|A9A
      exact U' 2 r'<|V' 13 r'<|A0 r' r'<|A7<|O5
     refine U' 13 r'<|G' hp13 r' r' r' fun c125 hc126=>?_
     obtain⟨v127,v129,v131,rfl,hs128,hs130,hs132⟩:=hc126
     refine have hl133:=hs128.le;have hl134:=hs130.le;have hl135:=hs132.le;G' hp82 r' r' r' fun c136 hc137=>?_
     obtain⟨v138,v140,v142,v144,v146,v148,rfl,hs139,hs141,hs143,hs145,hs147,hs149⟩:=hc137
     refine have hl150:=hs139.le;have hl151:=hs141.le;have hl152:=hs143.le;have hl153:=hs145.le;have hl154:=hs147.le;have hl155:=hs149.le;C' r' r' (X.call call91 rfl (B1V _ _ w ⟨_,_,_,rfl,hs128,hs130,hs132⟩ _ (gt w.Sheets k) ⟨_,_,_,_,_,_,rfl,hs139,hs141,hs143,hs145,hs147,hs149⟩)) (fun h156=>?_) fun h156=>?_
     ·exact U' 2 r'<|V' 10 r'<|E5 hgood0 hle81<|G5 (k+1)<|A9A
     exact U' 2 r'<|V' 13 r'<|A0 r' r'<|A7<|O5
    refine v' 12 r'<|have hp157:=A2x hp13;f' r' t'<|s' hp157 r' fun v158 hs159=>have hl160:=hs159.le;y' (X.makeFunc (by intro x hx;simp at hx;subst hx;all_goals exact⟨_,rfl⟩) rfl)<|c' (X.call call92 rfl (B9w (p:=fun i=>¬A2G w (gt w.Reads i)) _ hs159 (caps:=[Pt b10 0]) call93 (fun i hi=>C7I _ _ (gt w.Reads i) rfl hp13))) (fun h161=>?_) fun h161=>?_
    ·exact v' 10 r'<|A0 r' r'<|A7<|O5
    exact v' 11 r'<|A0 r' r'<|A7<|O5
   exact v' 13 r'<|A0 r' r'<|A7<|O5
  exact v' 20 r'<|A0 r' r'<|A7<|O5
 exact v' 29 r'<|A0 r' r'<|A7<|O5
end Go.Proofs.S10
