import Derived.Test.YtooomcigmleneaaGreatKxW
import Derived.Test.YtooomcigmleneaaGreatKyP
import Derived.Test.YtooomcigmleneaaGreatT10Ty
import Derived.Test.YtooomcigmleneaaGreatKxU
import Derived.Test.YtooomcigmleneaaGreatT10Drawn
import Derived.Test.YtooomcigmleneaaGreatT10W17
set_option linter.all false
set_option maxHeartbeats 4000000
namespace Go.Proofs.T10
open Tryz
set_option maxRecDepth 20000
open Go Go.Kx
variable{G:Prop}
theorem F6(h:G:=by first|exact A9 (fun h_=>by have h1_:=h_.1;unfold B0e at h1_;omega)|exact A9 (fun h_=>by have h1_:=h_.2.1 i (by omega);unfold A5e at h1_;have h2_:=h1_.1;omega)|exact A9 (fun h_=>by have h1_:=h_.2.1 i (by omega);unfold A5e at h1_;have h2_:=h1_.2.1 (by omega);contradiction)|exact A9 (fun h_=>by have h1_:=h_.2.1 i (by omega);unfold A5e at h1_;have h2_:=h1_.2.2 (by omega);omega)|exact A9 (fun h_=>by have h1_:=h_.2.2 t (by omega);unfold A6C at h1_;have h2_:=h1_.1;omega)|exact A9 (fun h_=>by have h1_:=h_.2.2 t (by omega);unfold A6C at h1_;have h2_:=h1_.2 (by omega);omega)|exact C9 ⟨by unfold B0e;omega,fun j hj=>hall j (by omega),fun j hj=>htick j (by omega)⟩):G:=h
theorem A4a(h:G:=by exact⟨by omega,fun j hj=>by rcases Nat.lt_succ_iff_lt_or_eq.1 hj with h|h;exact hall j h;subst h;unfold A5e;exact⟨by omega,fun h_=>by first|(exact absurd h_ (by omega))|assumption|(exact Classical.byContradiction fun hn_=>by contradiction),fun h_=>by first|omega|(exfalso;omega)⟩⟩):G:=h
theorem A9t(h:G:=by exact⟨by omega,fun j hj=>by rcases Nat.lt_succ_iff_lt_or_eq.1 hj with h|h;exact htick j h;subst h;unfold A6C;exact⟨by omega,fun h_=>by first|omega|(exfalso;omega)⟩⟩):G:=h
theorem C3P(m:Mem)(cx:List Value)(x:Sheet)(hx:Enc.rd m cx x)(ticks:Int)(cc:List Value)(c:Course)(hc:Enc.rd m cc c)(hpe:Y3 x.Pen)(htk:0≤ticks∧ticks≤1000):Exact prog 11 #[.agg cx.toArray,J ticks,.agg cc.toArray] m (.bool (decide (A4E x ticks c))):=by
 obtain⟨v1,v3,v5,v7,rfl,hs2,hs4,hs6,hs8⟩:=hx
 have hl9:=hs2.le
 have hl10:=hs4.le
 have hl11:=hs6.le
 have hl12:=hs8.le
 obtain⟨v13,v15,v17,rfl,hs14,hs16,hs18⟩:=hc
 have hl19:=hs14.le
 have hl20:=hs16.le
 have hl21:=hs18.le
 have hpe_:=hpe
 unfold Y3 at hpe_
 refine C7 func11 r' ntmps11 fun wld=>q' 2 r'<|o' r' r' fun b22=>o' r' r' fun b23=>v' 5 r'<|fz (x:=x) 1 r' r' ⟨_,_,_,_,rfl,hs2,hs4,hs6,hs8⟩ fun m24 hle25 hp26=>have hs14:=hs14.mono hle25;have hs16:=hs16.mono hle25;have hs18:=hs18.mono hle25;fz (x:=c) 0 r' r' ⟨_,_,_,rfl,hs14,hs16,hs18⟩ fun m27 hle28 hp29=>have hp26:=hp26.mono hle28;q' 1 r'<|have hp30:=K3 hp29;f' r' t'<|s' hp30 r' fun v31 hs32=>have hl33:=hs32.le;l' hs32 r'<|have hp34:=F9 hp26;f' r' t'<|have hp35:=R9 hp34;f' r' t'<|s' hp35 r' fun v36 hs37=>have hl38:=hs37.le;l' hs37 r'<|v' 1 r'<|e' (X.neq r' r') (fun h39=>?_) fun h39=>?_
 ·exact v' 44 r'<|A0 r' r'<|A7<|F6
 refine v' 2 r'<|have hp40:=T9 hp29;f' r' t'<|v' 1 r'<|s' hp40 r' fun v41 hs42=>have hl43:=hs42.le;v' 1 r'<|l' hs42 r'<|v' 5 r'<|e' (X.neq r' r') (fun h44=>?_) fun h44=>?_
 ·exact v' 37 r'<|A0 r' r'<|A7<|F6
 refine v' 3 r'<|have hp45:=J1 hp29;f' r' t'<|v' 1 r'<|s' hp45 r' fun v46 hs47=>have hl48:=hs47.le;v' 1 r'<|l' hs47 r'<|v' 5 r'<|e' (X.neq r' r') (fun h49=>?_) fun h49=>?_
 ·exact v' 29 r'<|A0 r' r'<|A7<|F6
 refine v' 3 r'<|have hp50:=A1N hp29;f' r' t'<|v' 1 r'<|i' hp50 r'<|v' 1 r'<|have hp51:=J9 hp26;f' r' t'<|v' 1 r'<|have hp52:=A4D hp51;f' r' t'<|v' 1 r'<|have hp53:=Z0 hp52;f' r' t'<|v' 1 r'<|i' hp53 r'<|v' 1 r'<|c' (X.lss r' r') (fun h54=>?_) fun h54=>?_
 ·exact v' 20 r'<|A0 r' r'<|A7<|F6
 refine v' 3 r'<|have hp55:=A1N hp29;f' r' t'<|v' 1 r'<|i' hp55 r'<|v' 1 r'<|have hp56:=J9 hp26;f' r' t'<|v' 1 r'<|have hp57:=A4D hp56;f' r' t'<|v' 1 r'<|have hp58:=W3 hp57;f' r' t'<|v' 1 r'<|i' hp58 r'<|v' 1 r'<|c' (X.gtr r' r') (fun h59=>?_) fun h59=>?_
 ·exact v' 11 r'<|A0 r' r'<|A7<|F6
 refine v' 8 r'<|have hp60:=Q2 hp26;f' r' t'<|g' hp60 r' fun c61 hc62=>?_
 obtain rfl:=hc62
 refine have hp63:=Z9 hp26;f' r' t'<|s' hp63 r' fun v64 hs65=>have hl66:=hs65.le;have hp67:=A0I hp26;f' r' t'<|s' hp67 r' fun v68 hs69=>?_
 have hl70:=hs69.le
 refine D1 (T.call call28 rfl (B6i _ _ x.Paper rfl _ _ hs65 _ _ hs69)) (by decide) (fun m71 _ hle72 hR_=>?_)
 obtain⟨_,rfl,v73,rfl,hs74⟩:=hR_
 replace hp26:=hp26.mono hle72
 replace hp29:=hp29.mono hle72
 replace hs74:Sl m71 v73 (A0R x.Paper x.Trace x.Blots):=hs74
 refine have hl75:=hs74.le;v' 3 r'<|n' zeroValue104 r' fun b76=>w' 0 r' r' r'<|v' 5 r' ?_
 have hil_:∀h_:(A0R x.Paper x.Trace x.Blots).length=c.Ticks.length,∀j,j<c.Ticks.length→j<(A0R x.Paper x.Trace x.Blots).length:=(fun h_ j hj=>by omega)
 refine q' 2 r'<|e' (X.neq r' r') (fun h77=>?_) fun h77=>?_
 ·exact v' 19 r'<|A0 r' r'<|A7<|F6
 refine v' 2 r'<|f' r' t'<|v' 1 r'<|b' 0 r' r' r'<|v' 1 r'<|l' hs74 r'<|v' 1 r'<|have hp78:=K3 hp29;f' r' t'<|v' 1 r'<|s' hp78 r' fun v79 hs80=>have hl81:=hs80.le;v' 1 r'<|l' hs80 r'<|v' 1 r'<|e' (X.neq r' r') (fun h82=>?_) fun h82=>?_
 ·exact v' 11 r'<|A0 r' r'<|A7<|F6
 refine v' 13 r' ?_
 refine I0 (fun(i:Nat)=>c.Ticks.length-i) (fun i=>[blk b76 104 [v73]]) (fun i=>[(1,J ticks),(3,Pt b22 0),(5,Pt b23 0),(7,Pt b76 0),(9,J i)]) (fun i=>i≤c.Ticks.length∧(∀j,j<i→A5e x ticks c j)) 0 ?_ ?_
 ·exact⟨Nat.zero_le _,fun j hj=>absurd hj (Nat.not_lt_zero _)⟩
 rintro i ⟨hi,hall⟩
 refine q' 4 r'<|have hp84:=K3 hp29;f' r' t'<|s' hp84 r' fun v85 hs86=>have hl87:=hs86.le;l' hs86 r'<|c' (X.lss r' r') (fun h88=>?_) fun h88=>?_
 ·refine v' 9 r'<|B4 42 [] []<|have hp89:=K3 hp29;Y' r' r' (A.f r')<|S' hp89 r' r' r' fun v90 hs91=>have hl92:=hs91.le;U' 1 r'<|X' i hs91 r' r' r' r' fun p93 hp94=>Y' r' r' (A.i r' hp94)<|C' r' r' (X.lss r' r') (fun h95=>?_) fun h95=>?_
  ·exact U' 36 r'<|V' 14 r'<|A0 r' r'<|A7<|F6
  refine U' 1 r'<|have hp96:=K3 hp29;Y' r' r' (A.f r')<|S' hp96 r' r' r' fun v97 hs98=>have hl99:=hs98.le;U' 1 r'<|X' i hs98 r' r' r' r' fun p100 hp101=>Y' r' r' (A.i r' hp101)<|U' 1 r'<|C' r' r' (X.gtr r' r') (fun h102=>?_) fun h102=>?_
  ·exact U' 28 r'<|V' 14 r'<|A0 r' r'<|A7<|F6
  refine U' 2 r'<|Y' r' r' (A.f r')<|Y' r' r' (A.b 0 r' r' r')<|U' 1 r'<|X' i hs74 r' r' r' r' fun p103 hp104=>S' hp104 r' r' r' fun v105 hs106=>have hl107:=hs106.le;Y' r' r' (A.l r' hs106)<|C' r' r' (X.gtr r' r') (fun h108=>?_) fun h108=>?_
  ·refine U' 1 r'<|Y' r' r' (A.f r')<|Y' r' r' (A.b 0 r' r' r')<|U' 1 r'<|X' i hs74 r' r' r' r' fun p109 hp110=>S' hp110 r' r' r' fun v111 hs112=>have hl113:=hs112.le;have hp114:=T9 hp29;Y' r' r' (A.f r')<|S' hp114 r' r' r' fun v115 hs116=>have hl117:=hs116.le;have hp118:=K3 hp29;Y' r' r' (A.f r')<|S' hp118 r' r' r' fun v119 hs120=>have hl121:=hs120.le;U' 1 r'<|X' i hs120 r' r' r' r' fun p122 hp123=>Y' r' r' (A.i r' hp123)<|G9 r' r' (A0V runUnderlying27 sizeOf3 rfl rfl hs116 (by omega) (by omega)) (by decide) fun p124 hp125=>Y' r' r' (A.i r' hp125)<|C' r' r' (X.call call29 rfl (C0f _ _ _ hs112 _)) (fun h126=>?_) fun h126=>?_
   ·refine U' 3 r'<|V' 8 r'<|c' (X.eql r' r') (fun h127=>?_) fun h127=>?_
    ·exact v' 13 r'<|G5 (i+1)<|A4a
    refine v' 7 r'<|have hp128:=F9 hp26;f' r' t'<|have hp129:=R9 hp128;f' r' t'<|s' hp129 r' fun v130 hs131=>have hl132:=hs131.le;v' 2 r'<|P5 (Q4 (i-1) runUnderlying28 sizeOf23 rfl rfl hs131 (by omega) (by omega)) (by decide) fun p133 hp134=>g' hp134 r' fun c135 hc136=>?_
    obtain rfl:=hc136
    refine n' zeroValue23 r' fun b137=>w' 0 r' r' r'<|v' 9 r' ?_
    refine I0 (fun(k:Nat)=>x.Drum.Stops.length-k) (fun k=>[blk b137 23 [J ((S8 x.Drum (i-1) k).Lo),J ((S8 x.Drum (i-1) k).Hi)],blk b76 104 [v73]]) (fun k=>[(1,J ticks),(3,Pt b22 0),(5,Pt b23 0),(7,Pt b76 0),(9,J i),(10,Pt b137 0),(11,J k),(95,.pointer (some (((⟨b23,0,none⟩:Addr)).add 1))),(96,v97),(97,J i),(98,.pointer (some (p100))),(99,J (gt c.Ticks i)),(100,J ticks),(101,.bool false),(104,Pt b76 0),(105,v73),(106,J i),(107,.pointer (some (p103))),(108,v105),(109,J (↑(gt (A0R x.Paper x.Trace x.Blots) i).length)),(110,.bool true),(111,.bool true),(112,Pt b76 0),(113,v73),(114,J i),(115,.pointer (some (p109))),(116,v111),(117,.pointer (some (((⟨b23,0,none⟩:Addr)).add 2))),(118,v115),(119,.pointer (some (((⟨b23,0,none⟩:Addr)).add 1))),(120,v119),(121,J i),(122,.pointer (some (p122))),(123,J (gt c.Ticks i)),(124,.pointer (some (p124))),(125,J (gt c.Shown ((gt c.Ticks i:Int).toNat))),(126,.bool true),(127,.bool false),(128,.bool false)]) (fun k=>k≤x.Drum.Stops.length) 0 ?_ ?_
    ·exact Nat.zero_le _
    rintro k hF138
    try dsimp only at hF138
    refine have hk:=hF138;q' 4 r'<|have hp139:=F9 hp26;f' r' t'<|have hp140:=P3 hp139;f' r' t'<|s' hp140 r' fun v141 hs142=>have hl143:=hs142.le;l' hs142 r'<|c' (X.lss r' r') (fun h144=>?_) fun h144=>?_
    ·refine v' 9 r'<|have hp145:=F9 hp26;f' r' t'<|have hp146:=P3 hp145;f' r' t'<|s' hp146 r' fun v147 hs148=>have hl149:=hs148.le;v' 1 r'<|x' k hs148 r' r' fun p150 hp151=>have hp152:=B2Q hp151;f' r' t'<|i' hp152 r'<|v' 2 r'<|c' (X.eql r' r') (fun h153=>?_) fun h153=>?_
     ·refine v' 3 r'<|B4 24 [23] [23]<|Y' r' r' (A.f r')<|Y' r' r' (A.b 0 r' r' r')<|have hp154:=F9 hp26;Y' r' r' (A.f r')<|have hp155:=P3 hp154;Y' r' r' (A.f r')<|S' hp155 r' r' r' fun v156 hs157=>have hl158:=hs157.le;U' 1 r'<|X' k hs157 r' r' r' r' fun p159 hp160=>have hp161:=A6t hp160;Y' r' r' (A.f r')<|have hp162:=Z0 hp161;Y' r' r' (A.f r')<|Y' r' r' (A.i r' hp162)<|Y' r' r' (A5N rfl rfl)<|Y' r' r' (A.f r')<|Y' r' r' (A.b 0 r' r' r')<|have hp163:=F9 hp26;Y' r' r' (A.f r')<|have hp164:=P3 hp163;Y' r' r' (A.f r')<|S' hp164 r' r' r' fun v165 hs166=>have hl167:=hs166.le;U' 1 r'<|X' k hs166 r' r' r' r' fun p168 hp169=>have hp170:=A6t hp169;Y' r' r' (A.f r')<|have hp171:=W3 hp170;Y' r' r' (A.f r')<|Y' r' r' (A.i r' hp171)<|Y' r' r' (A5N rfl rfl)<|DW.x (V:=Value.agg [J (wr (((S8 x.Drum (i-1) k).Lo)+(((gt x.Drum.Stops k).Ticks).Lo))),J (wr (((S8 x.Drum (i-1) k).Hi)+(((gt x.Drum.Stops k).Ticks).Hi)))].toArray) r' r' (X.build zeroValue23 runUnderlying23 (H3 _ underlying23) rfl rfl) (by decide) ?_
      refine W' 0 r' r' r' r' r'<|V' 8 r' ?_
      have hgs_:=A8L (d:=x.Drum) (i:=i-1) (k:=k) (by omega)
      rw[show(wr (((S8 x.Drum (i-1) k).Lo)+(((gt x.Drum.Stops k).Ticks).Lo)))=(S8 x.Drum (i-1) (k+1)).Lo by rw[hgs_]]
      rw[show(wr (((S8 x.Drum (i-1) k).Hi)+(((gt x.Drum.Stops k).Ticks).Hi)))=(S8 x.Drum (i-1) (k+1)).Hi by rw[hgs_]]
      exact G5 (k+1)<|by omega
     refine v' 12 r' ?_
     have hgs_:=B0F (d:=x.Drum) (i:=i-1) (k:=k) (by omega)
     rw[←hgs_]
     exact G5 (k+1)<|by omega
    refine v' 9 r' ?_
    have hpr_:=(hall (i-1) (by omega)).1
    have hke_:k=x.Drum.Stops.length:=(by omega)
    rw[hke_]
    refine B4 13 [] []<|have hp172:=K3 hp29;Y' r' r' (A.f r')<|S' hp172 r' r' r' fun v173 hs174=>have hl175:=hs174.le;U' 1 r'<|X' i hs174 r' r' r' r' fun p176 hp177=>Y' r' r' (A.i r' hp177)<|have hp178:=K3 hp29;Y' r' r' (A.f r')<|S' hp178 r' r' r' fun v179 hs180=>have hl181:=hs180.le;U' 2 r'<|G9 r' r' (Q4 (i-1) runUnderlying27 sizeOf3 rfl rfl hs180 (by omega) (by omega)) (by decide) fun p182 hp183=>Y' r' r' (A.i r' hp183)<|U' 2 r'<|V' 4 r'<|f' r' t'<|b' 0 r' r' r'<|c' (X.lss r' r') (fun h184=>?_) fun h184=>?_
    ·exact v' 20 r'<|A0 r' r'<|A7<|F6
    refine v' 4 r'<|f' r' t'<|v' 1 r'<|b' 0 r' r' r'<|v' 1 r'<|c' (X.gtr r' r') (fun h185=>?_) fun h185=>?_
    ·exact v' 15 r'<|A0 r' r'<|A7<|F6
    exact v' 13 r'<|G5 (i+1)<|A4a
   exact U' 3 r'<|V' 14 r'<|A0 r' r'<|A7<|F6
  refine U' 19 r'<|V' 8 r'<|c' (X.eql r' r') (fun h186=>?_) fun h186=>?_
  ·exact v' 13 r'<|G5 (i+1)<|A4a
  refine v' 7 r'<|have hp187:=F9 hp26;f' r' t'<|have hp188:=R9 hp187;f' r' t'<|s' hp188 r' fun v189 hs190=>have hl191:=hs190.le;v' 2 r'<|P5 (Q4 (i-1) runUnderlying28 sizeOf23 rfl rfl hs190 (by omega) (by omega)) (by decide) fun p192 hp193=>g' hp193 r' fun c194 hc195=>?_
  obtain rfl:=hc195
  refine n' zeroValue23 r' fun b196=>w' 0 r' r' r'<|v' 9 r' ?_
  refine I0 (fun(k:Nat)=>x.Drum.Stops.length-k) (fun k=>[blk b196 23 [J ((S8 x.Drum (i-1) k).Lo),J ((S8 x.Drum (i-1) k).Hi)],blk b76 104 [v73]]) (fun k=>[(1,J ticks),(3,Pt b22 0),(5,Pt b23 0),(7,Pt b76 0),(9,J i),(10,Pt b196 0),(11,J k),(95,.pointer (some (((⟨b23,0,none⟩:Addr)).add 1))),(96,v97),(97,J i),(98,.pointer (some (p100))),(99,J (gt c.Ticks i)),(100,J ticks),(101,.bool false),(104,Pt b76 0),(105,v73),(106,J i),(107,.pointer (some (p103))),(108,v105),(109,J (↑(gt (A0R x.Paper x.Trace x.Blots) i).length)),(110,.bool false),(111,.bool false),(128,.bool false)]) (fun k=>k≤x.Drum.Stops.length) 0 ?_ ?_
  ·exact Nat.zero_le _
  rintro k hF197
  try dsimp only at hF197
  refine have hk:=hF197;q' 4 r'<|have hp198:=F9 hp26;f' r' t'<|have hp199:=P3 hp198;f' r' t'<|s' hp199 r' fun v200 hs201=>have hl202:=hs201.le;l' hs201 r'<|c' (X.lss r' r') (fun h203=>?_) fun h203=>?_
  ·refine v' 9 r'<|have hp204:=F9 hp26;f' r' t'<|have hp205:=P3 hp204;f' r' t'<|s' hp205 r' fun v206 hs207=>have hl208:=hs207.le;v' 1 r'<|x' k hs207 r' r' fun p209 hp210=>have hp211:=B2Q hp210;f' r' t'<|i' hp211 r'<|v' 2 r'<|c' (X.eql r' r') (fun h212=>?_) fun h212=>?_
   ·refine v' 3 r'<|B4 24 [23] [23]<|Y' r' r' (A.f r')<|Y' r' r' (A.b 0 r' r' r')<|have hp213:=F9 hp26;Y' r' r' (A.f r')<|have hp214:=P3 hp213;Y' r' r' (A.f r')<|S' hp214 r' r' r' fun v215 hs216=>have hl217:=hs216.le;U' 1 r'<|X' k hs216 r' r' r' r' fun p218 hp219=>have hp220:=A6t hp219;Y' r' r' (A.f r')<|have hp221:=Z0 hp220;Y' r' r' (A.f r')<|Y' r' r' (A.i r' hp221)<|Y' r' r' (A5N rfl rfl)<|Y' r' r' (A.f r')<|Y' r' r' (A.b 0 r' r' r')<|have hp222:=F9 hp26;Y' r' r' (A.f r')<|have hp223:=P3 hp222;Y' r' r' (A.f r')<|S' hp223 r' r' r' fun v224 hs225=>have hl226:=hs225.le;U' 1 r'<|X' k hs225 r' r' r' r' fun p227 hp228=>have hp229:=A6t hp228;Y' r' r' (A.f r')<|have hp230:=W3 hp229;Y' r' r' (A.f r')<|Y' r' r' (A.i r' hp230)<|Y' r' r' (A5N rfl rfl)<|DW.x (V:=Value.agg [J (wr (((S8 x.Drum (i-1) k).Lo)+(((gt x.Drum.Stops k).Ticks).Lo))),J (wr (((S8 x.Drum (i-1) k).Hi)+(((gt x.Drum.Stops k).Ticks).Hi)))].toArray) r' r' (X.build zeroValue23 runUnderlying23 (H3 _ underlying23) rfl rfl) (by decide) ?_
    refine W' 0 r' r' r' r' r'<|V' 8 r' ?_
    have hgs_:=A8L (d:=x.Drum) (i:=i-1) (k:=k) (by omega)
    rw[show(wr (((S8 x.Drum (i-1) k).Lo)+(((gt x.Drum.Stops k).Ticks).Lo)))=(S8 x.Drum (i-1) (k+1)).Lo by rw[hgs_]]
    rw[show(wr (((S8 x.Drum (i-1) k).Hi)+(((gt x.Drum.Stops k).Ticks).Hi)))=(S8 x.Drum (i-1) (k+1)).Hi by rw[hgs_]]
    exact G5 (k+1)<|by omega
   refine v' 12 r' ?_
   have hgs_:=B0F (d:=x.Drum) (i:=i-1) (k:=k) (by omega)
   rw[←hgs_]
   exact G5 (k+1)<|by omega
  refine v' 9 r' ?_
  have hpr_:=(hall (i-1) (by omega)).1
  have hke_:k=x.Drum.Stops.length:=(by omega)
  rw[hke_]
  refine B4 13 [] []<|have hp231:=K3 hp29;Y' r' r' (A.f r')<|S' hp231 r' r' r' fun v232 hs233=>have hl234:=hs233.le;U' 1 r'<|X' i hs233 r' r' r' r' fun p235 hp236=>Y' r' r' (A.i r' hp236)<|have hp237:=K3 hp29;Y' r' r' (A.f r')<|S' hp237 r' r' r' fun v238 hs239=>have hl240:=hs239.le;U' 2 r'<|G9 r' r' (Q4 (i-1) runUnderlying27 sizeOf3 rfl rfl hs239 (by omega) (by omega)) (by decide) fun p241 hp242=>Y' r' r' (A.i r' hp242)<|U' 2 r'<|V' 4 r'<|f' r' t'<|b' 0 r' r' r'<|c' (X.lss r' r') (fun h243=>?_) fun h243=>?_
  ·exact v' 20 r'<|A0 r' r'<|A7<|F6
  refine v' 4 r'<|f' r' t'<|v' 1 r'<|b' 0 r' r' r'<|v' 1 r'<|c' (X.gtr r' r') (fun h244=>?_) fun h244=>?_
  ·exact v' 15 r'<|A0 r' r'<|A7<|F6
  exact v' 13 r'<|G5 (i+1)<|A4a
 refine v' 15 r' ?_
 refine I0 (fun(t:Nat)=>(ticks+1).toNat-t) (fun t=>[blk b76 104 [v73]]) (fun t=>[(1,J ticks),(3,Pt b22 0),(5,Pt b23 0),(13,J t)]) (fun t=>(t:Int)≤ticks+1∧∀j,j<t→A6C x c j) 0 ?_ ?_
 ·exact⟨by omega,fun j hj=>absurd hj (Nat.not_lt_zero _)⟩
 rintro t ⟨ht,htick⟩
 refine q' 5 r'<|c' (X.leq r' r') (fun h246=>?_) fun h246=>?_
 ·refine v' 9 r'<|have hp247:=T9 hp29;f' r' t'<|s' hp247 r' fun v248 hs249=>have hl250:=hs249.le;v' 1 r'<|x' t hs249 r' r' fun p251 hp252=>i' hp252 r'<|v' 4 r'<|B4 9 [] []<|have hp253:=J1 hp29;Y' r' r' (A.f r')<|S' hp253 r' r' r' fun v254 hs255=>have hl256:=hs255.le;U' 1 r'<|X' t hs255 r' r' r' r' fun p257 hp258=>Y' r' r' (A.i r' hp258)<|have hp259:=A1N hp29;Y' r' r' (A.f r')<|Y' r' r' (A.i r' hp259)<|Y' r' r' (A9O rfl rfl)<|U' 1 r'<|V' 5 r'<|c' (X.lss r' r') (fun h260=>?_) fun h260=>?_
  ·exact v' 53 r'<|A0 r' r'<|A7<|F6
  refine v' 4 r'<|c' (X.gtr r' r') (fun h261=>?_) fun h261=>?_
  ·exact v' 50 r'<|A0 r' r'<|A7<|F6
  refine v' 3 r'<|have hp262:=J1 hp29;f' r' t'<|v' 1 r'<|s' hp262 r' fun v263 hs264=>have hl265:=hs264.le;v' 3 r'<|x' t hs264 r' r' fun p266 hp267=>v' 1 r'<|i' hp267 r'<|v' 1 r'<|c' (X.lss r' r') (fun h268=>?_) fun h268=>?_
  ·exact v' 42 r'<|A0 r' r'<|A7<|F6
  refine v' 3 r'<|have hp269:=J1 hp29;f' r' t'<|v' 1 r'<|s' hp269 r' fun v270 hs271=>have hl272:=hs271.le;v' 3 r'<|x' t hs271 r' r' fun p273 hp274=>v' 1 r'<|i' hp274 r'<|v' 1 r'<|c' (X.gtr r' r') (fun h275=>?_) fun h275=>?_
  ·exact v' 34 r'<|A0 r' r'<|A7<|F6
  refine v' 2 r' ?_
  rw[A9q (a:=gt c.Levels t-c.Zero) (by omega) (by omega)]
  refine v' 7 r'<|have hp276:=J9 hp26;f' r' t'<|v' 1 r'<|have hp277:=A6B hp276;f' r' t'<|v' 1 r'<|i' hp277 r'<|v' 1 r'<|c' (X.gtr r' r') (fun h278=>?_) fun h278=>?_
  ·exact v' 25 r'<|A0 r' r'<|A7<|F6
  refine v' 9 r'<|have hp279:=J9 hp26;f' r' t'<|v' 1 r'<|have hp280:=A6B hp279;f' r' t'<|v' 1 r'<|i' hp280 r'<|v' 1 r'<|c' (X.gtr r' r') (fun h281=>?_) fun h281=>?_
  ·exact v' 16 r'<|A0 r' r'<|A7<|F6
  refine v' 8 r' ?_
  have hwr_:=A9q (a:=gt c.Levels t-c.Zero) (by omega) (by omega)
  refine q' 2 r'<|c' (X.eql r' r') (fun h282=>?_) fun h282=>?_
  ·exact v' 13 r'<|G5 (t+1)<|A9t
  refine v' 6 r' ?_
  have hpt_:=(htick (t-1) (by omega)).1
  refine B4 13 [] []<|have hp283:=J1 hp29;Y' r' r' (A.f r')<|S' hp283 r' r' r' fun v284 hs285=>have hl286:=hs285.le;U' 1 r'<|X' t hs285 r' r' r' r' fun p287 hp288=>Y' r' r' (A.i r' hp288)<|have hp289:=J1 hp29;Y' r' r' (A.f r')<|S' hp289 r' r' r' fun v290 hs291=>have hl292:=hs291.le;U' 2 r'<|G9 r' r' (Q4 (t-1) runUnderlying27 sizeOf3 rfl rfl hs291 (by omega) (by omega)) (by decide) fun p293 hp294=>Y' r' r' (A.i r' hp294)<|U' 2 r'<|V' 2 r'<|B4 28 [] []<|U' 1 r'<|have hp295:=J9 hp26;Y' r' r' (A.f r')<|have hp296:=B4a hp295;Y' r' r' (A.f r')<|Y' r' r' (A.i r' hp296)<|C' r' r' (X.gtr r' r') (fun h297=>?_) fun h297=>?_
  ·exact U' 23 r'<|V' 13 r'<|A0 r' r'<|A7<|F6
  refine U' 2 r'<|Y' r' r' (X.neg rfl (by omega) (by omega))<|have hp298:=J9 hp26;Y' r' r' (A.f r')<|have hp299:=B4a hp298;Y' r' r' (A.f r')<|Y' r' r' (A.i r' hp299)<|C' r' r' (X.gtr r' r') (fun h300=>?_) fun h300=>?_
  ·exact U' 16 r'<|V' 13 r'<|A0 r' r'<|A7<|F6
  refine U' 3 r'<|have hp301:=J9 hp26;Y' r' r' (A.f r')<|have hp302:=A6B hp301;Y' r' r' (A.f r')<|Y' r' r' (A.i r' hp302)<|have hp303:=T9 hp29;Y' r' r' (A.f r')<|S' hp303 r' r' r' fun v304 hs305=>have hl306:=hs305.le;U' 2 r'<|G9 r' r' (Q4 (t-1) runUnderlying27 sizeOf3 rfl rfl hs305 (by omega) (by omega)) (by decide) fun p307 hp308=>Y' r' r' (A.i r' hp308)<|U' 1 r'<|Y' r' r' (X.call call30 rfl (C3m _ _ _ _ (by omega) (by omega))) ?_
  refine A0h rfl rfl (X.neq rfl rfl) (by decide) (fun h309=>?_) (fun h309=>?_)
  ·exact U' 1 r'<|V' 13 r'<|A0 r' r'<|A7<|F6
  exact U' 1 r'<|V' 11 r'<|G5 (t+1)<|A9t
 exact v' 14 r'<|A0 r' r'<|A7<|F6
end Go.Proofs.T10
