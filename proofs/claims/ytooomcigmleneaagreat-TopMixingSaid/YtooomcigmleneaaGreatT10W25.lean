import Derived.Test.YtooomcigmleneaaGreatKxW
import Derived.Test.YtooomcigmleneaaGreatKyP
import Derived.Test.YtooomcigmleneaaGreatT10Ty
import Derived.Test.YtooomcigmleneaaGreatKxU
import Derived.Test.YtooomcigmleneaaGreatT10KWalk2
import Derived.Test.YtooomcigmleneaaGreatT10W22
import Derived.Test.YtooomcigmleneaaGreatT10W21
set_option linter.all false
set_option maxHeartbeats 4000000
namespace Go.Proofs.T10
open Tryz
set_option maxRecDepth 20000
open Go Go.Kx
theorem B5q{G:Prop}(h:G:=by first|exact C9 (by omega)|exact A9 (by omega)|exact D5 (by omega)|exact D5 ⟨fun h=>⟨by omega,h⟩,fun h=>h.2⟩):G:=h
theorem A5u(m:Mem)(cs:List Value)(s:Span)(hs:Enc.rd m cs s)(n:Int):Exact prog 55 #[.agg cs.toArray,J n] m (.bool (decide (s.Lo≤n∧n≤s.Hi))):=by
 obtain rfl:=hs
 refine C7 func55 r' ntmps55 fun wld=>q' 2 r'<|o' r' r' fun b1=>v' 5 r'<|f' r' t'<|b' 0 r' r' r'<|v' 1 r'<|c' (X.leq r' r') (fun h2=>?_) fun h2=>?_
 ·exact v' 4 r'<|f' r' t'<|v' 1 r'<|b' 0 r' r' r'<|v' 7 r'<|A0 r' r'<|A7<|B5q
 exact v' 10 r'<|A0 r' r'<|A7<|B5q
theorem C6L(m:Mem)(cs:List Value)(s:Span)(hs:Enc.rd m cs s){pn:Addr}{n:Int}(hpn:At m pn n):Exact prog 179 #[.agg cs.toArray,.pointer (some pn)] m (.bool (decide (s.Lo≤n∧n≤s.Hi))):=by
 obtain rfl:=hs
 refine C7 func179 r' ntmps179 fun wld=>q' 2 r'<|o' r' r' fun b1=>v' 5 r'<|a' 0 r' r'<|i' hpn r'<|y' (X.call call55 rfl (A5u _ _ s rfl _))<|v' 4 r'<|A0 r' r'<|A7 ?_
 first|rfl|(simp[*];done)
theorem C6M(m:Mem)(vl:Value)(l:List Span)(hl:Sl m vl l)(n:Int):Exact prog 100 #[vl,J n] m (.bool (decide (inP l n))):=by
 exact have ll:=hl.le;C7 func100 r' ntmps100 fun wld=>q' 2 r'<|o' r' r' fun b1=>v' 4 r'<|fz (x:=n) 0 r' r' r' fun m2 hle3 hp4=>have hl:=hl.mono hle3;q' 2 r'<|y' (X.makeFunc (by intro x hx;simp at hx;subst hx;all_goals exact⟨_,rfl⟩) rfl)<|y' (X.call call178 rfl (B0M (p:=fun i=>(gt l i).Lo≤n∧n≤(gt l i).Hi) _ hl (caps:=[Pt b1 0]) call179 (fun i _=>C6L _ _ (gt l i) rfl hp4)))<|v' 4 r'<|A0 r' r'<|A7<|D5 C3Q
theorem B2g{G:Prop}(h:G:=by first|exact A8 (A0K (by omega) hall (by assumption)).symm|exact A8 (A0t (fun j hj=>hall j (by omega))).symm):G:=h
theorem C6N(m:Mem){vl:Value}{l:List ReadT}(hl:Sl m vl l){fn:Nat}{caps:List Value}{p:Nat→Prop}[DecidablePred p](hE:Enters prog fn)(hcl:(∀i,i<l.length→Exact prog fn (#[.agg (Flat.enc (gt l i)).toArray]++caps.toArray) m (.bool (decide (p i))))):Exact prog 174 #[vl,.func (.func fn) #[] caps.toArray] m (J (V8 p l.length)):=by
 refine have hll:=hl.le;C7 func174 r' ntmps174 fun wld=>q' 9 r'<|l' hl r'<|v' 4 r' ?_
 refine I0 (fun(k:Nat)=>l.length-k) (fun k=>[]) (fun k=>[(0,vl),(1,.func (.func fn) #[] caps.toArray),(7,J l.length),(8,J k)]) (fun k=>k≤l.length∧(∀j,j<k→¬p j)) 0 ?_ ?_
 ·exact⟨Nat.zero_le _,fun j hj=>absurd hj (Nat.not_lt_zero _)⟩
 rintro k ⟨hk,hall⟩
 refine q' 2 r'<|c' (X.lss r' r') (fun h2=>?_) fun h2=>?_
 ·refine v' 19 r'<|x' k hl r' r' fun p3 hp4=>g' hp4 r' fun c5 hc6=>?_
  obtain rfl:=hc6
  refine c' (D6 hE rfl rfl (hcl k (by omega))) (fun h7=>?_) fun h7=>?_
  ·exact v' 15 r'<|A0 r' r'<|A7<|B2g
  exact v' 11 r'<|G5 (k+1)<|⟨by omega,fun j hj=>by rcases Nat.lt_succ_iff_lt_or_eq.1 hj with h|h;exact hall j h;subst h;assumption⟩
 exact v' 15 r'<|A0 r' r'<|A7<|B2g
theorem B9w(m:Mem){vl:Value}{l:List ReadT}(hl:Sl m vl l){fn:Nat}{caps:List Value}{p:Nat→Prop}[DecidablePred p](hE:Enters prog fn)(hcl:(∀i,i<l.length→Exact prog fn (#[.agg (Flat.enc (gt l i)).toArray]++caps.toArray) m (.bool (decide (p i))))):Exact prog 92 #[vl,.func (.func fn) #[] caps.toArray] m (.bool (decide (¬∀i,i<l.length→¬p i))):=by
 exact have hll:=hl.le;C7 func92 r' ntmps92 fun wld=>q' 9 r'<|y' (X.call call174 rfl (C6N _ hl hE hcl))<|v' 5 r'<|A0 r' r'<|A7<|D5 (A5I p l.length)
theorem B4u(m:Mem)(va:Value)(a:List Int)(ha:Sl m va a)(vb:Value)(b:List Int)(hb:Sl m vb b):Exact prog 180 #[va,vb] m (.bool (decide (a=b))):=by
 refine have la:=ha.le;have lb:=hb.le;have hla_:=ha.le;have hlb_:=hb.le;C7 func180 r' ntmps180 fun wld=>q' 9 r'<|l' ha r'<|v' 1 r'<|l' hb r'<|e' (X.neq r' r') (fun h1=>?_) fun h1=>?_
 ·exact v' 10 r'<|A0 r' r'<|A7<|A9 (fun e=>by subst e;omega)
 refine v' 9 r'<|l' ha r'<|v' 4 r' ?_
 refine I0 (fun(k:Nat)=>a.length-k) (fun k=>[]) (fun k=>[(0,va),(1,vb),(12,J a.length),(13,J k)]) (fun k=>k≤a.length∧(∀j,j<k→gt a j=gt b j)) 0 ?_ ?_
 ·exact⟨Nat.zero_le _,fun j hj=>absurd hj (Nat.not_lt_zero _)⟩
 rintro k ⟨hk,hall⟩
 refine q' 2 r'<|c' (X.lss r' r') (fun h3=>?_) fun h3=>?_
 ·refine v' 15 r'<|B4 9 [] []<|U' 2 r'<|X' k ha r' r' r' r' fun p4 hp5=>Y' r' r' (A.i r' hp5)<|U' 2 r'<|X' k hb r' r' r' r' fun p6 hp7=>Y' r' r' (A.i r' hp7) ?_
  refine A0h rfl rfl (X.neq rfl rfl) (by decide) (fun h8=>?_) (fun h8=>?_)
  ·exact V' 13 r'<|A0 r' r'<|A7<|A9 (fun e=>by subst e;contradiction)
  exact V' 10 r'<|G5 (k+1)<|⟨by omega,fun j hj=>by rcases Nat.lt_succ_iff_lt_or_eq.1 hj with h|h;exact hall j h;subst h;(first|assumption|(apply Classical.byContradiction;assumption))⟩
 exact v' 15 r'<|A0 r' r'<|A7<|C9 (A1P (by omega) (fun j hj=>hall j (by omega)))
theorem A1K{G:Prop}(h:G:=by first|exact A8 (B4M (by omega)).symm|exact A8 (B8t (by omega) (by omega)).symm|exact A8 (C0E (by omega) (by omega) (by first|exact .inl (by omega)|exact .inr (by assumption))).symm|exact A8 (C4L (by omega) (by omega) (by omega) (by first|assumption|(apply Classical.byContradiction;assumption))).symm):G:=h
theorem B9T(m:Mem)(cp:List Value)(p:Pen)(hp:Enc.rd m cp p)(vl:Value)(l:List Moment)(hl:Sl m vl l)(hl1:l.length≤1000):Exact prog 102 #[.agg cp.toArray,vl] m (J (A4G p l)):=by
 obtain rfl:=hp
 refine have ll:=hl.le;C7 func102 r' ntmps102 fun wld=>q' 2 r'<|o' r' r' fun b1=>v' 4 r'<|G7 Int 3<|G7 Int 3<|q' 9 r'<|l' hl r'<|v' 4 r' ?_
 refine lq3 (fun(k:Nat) (va:Value) (vb:Value)=>l.length-k) (fun k va vb=>[A5 (vb) 3 (M1 l k),A5 (va) 3 (G8 l k),blk b1 33 [J p.Band,J p.Zero.Lo,J p.Zero.Hi,J p.Rate]]) (fun k va vb=>[(2,Pt b1 0),(5,va),(6,vb),(13,vl),(14,J l.length),(15,J k)]) (fun k va vb=>k≤l.length) 0 (Value.slice none 0 0) (Value.slice none 0 0) ?_ ?_
 ·exact Nat.zero_le _
 rintro k va vb hF2
 try dsimp only at hF2
 have hk:=hF2
 refine K6 (fun hgood0=>?_)
 have hka_:(G8 l k).length=k:=C4 _ _
 have hkb_:(M1 l k).length=k:=C4 _ _
 refine q' 2 r'<|c' (X.lss r' r') (fun h3=>?_) fun h3=>?_
 ·refine v' 10 r'<|x' k hl r' r' fun p4 hp5=>g' hp5 r' fun c6 hc7=>?_
  obtain rfl:=hc7
  refine n' zeroValue172 r' fun b8=>w' 0 r' r' r'<|v' 2 r'<|fz (x:=gt l k) 0 r' r' r' fun m9 hle10 hp11=>K7 (π:=sq [0,1,2,5,6,7] (.fork (.cons 3 (.fork (sq [4,8,9,10,11] .done) (sq [8,4,9,10,11] .done))) (sq [8,3,4,9,10,11] .done))) [3,4,8,9] [4,9,100006,100007] r' (by kernel_rfl)<|U' 1 r'<|have hp12:=B4N hp11;Y' r' r' (A.f r')<|Y' r' r' (A.i r' hp12)<|U' 1 r'<|have hp13:=B4Q hp11;H6 r' r' r' (fun _ _ hle_=>(X.field runUnderlying172 rfl sizeOf3 rfl)) (by decide)<|H6 r' r' r' (fun _ _ hle_=>(A2m isAgg3 rfl (hp13.mono hle_))) (by decide) ?_
  refine DW.fork (List.cons_ne_nil _ _) ?_ ?_
  ·refine P4 rfl rfl rfl (E6 L6 rfl rfl rfl (by decide)) (by decide) fun b14=>?_
   refine DW.fork (List.cons_ne_nil _ _) ?_ ?_
   ·refine V0 rfl rfl rfl rfl (E2 (k:=1) (a:=(gt l k).Shown) L6 rfl rfl rfl rfl (by first|omega|(simp;done)|(simp;omega)) (by decide)) (by decide) (fun v15=>?_)
    refine P4 rfl rfl rfl (E6 L6 rfl rfl rfl (by decide)) (by decide) fun b16=>?_
    refine V0 rfl rfl rfl rfl (E2 (k:=0) (a:=(gt l k).Real) L6 rfl rfl rfl rfl (by first|omega|(simp;done)|(simp;omega)) (by decide)) (by decide) (fun v17=>?_)
    refine U' 2 r'<|V' 7 r'<|E5 hgood0 hle10 ?_
    have he18:((G8 l k)++[(gt l k).Shown])=(G8 l (k+1)):=(L4 _ _).symm
    rw[he18]
    have he19:((M1 l k)++[(gt l k).Real])=(M1 l (k+1)):=(L4 _ _).symm
    rw[he19]
    exact X1 (k+1) v15 v17<|by omega
   refine P4 rfl rfl rfl (E6 L6 rfl rfl rfl (by decide)) (by decide) fun b20=>?_
   refine V0 rfl rfl rfl rfl (OpTo.perm (H':=[blk b14 3 [J ((gt l k).Shown)],blk b20 3 [J ((gt l k).Real)],A5 (vb) 3 (M1 l k),A5 (va) 3 (G8 l k),blk b1 33 [J p.Band,J p.Zero.Lo,J p.Zero.Hi,J p.Rate]]) (List.perm_middle (l₁:=[blk b20 3 [J ((gt l k).Real)]]) (l₂:=[A5 (vb) 3 (M1 l k),A5 (va) 3 (G8 l k),blk b1 33 [J p.Band,J p.Zero.Lo,J p.Zero.Hi,J p.Rate]]) (a:=blk b14 3 [J ((gt l k).Shown)])).symm (E2 (k:=2) (a:=(gt l k).Shown) L6 rfl rfl rfl rfl (by first|omega|(simp;done)|(simp;omega)) (by decide))) (by decide) (fun v21=>?_)
   refine V0 rfl rfl rfl rfl (E2 (k:=0) (a:=(gt l k).Real) L6 rfl rfl rfl rfl (by first|omega|(simp;done)|(simp;omega)) (by decide)) (by decide) (fun v22=>?_)
   refine U' 2 r'<|V' 7 r'<|E5 hgood0 hle10 ?_
   have he23:((G8 l k)++[(gt l k).Shown])=(G8 l (k+1)):=(L4 _ _).symm
   rw[he23]
   have he24:((M1 l k)++[(gt l k).Real])=(M1 l (k+1)):=(L4 _ _).symm
   rw[he24]
   exact X1 (k+1) v21 v22<|by omega
  refine P4 r' r' r' (E6 L6 rfl rfl rfl (by decide)) (by decide) fun b25=>P4 r' r' r' (E6 L6 rfl rfl rfl (by decide)) (by decide) fun b26=>?_
  refine V0 rfl rfl rfl rfl (E2 (k:=2) (a:=(gt l k).Shown) L6 rfl rfl rfl rfl (by first|omega|(simp;done)|(simp;omega)) (by decide)) (by decide) (fun v27=>?_)
  refine V0 rfl rfl rfl rfl (E2 (k:=0) (a:=(gt l k).Real) L6 rfl rfl rfl rfl (by first|omega|(simp;done)|(simp;omega)) (by decide)) (by decide) (fun v28=>?_)
  refine U' 2 r'<|V' 7 r'<|E5 hgood0 hle10 ?_
  have he29:((G8 l k)++[(gt l k).Shown])=(G8 l (k+1)):=(L4 _ _).symm
  rw[he29]
  have he30:((M1 l k)++[(gt l k).Real])=(M1 l (k+1)):=(L4 _ _).symm
  rw[he30]
  exact X1 (k+1) v27 v28<|by omega
 refine v' 11 r' ?_
 have hkk_:k=l.length:=(by omega)
 have he31:(G8 l k)=(G8 l l.length):=(by rw[hkk_])
 rw[he31]
 refine E1 1 rfl rfl (by first|(unfold G8;rw[C4];unfold C8;omega)|(unfold M1;rw[C4];unfold C8;omega)) (fun m32 hle33 hs34=>?_)
 have he35:(M1 l k)=(M1 l l.length):=(by rw[hkk_])
 rw[he35]
 refine E1 0 rfl rfl (by first|(unfold G8;rw[C4];unfold C8;omega)|(unfold M1;rw[C4];unfold C8;omega)) (fun m36 hle37 hs38=>?_)
 replace hs34:=hs34.mono hle37
 have hsl_:(G8 l l.length).length=l.length:=C4 _ _
 have hrl_:(M1 l l.length).length=l.length:=C4 _ _
 refine q' 1 r'<|a' 0 r' r'<|v' 1 r'<|y' (X.call call31 rfl (C0v _ _ p rfl _ _ hs34))<|v' 6 r'<|e' (X.neq r' r') (fun h39=>?_) fun h39=>?_
 ·exact v' 11 r'<|A0 r' r'<|A7<|A1K
 refine v' 9 r'<|y' (X.call call69 rfl (B4v _ _ _ hs38))<|v' 6 r'<|e' (X.neq r' r') (fun h40=>?_) fun h40=>?_
 ·exact v' 11 r'<|A0 r' r'<|A7<|A1K
 refine v' 7 r' ?_
 have hle_:=B7c (p:=p) (l:=G8 l l.length) (by omega)
 refine have hln_:=hle_.2.1;B4 11 [5] []<|Y' r' r' (K4 0 r' r' r')<|U' 1 r'<|X' 0 hs34 r' r' r' r' fun p41 hp42=>Y' r' r' (A.i r' hp42)<|U' 1 r'<|A1V r' r' r' (T.call call23 rfl (B4b _ _ p rfl _ _ _ hs38)) (by decide) fun m43 r44 hle45 hR46=>?_
 obtain⟨v47,rfl,hs48⟩:=hR46
 refine have hs34:=hs34.mono hle45;have hl49:=hs48.le;U' 5 r'<|V' 4 r'<|e' (X.neq r' r') (fun h50=>?_) fun h50=>?_
 ·exact v' 16 r'<|A0 r' r'<|A7<|A1K
 refine v' 6 r'<|c' (X.call call180 rfl (B4u _ _ _ hs48 _ _ hs34)) (fun h51=>?_) fun h51=>?_
 ·exact v' 14 r'<|A0 r' r'<|A7<|A1K
 exact v' 13 r'<|A0 r' r'<|A7<|A1K
end Go.Proofs.T10
namespace Go.Proofs.T10
open Tryz
set_option maxRecDepth 20000
open Go Go.Kx
theorem C4o(m:Mem)(cx:List Value)(x:Sheet)(hx:Enc.rd m cx x):Pure prog 95 #[.agg cx.toArray] m (fun m' v=>∃r0,v= .agg r0.toArray∧Enc.rd m' r0 (Inked.mk (A0R x.Paper x.Trace x.Blots))):=by
 obtain⟨v1,v3,v5,v7,rfl,hs2,hs4,hs6,hs8⟩:=hx
 refine have hl9:=hs2.le;have hl10:=hs4.le;have hl11:=hs6.le;have hl12:=hs8.le;H7 func95 r' ntmps95 fun wld=>q' 2 r'<|o' r' r' fun b13=>n' zeroValue104 r' fun b14=>v' 4 r'<|f' r' t'<|y' (J2 (k:=1) (vs:=[J x.Paper.Pitch,J x.Paper.Height,J x.Paper.Radius,J x.Paper.Low,J x.Paper.High,J x.Paper.Columns,J x.Paper.Along.Lo,J x.Paper.Along.Hi,J x.Paper.Across.Lo,J x.Paper.Across.Hi]) isAgg25 sizeOf25 rfl rfl rfl rfl)<|f' r' t'<|b' 1 r' r' r'<|f' r' t'<|b' 1 r' r' r' ?_
 refine D1 (T.call call28 rfl (B6i _ _ x.Paper rfl _ _ hs2 _ _ hs4)) (by decide) (fun m15 _ hle16 hR_=>?_)
 obtain⟨_,rfl,v17,rfl,hs18⟩:=hR_
 replace hs18:Sl m15 v17 (A0R x.Paper x.Trace x.Blots):=hs18
 exact have hl19:=hs18.le;v' 3 r'<|n' zeroValue104 r' fun b20=>w' 0 r' r' r'<|v' 5 r'<|a' 0 r' r'<|w' 1 r' r' r'<|v' 3 r'<|T3 1 r' r' r' isAgg104 sizeOf104<|C5<|⟨_,rfl,⟨_,rfl,hs18⟩⟩
theorem C5k(m:Mem)(cw:List Value)(w:WeekT)(hw:Enc.rd m cw w)(cf:List Value)(f:FiledT)(hf:Enc.rd m cf f)(station:Int)(hpe:Y3 f.Sheet.Pen)(hrl:w.Reads.length≤1000)(hdl:f.Sheet.Drum.Rates.length≤1000):Pure prog 40 #[.agg cw.toArray,.agg cf.toArray,J station] m (fun m' v=>∃(p:Addr) (ix:RawV),v= .pointer (some p)∧At m' p (A7y w f station ix)):=by
 obtain⟨v1,v3,v5,rfl,hs2,hs4,hs6⟩:=hw
 have hl7:=hs2.le
 have hl8:=hs4.le
 have hl9:=hs6.le
 obtain⟨v10,v12,v14,v16,v18,v20,rfl,hs11,hs13,hs15,hs17,hs19,hs21⟩:=hf
 have hl22:=hs11.le
 have hl23:=hs13.le
 have hl24:=hs15.le
 have hl25:=hs17.le
 have hl26:=hs19.le
 have hl27:=hs21.le
 have hpe_:=hpe
 unfold Y3 at hpe_
 refine H7 func40 r' ntmps40 fun wld=>q' 2 r'<|o' r' r' fun b28=>o' r' r' fun b29=>v' 4 r'<|fz (x:=w) 1 r' r' ⟨_,_,_,rfl,hs2,hs4,hs6⟩ fun m30 hle31 hp32=>have hs11:=hs11.mono hle31;have hs13:=hs13.mono hle31;have hs15:=hs15.mono hle31;have hs17:=hs17.mono hle31;have hs19:=hs19.mono hle31;have hs21:=hs21.mono hle31;fz (x:=f) 0 r' r' ⟨_,_,_,_,_,_,rfl,hs11,hs13,hs15,hs17,hs19,hs21⟩ fun m33 hle34 hp35=>have hp32:=hp32.mono hle34;q' 1 r'<|have hp36:=A3j hp35;f' r' t'<|g' hp36 r' fun c37 hc38=>?_
 obtain⟨v39,v41,v43,v45,rfl,hs40,hs42,hs44,hs46⟩:=hc38
 refine have hl47:=hs40.le;have hl48:=hs42.le;have hl49:=hs44.le;have hl50:=hs46.le;have hp51:=A1M hp35;f' r' t'<|s' hp51 r' fun v52 hs53=>have hl54:=hs53.le;have hp55:=K9 hp32;f' r' t'<|have hp56:=W2 hp55;f' r' t'<|i' hp56 r' ?_
 refine O4 T.makeMap (by decide) (fun v_ m_ H_ hz_=>?_)
 obtain⟨hm_,b57,rfl,rfl⟩:=hz_
 rw[hm_]
 refine WL.y (V:=Value.agg [J f.Sheet.Paper.Pitch,J f.Sheet.Paper.Height,J f.Sheet.Paper.Radius,J f.Sheet.Paper.Low,J f.Sheet.Paper.High,J f.Sheet.Paper.Columns,J f.Sheet.Paper.Along.Lo,J f.Sheet.Paper.Along.Hi,J f.Sheet.Paper.Across.Lo,J f.Sheet.Paper.Across.Hi,v39,v41,v43,v45,J f.Sheet.Pen.Band,J f.Sheet.Pen.Zero.Lo,J f.Sheet.Pen.Zero.Hi,J f.Sheet.Pen.Rate,v52,S0,J w.Base.Ticks,S0,S0,S0,.map (some b57),S0].toArray) (X.build zeroValue218 runUnderlying218 (B8A _ underlying218) rfl (by simp only[Instr.fill,F4 hs53.one,F4 hs40.one,F4 hs42.one,F4 hs44.one,F4 hs46.one];kernel_rfl)) ?_
 refine o' r' r' fun b58=>v' 5 r'<|G7 ReadT 196<|G7 Span 23<|G7 Int 3<|q' 1 r'<|have hp59:=A2x hp32;f' r' t'<|s' hp59 r' fun v60 hs61=>have hl62:=hs61.le;l' hs61 r'<|v' 4 r' ?_
 refine O6 (fun(k:Nat) (va:Value)=>w.Reads.length-k) (fun k va=>[A5 (((S0))) 3 (([]:List Int)),A5 ((S0)) 23 (([]:List Span)),A5 (va) 196 (I1 w.Reads station k),blk b58 218 [J f.Sheet.Paper.Pitch,J f.Sheet.Paper.Height,J f.Sheet.Paper.Radius,J f.Sheet.Paper.Low,J f.Sheet.Paper.High,J f.Sheet.Paper.Columns,J f.Sheet.Paper.Along.Lo,J f.Sheet.Paper.Along.Hi,J f.Sheet.Paper.Across.Lo,J f.Sheet.Paper.Across.Hi,v39,v41,v43,v45,J f.Sheet.Pen.Band,J f.Sheet.Pen.Zero.Lo,J f.Sheet.Pen.Zero.Hi,J f.Sheet.Pen.Rate,v52,va,J w.Base.Ticks,S0,(S0),S0,.map (some b57),((S0))],D7 b57 (.map #[] 0)]) (fun k va=>[(2,J station),(7,Pt b58 0),(25,v60),(26,J w.Reads.length),(27,J k)]) (fun k va=>k≤w.Reads.length) 0 (Value.slice none 0 0) ?_ ?_
 ·exact Nat.zero_le _
 rintro k va hF63
 try dsimp only at hF63
 have hk:=hF63
 refine K6 (fun hgood0=>?_)
 refine have hrk_:=A3w (l:=w.Reads) (st:=station) k;q' 2 r'<|c' (X.lss r' r') (fun h64=>?_) fun h64=>?_
 ·refine v' 10 r'<|x' k hs61 r' r' fun p65 hp66=>g' hp66 r' fun c67 hc68=>?_
  obtain rfl:=hc68
  refine n' zeroValue196 r' fun b69=>w' 0 r' r' r'<|v' 3 r'<|fz (x:=gt w.Reads k) 0 r' r' r' fun m70 hle71 hp72=>have hs40:=hs40.mono hle71;have hs42:=hs42.mono hle71;have hs44:=hs44.mono hle71;have hs46:=hs46.mono hle71;have hs53:=hs53.mono hle71;q' 1 r'<|have hp73:=A1C hp72;f' r' t'<|i' hp73 r'<|v' 1 r'<|c' (X.eql r' r') (fun h74=>?_) fun h74=>?_
  ·refine v' 3 r'<|B4 11 [6,7,10] [7,10]<|U' 3 r'<|Y' r' r' (A.f r')<|Y' r' r' (A.b 3 r' r' r')<|G' hp72 r' r' r' fun c75 hc76=>?_
   obtain rfl:=hc76
   refine P4 rfl rfl rfl (E6 B0T rfl rfl rfl (by decide)) (by decide) fun b77=>?_
   refine V0 rfl rfl rfl rfl (E2 (k:=2) (a:=gt w.Reads k) B0T rfl rfl rfl rfl (by first|omega|(simp;done)|(simp;omega)) (by decide)) (by decide) (fun v78=>?_)
   refine U' 1 r'<|Y' r' r' (A.f r')<|B3 r' r' r' r' (W8 (k:=2) rfl trivial (D0 rfl rfl rfl) fun ho79=>T.storeB (k:=3) sizeOf55 rfl rfl rfl ho79 (Nat.le_of_ble_eq_true rfl))<|V' 7 r'<|E5 hgood0 hle71 ?_
   have he80:((I1 w.Reads station k)++[gt w.Reads k])=(I1 w.Reads station (k+1)):=(by first|exact A6L (by assumption)|exact A6U (by assumption))
   rw[he80]
   exact J7 (k+1) v78<|by omega
  refine v' 11 r'<|E5 hgood0 hle71 ?_
  have he81:(I1 w.Reads station k)=(I1 w.Reads station (k+1)):=(by first|exact A6L (by assumption)|exact A6U (by assumption))
  rw[he81]
  exact J7 (k+1) va<|by omega
 refine v' 10 r' ?_
 have he82:(I1 w.Reads station k)=(I1 w.Reads station w.Reads.length):=(by rw[show k=w.Reads.length by omega])
 rw[he82]
 refine q' 4 r'<|f' r' t'<|y' (J2 (k:=3) (vs:=[J f.Sheet.Paper.Pitch,J f.Sheet.Paper.Height,J f.Sheet.Paper.Radius,J f.Sheet.Paper.Low,J f.Sheet.Paper.High,J f.Sheet.Paper.Columns,J f.Sheet.Paper.Along.Lo,J f.Sheet.Paper.Along.Hi,J f.Sheet.Paper.Across.Lo,J f.Sheet.Paper.Across.Hi,v39,v41,v43,v45,J f.Sheet.Pen.Band,J f.Sheet.Pen.Zero.Lo,J f.Sheet.Pen.Zero.Hi,J f.Sheet.Pen.Rate]) isAgg35 sizeOf35 rfl rfl rfl rfl)<|D1 (T.call call95 rfl (C4o _ _ f.Sheet ⟨_,_,_,_,rfl,hs40,hs42,hs44,hs46⟩)) (by decide) fun m83 r84 hle85 hR86=>?_
 obtain⟨c87,rfl,hc88⟩:=hR86
 replace hs40:=hs40.mono hle85
 replace hs42:=hs42.mono hle85
 replace hs44:=hs44.mono hle85
 replace hs46:=hs46.mono hle85
 replace hs53:=hs53.mono hle85
 obtain⟨v89,rfl,hs90⟩:=hc88
 refine have hl91:=hs90.le;y' (B4l runUnderlying104 rfl sizeOf67 rfl isAgg67 rfl)<|v' 1 r'<|f' r' t'<|I2 (T.storeB (k:=3) sizeOf67 rfl rfl rfl hs90.one (Nat.le_of_ble_eq_true rfl))<|v' 7 r'<|f' r' t'<|f' r' t'<|f' r' t'<|b' 3 r' r' r'<|l' hs44 r'<|v' 4 r' ?_
 refine O6 (fun(i:Nat) (vb:Value)=>f.Sheet.Drum.Rates.length-i) (fun i vb=>[A5 (((S0))) 3 (([]:List Int)),A5 (vb) 23 (A2v f.Sheet.Drum i),A5 (va) 196 (I1 w.Reads station w.Reads.length),blk b58 218 [J f.Sheet.Paper.Pitch,J f.Sheet.Paper.Height,J f.Sheet.Paper.Radius,J f.Sheet.Paper.Low,J f.Sheet.Paper.High,J f.Sheet.Paper.Columns,J f.Sheet.Paper.Along.Lo,J f.Sheet.Paper.Along.Hi,J f.Sheet.Paper.Across.Lo,J f.Sheet.Paper.Across.Hi,v39,v41,v43,v45,J f.Sheet.Pen.Band,J f.Sheet.Pen.Zero.Lo,J f.Sheet.Pen.Zero.Hi,J f.Sheet.Pen.Rate,v52,va,J w.Base.Ticks,v89,vb,S0,.map (some b57),((S0))],D7 b57 (.map #[] 0)]) (fun i vb=>[(7,Pt b58 0),(61,J f.Sheet.Drum.Rates.length),(62,J i)]) (fun i vb=>i≤f.Sheet.Drum.Rates.length) 0 (Value.slice none 0 0) ?_ ?_
 ·exact Nat.zero_le _
 rintro i vb hF92
 try dsimp only at hF92
 have hi:=hF92
 refine K6 (fun hgood1=>?_)
 have hgi_:(A2v f.Sheet.Drum i).length=i:=C4 _ _
 refine q' 2 r'<|c' (X.lss r' r') (fun h93=>?_) fun h93=>?_
 ·refine v' 18 r'<|f' r' t'<|f' r' t'<|y' (J2 (k:=3) (vs:=[v43,v45]) isAgg31 sizeOf31 rfl rfl rfl rfl)<|v' 1 r'<|y' (X.call call96 rfl (C7o _ _ f.Sheet.Drum ⟨_,_,rfl,hs44,hs46⟩ _))<|v' 3 r'<|n' zeroValue23 r' fun b94=>w' 0 r' r' r'<|v' 3 r'<|fz (x:=(A2X f.Sheet.Drum ↑i).1) 0 r' r' r' fun m95 hle96 hp97=>have hs40:=hs40.mono hle96;have hs42:=hs42.mono hle96;have hs44:=hs44.mono hle96;have hs46:=hs46.mono hle96;have hs53:=hs53.mono hle96;have hs90:=hs90.mono hle96;B4 11 [6,7,10] [7,10]<|U' 3 r'<|Y' r' r' (A.f r')<|Y' r' r' (A.b 3 r' r' r')<|G' hp97 r' r' r' fun c98 hc99=>?_
  obtain rfl:=hc99
  refine P4 rfl rfl rfl (E6 Q7 rfl rfl rfl (by decide)) (by decide) fun b100=>?_
  refine V0 rfl rfl rfl rfl (E2 (k:=1) (a:=(A2X f.Sheet.Drum ↑i).1) Q7 rfl rfl rfl rfl (by first|omega|(simp;done)|(simp;omega)) (by decide)) (by decide) (fun v101=>?_)
  refine U' 1 r'<|Y' r' r' (A.f r')<|B3 r' r' r' r' (W8 (k:=1) rfl trivial (D0 rfl rfl rfl) fun ho102=>T.storeB (k:=3) sizeOf28 rfl rfl rfl ho102 (Nat.le_of_ble_eq_true rfl))<|V' 7 r'<|E5 hgood1 hle96 ?_
  have he103:((A2v f.Sheet.Drum i)++[(A2X f.Sheet.Drum ↑i).1])=(A2v f.Sheet.Drum (i+1)):=(L4 _ _).symm
  rw[he103]
  exact J7 (i+1) v101<|by omega
 refine v' 11 r' ?_
 have he104:(A2v f.Sheet.Drum i)=(A2v f.Sheet.Drum f.Sheet.Drum.Rates.length):=(by rw[show i=f.Sheet.Drum.Rates.length by omega])
 rw[he104]
 refine q' 3 r'<|f' r' t'<|f' r' t'<|f' r' t'<|f' r' t'<|b' 3 r' r' r'<|v' 4 r' ?_
 refine lq3 (fun(z:Nat) (vc:Value) (zi:Int)=>A2Q f.Sheet.Pen-z) (fun z vc zi=>[A5 (vc) 3 (A5q f.Sheet.Pen z),A5 (vb) 23 (A2v f.Sheet.Drum f.Sheet.Drum.Rates.length),A5 (va) 196 (I1 w.Reads station w.Reads.length),blk b58 218 [J f.Sheet.Paper.Pitch,J f.Sheet.Paper.Height,J f.Sheet.Paper.Radius,J f.Sheet.Paper.Low,J f.Sheet.Paper.High,J f.Sheet.Paper.Columns,J f.Sheet.Paper.Along.Lo,J f.Sheet.Paper.Along.Hi,J f.Sheet.Paper.Across.Lo,J f.Sheet.Paper.Across.Hi,v39,v41,v43,v45,J f.Sheet.Pen.Band,J f.Sheet.Pen.Zero.Lo,J f.Sheet.Pen.Zero.Hi,J f.Sheet.Pen.Rate,v52,va,J w.Base.Ticks,v89,vb,S0,.map (some b57),vc],D7 b57 (.map #[] 0)]) (fun z vc zi=>[(7,Pt b58 0),(13,J zi)]) (fun z vc zi=>z≤A2Q f.Sheet.Pen∧zi=f.Sheet.Pen.Zero.Lo+↑z) 0 (Value.slice none 0 0) f.Sheet.Pen.Zero.Lo ?_ ?_
 ·exact⟨Nat.zero_le _,by simp⟩
 rintro z vc zi ⟨hz,hzz_⟩
 have hzi_:(A5q f.Sheet.Pen z).length=z:=C4 _ _
 have hzn_:A2Q f.Sheet.Pen≤1000:=(by unfold A2Q;omega)
 refine q' 2 r' ?_
 subst hzz_
 refine q' 4 r'<|f' r' t'<|f' r' t'<|f' r' t'<|f' r' t'<|b' 3 r' r' r'<|c' (X.leq r' r') (fun h106=>?_) fun h106=>?_
 ·refine v' 11 r'<|f' r' t'<|b' 3 r' r' r'<|v' 1 r'<|T6 (E6 L6 rfl rfl rfl (by decide)) (by decide) fun b107=>?_
  refine G2 (E2 (k:=0) (a:=(f.Sheet.Pen.Zero.Lo+↑z:Int)) L6 rfl rfl rfl rfl (by first|omega|(simp;done)|(simp;omega)) (by decide)) (by decide) (fun v108=>?_)
  refine v' 1 r'<|f' r' t' ?_
  refine F7 (k:=0) rfl (fun ho109=>?_)
  refine I2 (T.storeB (k:=3) sizeOf27 rfl rfl rfl ho109 (Nat.le_of_ble_eq_true rfl))<|v' 9 r' ?_
  have he110:((A5q f.Sheet.Pen z)++[(f.Sheet.Pen.Zero.Lo+↑z:Int)])=(A5q f.Sheet.Pen (z+1)):=(L4 _ _).symm
  rw[he110]
  refine X1 (z+1) v108 ((f.Sheet.Pen.Zero.Lo+↑z)+1) ?_ ?_
  ·exact⟨by unfold A2Q at *; omega,by omega⟩
  ((try dsimp only);unfold A2Q at *; omega)
 refine v' 9 r' ?_
 have hkz_:z=A2Q f.Sheet.Pen:=(by unfold A2Q at *; omega)
 refine E1 2 rfl rfl (by first|(have:=A3w (l:=w.Reads) (st:=station) w.Reads.length;unfold C8;omega)|(unfold A2v;rw[C4];unfold C8;omega)|(unfold A5q A2Q;rw[C4];unfold C8;omega)) (fun m111 hle112 hs113=>?_)
 replace hs40:=hs40.mono hle112
 replace hs42:=hs42.mono hle112
 replace hs44:=hs44.mono hle112
 replace hs46:=hs46.mono hle112
 replace hs53:=hs53.mono hle112
 replace hs90:=hs90.mono hle112
 refine E1 1 rfl rfl (by first|(have:=A3w (l:=w.Reads) (st:=station) w.Reads.length;unfold C8;omega)|(unfold A2v;rw[C4];unfold C8;omega)|(unfold A5q A2Q;rw[C4];unfold C8;omega)) (fun m114 hle115 hs116=>?_)
 replace hs40:=hs40.mono hle115
 replace hs42:=hs42.mono hle115
 replace hs44:=hs44.mono hle115
 replace hs46:=hs46.mono hle115
 replace hs53:=hs53.mono hle115
 replace hs90:=hs90.mono hle115
 replace hs113:=hs113.mono hle115
 have he117:(A5q f.Sheet.Pen z)=(A5q f.Sheet.Pen (A2Q f.Sheet.Pen)):=(by rw[hkz_])
 rw[he117]
 refine E1 0 rfl rfl (by first|(have:=A3w (l:=w.Reads) (st:=station) w.Reads.length;unfold C8;omega)|(unfold A2v;rw[C4];unfold C8;omega)|(unfold A5q A2Q;rw[C4];unfold C8;omega)) (fun m118 hle119 hs120=>?_)
 exact have hs40:=hs40.mono hle119;have hs42:=hs42.mono hle119;have hs44:=hs44.mono hle119;have hs46:=hs46.mono hle119;have hs53:=hs53.mono hle119;have hs90:=hs90.mono hle119;have hs113:=hs113.mono hle119;have hs116:=hs116.mono hle119;fz (x:=A7y w f station (RawV.mk (.map (some b57)) rfl)) 0 r' r' ⟨_,_,_,_,_,_,_,_,_,_,rfl,hs40,hs42,hs44,hs46,hs53,hs113,hs90,hs116,.nil,hs120⟩ fun m121 hle122 hp123=>q' 6 r'<|A0 r' r'<|C5<|⟨_,_,rfl,hp123⟩
end Go.Proofs.T10
