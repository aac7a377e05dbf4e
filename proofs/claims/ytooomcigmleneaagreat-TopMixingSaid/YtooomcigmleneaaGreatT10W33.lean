import Derived.Test.YtooomcigmleneaaGreatKxW
import Derived.Test.YtooomcigmleneaaGreatKyP
import Derived.Test.YtooomcigmleneaaGreatT10Ty
import Derived.Test.YtooomcigmleneaaGreatKxU
import Derived.Test.YtooomcigmleneaaGreatT10SWk
import Derived.Test.YtooomcigmleneaaGreatT10W32
set_option linter.all false
set_option maxHeartbeats 8000000
namespace Go.Proofs.S10
open Tryz
set_option maxRecDepth 20000
open Go Go.Kx Go.Proofs.T10
variable{G:Prop}
theorem B2I(m:Mem)(cf:List Value)(f:FilingT)(hf:Enc.rd m cf f)(cb:List Value)(b:BaseT)(hb:Enc.rd m cb b)(hr_:RefOk m f.ref):Pure prog 355 #[.agg cf.toArray,.agg cb.toArray] m (fun m' v=>∃(q0:Bool),v= .bool q0):=by
 obtain rfl:=hf
 obtain⟨v1,rfl,hs2⟩:=hb
 refine have hl3:=hs2.le;H7 func355 r' ntmps355 fun wld=>q' 2 r'<|o' r' r' fun b4=>o' r' r' fun b5=>v' 4 r'<|fz (x:=b) 0 r' r' ⟨_,rfl,hs2⟩ fun m6 hle7 hp8=>have hr_:=hr_.mono hle7;WK.drop (H':=[blk b4 296 [f.ref.v,J f.station,J f.week]]) (.cons_cons _ (.refl _)) ?_
 obtain⟨q_,hq_,hqp_⟩:=hr_
 rw[show f.ref.v= .pointer q_ from hq_]
 refine q' 1 r'<|g' hp8 r' fun c9 hc10=>?_
 obtain⟨v11,rfl,hs12⟩:=hc10
 refine have hl13:=hs12.le;f' r' t'<|b' 0 r' r' r'<|f' r' t'<|b' 0 r' r' r'<|c' (X.call call356 rfl (A7F _ _ b ⟨_,rfl,hs12⟩ _ _)) (fun h14=>?_) fun h14=>?_
 ·refine v' 2 r'<|f' r' t'<|v' 1 r'<|b' 0 r' r' r'<|v' 1 r' ?_
  refine K2 (B5u underlying294 rfl) (by decide) (fun h15=>?_) (fun h15=>?_)
  ·exact v' 14 r'<|A0 r' r'<|C5<|⟨_,rfl⟩
  refine v' 3 r'<|f' r' t'<|v' 1 r'<|b' 0 r' r' r'<|v' 1 r' ?_
  obtain⟨p_,n_,rfl,hp_⟩:=hqp_ (by assumption)
  refine v' 2 r'<|g' hp_ r' fun c16 hc17=>?_
  obtain rfl:=hc17
  exact v' 1 r'<|y' (X.call call285 rfl (A1b _ _ n_ rfl))<|v' 7 r'<|A0 r' r'<|C5<|⟨_,rfl⟩
 exact v' 16 r'<|A0 r' r'<|C5<|⟨_,rfl⟩
theorem C0P(m:Mem)(cs:List Value)(s:Sheet)(hs:Enc.rd m cs s):Pure prog 362 #[.agg cs.toArray] m (fun m' v=>∃(q0:Bool),v= .bool q0):=by
 obtain⟨v1,v3,v5,v7,rfl,hs2,hs4,hs6,hs8⟩:=hs
 refine have hl9:=hs2.le;have hl10:=hs4.le;have hl11:=hs6.le;have hl12:=hs8.le;H7 func362 r' ntmps362 fun wld=>q' 2 r'<|o' r' r' fun b13=>v' 4 r'<|fz (x:=s) 0 r' r' ⟨_,_,_,_,rfl,hs2,hs4,hs6,hs8⟩ fun m14 hle15 hp16=>q' 1 r'<|have hp17:=Z9 hp16;f' r' t'<|s' hp17 r' fun v18 hs19=>?_
 have hl20:=hs19.le
 refine D1 (T.call call142 rfl (B2K _ hs19)) (by decide) (fun m21 _ hle22 hR_=>?_)
 obtain⟨z23,rfl⟩:=hR_
 refine have hp16:=hp16.mono hle22;v' 11 r'<|e' (X.neq r' r') (fun h24=>?_) fun h24=>?_
 ·exact v' 28 r'<|A0 r' r'<|C5<|⟨_,rfl⟩
 refine v' 2 r'<|have hp25:=Q2 hp16;f' r' t'<|v' 1 r'<|g' hp25 r' fun c26 hc27=>?_
 obtain rfl:=hc27
 refine v' 1 r'<|y' (X.call call141 rfl (A9c _ _ s.Paper rfl))<|v' 1 r'<|e' (X.neq r' r') (fun h28=>?_) fun h28=>?_
 ·exact v' 23 r'<|A0 r' r'<|C5<|⟨_,rfl⟩
 refine v' 3 r'<|have hp29:=F9 hp16;f' r' t'<|v' 1 r'<|g' hp29 r' fun c30 hc31=>?_
 obtain⟨v32,v34,rfl,hs33,hs35⟩:=hc31
 refine have hl36:=hs33.le;have hl37:=hs35.le;v' 1 r'<|y' (X.call call172 rfl (A6d _ _ s.Drum ⟨_,_,rfl,hs33,hs35⟩))<|v' 1 r'<|e' (X.neq r' r') (fun h38=>?_) fun h38=>?_
 ·exact v' 17 r'<|A0 r' r'<|C5<|⟨_,rfl⟩
 refine v' 3 r'<|have hp39:=J9 hp16;f' r' t'<|v' 1 r'<|g' hp39 r' fun c40 hc41=>?_
 obtain rfl:=hc41
 refine v' 1 r'<|y' (X.call call8 rfl (A9u _ _ s.Pen rfl))<|v' 1 r'<|e' (X.neq r' r') (fun h42=>?_) fun h42=>?_
 ·exact v' 11 r'<|A0 r' r'<|C5<|⟨_,rfl⟩
 refine v' 9 r'<|have hp43:=A0I hp16;f' r' t'<|s' hp43 r' fun v44 hs45=>have hl46:=hs45.le;l' hs45 r'<|v' 4 r' ?_
 refine I0 (fun(k:Nat)=>s.Blots.length-k) (fun k=>[]) (fun k=>[(1,Pt b13 0),(34,v44),(35,J s.Blots.length),(36,J k)]) (fun k=>k≤s.Blots.length) 0 ?_ ?_
 ·exact Nat.zero_le _
 rintro k hF47
 refine have hk:=hF47;q' 2 r'<|c' (X.lss r' r') (fun h48=>?_) fun h48=>?_
 ·refine v' 11 r'<|x' k hs45 r' r' fun p49 hp50=>i' hp50 r'<|v' 7 r'<|have hp51:=Q2 hp16;f' r' t'<|have hp52:=Y7 hp51;f' r' t'<|i' hp52 r'<|y' (A9O rfl rfl)<|c' (X.call call83 rfl (S9 _ _ _ _)) (fun h53=>?_) fun h53=>?_
  ·refine v' 5 r'<|c' (X.gtr r' r') (fun h54=>?_) fun h54=>?_
   ·refine v' 5 r'<|have hp55:=A0I hp16;f' r' t'<|v' 1 r'<|s' hp55 r' fun v56 hs57=>have hl58:=hs57.le;v' 5 r'<|P5 (Q4 (k-1) runUnderlying27 sizeOf3 rfl rfl hs57 (by omega) (by omega)) (by decide) fun p59 hp60=>v' 1 r'<|i' hp60 r'<|v' 1 r'<|c' (X.leq r' r') (fun h61=>?_) fun h61=>?_
    ·exact v' 17 r'<|A0 r' r'<|C5<|⟨_,rfl⟩
    exact v' 14 r'<|G5 (k+1)<|by omega
   exact v' 24 r'<|G5 (k+1)<|by omega
  exact v' 29 r'<|A0 r' r'<|C5<|⟨_,rfl⟩
 exact v' 11 r'<|have hp62:=F9 hp16;f' r' t'<|have hp63:=R9 hp62;f' r' t'<|s' hp63 r' fun v64 hs65=>have hl66:=hs65.le;l' hs65 r'<|v' 1 r'<|have hp67:=Q2 hp16;f' r' t'<|have hp68:=Y7 hp67;f' r' t'<|i' hp68 r'<|v' 5 r'<|A0 r' r'<|C5<|⟨_,rfl⟩
theorem C0O(m:Mem)(cc:List Value)(c:SheetCt)(hc:Enc.rd m cc c)(cb:List Value)(b:BaseT)(hb:Enc.rd m cb b)(hr_:RefOk m c.filing.ref):Pure prog 361 #[.agg cc.toArray,.agg cb.toArray] m (fun m' v=>∃(q0:Bool),v= .bool q0):=by
 obtain⟨v1,v3,v5,v7,rfl,hs2,hs4,hs6,hs8⟩:=hc
 have hl9:=hs2.le
 have hl10:=hs4.le
 have hl11:=hs6.le
 have hl12:=hs8.le
 obtain⟨v13,rfl,hs14⟩:=hb
 refine have hl15:=hs14.le;H7 func361 r' ntmps361 fun wld=>q' 2 r'<|o' r' r' fun b16=>o' r' r' fun b17=>v' 4 r'<|fz (x:=b) 0 r' r' ⟨_,rfl,hs14⟩ fun m18 hle19 hp20=>have hs2:=hs2.mono hle19;have hs4:=hs4.mono hle19;have hs6:=hs6.mono hle19;have hs8:=hs8.mono hle19;have hr_:=hr_.mono hle19;fz (x:=c) 0 r' r' ⟨_,_,_,_,rfl,hs2,hs4,hs6,hs8⟩ fun m21 hle22 hp23=>have hr_:=hr_.mono hle22;have hp20:=hp20.mono hle22;q' 1 r'<|have hp24:=B3I hp23;f' r' t'<|g' hp24 r' fun c25 hc26=>?_
 obtain rfl:=hc26
 refine P5 (A2s isAgg51 sizeOf51 rfl hp20) (by decide) (fun c27 hc28=>?_)
 obtain⟨v29,rfl,hs30⟩:=hc28
 refine have hl31:=hs30.le;D1 (T.call call355 rfl (B2I _ _ c.filing rfl _ b ⟨_,rfl,hs30⟩ hr_)) (by decide) fun m32 r33 hle34 hR35=>?_
 obtain⟨q36,rfl⟩:=hR35
 replace hp23:=hp23.mono hle34
 cases q36
 ·exact v' 9 r'<|A0 r' r'<|C5<|⟨_,rfl⟩
 refine v' 2 r'<|have hp37:=B2T hp23;f' r' t'<|v' 1 r'<|g' hp37 r' fun c38 hc39=>?_
 obtain⟨v40,v42,v44,v46,rfl,hs41,hs43,hs45,hs47⟩:=hc39
 refine have hl48:=hs41.le;have hl49:=hs43.le;have hl50:=hs45.le;have hl51:=hs47.le;v' 1 r'<|D1 (T.call call362 rfl (C0P _ _ c.Sheet ⟨_,_,_,_,rfl,hs41,hs43,hs45,hs47⟩)) (by decide) fun m52 r53 hle54 hR55=>?_
 obtain⟨q56,rfl⟩:=hR55
 exact v' 5 r'<|A0 r' r'<|C5<|⟨_,rfl⟩
theorem C1B(m:Mem)(cc:List Value)(c:MarkCt)(hc:Enc.rd m cc c)(cb:List Value)(b:BaseT)(hb:Enc.rd m cb b):Pure prog 363 #[.agg cc.toArray,.agg cb.toArray] m (fun m' v=>∃(q0:Bool),v= .bool q0):=by
 obtain rfl:=hc
 obtain⟨v1,rfl,hs2⟩:=hb
 refine have hl3:=hs2.le;H7 func363 r' ntmps363 fun wld=>q' 2 r'<|o' r' r' fun b4=>o' r' r' fun b5=>v' 4 r'<|fz (x:=c) 1 r' r' r' fun m6 hle7 hp8=>q' 1 r'<|have hp9:=B4K hp8;f' r' t'<|g' hp9 r' fun c10 hc11=>?_
 obtain rfl:=hc11
 refine c' (X.call call285 rfl (A1b _ _ c.ref rfl)) (fun h12=>?_) fun h12=>?_
 ·refine v' 2 r'<|have hp13:=B4D hp8;f' r' t'<|v' 1 r'<|g' hp13 r' fun c14 hc15=>?_
  obtain rfl:=hc15
  exact v' 1 r'<|y' (X.call call364 rfl (B3o _ _ c.Mark rfl))<|v' 5 r'<|A0 r' r'<|C5<|⟨_,rfl⟩
 exact v' 9 r'<|A0 r' r'<|C5<|⟨_,rfl⟩
theorem C1C(m:Mem)(cc:List Value)(c:ReadCt)(hc:Enc.rd m cc c)(cb:List Value)(b:BaseT)(hb:Enc.rd m cb b)(hr_:RefOk m c.ref):Pure prog 366 #[.agg cc.toArray,.agg cb.toArray] m (fun m' v=>∃(q0:Bool),v= .bool q0):=by
 obtain rfl:=hc
 obtain⟨v1,rfl,hs2⟩:=hb
 refine have hl3:=hs2.le;H7 func366 r' ntmps366 fun wld=>q' 2 r'<|o' r' r' fun b4=>o' r' r' fun b5=>v' 4 r'<|fz (x:=b) 0 r' r' ⟨_,rfl,hs2⟩ fun m6 hle7 hp8=>have hr_:=hr_.mono hle7;WK.drop (H':=[blk b4 452 [c.ref.v,J c.Read.Station,J c.Read.Week,J c.Read.Tick,J c.Read.Levels.Lo,J c.Read.Levels.Hi]]) (.cons_cons _ (.refl _)) ?_
 obtain⟨q_,hq_,hqp_⟩:=hr_
 rw[show c.ref.v= .pointer q_ from hq_]
 refine q' 1 r'<|f' r' t'<|b' 0 r' r' r' ?_
 refine K2 (B5u underlying294 rfl) (by decide) (fun h9=>?_) (fun h9=>?_)
 ·refine v' 9 r'<|g' hp8 r' fun c10 hc11=>?_
  obtain⟨v12,rfl,hs13⟩:=hc11
  exact have hl14:=hs13.le;v' 1 r'<|f' r' t'<|v' 1 r'<|y' (J2 (k:=0) (vs:=[J c.Read.Station,J c.Read.Week,J c.Read.Tick,J c.Read.Levels.Lo,J c.Read.Levels.Hi]) isAgg196 sizeOf196 rfl rfl rfl rfl)<|v' 1 r'<|y' (X.call call367 rfl (A7a _ _ b ⟨_,rfl,hs13⟩ _ c.Read rfl))<|v' 5 r'<|A0 r' r'<|C5<|⟨_,rfl⟩
 refine v' 2 r'<|f' r' t'<|v' 1 r'<|b' 0 r' r' r'<|v' 1 r' ?_
 obtain⟨p_,n_,rfl,hp_⟩:=hqp_ (by assumption)
 refine v' 2 r'<|g' hp_ r' fun c15 hc16=>?_
 obtain rfl:=hc16
 refine v' 1 r'<|c' (X.call call285 rfl (A1b _ _ n_ rfl)) (fun h17=>?_) fun h17=>?_
 ·refine v' 3 r'<|g' hp8 r' fun c18 hc19=>?_
  obtain⟨v20,rfl,hs21⟩:=hc19
  exact have hl22:=hs21.le;v' 1 r'<|f' r' t'<|v' 1 r'<|y' (J2 (k:=0) (vs:=[J c.Read.Station,J c.Read.Week,J c.Read.Tick,J c.Read.Levels.Lo,J c.Read.Levels.Hi]) isAgg196 sizeOf196 rfl rfl rfl rfl)<|v' 1 r'<|y' (X.call call367 rfl (A7a _ _ b ⟨_,rfl,hs21⟩ _ c.Read rfl))<|v' 5 r'<|A0 r' r'<|C5<|⟨_,rfl⟩
 exact v' 11 r'<|A0 r' r'<|C5<|⟨_,rfl⟩
theorem C2i(m:Mem)(cc:List Value)(c:HeightCt)(hc:Enc.rd m cc c)(cb:List Value)(b:BaseT)(hb:Enc.rd m cb b):Pure prog 368 #[.agg cc.toArray,.agg cb.toArray] m (fun m' v=>∃(q0:Bool),v= .bool q0∧(q0=true→0<b.Stations.length)):=by
 obtain rfl:=hc
 obtain⟨v1,rfl,hs2⟩:=hb
 refine have hl3:=hs2.le;H7 func368 r' ntmps368 fun wld=>q' 2 r'<|o' r' r' fun b4=>o' r' r' fun b5=>v' 4 r'<|fz (x:=b) 0 r' r' ⟨_,rfl,hs2⟩ fun m6 hle7 hp8=>fz (x:=c) 0 r' r' r' fun m9 hle10 hp11=>have hp8:=hp8.mono hle10;q' 1 r'<|g' hp8 r' fun c12 hc13=>?_
 obtain⟨v14,rfl,hs15⟩:=hc13
 refine have hl16:=hs15.le;have hp17:=B2j hp11;f' r' t'<|i' hp17 r'<|have hp18:=A6Q hp11;f' r' t'<|have hp19:=A3g hp18;f' r' t'<|i' hp19 r'<|c' (X.call call356 rfl (A7F _ _ b ⟨_,rfl,hs15⟩ _ _)) (fun h20=>?_) fun h20=>?_
 ·refine v' 2 r'<|have hp21:=A6Q hp11;f' r' t'<|v' 1 r'<|have hp22:=A5r hp21;f' r' t'<|v' 1 r'<|g' hp22 r' fun c23 hc24=>?_
  obtain rfl:=hc24
  exact v' 1 r'<|y' (X.call call365 rfl (B1g _ _ c.Height.Metres rfl _ _))<|v' 5 r'<|A0 r' r'<|C5<|⟨_,rfl,fun h_=>by first|(cases h_;done)|exact B5Z (by assumption)⟩
 exact v' 10 r'<|A0 r' r'<|C5<|⟨_,rfl,fun h_=>by first|(cases h_;done)|exact B5Z (by assumption)⟩
theorem C1Z(m:Mem)(cc:List Value)(c:WithCt)(hc:Enc.rd m cc c)(cb:List Value)(b:BaseT)(hb:Enc.rd m cb b):Pure prog 369 #[.agg cc.toArray,.agg cb.toArray] m (fun m' v=>∃(q0:Bool),v= .bool q0):=by
 obtain rfl:=hc
 obtain⟨v1,rfl,hs2⟩:=hb
 refine have hl3:=hs2.le;H7 func369 r' ntmps369 fun wld=>q' 2 r'<|o' r' r' fun b4=>o' r' r' fun b5=>v' 4 r'<|fz (x:=c) 1 r' r' r' fun m6 hle7 hp8=>q' 1 r'<|have hp9:=B4S hp8;f' r' t'<|g' hp9 r' fun c10 hc11=>?_
 obtain rfl:=hc11
 exact y' (X.call call285 rfl (A1b _ _ c.ref rfl))<|v' 4 r'<|A0 r' r'<|C5<|⟨_,rfl⟩
theorem B0p(h:G:=by exact⟨_,_,((NoteT.mk (n.Clerk) (n.Num) (n.Clock) (n.Day) (n.Kind) (0) (0) ((Sheet.mk ((Paper.mk (0) (0) (0) (0) (0) (0) ((Span.mk (0) (0))) ((Span.mk (0) (0))))) ([]) ([]) ((Drum.mk ([]) ([]))) ((Pen.mk (0) ((Span.mk (0) (0))) (0))))) (n.Mark) ((ReadT.mk (0) (0) (0) ((Span.mk (0) (0))))) ((Height.mk (0) ((Span.mk (0) (0))))) (n.Ref))),rfl,(.inr (.inl ⟨by omega,.inr (.inl ⟨_,((MarkCt.mk (n.Ref) (n.Mark))),rfl,rfl⟩)⟩)),⟨_,_,_,_,rfl,.nil,.nil,.nil,.nil⟩⟩):G:=h
theorem C3W(m:Mem)(cn:List Value)(n:NoteT)(hn:Enc.rd m cn n):Pure prog 283 #[.agg cn.toArray] m (fun m' v=>∃(r0:Value) (r1:List Value) (x1:NoteT),v= .tuple #[r0,.agg r1.toArray]∧OkC m' r0 n.Kind∧Enc.rd m' r1 x1):=by
 obtain⟨v1,v3,v5,v7,rfl,hs2,hs4,hs6,hs8⟩:=hn
 refine have hl9:=hs2.le;have hl10:=hs4.le;have hl11:=hs6.le;have hl12:=hs8.le;H7 func283 r' ntmps283 fun wld=>q' 2 r'<|o' r' r' fun b13=>v' 1 r'<|n' zeroValue200 r' fun b14=>v' 3 r'<|fz (x:=n) 1 r' r' ⟨_,_,_,_,rfl,hs2,hs4,hs6,hs8⟩ fun m15 hle16 hp17=>q' 1 r'<|have hp18:=B7h hp17;f' r' t'<|i' hp18 r'<|have hp19:=B6L hp17;f' r' t'<|i' hp19 r'<|have hp20:=A1t hp17;f' r' t'<|i' hp20 r'<|have hp21:=A1y hp17;f' r' t'<|i' hp21 r'<|have hp22:=A2L hp17;f' r' t'<|i' hp22 r'<|WL.x (V:=Value.agg [J n.Clerk,J n.Num,J n.Clock,J n.Day,J n.Kind,J 0,J 0,J 0,J 0,J 0,J 0,J 0,J 0,J 0,J 0,J 0,J 0,S0,S0,S0,S0,J 0,J 0,J 0,J 0,J 0,J 0,J 0,J 0,J 0,J 0,J 0,J 0,J 0,J 0,J 0,J 0,J 0].toArray) (X.build zeroValue200 runUnderlying200 (B9r _ underlying200) rfl rfl) (by decide) ?_
 refine n' zeroValue200 r' fun b23=>w' 0 r' r' r'<|v' 5 r'<|have hp24:=A2L hp17;f' r' t'<|i' hp24 r'<|v' 5 r'<|c' (X.eql r' r') (fun h25=>?_) fun h25=>?_
 ·refine v' 5 r'<|B4 12 [7,9,11] [7,9,11,100002,100003,100004,100005]<|have hp26:=U0 hp17;Y' r' r' (A.f r')<|Y' r' r' (A.i r' hp26)<|have hp27:=A0H hp17;H6 r' r' r' (fun _ _ hle_=>(X.field runUnderlying200 rfl sizeOf3 rfl)) (by decide)<|H6 r' r' r' (fun _ _ hle_=>(A2m isAgg3 rfl (hp27.mono hle_))) (by decide)<|have hp28:=A1v hp17;H6 r' r' r' (fun _ _ hle_=>(X.field runUnderlying200 rfl sizeOf35 rfl)) (by decide) ?_
  refine A5J rfl rfl rfl (A1w isAgg35 sizeOf35 rfl hp28) (by decide) (fun c29 hc30=>?_)
  obtain⟨v31,v33,v35,v37,rfl,hs32,hs34,hs36,hs38⟩:=hc30
  refine have hl39:=hs32.le;have hl40:=hs34.le;have hl41:=hs36.le;have hl42:=hs38.le;Y' r' r' (A.f r')<|B3 r' r' r' r' (T.storeB (k:=0) sizeOf3 rfl rfl rfl rfl (Nat.le_of_ble_eq_true rfl))<|Y' r' r' (A.f r')<|B3 r' r' r' r' (T.storeB (k:=0) sizeOf3 rfl rfl rfl rfl (Nat.le_of_ble_eq_true rfl))<|Y' r' r' (A.f r')<|B3 r' r' r' r' (S3 (k:=0) [J n.Clerk,J n.Num,J n.Clock,J n.Day,J n.Kind,J n.Station,J n.Week,J n.Sheet.Paper.Pitch,J n.Sheet.Paper.Height,J n.Sheet.Paper.Radius,J n.Sheet.Paper.Low,J n.Sheet.Paper.High,J n.Sheet.Paper.Columns,J n.Sheet.Paper.Along.Lo,J n.Sheet.Paper.Along.Hi,J n.Sheet.Paper.Across.Lo,J n.Sheet.Paper.Across.Hi,v31,v33,v35,v37,J n.Sheet.Pen.Band,J n.Sheet.Pen.Zero.Lo,J n.Sheet.Pen.Zero.Hi,J n.Sheet.Pen.Rate,J 0,J 0,J 0,J 0,J 0,J 0,J 0,J 0,J 0,J 0,J 0,J 0,J 0] sizeOf35 rfl rfl rfl (A4 rfl (A4 rfl (A4 rfl (A4 rfl (A4 rfl (A4 rfl (A4 rfl (A4 rfl (A4 rfl (A4 rfl (A4 hs32.one (A4 hs34.one (A4 hs36.one (A4 hs38.one (A4 rfl (A4 rfl (A4 rfl (A4 rfl C0)))))))))))))))))) rfl rfl rfl)<|V' 2 r'<|B4 12 [11] [11]<|have hp43:=U0 hp17;Y' r' r' (A.f r')<|Y' r' r' (A.i r' hp43)<|have hp44:=A0H hp17;Y' r' r' (A.f r')<|Y' r' r' (A.i r' hp44)<|DW.x (V:=Value.agg [.pointer none,J n.Station,J n.Week].toArray) r' r' (X.build zeroValue296 runUnderlying296 (A5g _ underlying296) rfl rfl) (by decide) ?_
  refine have hp45:=A1v hp17;Y' r' r' (A.f r')<|G' hp45 r' r' r' fun c46 hc47=>?_
  obtain⟨v48,v50,v52,v54,rfl,hs49,hs51,hs53,hs55⟩:=hc47
  refine have hl56:=hs49.le;have hl57:=hs51.le;have hl58:=hs53.le;have hl59:=hs55.le;DW.x (V:=Value.agg [.pointer none,J n.Station,J n.Week,J n.Sheet.Paper.Pitch,J n.Sheet.Paper.Height,J n.Sheet.Paper.Radius,J n.Sheet.Paper.Low,J n.Sheet.Paper.High,J n.Sheet.Paper.Columns,J n.Sheet.Paper.Along.Lo,J n.Sheet.Paper.Along.Hi,J n.Sheet.Paper.Across.Lo,J n.Sheet.Paper.Across.Hi,v48,v50,v52,v54,J n.Sheet.Pen.Band,J n.Sheet.Pen.Zero.Lo,J n.Sheet.Pen.Zero.Hi,J n.Sheet.Pen.Rate].toArray) r' r' (X.build zeroValue448 runUnderlying448 (B9S _ underlying448) rfl (by kernel_rfl)) (by decide) ?_
  exact Y' r' r' (W7 runUnderlying448 rfl)<|Y' r' r' (K4 0 r' r' r')<|U' 1 r'<|W' 1 r' r' r' r' r'<|V' 4 r'<|Y8 1 r' r' r' r' isAgg200 sizeOf200<|C5<|⟨_,_,((NoteT.mk (n.Clerk) (n.Num) (n.Clock) (n.Day) (n.Kind) (n.Station) (n.Week) (n.Sheet) ((Mark.mk (0) ((Span.mk (0) (0))))) ((ReadT.mk (0) (0) (0) ((Span.mk (0) (0))))) ((Height.mk (0) ((Span.mk (0) (0))))) ((NName.mk (0) (0))))),rfl,(.inr (.inl ⟨by omega,.inl ⟨_,((SheetCt.mk ((FilingT.mk ((RawV.mk (.pointer none) rfl)) (n.Station) (n.Week))) (n.Sheet))),rfl,⟨_,_,_,_,rfl,hs49,hs51,hs53,hs55⟩,.no⟩⟩)),⟨_,_,_,_,rfl,hs32,hs34,hs36,hs38⟩⟩
 refine v' 6 r'<|c' (X.eql r' r') (fun h60=>?_) fun h60=>?_
 ·refine v' 5 r'<|B4 8 [5,7] [5,7,100002,100003]<|have hp61:=D8 hp17;Y' r' r' (A.f r')<|G' hp61 r' r' r' fun c62 hc63=>?_
  obtain rfl:=hc63
  refine have hp64:=O3 hp17;H6 r' r' r' (fun _ _ hle_=>(X.field runUnderlying200 rfl sizeOf98 rfl)) (by decide) ?_
  refine A5J rfl rfl rfl (A1w isAgg98 sizeOf98 rfl hp64) (by decide) (fun c65 hc66=>?_)
  obtain rfl:=hc66
  refine Y' r' r' (A.f r')<|B3 r' r' r' r' (S3 (k:=0) [J n.Clerk,J n.Num,J n.Clock,J n.Day,J n.Kind,J 0,J 0,J 0,J 0,J 0,J 0,J 0,J 0,J 0,J 0,J 0,J 0,S0,S0,S0,S0,J 0,J 0,J 0,J 0,J 0,J 0,J 0,J 0,J 0,J 0,J 0,J 0,J 0,J 0,J 0,J n.Ref.Clerk,J n.Ref.Num] sizeOf73 rfl rfl rfl (A4 rfl (A4 rfl C0)) rfl rfl rfl)<|Y' r' r' (A.f r')<|B3 r' r' r' r' (S3 (k:=0) [J n.Clerk,J n.Num,J n.Clock,J n.Day,J n.Kind,J 0,J 0,J 0,J 0,J 0,J 0,J 0,J 0,J 0,J 0,J 0,J 0,S0,S0,S0,S0,J 0,J 0,J 0,J 0,J n.Mark.Column,J n.Mark.Ticks.Lo,J n.Mark.Ticks.Hi,J 0,J 0,J 0,J 0,J 0,J 0,J 0,J 0,J n.Ref.Clerk,J n.Ref.Num] sizeOf98 rfl rfl rfl (A4 rfl (A4 rfl (A4 rfl C0))) rfl rfl rfl)<|V' 2 r'<|B4 9 [8] [8]<|have hp67:=D8 hp17;Y' r' r' (A.f r')<|G' hp67 r' r' r' fun c68 hc69=>?_
  obtain rfl:=hc69
  refine have hp70:=O3 hp17;Y' r' r' (A.f r')<|G' hp70 r' r' r' fun c71 hc72=>?_
  obtain rfl:=hc72
  refine DW.y (V:=Value.agg [J n.Ref.Clerk,J n.Ref.Num,J n.Mark.Column,J n.Mark.Ticks.Lo,J n.Mark.Ticks.Hi].toArray) rfl rfl (X.build zeroValue450 runUnderlying450 (B1G _ underlying450) rfl rfl) ?_
  exact Y' r' r' (W7 runUnderlying450 rfl)<|Y' r' r' (K4 0 r' r' r')<|U' 1 r'<|W' 1 r' r' r' r' r'<|V' 4 r'<|Y8 1 r' r' r' r' isAgg200 sizeOf200<|C5<|B0p
 refine v' 6 r'<|c' (X.eql r' r') (fun h73=>?_) fun h73=>?_
 ·refine v' 6 r'<|have hp74:=U1 hp17;f' r' t'<|g' hp74 r' fun c75 hc76=>?_
  obtain rfl:=hc76
  refine f' r' t'<|I2 (S3 (k:=0) [J n.Clerk,J n.Num,J n.Clock,J n.Day,J n.Kind,J 0,J 0,J 0,J 0,J 0,J 0,J 0,J 0,J 0,J 0,J 0,J 0,S0,S0,S0,S0,J 0,J 0,J 0,J 0,J 0,J 0,J 0,J n.Read.Station,J n.Read.Week,J n.Read.Tick,J n.Read.Levels.Lo,J n.Read.Levels.Hi,J 0,J 0,J 0,J 0,J 0] sizeOf196 rfl rfl rfl (A4 rfl (A4 rfl (A4 rfl (A4 rfl (A4 rfl C0))))) rfl rfl rfl)<|v' 3 r'<|B4 7 [6] [6]<|have hp77:=U1 hp17;Y' r' r' (A.f r')<|G' hp77 r' r' r' fun c78 hc79=>?_
  obtain rfl:=hc79
  refine DW.y (V:=Value.agg [.pointer none,J n.Read.Station,J n.Read.Week,J n.Read.Tick,J n.Read.Levels.Lo,J n.Read.Levels.Hi].toArray) rfl rfl (X.build zeroValue452 runUnderlying452 (B1z _ underlying452) rfl (by kernel_rfl)) ?_
  exact Y' r' r' (W7 runUnderlying452 rfl)<|Y' r' r' (K4 0 r' r' r')<|U' 1 r'<|W' 1 r' r' r' r' r'<|V' 4 r'<|Y8 1 r' r' r' r' isAgg200 sizeOf200<|C5<|⟨_,_,((NoteT.mk (n.Clerk) (n.Num) (n.Clock) (n.Day) (n.Kind) (0) (0) ((Sheet.mk ((Paper.mk (0) (0) (0) (0) (0) (0) ((Span.mk (0) (0))) ((Span.mk (0) (0))))) ([]) ([]) ((Drum.mk ([]) ([]))) ((Pen.mk (0) ((Span.mk (0) (0))) (0))))) ((Mark.mk (0) ((Span.mk (0) (0))))) (n.Read) ((Height.mk (0) ((Span.mk (0) (0))))) ((NName.mk (0) (0))))),rfl,(.inr (.inl ⟨by omega,.inr (.inr (.inl ⟨_,((ReadCt.mk ((RawV.mk (.pointer none) rfl)) (n.Read))),rfl,rfl,.no⟩))⟩)),⟨_,_,_,_,rfl,.nil,.nil,.nil,.nil⟩⟩
 refine v' 6 r'<|c' (X.eql r' r') (fun h80=>?_) fun h80=>?_
 ·refine v' 5 r'<|B4 8 [5,7] [5,7,100002,100003]<|have hp81:=U0 hp17;Y' r' r' (A.f r')<|Y' r' r' (A.i r' hp81)<|have hp82:=A1Q hp17;H6 r' r' r' (fun _ _ hle_=>(X.field runUnderlying200 rfl sizeOf198 rfl)) (by decide) ?_
  refine A5J rfl rfl rfl (A1w isAgg198 sizeOf198 rfl hp82) (by decide) (fun c83 hc84=>?_)
  obtain rfl:=hc84
  refine Y' r' r' (A.f r')<|B3 r' r' r' r' (T.storeB (k:=0) sizeOf3 rfl rfl rfl rfl (Nat.le_of_ble_eq_true rfl))<|Y' r' r' (A.f r')<|B3 r' r' r' r' (S3 (k:=0) [J n.Clerk,J n.Num,J n.Clock,J n.Day,J n.Kind,J n.Station,J 0,J 0,J 0,J 0,J 0,J 0,J 0,J 0,J 0,J 0,J 0,S0,S0,S0,S0,J 0,J 0,J 0,J 0,J 0,J 0,J 0,J 0,J 0,J 0,J 0,J 0,J n.Height.Week,J n.Height.Metres.Lo,J n.Height.Metres.Hi,J 0,J 0] sizeOf198 rfl rfl rfl (A4 rfl (A4 rfl (A4 rfl C0))) rfl rfl rfl)<|V' 2 r'<|B4 9 [8] [8]<|have hp85:=U0 hp17;Y' r' r' (A.f r')<|Y' r' r' (A.i r' hp85)<|have hp86:=A1Q hp17;Y' r' r' (A.f r')<|G' hp86 r' r' r' fun c87 hc88=>?_
  obtain rfl:=hc88
  refine DW.y (V:=Value.agg [J n.Station,J n.Height.Week,J n.Height.Metres.Lo,J n.Height.Metres.Hi].toArray) rfl rfl (X.build zeroValue454 runUnderlying454 (B9H _ underlying454) rfl rfl) ?_
  exact Y' r' r' (W7 runUnderlying454 rfl)<|Y' r' r' (K4 0 r' r' r')<|U' 1 r'<|W' 1 r' r' r' r' r'<|V' 4 r'<|Y8 1 r' r' r' r' isAgg200 sizeOf200<|C5<|⟨_,_,((NoteT.mk (n.Clerk) (n.Num) (n.Clock) (n.Day) (n.Kind) (n.Station) (0) ((Sheet.mk ((Paper.mk (0) (0) (0) (0) (0) (0) ((Span.mk (0) (0))) ((Span.mk (0) (0))))) ([]) ([]) ((Drum.mk ([]) ([]))) ((Pen.mk (0) ((Span.mk (0) (0))) (0))))) ((Mark.mk (0) ((Span.mk (0) (0))))) ((ReadT.mk (0) (0) (0) ((Span.mk (0) (0))))) (n.Height) ((NName.mk (0) (0))))),rfl,(.inr (.inr ⟨_,((HeightCt.mk (n.Station) (n.Height))),rfl,rfl⟩)),⟨_,_,_,_,rfl,.nil,.nil,.nil,.nil⟩⟩
 refine v' 6 r'<|c' (X.eql r' r') (fun h89=>?_) fun h89=>?_
 ·refine v' 5 r'<|B4 12 [7,9,11] [7,9,11,100002,100003,100004,100005]<|have hp90:=D8 hp17;Y' r' r' (A.f r')<|G' hp90 r' r' r' fun c91 hc92=>?_
  obtain rfl:=hc92
  refine have hp93:=U0 hp17;H6 r' r' r' (fun _ _ hle_=>(X.field runUnderlying200 rfl sizeOf3 rfl)) (by decide)<|H6 r' r' r' (fun _ _ hle_=>(A2m isAgg3 rfl (hp93.mono hle_))) (by decide)<|have hp94:=A0H hp17;H6 r' r' r' (fun _ _ hle_=>(X.field runUnderlying200 rfl sizeOf3 rfl)) (by decide)<|H6 r' r' r' (fun _ _ hle_=>(A2m isAgg3 rfl (hp94.mono hle_))) (by decide)<|Y' r' r' (A.f r')<|B3 r' r' r' r' (S3 (k:=0) [J n.Clerk,J n.Num,J n.Clock,J n.Day,J n.Kind,J 0,J 0,J 0,J 0,J 0,J 0,J 0,J 0,J 0,J 0,J 0,J 0,S0,S0,S0,S0,J 0,J 0,J 0,J 0,J 0,J 0,J 0,J 0,J 0,J 0,J 0,J 0,J 0,J 0,J 0,J n.Ref.Clerk,J n.Ref.Num] sizeOf73 rfl rfl rfl (A4 rfl (A4 rfl C0)) rfl rfl rfl)<|Y' r' r' (A.f r')<|B3 r' r' r' r' (T.storeB (k:=0) sizeOf3 rfl rfl rfl rfl (Nat.le_of_ble_eq_true rfl))<|Y' r' r' (A.f r')<|B3 r' r' r' r' (T.storeB (k:=0) sizeOf3 rfl rfl rfl rfl (Nat.le_of_ble_eq_true rfl))<|V' 2 r'<|B4 10 [9] [9]<|have hp95:=D8 hp17;Y' r' r' (A.f r')<|have hp96:=U0 hp17;Y' r' r' (A.f r')<|Y' r' r' (A.i r' hp96)<|have hp97:=A0H hp17;Y' r' r' (A.f r')<|Y' r' r' (A.i r' hp97)<|DW.x (V:=Value.agg [.pointer (some (((⟨b13,0,none⟩:Addr)).add 36)),J n.Station,J n.Week].toArray) r' r' (X.build zeroValue296 runUnderlying296 (A5g _ underlying296) rfl rfl) (by decide) ?_
  exact Y' r' r' (W7 runUnderlying296 rfl)<|Y' r' r' (K4 0 r' r' r')<|U' 1 r'<|W' 1 r' r' r' r' r'<|V' 4 r'<|Y8 1 r' r' r' r' isAgg200 sizeOf200<|C5<|⟨_,_,((NoteT.mk (n.Clerk) (n.Num) (n.Clock) (n.Day) (n.Kind) (n.Station) (n.Week) ((Sheet.mk ((Paper.mk (0) (0) (0) (0) (0) (0) ((Span.mk (0) (0))) ((Span.mk (0) (0))))) ([]) ([]) ((Drum.mk ([]) ([]))) ((Pen.mk (0) ((Span.mk (0) (0))) (0))))) ((Mark.mk (0) ((Span.mk (0) (0))))) ((ReadT.mk (0) (0) (0) ((Span.mk (0) (0))))) ((Height.mk (0) ((Span.mk (0) (0))))) (n.Ref))),rfl,(.inr (.inl ⟨by omega,.inr (.inr (.inr (.inl ⟨_,((FilingT.mk ((RawV.mk (.pointer (some (((⟨b13,0,none⟩:Addr)).add 36))) rfl)) (n.Station) (n.Week))),rfl,rfl,.yes hp95⟩)))⟩)),⟨_,_,_,_,rfl,.nil,.nil,.nil,.nil⟩⟩
 refine v' 6 r'<|c' (X.eql r' r') (fun h98=>?_) fun h98=>?_
 ·refine v' 6 r'<|have hp99:=D8 hp17;f' r' t'<|g' hp99 r' fun c100 hc101=>?_
  obtain rfl:=hc101
  refine f' r' t'<|I2 (S3 (k:=0) [J n.Clerk,J n.Num,J n.Clock,J n.Day,J n.Kind,J 0,J 0,J 0,J 0,J 0,J 0,J 0,J 0,J 0,J 0,J 0,J 0,S0,S0,S0,S0,J 0,J 0,J 0,J 0,J 0,J 0,J 0,J 0,J 0,J 0,J 0,J 0,J 0,J 0,J 0,J n.Ref.Clerk,J n.Ref.Num] sizeOf73 rfl rfl rfl (A4 rfl (A4 rfl C0)) rfl rfl rfl)<|v' 5 r'<|have hp102:=U1 hp17;f' r' t'<|have hp103:=A1C hp102;f' r' t'<|i' hp103 r'<|e' (X.neq r' r') (fun h104=>?_) fun h104=>?_
  ·refine v' 5 r'<|have hp105:=U1 hp17;f' r' t'<|g' hp105 r' fun c106 hc107=>?_
   obtain rfl:=hc107
   refine f' r' t'<|I2 (S3 (k:=0) [J n.Clerk,J n.Num,J n.Clock,J n.Day,J n.Kind,J 0,J 0,J 0,J 0,J 0,J 0,J 0,J 0,J 0,J 0,J 0,J 0,S0,S0,S0,S0,J 0,J 0,J 0,J 0,J 0,J 0,J 0,J n.Read.Station,J n.Read.Week,J n.Read.Tick,J n.Read.Levels.Lo,J n.Read.Levels.Hi,J 0,J 0,J 0,J n.Ref.Clerk,J n.Ref.Num] sizeOf196 rfl rfl rfl (A4 rfl (A4 rfl (A4 rfl (A4 rfl (A4 rfl C0))))) rfl rfl rfl)<|v' 3 r'<|B4 8 [7] [7]<|have hp108:=D8 hp17;Y' r' r' (A.f r')<|have hp109:=U1 hp17;Y' r' r' (A.f r')<|G' hp109 r' r' r' fun c110 hc111=>?_
   obtain rfl:=hc111
   refine DW.y (V:=Value.agg [.pointer (some (((⟨b13,0,none⟩:Addr)).add 36)),J n.Read.Station,J n.Read.Week,J n.Read.Tick,J n.Read.Levels.Lo,J n.Read.Levels.Hi].toArray) rfl rfl (X.build zeroValue452 runUnderlying452 (B1z _ underlying452) rfl (by kernel_rfl)) ?_
   exact Y' r' r' (W7 runUnderlying452 rfl)<|Y' r' r' (K4 0 r' r' r')<|U' 1 r'<|W' 1 r' r' r' r' r'<|V' 5 r'<|Y8 1 r' r' r' r' isAgg200 sizeOf200<|C5<|⟨_,_,((NoteT.mk (n.Clerk) (n.Num) (n.Clock) (n.Day) (n.Kind) (0) (0) ((Sheet.mk ((Paper.mk (0) (0) (0) (0) (0) (0) ((Span.mk (0) (0))) ((Span.mk (0) (0))))) ([]) ([]) ((Drum.mk ([]) ([]))) ((Pen.mk (0) ((Span.mk (0) (0))) (0))))) ((Mark.mk (0) ((Span.mk (0) (0))))) (n.Read) ((Height.mk (0) ((Span.mk (0) (0))))) (n.Ref))),rfl,(.inr (.inl ⟨by omega,.inr (.inr (.inl ⟨_,((ReadCt.mk ((RawV.mk (.pointer (some (((⟨b13,0,none⟩:Addr)).add 36))) rfl)) (n.Read))),rfl,rfl,.yes hp108⟩))⟩)),⟨_,_,_,_,rfl,.nil,.nil,.nil,.nil⟩⟩
  refine v' 7 r'<|have hp112:=O3 hp17;f' r' t'<|g' hp112 r' fun c113 hc114=>?_
  obtain rfl:=hc114
  refine f' r' t'<|I2 (S3 (k:=0) [J n.Clerk,J n.Num,J n.Clock,J n.Day,J n.Kind,J 0,J 0,J 0,J 0,J 0,J 0,J 0,J 0,J 0,J 0,J 0,J 0,S0,S0,S0,S0,J 0,J 0,J 0,J 0,J n.Mark.Column,J n.Mark.Ticks.Lo,J n.Mark.Ticks.Hi,J 0,J 0,J 0,J 0,J 0,J 0,J 0,J 0,J n.Ref.Clerk,J n.Ref.Num] sizeOf98 rfl rfl rfl (A4 rfl (A4 rfl (A4 rfl C0))) rfl rfl rfl)<|v' 3 r'<|B4 9 [8] [8]<|have hp115:=D8 hp17;Y' r' r' (A.f r')<|G' hp115 r' r' r' fun c116 hc117=>?_
  obtain rfl:=hc117
  refine have hp118:=O3 hp17;Y' r' r' (A.f r')<|G' hp118 r' r' r' fun c119 hc120=>?_
  obtain rfl:=hc120
  refine DW.y (V:=Value.agg [J n.Ref.Clerk,J n.Ref.Num,J n.Mark.Column,J n.Mark.Ticks.Lo,J n.Mark.Ticks.Hi].toArray) rfl rfl (X.build zeroValue450 runUnderlying450 (B1G _ underlying450) rfl rfl) ?_
  exact Y' r' r' (W7 runUnderlying450 rfl)<|Y' r' r' (K4 0 r' r' r')<|U' 1 r'<|W' 1 r' r' r' r' r'<|V' 4 r'<|Y8 1 r' r' r' r' isAgg200 sizeOf200<|C5<|B0p
 refine v' 6 r'<|c' (X.eql r' r') (fun h121=>?_) fun h121=>?_
 ·refine v' 6 r'<|have hp122:=D8 hp17;f' r' t'<|g' hp122 r' fun c123 hc124=>?_
  obtain rfl:=hc124
  refine f' r' t'<|I2 (S3 (k:=0) [J n.Clerk,J n.Num,J n.Clock,J n.Day,J n.Kind,J 0,J 0,J 0,J 0,J 0,J 0,J 0,J 0,J 0,J 0,J 0,J 0,S0,S0,S0,S0,J 0,J 0,J 0,J 0,J 0,J 0,J 0,J 0,J 0,J 0,J 0,J 0,J 0,J 0,J 0,J n.Ref.Clerk,J n.Ref.Num] sizeOf73 rfl rfl rfl (A4 rfl (A4 rfl C0)) rfl rfl rfl)<|v' 3 r'<|B4 7 [6] [6]<|have hp125:=D8 hp17;Y' r' r' (A.f r')<|G' hp125 r' r' r' fun c126 hc127=>?_
  obtain rfl:=hc127
  refine DW.y (V:=Value.agg [J n.Ref.Clerk,J n.Ref.Num].toArray) rfl rfl (X.build zeroValue456 runUnderlying456 (B7T _ underlying456) rfl rfl) ?_
  exact Y' r' r' (W7 runUnderlying456 rfl)<|Y' r' r' (K4 0 r' r' r')<|U' 1 r'<|W' 1 r' r' r' r' r'<|V' 4 r'<|Y8 1 r' r' r' r' isAgg200 sizeOf200<|C5<|⟨_,_,((NoteT.mk (n.Clerk) (n.Num) (n.Clock) (n.Day) (n.Kind) (0) (0) ((Sheet.mk ((Paper.mk (0) (0) (0) (0) (0) (0) ((Span.mk (0) (0))) ((Span.mk (0) (0))))) ([]) ([]) ((Drum.mk ([]) ([]))) ((Pen.mk (0) ((Span.mk (0) (0))) (0))))) ((Mark.mk (0) ((Span.mk (0) (0))))) ((ReadT.mk (0) (0) (0) ((Span.mk (0) (0))))) ((Height.mk (0) ((Span.mk (0) (0))))) (n.Ref))),rfl,(.inr (.inl ⟨by omega,.inr (.inr (.inr (.inr (⟨_,((WithCt.mk (n.Ref))),rfl,rfl⟩))))⟩)),⟨_,_,_,_,rfl,.nil,.nil,.nil,.nil⟩⟩
 exact v' 8 r'<|B4 3 [2] [2]<|Y' r' r' (K4 0 r' r' r')<|U' 1 r'<|W' 1 r' r' r' r' r'<|V' 2 r'<|Y8 1 r' r' r' r' isAgg200 sizeOf200<|C5<|⟨_,_,((NoteT.mk (n.Clerk) (n.Num) (n.Clock) (n.Day) (n.Kind) (0) (0) ((Sheet.mk ((Paper.mk (0) (0) (0) (0) (0) (0) ((Span.mk (0) (0))) ((Span.mk (0) (0))))) ([]) ([]) ((Drum.mk ([]) ([]))) ((Pen.mk (0) ((Span.mk (0) (0))) (0))))) ((Mark.mk (0) ((Span.mk (0) (0))))) ((ReadT.mk (0) (0) (0) ((Span.mk (0) (0))))) ((Height.mk (0) ((Span.mk (0) (0))))) ((NName.mk (0) (0))))),rfl,(.inl rfl),⟨_,_,_,_,rfl,.nil,.nil,.nil,.nil⟩⟩
theorem C8i:prog.underlying 417=some (.interface (prog.methodsAt 417)):=by simp[Program.methodsAt,underlying417]
theorem C1E{m:Mem}{v:Value}{k:Int}(h:OkC m v k)(hi:B7w v=true){cb:List Value}{b:BaseT}(hb:Enc.rd m cb b):Inv prog "aneroid/archive.right" [.agg cb.toArray] m (SB k b) v:=by
 rcases h with rfl|⟨hk,⟨c,x,rfl,h1,h2⟩|⟨c,x,rfl,h1⟩|⟨c,x,rfl,h1,h2⟩|⟨c,x,rfl,h1,h2⟩|⟨c,x,rfl,h1⟩⟩|⟨c,x,rfl,h1⟩
 ·cases hi
 ·exact⟨_,_,361,_,rfl,call361,fun w=>by kernel_rfl,A9Z hk (C0O m _ x h1 _ b hb h2)⟩
 ·exact⟨_,_,363,_,rfl,call363,fun w=>by kernel_rfl,A9Z hk (C1B m _ x h1 _ b hb)⟩
 ·exact⟨_,_,366,_,rfl,call366,fun w=>by kernel_rfl,A9Z hk (C1C m _ x h1 _ b hb h2)⟩
 ·exact⟨_,_,355,_,rfl,call355,fun w=>by kernel_rfl,A9Z hk (B2I m _ x h1 _ b hb h2)⟩
 ·exact⟨_,_,369,_,rfl,call369,fun w=>by kernel_rfl,A9Z hk (C1Z m _ x h1 _ b hb)⟩
 ·exact⟨_,_,368,_,rfl,call368,fun w=>by kernel_rfl,C4T (C2i m _ x h1 _ b hb)⟩
theorem B9I(m:Mem)(cb:List Value)(b:BaseT)(hb:Enc.rd m cb b)(cn:List Value)(n:NoteT)(hn:Enc.rd m cn n):Pure prog 227 #[.agg cb.toArray,.agg cn.toArray] m (fun m' v=>∃(q0:Bool),v= .bool q0∧(q0=true→n.Kind=4→0<b.Stations.length)):=by
 obtain⟨v1,rfl,hs2⟩:=hb
 have hl3:=hs2.le
 obtain⟨v4,v6,v8,v10,rfl,hs5,hs7,hs9,hs11⟩:=hn
 refine have hl12:=hs5.le;have hl13:=hs7.le;have hl14:=hs9.le;have hl15:=hs11.le;H7 func227 r' ntmps227 fun wld=>q' 2 r'<|o' r' r' fun b16=>o' r' r' fun b17=>v' 4 r'<|fz (x:=b) 1 r' r' ⟨_,rfl,hs2⟩ fun m18 hle19 hp20=>have hs5:=hs5.mono hle19;have hs7:=hs7.mono hle19;have hs9:=hs9.mono hle19;have hs11:=hs11.mono hle19;fz (x:=n) 0 r' r' ⟨_,_,_,_,rfl,hs5,hs7,hs9,hs11⟩ fun m21 hle22 hp23=>have hp20:=hp20.mono hle22;q' 1 r'<|g' hp23 r' fun c24 hc25=>?_
 obtain⟨v26,v28,v30,v32,rfl,hs27,hs29,hs31,hs33⟩:=hc25
 refine have hl34:=hs27.le;have hl35:=hs29.le;have hl36:=hs31.le;have hl37:=hs33.le;D1 (T.call call283 rfl (C3W _ _ n ⟨_,_,_,_,rfl,hs27,hs29,hs31,hs33⟩)) (by decide) fun m38 r39 hle40 hR41=>?_
 obtain⟨v42,c44,x45,rfl,hr43,hc46⟩:=hR41
 replace hp20:=hp20.mono hle40
 replace hp23:=hp23.mono hle40
 obtain⟨v47,v49,v51,v53,rfl,hs48,hs50,hs52,hs54⟩:=hc46
 refine have hl55:=hs48.le;have hl56:=hs50.le;have hl57:=hs52.le;have hl58:=hs54.le;v' 3 r'<|n' zeroValue200 r' fun b59=>v' 1 r'<|w' 0 r' r' r'<|v' 5 r' ?_
 refine K2 (B6A C8i rfl hr43.form) (by decide) (fun h60=>?_) (fun h60=>?_)
 ·refine v' 2 r'<|g' hp23 r' fun c61 hc62=>?_
  obtain⟨v63,v65,v67,v69,rfl,hs64,hs66,hs68,hs70⟩:=hc62
  refine have hl71:=hs64.le;have hl72:=hs66.le;have hl73:=hs68.le;have hl74:=hs70.le;v' 1 r'<|a' 0 r' r'<|v' 1 r'<|c' (X.call call284 rfl (C4I _ _ n ⟨_,_,_,_,rfl,hs64,hs66,hs68,hs70⟩ _ x45 ⟨_,_,_,_,rfl,hs48,hs50,hs52,hs54⟩)) (fun h75=>?_) fun h75=>?_
  ·refine v' 3 r'<|g' hp23 r' fun c76 hc77=>?_
   obtain⟨v78,v80,v82,v84,rfl,hs79,hs81,hs83,hs85⟩:=hc77
   refine have hl86:=hs79.le;have hl87:=hs81.le;have hl88:=hs83.le;have hl89:=hs85.le;v' 1 r'<|y' (X.call call154 rfl (H9 _ _ n ⟨_,_,_,_,rfl,hs79,hs81,hs83,hs85⟩))<|v' 1 r'<|c' (X.call call285 rfl (A1b _ _ (G4 n) rfl)) (fun h90=>?_) fun h90=>?_
   ·refine v' 3 r'<|have hp91:=A1t hp23;f' r' t'<|v' 1 r'<|i' hp91 r'<|v' 1 r'<|c' (X.call call83 rfl (S9 _ _ _ _)) (fun h92=>?_) fun h92=>?_
    ·refine v' 3 r'<|have hp93:=A1y hp23;f' r' t'<|v' 1 r'<|i' hp93 r'<|v' 1 r'<|c' (X.call call83 rfl (S9 _ _ _ _)) (fun h94=>?_) fun h94=>?_
     ·refine v' 5 r'<|g' hp20 r' fun c95 hc96=>?_
      obtain⟨v97,rfl,hs98⟩:=hc96
      refine have hl99:=hs98.le;v' 1 r' ?_
      refine D1 (C4u rfl rfl (C1E hr43 (by assumption) ⟨_,rfl,hs98⟩)) (by decide) (fun m100 _ hle101 ⟨q102,hv_,hq103⟩=>?_)
      subst hv_
      exact v' 5 r'<|A0 r' r'<|C5<|⟨_,rfl,fun h_=>by first|(cases h_;done)|exact hq103 h_⟩
     exact v' 10 r'<|A0 r' r'<|C5<|⟨_,rfl,fun h_=>by first|(cases h_;done)|exact hq103 h_⟩
    exact v' 15 r'<|A0 r' r'<|C5<|⟨_,rfl,fun h_=>by first|(cases h_;done)|exact hq103 h_⟩
   exact v' 20 r'<|A0 r' r'<|C5<|⟨_,rfl,fun h_=>by first|(cases h_;done)|exact hq103 h_⟩
  exact v' 25 r'<|A0 r' r'<|C5<|⟨_,rfl,fun h_=>by first|(cases h_;done)|exact hq103 h_⟩
 exact v' 29 r'<|A0 r' r'<|C5<|⟨_,rfl,fun h_=>by first|(cases h_;done)|exact hq103 h_⟩
theorem X3(h:G:=by exact⟨_,_,rfl,fun h_=>by first|omega|exact⟨by omega,fun j hj=>hall j (by omega)⟩⟩):G:=h
theorem B4B(m:Mem)(cb:List Value)(b:BaseT)(hb:Enc.rd m cb b)(vl:Value)(l:List NoteT)(hl:Sl m vl l):Pure prog 151 #[.agg cb.toArray,vl] m (fun m' v=>∃(z0:Int) (z1:Int),v= .tuple #[J z0,J z1]∧(z0=0→(l.length≤400∧∀q,q<l.length→(gt l q).Kind=4→0<b.Stations.length))):=by
 obtain⟨v1,rfl,hs2⟩:=hb
 refine have hl3:=hs2.le;have ll:=hl.le;H7 func151 r' ntmps151 fun wld=>q' 2 r'<|o' r' r' fun b4=>v' 6 r'<|fz (x:=b) 0 r' r' ⟨_,rfl,hs2⟩ fun m5 hle6 hp7=>have hl:=hl.mono hle6;q' 1 r'<|g' hp7 r' fun c8 hc9=>?_
 obtain⟨v10,rfl,hs11⟩:=hc9
 refine have hl12:=hs11.le;y' (X.call call82 rfl (A5i _ _ b ⟨_,rfl,hs11⟩))<|v' 6 r'<|e' (X.neq r' r') (fun h13=>?_) fun h13=>?_
 ·exact v' 12 r'<|B6 r' r' r'<|C5<|X3
 refine v' 9 r'<|l' hl r'<|c' (X.gtr r' r') (fun h14=>?_) fun h14=>?_
 ·exact v' 11 r'<|B6 r' r' r'<|C5<|X3
 refine v' 9 r'<|l' hl r'<|v' 4 r' ?_
 refine I0 (fun(k:Nat)=>l.length-k) (fun k=>[]) (fun k=>[(1,vl),(2,Pt b4 0),(18,vl),(19,J l.length),(20,J k)]) (fun k=>k≤l.length∧(∀j,j<k→(gt l j).Kind=4→0<b.Stations.length)) 0 ?_ ?_
 ·exact⟨Nat.zero_le _,fun j hj=>absurd hj (Nat.not_lt_zero _)⟩
 rintro k ⟨hk,hall⟩
 refine K6 (fun hgood0=>?_)
 refine q' 2 r'<|c' (X.lss r' r') (fun h16=>?_) fun h16=>?_
 ·refine v' 11 r'<|x' k hl r' r' fun p17 hp18=>g' hp18 r' fun c19 hc20=>?_
  obtain⟨v21,v23,v25,v27,rfl,hs22,hs24,hs26,hs28⟩:=hc20
  refine have hl29:=hs22.le;have hl30:=hs24.le;have hl31:=hs26.le;have hl32:=hs28.le;n' zeroValue200 r' fun b33=>v' 1 r'<|w' 0 r' r' r'<|v' 4 r'<|fz (x:=gt l k) 0 r' r' ⟨_,_,_,_,rfl,hs22,hs24,hs26,hs28⟩ fun m34 hle35 hp36=>have hl:=hl.mono hle35;have hp7:=hp7.mono hle35;q' 1 r'<|g' hp7 r' fun c37 hc38=>?_
  obtain⟨v39,rfl,hs40⟩:=hc38
  refine have hl41:=hs40.le;g' hp36 r' fun c42 hc43=>?_
  obtain⟨v44,v46,v48,v50,rfl,hs45,hs47,hs49,hs51⟩:=hc43
  refine have hl52:=hs45.le;have hl53:=hs47.le;have hl54:=hs49.le;have hl55:=hs51.le;D1 (T.call call227 rfl (B9I _ _ b ⟨_,rfl,hs40⟩ _ (gt l k) ⟨_,_,_,_,rfl,hs45,hs47,hs49,hs51⟩)) (by decide) fun m56 r57 hle58 hR59=>?_
  obtain⟨q60,rfl,hx61⟩:=hR59
  replace hl:=hl.mono hle58
  replace hp36:=hp36.mono hle58
  cases q60
  ·exact v' 18 r'<|B6 r' r' r'<|C5<|X3
  refine v' 10 r'<|c' (X.eql r' r') (fun h62=>?_) fun h62=>?_
  ·exact v' 12 r'<|E5 hgood0 (Mem.le_trans hle35 hle58)<|G5 (k+1)<|⟨by omega,fun j hj=>by rcases Nat.lt_succ_iff_lt_or_eq.1 hj with h|h;exact hall j h;subst h;exact hx61 rfl⟩
  refine v' 6 r'<|B4 10 [] []<|U' 3 r'<|G9 r' r' (Q4 (k-1) runUnderlying52 sizeOf200 rfl rfl hl (by omega) (by omega)) (by decide) fun p63 hp64=>G' hp64 r' r' r' fun c65 hc66=>?_
  obtain⟨v67,v69,v71,v73,rfl,hs68,hs70,hs72,hs74⟩:=hc66
  refine have hl75:=hs68.le;have hl76:=hs70.le;have hl77:=hs72.le;have hl78:=hs74.le;Y' r' r' (X.call call154 rfl (H9 _ _ (gt l (k-1)) ⟨_,_,_,_,rfl,hs68,hs70,hs72,hs74⟩))<|G' hp36 r' r' r' fun c79 hc80=>?_
  obtain⟨v81,v83,v85,v87,rfl,hs82,hs84,hs86,hs88⟩:=hc80
  refine have hl89:=hs82.le;have hl90:=hs84.le;have hl91:=hs86.le;have hl92:=hs88.le;Y' r' r' (X.call call154 rfl (H9 _ _ (gt l k) ⟨_,_,_,_,rfl,hs82,hs84,hs86,hs88⟩))<|Y' r' r' (X.call call228 rfl (A8q _ _ (G4 ((gt l (k-1)))) rfl _ (G4 ((gt l k))) rfl))<|U' 1 r'<|V' 5 r'<|c' (X.eql r' r') (fun h93=>?_) fun h93=>?_
  ·exact v' 18 r'<|B6 r' r' r'<|C5<|X3
  refine v' 7 r'<|c' (X.gtr r' r') (fun h94=>?_) fun h94=>?_
  ·exact v' 18 r'<|B6 r' r' r'<|C5<|X3
  exact v' 13 r'<|E5 hgood0 (Mem.le_trans hle35 hle58)<|G5 (k+1)<|⟨by omega,fun j hj=>by rcases Nat.lt_succ_iff_lt_or_eq.1 hj with h|h;exact hall j h;subst h;exact hx61 rfl⟩
 exact v' 16 r'<|B6 r' r' r'<|C5<|X3
theorem A6z(h:G:=by exact⟨_,rfl,fun h_=>by first|omega|(exfalso;omega)|exact⟨by omega,fun j hj=>hall j (by omega)⟩⟩):G:=h
theorem C3U(m:Mem)(cb:List Value)(b:BaseT)(hb:Enc.rd m cb b)(vl:Value)(l:List (List NoteT))(hl:Sl m vl l):Pure prog 80 #[.agg cb.toArray,vl] m (fun m' v=>∃(z0:Int),v=J z0∧(z0=0→baE b=0∧∀j,j<l.length→(((gt l j)).length≤400∧∀q,q<((gt l j)).length→(gt ((gt l j)) q).Kind=4→0<b.Stations.length))):=by
 obtain⟨v1,rfl,hs2⟩:=hb
 refine have hl3:=hs2.le;have ll:=hl.le;H7 func80 r' ntmps80 fun wld=>q' 2 r'<|o' r' r' fun b4=>v' 5 r'<|fz (x:=b) 0 r' r' ⟨_,rfl,hs2⟩ fun m5 hle6 hp7=>have hl:=hl.mono hle6;q' 1 r'<|g' hp7 r' fun c8 hc9=>?_
 obtain⟨v10,rfl,hs11⟩:=hc9
 refine have hl12:=hs11.le;y' (X.call call82 rfl (A5i _ _ b ⟨_,rfl,hs11⟩))<|v' 6 r'<|e' (X.neq r' r') (fun h13=>?_) fun h13=>?_
 ·exact v' 11 r'<|A0 r' r'<|C5<|A6z
 refine v' 9 r'<|l' hl r'<|v' 4 r' ?_
 refine I0 (fun(k:Nat)=>l.length-k) (fun k=>[]) (fun k=>[(2,Pt b4 0),(15,vl),(16,J l.length),(17,J k)]) (fun k=>k≤l.length∧(∀j,j<k→(((gt l j)).length≤400∧∀q,q<((gt l j)).length→(gt ((gt l j)) q).Kind=4→0<b.Stations.length))) 0 ?_ ?_
 ·exact⟨Nat.zero_le _,fun j hj=>absurd hj (Nat.not_lt_zero _)⟩
 rintro k ⟨hk,hall⟩
 refine K6 (fun hgood0=>?_)
 refine q' 2 r'<|c' (X.lss r' r') (fun h15=>?_) fun h15=>?_
 ·refine v' 10 r'<|x' k hl r' r' fun p16 hp17=>s' hp17 r' fun v18 hs19=>have hl20:=hs19.le;v' 5 r'<|g' hp7 r' fun c21 hc22=>?_
  obtain⟨v23,rfl,hs24⟩:=hc22
  refine have hl25:=hs24.le;v' 1 r'<|D1 (T.call call151 rfl (B4B _ _ b ⟨_,rfl,hs24⟩ _ _ hs19)) (by decide) fun m26 r27 hle28 hR29=>?_
  obtain⟨z30,z31,rfl,hx32⟩:=hR29
  refine v' 10 r'<|e' (X.neq r' r') (fun h33=>?_) fun h33=>?_
  ·exact v' 14 r'<|A0 r' r'<|C5<|A6z
  exact v' 11 r'<|E5 hgood0 hle28<|G5 (k+1)<|⟨by omega,fun j hj=>by rcases Nat.lt_succ_iff_lt_or_eq.1 hj with h|h;exact hall j h;subst h;exact hx32 (by first|omega|assumption)⟩
 exact v' 15 r'<|A0 r' r'<|C5<|A6z
end Go.Proofs.S10
