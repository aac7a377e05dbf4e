import Derived.Test.YtooomcigmleneaaGreatKxW
import Derived.Test.YtooomcigmleneaaGreatKyP
import Derived.Test.YtooomcigmleneaaGreatT10Ty
import Derived.Test.YtooomcigmleneaaGreatKxU
import Derived.Test.YtooomcigmleneaaGreatT10SWk
import Derived.Test.YtooomcigmleneaaGreatT10W29
set_option linter.all false
namespace Go.Proofs.S10
open Tryz
set_option maxRecDepth 20000
open Go Go.Kx Go.Proofs.T10
variable{G:Prop}
theorem S9(m:Mem)(n:Int)(lo:Int)(hi:Int):Exact prog 83 #[J n,J lo,J hi] m (.bool (decide (lo≤n∧n≤hi))):=by
 refine C7 func83 r' ntmps83 fun wld=>q' 9 r'<|c' (X.geq r' r') (fun h1=>?_) fun h1=>?_
 ·refine v' 12 r'<|A0 r' r'<|A7 ?_
  first|exact C9 (by omega)|exact A9 (by omega)|exact D5 (by omega)
 refine v' 9 r'<|A0 r' r'<|A7 ?_
 first|exact C9 (by omega)|exact A9 (by omega)|exact D5 (by omega)
theorem H9(m:Mem)(cn:List Value)(n:NoteT)(hn:Enc.rd m cn n):Exact prog 154 #[.agg cn.toArray] m (.agg [J ((G4 n).Clerk),J ((G4 n).Num)].toArray):=by
 obtain⟨v1,v3,v5,v7,rfl,hs2,hs4,hs6,hs8⟩:=hn
 refine have hl9:=hs2.le;have hl10:=hs4.le;have hl11:=hs6.le;have hl12:=hs8.le;C7 func154 r' ntmps154 fun wld=>q' 2 r'<|o' r' r' fun b13=>n' zeroValue73 r' fun b14=>v' 4 r'<|f' r' t'<|b' 1 r' r' r'<|f' r' t'<|b' 1 r' r' r'<|WL.x (V:=Value.agg [J n.Clerk,J n.Num].toArray) (X.build zeroValue73 runUnderlying73 (C1w _ underlying73) rfl rfl) (by decide) ?_
 refine w' 0 r' r' r'<|v' 3 r'<|T3 0 r' r' r' isAgg73 sizeOf73<|A7 ?_
 first|rfl|(simp[*];done)
theorem A4Q(h:G:=by first|exact C9 (by unfold rnP;omega)|exact A9 (fun h_=>by unfold rnP at h_;omega)|exact D5 ⟨fun h_=>(by unfold rnP;omega),fun h_=>(by unfold rnP at h_;omega)⟩):G:=h
theorem A1b(m:Mem)(cn:List Value)(n:NName)(hn:Enc.rd m cn n):Exact prog 285 #[.agg cn.toArray] m (.bool (decide (rnP n))):=by
 obtain rfl:=hn
 refine C7 func285 r' ntmps285 fun wld=>q' 2 r'<|o' r' r' fun b1=>v' 5 r'<|f' r' t'<|b' 0 r' r' r'<|c' (X.call call83 rfl (S9 _ _ _ _)) (fun h2=>?_) fun h2=>?_
 ·exact v' 2 r'<|f' r' t'<|v' 1 r'<|b' 0 r' r' r'<|v' 1 r'<|y' (X.call call83 rfl (S9 _ _ _ _))<|v' 5 r'<|A0 r' r'<|A7<|A4Q
 exact v' 9 r'<|A0 r' r'<|A7<|A4Q
theorem B2O(h:G:=by first|exact A8 (B5o (by omega) (fun j hj=>hall j (by omega)) (by assumption)).symm|exact A8 (B7I (fun j hj=>hall j (by omega))).symm):G:=h
theorem C2N(m:Mem)(vl:Value)(l:List Int)(hl:Sl m vl l):Exact prog 286 #[vl] m (J (orL l)):=by
 refine have ll:=hl.le;C7 func286 r' ntmps286 fun wld=>q' 14 r'<|l' hl r'<|v' 4 r' ?_
 refine I0 (fun(k:Nat)=>l.length-k) (fun k=>[]) (fun k=>[(3,J 0),(6,vl),(7,J l.length),(8,J k)]) (fun k=>k≤l.length∧(∀j,j<k→gt l j=0)) 0 ?_ ?_
 ·exact⟨Nat.zero_le _,fun j hj=>absurd hj (Nat.not_lt_zero _)⟩
 rintro k ⟨hk,hall⟩
 refine q' 2 r'<|c' (X.lss r' r') (fun h2=>?_) fun h2=>?_
 ·refine v' 10 r'<|x' k hl r' r' fun p3 hp4=>i' hp4 r'<|v' 7 r'<|e' (X.neq r' r') (fun h5=>?_) fun h5=>?_
  ·exact v' 15 r'<|A0 r' r'<|A7<|B2O
  exact v' 11 r'<|G5 (k+1)<|⟨by omega,fun j hj=>by rcases Nat.lt_succ_iff_lt_or_eq.1 hj with h|h;exact hall j h;subst h;(first|assumption|(apply Classical.byContradiction;assumption))⟩
 exact v' 16 r'<|A0 r' r'<|A7<|B2O
theorem A8q(m:Mem)(ca:List Value)(a:NName)(ha:Enc.rd m ca a)(cb:List Value)(b:NName)(hb:Enc.rd m cb b):Exact prog 228 #[.agg ca.toArray,.agg cb.toArray] m (J (B2w a b)):=by
 obtain rfl:=ha
 obtain rfl:=hb
 refine C7 func228 r' ntmps228 fun wld=>q' 2 r'<|o' r' r' fun b1=>o' r' r' fun b2=>v' 4 r'<|fz (x:=a) 1 r' r' r' fun m3 hle4 hp5=>fz (x:=b) 0 r' r' r' fun m6 hle7 hp8=>have hp5:=hp5.mono hle7;B4 13 [10] []<|have hp9:=B0i hp5;Y' r' r' (A.f r')<|Y' r' r' (A.i r' hp9)<|have hp10:=B0i hp8;Y' r' r' (A.f r')<|Y' r' r' (A.i r' hp10)<|Y' r' r' (X.call call88 rfl (A0u _ _ _))<|have hp11:=A9F hp5;Y' r' r' (A.f r')<|Y' r' r' (A.i r' hp11)<|have hp12:=A9F hp8;Y' r' r' (A.f r')<|Y' r' r' (A.i r' hp12)<|Y' r' r' (X.call call88 rfl (A0u _ _ _)) ?_
 refine A1V rfl rfl rfl (L5 (α:=Int) (vals:=[J (S7 a.Clerk b.Clerk),J (S7 a.Num b.Num)]) (L:=[S7 a.Clerk b.Clerk,S7 a.Num b.Num]) L6 rfl (.cons rfl rfl (.cons rfl rfl .nil)) rfl rfl) (by decide) (fun m13 v14 hle15 hs16=>?_)
 refine Y' r' r' (X.call call286 rfl (C2N _ _ _ hs16))<|U' 1 r'<|V' 2 r'<|A0 r' r'<|A7 ?_
 first|rfl|(simp[*];done)
theorem B6R(m:Mem)(ca:List Value)(a:NoteT)(ha:Enc.rd m ca a)(cb:List Value)(b:NoteT)(hb:Enc.rd m cb b):Exact prog 230 #[.agg ca.toArray,.agg cb.toArray] m (J (C7T a b)):=by
 obtain⟨v1,v3,v5,v7,rfl,hs2,hs4,hs6,hs8⟩:=ha
 have hl9:=hs2.le
 have hl10:=hs4.le
 have hl11:=hs6.le
 have hl12:=hs8.le
 obtain⟨v13,v15,v17,v19,rfl,hs14,hs16,hs18,hs20⟩:=hb
 refine have hl21:=hs14.le;have hl22:=hs16.le;have hl23:=hs18.le;have hl24:=hs20.le;C7 func230 r' ntmps230 fun wld=>q' 2 r'<|o' r' r' fun b25=>o' r' r' fun b26=>v' 4 r'<|fz (x:=a) 1 r' r' ⟨_,_,_,_,rfl,hs2,hs4,hs6,hs8⟩ fun m27 hle28 hp29=>have hs14:=hs14.mono hle28;have hs16:=hs16.mono hle28;have hs18:=hs18.mono hle28;have hs20:=hs20.mono hle28;fz (x:=b) 0 r' r' ⟨_,_,_,_,rfl,hs14,hs16,hs18,hs20⟩ fun m30 hle31 hp32=>have hp29:=hp29.mono hle31;B4 18 [15] []<|have hp33:=A1y hp29;Y' r' r' (A.f r')<|Y' r' r' (A.i r' hp33)<|have hp34:=A1y hp32;Y' r' r' (A.f r')<|Y' r' r' (A.i r' hp34)<|Y' r' r' (X.call call88 rfl (A0u _ _ _))<|have hp35:=A1t hp29;Y' r' r' (A.f r')<|Y' r' r' (A.i r' hp35)<|have hp36:=A1t hp32;Y' r' r' (A.f r')<|Y' r' r' (A.i r' hp36)<|Y' r' r' (X.call call88 rfl (A0u _ _ _))<|G' hp29 r' r' r' fun c37 hc38=>?_
 obtain⟨v39,v41,v43,v45,rfl,hs40,hs42,hs44,hs46⟩:=hc38
 refine have hl47:=hs40.le;have hl48:=hs42.le;have hl49:=hs44.le;have hl50:=hs46.le;Y' r' r' (X.call call154 rfl (H9 _ _ a ⟨_,_,_,_,rfl,hs40,hs42,hs44,hs46⟩))<|G' hp32 r' r' r' fun c51 hc52=>?_
 obtain⟨v53,v55,v57,v59,rfl,hs54,hs56,hs58,hs60⟩:=hc52
 refine have hl61:=hs54.le;have hl62:=hs56.le;have hl63:=hs58.le;have hl64:=hs60.le;Y' r' r' (X.call call154 rfl (H9 _ _ b ⟨_,_,_,_,rfl,hs54,hs56,hs58,hs60⟩))<|Y' r' r' (X.call call228 rfl (A8q _ _ (G4 a) rfl _ (G4 b) rfl)) ?_
 refine A1V rfl rfl rfl (L5 (α:=Int) (vals:=[J (S7 a.Day b.Day),J (S7 a.Clock b.Clock),J (B2w ((G4 a)) ((G4 b)))]) (L:=[S7 a.Day b.Day,S7 a.Clock b.Clock,B2w ((G4 a)) ((G4 b))]) L6 rfl (.cons rfl rfl (.cons rfl rfl (.cons rfl rfl .nil))) rfl rfl) (by decide) (fun m65 v66 hle67 hs68=>?_)
 refine Y' r' r' (X.call call286 rfl (C2N _ _ _ hs68))<|U' 1 r'<|V' 2 r'<|A0 r' r'<|A7 ?_
 first|rfl|(simp[*];done)
theorem A8x(h:G:=by first|exact F8 (A8 (by rw[if_pos (by omega)])) (A8 (by rw[if_pos (by omega)]))|exact F8 (A8 (by rw[if_neg (by omega)])) (A8 (by rw[if_neg (by omega)]))):G:=h
theorem C2v(m:Mem)(i:Int):Exact prog 289 #[J i] m (.tuple #[J (if i<0 then 0 else i),J (if i<0 then 3 else 0)]):=by
 refine C7 func289 r' ntmps289 fun wld=>q' 10 r'<|c' (X.lss r' r') (fun h1=>?_) fun h1=>?_
 ·exact v' 11 r'<|B6 r' r' r'<|A7<|A8x
 exact v' 13 r'<|B6 r' r' r'<|A7<|A8x
theorem B0h(h:G:=by first|exact C9 (by unfold A6r;omega)|exact A9 (fun h_=>by unfold A6r at h_;omega)|exact D5 ⟨fun h_=>(by unfold A6r;omega),fun h_=>(by unfold A6r at h_;omega)⟩):G:=h
theorem B1g(m:Mem)(cs:List Value)(s:Span)(hs:Enc.rd m cs s)(lo:Int)(hi:Int):Exact prog 365 #[.agg cs.toArray,J lo,J hi] m (.bool (decide (A6r s lo hi))):=by
 obtain rfl:=hs
 refine C7 func365 r' ntmps365 fun wld=>q' 2 r'<|o' r' r' fun b1=>v' 5 r'<|f' r' t'<|b' 0 r' r' r'<|v' 1 r'<|f' r' t'<|b' 0 r' r' r'<|c' (X.call call83 rfl (S9 _ _ _ _)) (fun h2=>?_) fun h2=>?_
 ·exact v' 2 r'<|f' r' t'<|v' 1 r'<|b' 0 r' r' r'<|v' 9 r'<|A0 r' r'<|A7<|B0h
 exact v' 10 r'<|A0 r' r'<|A7<|B0h
theorem B3o(m:Mem)(cx:List Value)(x:Mark)(hx:Enc.rd m cx x):Exact prog 364 #[.agg cx.toArray] m (.bool (decide (rmP x))):=by
 obtain rfl:=hx
 refine C7 func364 r' ntmps364 fun wld=>q' 2 r'<|o' r' r' fun b1=>v' 5 r'<|f' r' t'<|b' 0 r' r' r'<|c' (X.call call83 rfl (S9 _ _ _ _)) (fun h2=>?_) fun h2=>?_
 ·refine v' 2 r'<|f' r' t'<|v' 1 r'<|y' (J2 (k:=0) (vs:=[J x.Ticks.Lo,J x.Ticks.Hi]) isAgg23 sizeOf23 rfl rfl rfl rfl)<|v' 1 r'<|y' (X.call call365 rfl (B1g _ _ x.Ticks rfl _ _))<|v' 5 r'<|A0 r' r'<|A7 ?_
  first|exact A9 (fun h_=>by have h1_:=h_.1;omega)|exact D5 ⟨fun h_=>⟨by omega,h_⟩,fun h_=>h_.2⟩
 refine v' 9 r'<|A0 r' r'<|A7 ?_
 first|exact A9 (fun h_=>by have h1_:=h_.1;omega)|exact D5 ⟨fun h_=>⟨by omega,h_⟩,fun h_=>h_.2⟩
theorem A6T(h:G:=by first|exact C9 (by unfold plP;omega)|exact A9 (fun h_=>by unfold plP at h_;omega)|exact D5 ⟨fun h_=>(by unfold plP;omega),fun h_=>(by unfold plP at h_;omega)⟩):G:=h
theorem A7F(m:Mem)(cb:List Value)(b:BaseT)(hb:Enc.rd m cb b)(st:Int)(wk:Int):Exact prog 356 #[.agg cb.toArray,J st,J wk] m (.bool (decide (plP b st wk))):=by
 obtain⟨v1,rfl,hs2⟩:=hb
 refine have hl3:=hs2.le;C7 func356 r' ntmps356 fun wld=>q' 2 r'<|o' r' r' fun b4=>v' 4 r'<|fz (x:=b) 0 r' r' ⟨_,rfl,hs2⟩ fun m5 hle6 hp7=>q' 1 r'<|have hp8:=N3 hp7;f' r' t'<|s' hp8 r' fun v9 hs10=>have hl11:=hs10.le;v' 1 r'<|y' (X.call call42 rfl (A0Q _ _ _ hs10 _))<|v' 10 r'<|c' (X.eql r' r') (fun h12=>?_) fun h12=>?_
 ·exact v' 4 r'<|y' (X.call call83 rfl (S9 _ _ _ _))<|v' 5 r'<|A0 r' r'<|A7<|A6T
 exact v' 8 r'<|A0 r' r'<|A7<|A6T
theorem A2w(h:G:=by first|exact A9 (fun h_=>absurd h_.1 (by assumption))|exact A9 (fun h_=>by have h1_:=h_.2.1;omega)|exact D5 ⟨fun h_=>⟨by assumption,by omega,h_⟩,fun h_=>h_.2.2⟩):G:=h
theorem A7a(m:Mem)(cb:List Value)(b:BaseT)(hb:Enc.rd m cb b)(cr:List Value)(r:ReadT)(hr:Enc.rd m cr r):Exact prog 367 #[.agg cb.toArray,.agg cr.toArray] m (.bool (decide (rrP b r))):=by
 obtain⟨v1,rfl,hs2⟩:=hb
 have hl3:=hs2.le
 obtain rfl:=hr
 refine C7 func367 r' ntmps367 fun wld=>q' 2 r'<|o' r' r' fun b4=>o' r' r' fun b5=>v' 4 r'<|fz (x:=b) 1 r' r' ⟨_,rfl,hs2⟩ fun m6 hle7 hp8=>fz (x:=r) 0 r' r' r' fun m9 hle10 hp11=>have hp8:=hp8.mono hle10;q' 1 r'<|g' hp8 r' fun c12 hc13=>?_
 obtain⟨v14,rfl,hs15⟩:=hc13
 refine have hl16:=hs15.le;have hp17:=A1C hp11;f' r' t'<|i' hp17 r'<|have hp18:=A9T hp11;f' r' t'<|i' hp18 r'<|c' (X.call call356 rfl (A7F _ _ b ⟨_,rfl,hs15⟩ _ _)) (fun h19=>?_) fun h19=>?_
 ·refine v' 2 r'<|have hp20:=A3V hp11;f' r' t'<|v' 1 r'<|i' hp20 r'<|v' 1 r'<|have hp21:=W2 hp8;f' r' t'<|v' 1 r'<|i' hp21 r'<|v' 1 r'<|c' (X.call call83 rfl (S9 _ _ _ _)) (fun h22=>?_) fun h22=>?_
  ·refine v' 3 r'<|have hp23:=A3U hp11;f' r' t'<|v' 1 r'<|g' hp23 r' fun c24 hc25=>?_
   obtain rfl:=hc25
   exact v' 1 r'<|y' (X.call call365 rfl (B1g _ _ r.Levels rfl _ _))<|v' 5 r'<|A0 r' r'<|A7<|A2w
  exact v' 10 r'<|A0 r' r'<|A7<|A2w
 exact v' 16 r'<|A0 r' r'<|A7<|A2w
theorem X4(h:G:=by first|exact A8 (C6O (fun h_=>by unfold baP at h_;omega)).symm|exact A8 (C3f (by unfold baP;omega)).symm):G:=h
theorem A5i(m:Mem)(cb:List Value)(b:BaseT)(hb:Enc.rd m cb b):Exact prog 82 #[.agg cb.toArray] m (J (baE b)):=by
 obtain⟨v1,rfl,hs2⟩:=hb
 refine have hl3:=hs2.le;C7 func82 r' ntmps82 fun wld=>q' 2 r'<|o' r' r' fun b4=>v' 4 r'<|fz (x:=b) 0 r' r' ⟨_,rfl,hs2⟩ fun m5 hle6 hp7=>q' 1 r'<|have hp8:=N3 hp7;f' r' t'<|s' hp8 r' fun v9 hs10=>have hl11:=hs10.le;y' (X.call call89 rfl (A5H _ _ _ hs10))<|v' 11 r'<|e' (X.neq r' r') (fun h12=>?_) fun h12=>?_
 ·exact v' 36 r'<|A0 r' r'<|A7<|X4
 refine v' 2 r'<|have hp13:=A4i hp7;f' r' t'<|v' 1 r'<|g' hp13 r' fun c14 hc15=>?_
 obtain rfl:=hc15
 refine v' 1 r'<|y' (X.call call90 rfl (A5x _ _ b.Wind rfl))<|v' 1 r'<|e' (X.neq r' r') (fun h16=>?_) fun h16=>?_
 ·exact v' 31 r'<|A0 r' r'<|A7<|X4
 refine v' 3 r'<|have hp17:=W2 hp7;f' r' t'<|v' 1 r'<|i' hp17 r'<|v' 1 r'<|c' (X.call call83 rfl (S9 _ _ _ _)) (fun h18=>?_) fun h18=>?_
 ·refine v' 5 r'<|have hp19:=A1E hp7;f' r' t'<|v' 1 r'<|i' hp19 r'<|v' 1 r'<|have hp20:=W2 hp7;f' r' t'<|v' 1 r'<|i' hp20 r'<|v' 1 r'<|c' (X.call call83 rfl (S9 _ _ _ _)) (fun h21=>?_) fun h21=>?_
  ·refine v' 5 r'<|have hp22:=B7d hp7;f' r' t'<|v' 1 r'<|i' hp22 r'<|v' 1 r'<|c' (X.call call83 rfl (S9 _ _ _ _)) (fun h23=>?_) fun h23=>?_
   ·exact v' 14 r'<|A0 r' r'<|A7<|X4
   exact v' 13 r'<|A0 r' r'<|A7<|X4
  exact v' 19 r'<|A0 r' r'<|A7<|X4
 exact v' 27 r'<|A0 r' r'<|A7<|X4
theorem A2I(h:G:=by first|exact A9 (fun h_=>by have h1_:=h_.1;omega)|exact A9 (fun h_=>by have h1_:=h_.2 k (by omega);omega)|exact C9 ⟨by omega,fun j hj=>hall j (by omega)⟩):G:=h
theorem B1C(m:Mem)(cb:List Value)(b:BaseT)(hb:Enc.rd m cb b):Exact prog 35 #[.agg cb.toArray] m (.bool (decide (fbP b))):=by
 obtain⟨v1,rfl,hs2⟩:=hb
 refine have hl3:=hs2.le;C7 func35 r' ntmps35 fun wld=>q' 2 r'<|o' r' r' fun b4=>v' 5 r'<|fz (x:=b) 0 r' r' ⟨_,rfl,hs2⟩ fun m5 hle6 hp7=>q' 1 r'<|have hp8:=N3 hp7;f' r' t'<|s' hp8 r' fun v9 hs10=>have hl11:=hs10.le;l' hs10 r'<|c' (X.gtr r' r') (fun h12=>?_) fun h12=>?_
 ·exact v' 15 r'<|A0 r' r'<|A7<|A2I
 refine v' 2 r'<|have hp13:=W2 hp7;f' r' t'<|v' 1 r'<|i' hp13 r'<|v' 1 r'<|c' (X.gtr r' r') (fun h14=>?_) fun h14=>?_
 ·exact v' 11 r'<|A0 r' r'<|A7<|A2I
 refine v' 13 r' ?_
 refine I0 (fun(k:Nat)=>b.Stations.length-k) (fun k=>[]) (fun k=>[(1,Pt b4 0),(3,J k)]) (fun k=>k≤b.Stations.length∧(∀j,j<k→(gt b.Stations j).Heights.length≤6)) 0 ?_ ?_
 ·exact⟨Nat.zero_le _,fun j hj=>absurd hj (Nat.not_lt_zero _)⟩
 rintro k ⟨hk,hall⟩
 refine q' 4 r'<|have hp16:=N3 hp7;f' r' t'<|s' hp16 r' fun v17 hs18=>have hl19:=hs18.le;l' hs18 r'<|c' (X.lss r' r') (fun h20=>?_) fun h20=>?_
 ·refine v' 9 r'<|have hp21:=N3 hp7;f' r' t'<|s' hp21 r' fun v22 hs23=>have hl24:=hs23.le;v' 1 r'<|x' k hs23 r' r' fun p25 hp26=>have hp27:=A7r hp26;f' r' t'<|s' hp27 r' fun v28 hs29=>have hl30:=hs29.le;l' hs29 r'<|c' (X.gtr r' r') (fun h31=>?_) fun h31=>?_
  ·exact v' 14 r'<|A0 r' r'<|A7<|A2I
  exact v' 12 r'<|G5 (k+1)<|⟨by omega,fun j hj=>by rcases Nat.lt_succ_iff_lt_or_eq.1 hj with h|h;exact hall j h;subst h;omega⟩
 exact v' 14 r'<|A0 r' r'<|A7<|A2I
theorem Z7(h:G:=by first|exact A9 (fun h_=>by have h1_:=h_.1;omega)|exact A9 (fun h_=>by have h1_:=h_.2.1 k (by omega);omega)|exact A9 (fun h_=>by have h1_:=h_.2.2;omega)|exact D5 ⟨fun h_=>⟨by omega,fun j hj=>hall j (by omega),by omega⟩,fun h_=>by have h1_:=h_.2.2;omega⟩):G:=h
theorem B9C(m:Mem)(cx:List Value)(x:Sheet)(hx:Enc.rd m cx x):Exact prog 10 #[.agg cx.toArray] m (.bool (decide (B0U x))):=by
 obtain⟨v1,v3,v5,v7,rfl,hs2,hs4,hs6,hs8⟩:=hx
 refine have hl9:=hs2.le;have hl10:=hs4.le;have hl11:=hs6.le;have hl12:=hs8.le;C7 func10 r' ntmps10 fun wld=>q' 2 r'<|o' r' r' fun b13=>v' 5 r'<|fz (x:=x) 0 r' r' ⟨_,_,_,_,rfl,hs2,hs4,hs6,hs8⟩ fun m14 hle15 hp16=>q' 1 r'<|have hp17:=Z9 hp16;f' r' t'<|s' hp17 r' fun v18 hs19=>have hl20:=hs19.le;l' hs19 r'<|c' (X.gtr r' r') (fun h21=>?_) fun h21=>?_
 ·exact v' 48 r'<|A0 r' r'<|A7<|Z7
 refine v' 2 r'<|have hp22:=A0I hp16;f' r' t'<|v' 1 r'<|s' hp22 r' fun v23 hs24=>have hl25:=hs24.le;v' 1 r'<|l' hs24 r'<|v' 1 r'<|c' (X.gtr r' r') (fun h26=>?_) fun h26=>?_
 ·exact v' 43 r'<|A0 r' r'<|A7<|Z7
 refine v' 3 r'<|have hp27:=F9 hp16;f' r' t'<|v' 1 r'<|have hp28:=R9 hp27;f' r' t'<|v' 1 r'<|s' hp28 r' fun v29 hs30=>have hl31:=hs30.le;v' 1 r'<|l' hs30 r'<|v' 1 r'<|c' (X.gtr r' r') (fun h32=>?_) fun h32=>?_
 ·exact v' 36 r'<|A0 r' r'<|A7<|Z7
 refine v' 3 r'<|have hp33:=F9 hp16;f' r' t'<|v' 1 r'<|have hp34:=P3 hp33;f' r' t'<|v' 1 r'<|s' hp34 r' fun v35 hs36=>have hl37:=hs36.le;v' 1 r'<|l' hs36 r'<|v' 1 r'<|c' (X.gtr r' r') (fun h38=>?_) fun h38=>?_
 ·exact v' 29 r'<|A0 r' r'<|A7<|Z7
 refine v' 3 r'<|have hp39:=J9 hp16;f' r' t'<|v' 1 r'<|have hp40:=A6B hp39;f' r' t'<|v' 1 r'<|i' hp40 r'<|v' 1 r'<|c' (X.gtr r' r') (fun h41=>?_) fun h41=>?_
 ·exact v' 23 r'<|A0 r' r'<|A7<|Z7
 refine v' 3 r'<|have hp42:=J9 hp16;f' r' t'<|v' 1 r'<|have hp43:=A4D hp42;f' r' t'<|v' 1 r'<|have hp44:=W3 hp43;f' r' t'<|v' 1 r'<|i' hp44 r'<|v' 1 r'<|have hp45:=J9 hp16;f' r' t'<|v' 1 r'<|have hp46:=A4D hp45;f' r' t'<|v' 1 r'<|have hp47:=Z0 hp46;f' r' t'<|v' 1 r'<|i' hp47 r'<|v' 1 r'<|y' (A9O rfl rfl)<|v' 1 r'<|c' (X.gtr r' r') (fun h48=>?_) fun h48=>?_
 ·exact v' 11 r'<|A0 r' r'<|A7<|Z7
 refine v' 13 r' ?_
 refine I0 (fun(k:Nat)=>x.Trace.length-k) (fun k=>[]) (fun k=>[(1,Pt b13 0),(3,J k)]) (fun k=>k≤x.Trace.length∧(∀j,j<k→(gt x.Trace j).Half≤2000)) 0 ?_ ?_
 ·exact⟨Nat.zero_le _,fun j hj=>absurd hj (Nat.not_lt_zero _)⟩
 rintro k ⟨hk,hall⟩
 refine q' 4 r'<|have hp50:=Z9 hp16;f' r' t'<|s' hp50 r' fun v51 hs52=>have hl53:=hs52.le;l' hs52 r'<|c' (X.lss r' r') (fun h54=>?_) fun h54=>?_
 ·refine v' 9 r'<|have hp55:=Z9 hp16;f' r' t'<|s' hp55 r' fun v56 hs57=>have hl58:=hs57.le;v' 1 r'<|x' k hs57 r' r' fun p59 hp60=>have hp61:=B7f hp60;f' r' t'<|i' hp61 r'<|c' (X.gtr r' r') (fun h62=>?_) fun h62=>?_
  ·exact v' 14 r'<|A0 r' r'<|A7<|Z7
  exact v' 12 r'<|G5 (k+1)<|⟨by omega,fun j hj=>by rcases Nat.lt_succ_iff_lt_or_eq.1 hj with h|h;exact hall j h;subst h;omega⟩
 refine v' 10 r'<|have hp63:=Q2 hp16;f' r' t'<|have hp64:=B6J hp63;f' r' t'<|i' hp64 r'<|c' (X.leq r' r') (fun h65=>?_) fun h65=>?_
 ·exact v' 2 r'<|have hp66:=Q2 hp16;f' r' t'<|v' 1 r'<|have hp67:=A5R hp66;f' r' t'<|v' 1 r'<|i' hp67 r'<|v' 7 r'<|A0 r' r'<|A7<|Z7
 exact v' 10 r'<|A0 r' r'<|A7<|Z7
theorem B3A(h:G:=by first|exact A9 (fun h_=>absurd (h_.1 k (by omega)) (by assumption))|exact D5 ⟨fun h_=>⟨fun j hj=>hall j (by omega),by omega⟩,fun h_=>by have h1_:=h_.2;omega⟩):G:=h
theorem C7g(m:Mem)(vl:Value)(l:List NoteT)(hl:Sl m vl l):Exact prog 34 #[vl] m (.bool (decide (B7i l))):=by
 refine have ll:=hl.le;C7 func34 r' ntmps34 fun wld=>q' 12 r' ?_
 refine I0 (fun(k:Nat)=>l.length-k) (fun k=>[]) (fun k=>[(0,vl),(3,J k)]) (fun k=>k≤l.length∧(∀j,j<k→B0U (gt l j).Sheet)) 0 ?_ ?_
 ·exact⟨Nat.zero_le _,fun j hj=>absurd hj (Nat.not_lt_zero _)⟩
 rintro k ⟨hk,hall⟩
 refine q' 5 r'<|l' hl r'<|c' (X.lss r' r') (fun h2=>?_) fun h2=>?_
 ·refine v' 11 r'<|x' k hl r' r' fun p3 hp4=>have hp5:=A1v hp4;f' r' t'<|g' hp5 r' fun c6 hc7=>?_
  obtain⟨v8,v10,v12,v14,rfl,hs9,hs11,hs13,hs15⟩:=hc7
  refine have hl16:=hs9.le;have hl17:=hs11.le;have hl18:=hs13.le;have hl19:=hs15.le;c' (X.call call10 rfl (B9C _ _ ((gt l k).Sheet) ⟨_,_,_,_,rfl,hs9,hs11,hs13,hs15⟩)) (fun h20=>?_) fun h20=>?_
  ·exact v' 13 r'<|G5 (k+1)<|⟨by omega,fun j hj=>by rcases Nat.lt_succ_iff_lt_or_eq.1 hj with h|h;exact hall j h;subst h;(first|assumption|exact Classical.not_not.1 (by assumption))⟩
  exact v' 15 r'<|A0 r' r'<|A7<|B3A
 exact v' 11 r'<|l' hl r'<|v' 5 r'<|A0 r' r'<|A7<|B3A
end Go.Proofs.S10
