import Derived.Test.YtooomcigmleneaaGreatKxW
import Derived.Test.YtooomcigmleneaaGreatKyP
import Derived.Test.YtooomcigmleneaaGreatT10Ty
import Derived.Test.YtooomcigmleneaaGreatKxU
import Derived.Test.YtooomcigmleneaaGreatT10KWalk2
import Derived.Test.YtooomcigmleneaaGreatT10W19
import Derived.Test.YtooomcigmleneaaGreatKxQ
set_option linter.all false
set_option maxHeartbeats 1000000
namespace Go.Proofs.T10
open Tryz
set_option maxRecDepth 20000
open Go Go.Kx
variable{G:Prop}{caps:List Value}{d:Drum}{fn:Nat}{p:Nat→Prop}{pd:Addr}{va vg vl:Value}
theorem Z1(m:Mem)(n:Int)(lo:Int)(hi:Int):Exact prog 137 #[J n,J lo,J hi] m (.bool (decide (lo≤n∧n≤hi))):=by
 refine C7 func137 r' ntmps137 fun wld=>q' 9 r'<|c' (X.geq r' r') (fun h1=>?_) fun h1=>?_
 ·refine v' 12 r'<|A0 r' r'<|A7 ?_
  first|exact C9 (by omega)|exact A9 (by omega)|exact D5 (by omega)
 refine v' 9 r'<|A0 r' r'<|A7 ?_
 first|exact C9 (by omega)|exact A9 (by omega)|exact D5 (by omega)
theorem A9v(h:G:=by first|exact C9 (by unfold U6;omega)|exact A9 (by unfold U6;omega)|exact D5 (by unfold U6;omega)):G:=h
theorem B0w(m:Mem)(cs:List Value)(s:Span)(hs:Enc.rd m cs s)(lo:Int)(hi:Int):Exact prog 242 #[.agg cs.toArray,J lo,J hi] m (.bool (decide (U6 s lo hi))):=by
 obtain rfl:=hs
 refine C7 func242 r' ntmps242 fun wld=>q' 2 r'<|o' r' r' fun b1=>v' 5 r'<|f' r' t'<|b' 0 r' r' r'<|v' 1 r'<|f' r' t'<|b' 0 r' r' r'<|c' (X.call call137 rfl (Z1 _ _ _ _)) (fun h2=>?_) fun h2=>?_
 ·exact v' 2 r'<|f' r' t'<|v' 1 r'<|b' 0 r' r' r'<|v' 9 r'<|A0 r' r'<|A7<|A9v
 exact v' 10 r'<|A0 r' r'<|A7<|A9v
theorem C3u(m:Mem)(cs:List Value)(s:Span)(hs:Enc.rd m cs s):Exact prog 241 #[.agg cs.toArray] m (.bool (decide (¬(U6 s 1 40)))):=by
 obtain rfl:=hs
 refine C7 func241 r' ntmps241 fun wld=>q' 2 r'<|o' r' r' fun b1=>v' 5 r'<|a' 0 r' r'<|y' (X.call call242 rfl (B0w _ _ s rfl _ _))<|y' (A0l rfl)<|v' 4 r'<|A0 r' r'<|A7 ?_
 first|rfl|(simp[*];done)
theorem A9M(h:G:=by first|exact C9 (by omega)|exact A9 (by omega)|exact D5 (by omega)|exact C9 (fun h=>by have:=h.1;omega)|exact A9 (fun h=>by have:=h.1;omega)|exact D5 ⟨fun h h2=>h h2.2,fun h h2=>h ⟨by omega,h2⟩⟩|exact D5 ⟨fun h=>⟨by omega,h⟩,fun h=>h.2⟩):G:=h
theorem C4d(m:Mem){cs:List Value}{s:Stp}(hs:Enc.rd m cs s)(hpd:At m pd d):Exact prog 243 #[.agg cs.toArray,.pointer (some pd)] m (.bool (decide (¬((0≤s.Column∧s.Column≤(d.Rates.length:Int)-1)∧U6 s.Ticks 0 400)))):=by
 obtain rfl:=hs
 refine C7 func243 r' ntmps243 fun wld=>q' 2 r'<|o' r' r' fun b1=>v' 5 r'<|f' r' t'<|b' 0 r' r' r'<|have hp2:=R9 hpd;f' r' t'<|s' hp2 r' fun v3 hs4=>have hl5:=hs4.le;l' hs4 r'<|v' 1 r'<|c' (X.call call137 rfl (Z1 _ _ _ _)) (fun h6=>?_) fun h6=>?_
 ·exact v' 3 r'<|f' r' t'<|v' 1 r'<|y' (J2 (k:=0) (vs:=[J s.Ticks.Lo,J s.Ticks.Hi]) isAgg23 sizeOf23 rfl rfl rfl rfl)<|v' 1 r'<|y' (X.call call242 rfl (B0w _ _ s.Ticks rfl _ _))<|v' 1 r'<|y' (A0l rfl)<|v' 5 r'<|A0 r' r'<|A7<|A9M
 exact v' 11 r'<|A0 r' r'<|A7<|A9M
theorem A8p(h:G:=by first|exact C9 (by omega)|exact A9 (by omega)|exact D5 (by omega)|exact C9 (fun h=>by have:=h.1;omega)|exact A9 (fun h=>by have:=h.1;omega)|exact D5 ⟨fun h h2=>h h2.2,fun h h2=>h ⟨by omega,h2⟩⟩|exact D5 ⟨fun h=>⟨by omega,h⟩,fun h=>h.2⟩):G:=h
theorem C1H(m:Mem)(cd:List Value)(d:Drum)(hd:Enc.rd m cd d)(cx:List Value)(x:Mark)(hx:Enc.rd m cx x):Exact prog 247 #[.agg cd.toArray,.agg cx.toArray] m (.bool (decide ((0≤x.Column∧x.Column≤(d.Rates.length:Int))∧U6 x.Ticks 0 400))):=by
 obtain⟨v1,v3,rfl,hs2,hs4⟩:=hd
 have hl5:=hs2.le
 have hl6:=hs4.le
 obtain rfl:=hx
 refine C7 func247 r' ntmps247 fun wld=>q' 2 r'<|o' r' r' fun b7=>o' r' r' fun b8=>v' 5 r'<|f' r' t'<|b' 0 r' r' r'<|f' r' t'<|b' 1 r' r' r'<|l' hs2 r'<|c' (X.call call137 rfl (Z1 _ _ _ _)) (fun h9=>?_) fun h9=>?_
 ·exact v' 2 r'<|f' r' t'<|v' 1 r'<|y' (J2 (k:=0) (vs:=[J x.Ticks.Lo,J x.Ticks.Hi]) isAgg23 sizeOf23 rfl rfl rfl rfl)<|v' 1 r'<|y' (X.call call242 rfl (B0w _ _ x.Ticks rfl _ _))<|v' 5 r'<|A0 r' r'<|A7<|A8p
 exact v' 9 r'<|A0 r' r'<|A7<|A8p
theorem C4b(m:Mem){cx:List Value}{x:Mark}(hx:Enc.rd m cx x)(hpd:At m pd d):Exact prog 246 #[.agg cx.toArray,.pointer (some pd)] m (.bool (decide (¬((0≤x.Column∧x.Column≤(d.Rates.length:Int))∧U6 x.Ticks 0 400)))):=by
 obtain rfl:=hx
 refine C7 func246 r' ntmps246 fun wld=>q' 2 r'<|o' r' r' fun b1=>v' 5 r'<|g' hpd r' fun c2 hc3=>?_
 obtain⟨v4,v6,rfl,hs5,hs7⟩:=hc3
 refine have hl8:=hs5.le;have hl9:=hs7.le;a' 0 r' r'<|y' (X.call call247 rfl (C1H _ _ d ⟨_,_,rfl,hs5,hs7⟩ _ x rfl))<|y' (A0l rfl)<|v' 4 r'<|A0 r' r'<|A7 ?_
 first|rfl|(simp[*];done)
theorem C5H(m:Mem)(cs:List Value)(s:Span)(hs:Enc.rd m cs s):Exact prog 219 #[.agg cs.toArray] m (.bool (decide (s.Hi<s.Lo))):=by
 obtain rfl:=hs
 refine C7 func219 r' ntmps219 fun wld=>q' 2 r'<|o' r' r' fun b1=>v' 5 r'<|f' r' t'<|b' 0 r' r' r'<|f' r' t'<|b' 0 r' r' r'<|v' 5 r'<|A0 r' r'<|A7 ?_
 first|rfl|(simp[*];done)
theorem C3r(m:Mem)(n:Int):Exact prog 138 #[J n] m (.bool (decide (¬(0≤n∧n≤400)))):=by
 refine C7 func138 r' ntmps138 fun wld=>q' 8 r'<|y' (X.call call137 rfl (Z1 _ _ _ _))<|y' (A0l rfl)<|v' 4 r'<|A0 r' r'<|A7 ?_
 first|exact C9 (by omega)|exact A9 (by omega)|exact D5 (by omega)
theorem C5u(m:Mem)(n:Int)(hpd:At m pd d):Exact prog 136 #[J n,.pointer (some pd)] m (.bool (decide (¬(0≤n∧n≤(d.Rates.length:Int))))):=by
 refine C7 func136 r' ntmps136 fun wld=>q' 8 r'<|have hp1:=R9 hpd;f' r' t'<|s' hp1 r' fun v2 hs3=>have hl4:=hs3.le;l' hs3 r'<|y' (X.call call137 rfl (Z1 _ _ _ _))<|y' (A0l rfl)<|v' 4 r'<|A0 r' r'<|A7 ?_
 first|exact C9 (by omega)|exact A9 (by omega)|exact D5 (by omega)
theorem B1W(h:G:=by first|exact A8 (A0K (by omega) hall (by assumption)).symm|exact A8 (A0t (fun j hj=>hall j (by omega))).symm):G:=h
theorem C6m(m:Mem){l:List Span}(hl:Sl m vl l)[DecidablePred p](hE:Enters prog fn)(hcl:(∀i,i<l.length→Exact prog fn (#[.agg (Flat.enc (gt l i)).toArray]++caps.toArray) m (.bool (decide (p i))))):Exact prog 248 #[vl,.func (.func fn) #[] caps.toArray] m (J (V8 p l.length)):=by
 refine have hll:=hl.le;C7 func248 r' ntmps248 fun wld=>q' 9 r'<|l' hl r'<|v' 4 r' ?_
 refine I0 (fun(k:Nat)=>l.length-k) (fun k=>[]) (fun k=>[(0,vl),(1,.func (.func fn) #[] caps.toArray),(7,J l.length),(8,J k)]) (fun k=>k≤l.length∧(∀j,j<k→¬p j)) 0 ?_ ?_
 ·exact⟨Nat.zero_le _,fun j hj=>absurd hj (Nat.not_lt_zero _)⟩
 rintro k ⟨hk,hall⟩
 refine q' 2 r'<|c' (X.lss r' r') (fun h2=>?_) fun h2=>?_
 ·refine v' 19 r'<|x' k hl r' r' fun p3 hp4=>g' hp4 r' fun c5 hc6=>?_
  obtain rfl:=hc6
  refine c' (D6 hE rfl rfl (hcl k (by omega))) (fun h7=>?_) fun h7=>?_
  ·exact v' 15 r'<|A0 r' r'<|A7<|B1W
  exact v' 11 r'<|G5 (k+1)<|⟨by omega,fun j hj=>by rcases Nat.lt_succ_iff_lt_or_eq.1 hj with h|h;exact hall j h;subst h;assumption⟩
 exact v' 15 r'<|A0 r' r'<|A7<|B1W
theorem B0M(m:Mem){l:List Span}(hl:Sl m vl l)[DecidablePred p](hE:Enters prog fn)(hcl:(∀i,i<l.length→Exact prog fn (#[.agg (Flat.enc (gt l i)).toArray]++caps.toArray) m (.bool (decide (p i))))):Exact prog 178 #[vl,.func (.func fn) #[] caps.toArray] m (.bool (decide (¬∀i,i<l.length→¬p i))):=by
 exact have hll:=hl.le;C7 func178 r' ntmps178 fun wld=>q' 9 r'<|y' (X.call call248 rfl (C6m _ hl hE hcl))<|v' 5 r'<|A0 r' r'<|A7<|D5 (A5I p l.length)
theorem B1w(h:G:=by first|exact A8 (A0K (by omega) hall (by assumption)).symm|exact A8 (A0t (fun j hj=>hall j (by omega))).symm):G:=h
theorem C4R(m:Mem){l:List Stp}(hl:Sl m vl l)[DecidablePred p](hE:Enters prog fn)(hcl:(∀i,i<l.length→Exact prog fn (#[.agg (Flat.enc (gt l i)).toArray]++caps.toArray) m (.bool (decide (p i))))):Exact prog 295 #[vl,.func (.func fn) #[] caps.toArray] m (J (V8 p l.length)):=by
 refine have hll:=hl.le;C7 func295 r' ntmps295 fun wld=>q' 9 r'<|l' hl r'<|v' 4 r' ?_
 refine I0 (fun(k:Nat)=>l.length-k) (fun k=>[]) (fun k=>[(0,vl),(1,.func (.func fn) #[] caps.toArray),(7,J l.length),(8,J k)]) (fun k=>k≤l.length∧(∀j,j<k→¬p j)) 0 ?_ ?_
 ·exact⟨Nat.zero_le _,fun j hj=>absurd hj (Nat.not_lt_zero _)⟩
 rintro k ⟨hk,hall⟩
 refine q' 2 r'<|c' (X.lss r' r') (fun h2=>?_) fun h2=>?_
 ·refine v' 19 r'<|x' k hl r' r' fun p3 hp4=>g' hp4 r' fun c5 hc6=>?_
  obtain rfl:=hc6
  refine c' (D6 hE rfl rfl (hcl k (by omega))) (fun h7=>?_) fun h7=>?_
  ·exact v' 15 r'<|A0 r' r'<|A7<|B1w
  exact v' 11 r'<|G5 (k+1)<|⟨by omega,fun j hj=>by rcases Nat.lt_succ_iff_lt_or_eq.1 hj with h|h;exact hall j h;subst h;assumption⟩
 exact v' 15 r'<|A0 r' r'<|A7<|B1w
theorem C3o(m:Mem){l:List Stp}(hl:Sl m vl l)[DecidablePred p](hE:Enters prog fn)(hcl:(∀i,i<l.length→Exact prog fn (#[.agg (Flat.enc (gt l i)).toArray]++caps.toArray) m (.bool (decide (p i))))):Exact prog 244 #[vl,.func (.func fn) #[] caps.toArray] m (.bool (decide (¬∀i,i<l.length→¬p i))):=by
 exact have hll:=hl.le;C7 func244 r' ntmps244 fun wld=>q' 9 r'<|y' (X.call call295 rfl (C4R _ hl hE hcl))<|v' 5 r'<|A0 r' r'<|A7<|D5 (A5I p l.length)
theorem B1t(h:G:=by first|exact A8 (A0K (by omega) hall (by assumption)).symm|exact A8 (A0t (fun j hj=>hall j (by omega))).symm):G:=h
theorem C6z(m:Mem){l:List Mark}(hl:Sl m vl l)[DecidablePred p](hE:Enters prog fn)(hcl:(∀i,i<l.length→Exact prog fn (#[.agg (Flat.enc (gt l i)).toArray]++caps.toArray) m (.bool (decide (p i))))):Exact prog 245 #[vl,.func (.func fn) #[] caps.toArray] m (J (V8 p l.length)):=by
 refine have hll:=hl.le;C7 func245 r' ntmps245 fun wld=>q' 9 r'<|l' hl r'<|v' 4 r' ?_
 refine I0 (fun(k:Nat)=>l.length-k) (fun k=>[]) (fun k=>[(0,vl),(1,.func (.func fn) #[] caps.toArray),(7,J l.length),(8,J k)]) (fun k=>k≤l.length∧(∀j,j<k→¬p j)) 0 ?_ ?_
 ·exact⟨Nat.zero_le _,fun j hj=>absurd hj (Nat.not_lt_zero _)⟩
 rintro k ⟨hk,hall⟩
 refine q' 2 r'<|c' (X.lss r' r') (fun h2=>?_) fun h2=>?_
 ·refine v' 19 r'<|x' k hl r' r' fun p3 hp4=>g' hp4 r' fun c5 hc6=>?_
  obtain rfl:=hc6
  refine c' (D6 hE rfl rfl (hcl k (by omega))) (fun h7=>?_) fun h7=>?_
  ·exact v' 15 r'<|A0 r' r'<|A7<|B1t
  exact v' 11 r'<|G5 (k+1)<|⟨by omega,fun j hj=>by rcases Nat.lt_succ_iff_lt_or_eq.1 hj with h|h;exact hall j h;subst h;assumption⟩
 exact v' 15 r'<|A0 r' r'<|A7<|B1t
theorem B1P(h:G:=by first|exact A8 (A0K (by omega) hall (by assumption)).symm|exact A8 (A0t (fun j hj=>hall j (by omega))).symm):G:=h
theorem C5c(m:Mem){l:List Int}(hl:Sl m vl l)[DecidablePred p](hE:Enters prog fn)(hcl:(∀i,i<l.length→Exact prog fn (#[J (gt l i)]++caps.toArray) m (.bool (decide (p i))))):Exact prog 176 #[vl,.func (.func fn) #[] caps.toArray] m (J (V8 p l.length)):=by
 refine have hll:=hl.le;C7 func176 r' ntmps176 fun wld=>q' 9 r'<|l' hl r'<|v' 4 r' ?_
 refine I0 (fun(k:Nat)=>l.length-k) (fun k=>[]) (fun k=>[(0,vl),(1,.func (.func fn) #[] caps.toArray),(7,J l.length),(8,J k)]) (fun k=>k≤l.length∧(∀j,j<k→¬p j)) 0 ?_ ?_
 ·exact⟨Nat.zero_le _,fun j hj=>absurd hj (Nat.not_lt_zero _)⟩
 rintro k ⟨hk,hall⟩
 refine q' 2 r'<|c' (X.lss r' r') (fun h2=>?_) fun h2=>?_
 ·refine v' 19 r'<|x' k hl r' r' fun p3 hp4=>i' hp4 r'<|c' (D6 hE rfl rfl (hcl k (by omega))) (fun h5=>?_) fun h5=>?_
  ·exact v' 15 r'<|A0 r' r'<|A7<|B1P
  exact v' 11 r'<|G5 (k+1)<|⟨by omega,fun j hj=>by rcases Nat.lt_succ_iff_lt_or_eq.1 hj with h|h;exact hall j h;subst h;assumption⟩
 exact v' 15 r'<|A0 r' r'<|A7<|B1P
theorem B3Y(m:Mem){l:List Int}(hl:Sl m vl l)[DecidablePred p](hE:Enters prog fn)(hcl:(∀i,i<l.length→Exact prog fn (#[J (gt l i)]++caps.toArray) m (.bool (decide (p i))))):Exact prog 97 #[vl,.func (.func fn) #[] caps.toArray] m (.bool (decide (¬∀i,i<l.length→¬p i))):=by
 exact have hll:=hl.le;C7 func97 r' ntmps97 fun wld=>q' 9 r'<|y' (X.call call176 rfl (C5c _ hl hE hcl))<|v' 5 r'<|A0 r' r'<|A7<|D5 (A5I p l.length)
theorem A1L(h:G:=by first|exact A8 (B8E (fun h=>by have h1:=h.1;have h2:=h.2.1;have h3:=h.2.2;first|omega|contradiction)).symm|exact A8 (B4h ⟨by omega,Classical.byContradiction (fun h=>by contradiction),Classical.byContradiction (fun h=>by contradiction)⟩).symm):G:=h
theorem A6d(m:Mem)(cd:List Value)(d:Drum)(hd:Enc.rd m cd d):Exact prog 172 #[.agg cd.toArray] m (J (Y9 d)):=by
 obtain⟨v1,v3,rfl,hs2,hs4⟩:=hd
 refine have hl5:=hs2.le;have hl6:=hs4.le;C7 func172 r' ntmps172 fun wld=>q' 2 r'<|o' r' r' fun b7=>v' 9 r'<|fz (x:=d) 0 r' r' ⟨_,_,rfl,hs2,hs4⟩ fun m8 hle9 hp10=>q' 1 r'<|y' (X.makeFunc (by intro x hx;simp at hx;subst hx;all_goals exact⟨_,rfl⟩) rfl)<|v' 6 r'<|have hp11:=R9 hp10;f' r' t'<|s' hp11 r' fun v12 hs13=>have hl14:=hs13.le;l' hs13 r'<|c' (X.call call137 rfl (Z1 _ _ _ _)) (fun h15=>?_) fun h15=>?_
 ·refine v' 3 r'<|have hp16:=P3 hp10;f' r' t'<|v' 1 r'<|s' hp16 r' fun v17 hs18=>have hl19:=hs18.le;v' 1 r'<|l' hs18 r'<|v' 1 r'<|c' (X.gtr r' r') (fun h20=>?_) fun h20=>?_
  ·exact v' 23 r'<|A0 r' r'<|A7<|A1L
  refine v' 3 r'<|have hp21:=R9 hp10;f' r' t'<|v' 1 r'<|s' hp21 r' fun v22 hs23=>have hl24:=hs23.le;v' 3 r'<|c' (X.call call178 rfl (B0M (p:=fun i=>¬U6 (gt d.Rates i) 1 40) _ hs23 (caps:=[]) call241 (fun i _=>C3u _ _ (gt d.Rates i) rfl))) (fun h25=>?_) fun h25=>?_
  ·exact v' 17 r'<|A0 r' r'<|A7<|A1L
  refine v' 3 r'<|have hp26:=P3 hp10;f' r' t'<|v' 1 r'<|s' hp26 r' fun v27 hs28=>have hl29:=hs28.le;v' 3 r'<|c' (X.call call244 rfl (C3o (p:=fun i=>¬((0≤(gt d.Stops i).Column∧(gt d.Stops i).Column≤(d.Rates.length:Int)-1)∧U6 (gt d.Stops i).Ticks 0 400)) _ hs28 (caps:=[Pt b7 0]) call243 (fun i _=>C4d _ (s:=gt d.Stops i) rfl hp10))) (fun h30=>?_) fun h30=>?_
  ·exact v' 11 r'<|A0 r' r'<|A7<|A1L
  exact v' 12 r'<|A0 r' r'<|A7<|A1L
 exact v' 29 r'<|A0 r' r'<|A7<|A1L
theorem A3n(h:G:=by first|exact F8 (A8 (by rw[A8z (by omega)])) (A8 (by rw[A8z (by omega)]))|exact F8 (A8 (by rw[B0l (by omega) (by omega)])) (A8 (by rw[B0l (by omega) (by omega)]))|exact F8 (A8 (by rw[A7f (by omega) (by omega) (B4t (by omega))])) (A8 (by rw[A7f (by omega) (by omega) (B4t (by omega))]))|exact F8 (A8 (by rw[B0b (by omega) (by omega) (by omega)])) (A8 (by rw[B0b (by omega) (by omega) (by omega)]))):G:=h
theorem B4k(m:Mem)(cd:List Value)(d:Drum)(hd:Enc.rd m cd d)(vm_:Value)(m_:List Mark)(hm_:Sl m vm_ m_):Exact prog 173 #[.agg cd.toArray,vm_] m (.tuple #[J ((V2 d m_).1),J ((V2 d m_).2)]):=by
 obtain⟨v1,v3,rfl,hs2,hs4⟩:=hd
 refine have hl5:=hs2.le;have hl6:=hs4.le;have lm_:=hm_.le;C7 func173 r' ntmps173 fun wld=>q' 2 r'<|o' r' r' fun b7=>v' 8 r'<|a' 0 r' r'<|y' (X.call call172 rfl (A6d _ _ d ⟨_,_,rfl,hs2,hs4⟩))<|e' (X.neq r' r') (fun h8=>?_) fun h8=>?_
 ·exact v' 13 r'<|B6 r' r' r'<|A7<|A3n
 refine v' 7 r'<|l' hm_ r'<|c' (X.gtr r' r') (fun h9=>?_) fun h9=>?_
 ·exact v' 13 r'<|B6 r' r' r'<|A7<|A3n
 refine v' 9 r'<|fz (x:=d) 0 r' r' ⟨_,_,rfl,hs2,hs4⟩ fun m10 hle11 hp12=>have hm_:=hm_.mono hle11;q' 2 r'<|y' (X.makeFunc (by intro x hx;simp at hx;subst hx;all_goals exact⟨_,rfl⟩) rfl)<|y' (X.call call245 rfl (C6z (p:=A1x d m_) _ hm_ (caps:=[Pt b7 0]) call246 (fun i _=>C4b _ (x:=gt m_ i) rfl hp12)))<|v' 6 r'<|c' (X.geq r' r') (fun h13=>?_) fun h13=>?_
 ·exact v' 12 r'<|B6 r' r' r'<|A7<|A3n
 exact v' 12 r'<|B6 r' r' r'<|A7<|A3n
theorem A9S(m:Mem)(cd:List Value)(d:Drum)(hd:Enc.rd m cd d)(vm_:Value)(m_:List Mark)(hm_:Sl m vm_ m_):Exact prog 135 #[.agg cd.toArray,vm_] m (J (A0A d m_)):=by
 obtain⟨v1,v3,rfl,hs2,hs4⟩:=hd
 refine have hl5:=hs2.le;have hl6:=hs4.le;have lm_:=hm_.le;C7 func135 r' ntmps135 fun wld=>q' 2 r'<|o' r' r' fun b7=>v' 5 r'<|a' 0 r' r'<|v' 1 r'<|y' (X.call call173 rfl (B4k _ _ d ⟨_,_,rfl,hs2,hs4⟩ _ _ hm_))<|v' 11 r'<|c' (X.eql r' r') (fun h8=>?_) fun h8=>?_
 ·refine v' 10 r'<|A0 r' r'<|A7 ?_
  first|exact A8 (by unfold A0A;rw[if_pos (by assumption)])|exact A8 (by unfold A0A;rw[if_neg (by assumption)])
 refine v' 12 r'<|A0 r' r'<|A7 ?_
 first|exact A8 (by unfold A0A;rw[if_pos (by assumption)])|exact A8 (by unfold A0A;rw[if_neg (by assumption)])
theorem A5Y(m:Mem){v:Value}{L:List Span}(hL:Sl m v L)(hn:L.length≤1000):Mut prog 207 #[v] m [] (fun _ Es u=>Es=[A5 u 23 L]∧u.oneCell'=true):=by
 refine G3 func207 r' ntmps207 fun wld=>q' 9 r' ?_
 refine K2 (A1k underlying28 rfl rfl hL) (by decide) (fun h1=>?_) (fun h1=>?_)
 ·refine v' 4 r' ?_
  obtain rfl:=hL.nil_of (by assumption)
  refine G7 Span 23<|q' 6 r'<|A0 r' r'<|G0 ?_
  first|exact⟨rfl,rfl⟩|exact⟨rfl,ho_⟩
 refine v' 7 r' ?_
 refine G2 (A4J (α:=Span) Q7 rfl) (by decide) (fun v2=>?_)
 refine v' 1 r' ?_
 refine G2 (A0G (α:=Span) (fun _ _ _ h=>h) (k:=0) Q7 rfl rfl hL rfl (by first|omega|(simp;omega)) (by first|omega|(simp;omega))) (by decide) (fun v3=>?_)
 refine F7 (k:=0) rfl (fun ho_=>?_)
 refine v' 4 r'<|A0 r' r'<|G0 ?_
 first|exact⟨rfl,rfl⟩|exact⟨rfl,ho_⟩
theorem A5h(h:G:=by first|exact A9 (fun e=>by subst e;omega)|exact A9 (fun e=>by subst e;contradiction)|exact C9 (A1P (by omega) (fun j hj=>hall j (by omega)))):G:=h
theorem B2S(m:Mem)(va:Value)(a:List Span)(ha:Sl m va a)(vb:Value)(b:List Span)(hb:Sl m vb b):Exact prog 220 #[va,vb] m (.bool (decide (a=b))):=by
 refine have la:=ha.le;have lb:=hb.le;C7 func220 r' ntmps220 fun wld=>q' 9 r'<|l' ha r'<|v' 1 r'<|l' hb r'<|e' (X.neq r' r') (fun h1=>?_) fun h1=>?_
 ·exact v' 10 r'<|A0 r' r'<|A7<|A5h
 refine v' 9 r'<|l' ha r'<|v' 4 r' ?_
 refine I0 (fun(k:Nat)=>a.length-k) (fun k=>[]) (fun k=>[(0,va),(1,vb),(12,J a.length),(13,J k)]) (fun k=>k≤a.length∧(∀j,j<k→gt a j=gt b j)) 0 ?_ ?_
 ·exact⟨Nat.zero_le _,fun j hj=>absurd hj (Nat.not_lt_zero _)⟩
 rintro k ⟨hk,hall⟩
 refine q' 2 r'<|c' (X.lss r' r') (fun h3=>?_) fun h3=>?_
 ·refine v' 15 r'<|B4 9 [] []<|U' 2 r'<|X' k ha r' r' r' r' fun p4 hp5=>G' hp5 r' r' r' fun c6 hc7=>?_
  obtain rfl:=hc7
  refine U' 2 r'<|X' k hb r' r' r' r' fun p8 hp9=>G' hp9 r' r' r' fun c10 hc11=>?_
  obtain rfl:=hc11
  refine A0h rfl rfl (B3T (a:=gt a k) (b:=gt b k) C5G (fun w=>A4j 9998 _ _ w) rfl rfl) (by decide) (fun h12=>?_) (fun h12=>?_)
  ·exact V' 13 r'<|A0 r' r'<|A7<|A5h
  exact V' 10 r'<|G5 (k+1)<|⟨by omega,fun j hj=>by rcases Nat.lt_succ_iff_lt_or_eq.1 hj with h|h;exact hall j h;subst h;assumption⟩
 exact v' 15 r'<|A0 r' r'<|A7<|A5h
theorem B4X(m:Mem)(a:Int)(b:Int):Exact prog 261 #[J a,J b] m (.tuple #[J (min a b),J (max a b)]):=by
 refine C7 func261 r' ntmps261 fun wld=>q' 10 r'<|y' (B0Q rfl rfl)<|v' 2 r'<|y' (A7b rfl rfl)<|v' 5 r'<|B6 r' r' r'<|A7 ?_
 first|rfl|(simp[*];done)
theorem C5E(m:Mem)(y:Int)(h0:0≤y)(h1:y≤100000):Exact prog 304 #[.int .u64 1,.int .u64 y] m (.tuple #[.int .u64 0,.int .u64 y]):=by
 exact C7 func304 r' ntmps304 fun wld=>q' 9 r'<|y' (B3s rfl rfl (by first|omega|(simp;omega)|(simp;done)) (by first|omega|(simp;omega)|(simp;done)))<|v' 6 r'<|y' (A5K rfl rfl (by first|omega|(simp;omega)|(simp;done)) (by first|omega|(simp;omega)|(simp;done)))<|v' 6 r'<|y' (B3s rfl rfl (by first|omega|(simp;omega)|(simp;done)) (by first|omega|(simp;omega)|(simp;done)))<|v' 6 r'<|y' (A5K rfl rfl (by first|omega|(simp;omega)|(simp;done)) (by first|omega|(simp;omega)|(simp;done)))<|v' 7 r'<|y' (A7K rfl rfl (by first|omega|(simp;omega)|(simp;done)) (by first|omega|(simp;omega)|(simp;done)))<|v' 7 r'<|y' (A7K rfl rfl (by first|omega|(simp;omega)|(simp;done)) (by first|omega|(simp;omega)|(simp;done)))<|v' 1 r'<|y' (A5K rfl rfl (by first|omega|(simp;omega)|(simp;done)) (by first|omega|(simp;omega)|(simp;done)))<|y' (A9H rfl rfl (by first|omega|(simp;omega)|(simp;done)) (by first|omega|(simp;omega)|(simp;done)))<|v' 6 r'<|y' (B3s rfl rfl (by first|omega|(simp;omega)|(simp;done)) (by first|omega|(simp;omega)|(simp;done)))<|v' 6 r'<|y' (A5K rfl rfl (by first|omega|(simp;omega)|(simp;done)) (by first|omega|(simp;omega)|(simp;done)))<|v' 8 r'<|y' (A7K rfl rfl (by first|omega|(simp;omega)|(simp;done)) (by first|omega|(simp;omega)|(simp;done)))<|y' (A9H rfl rfl (by first|omega|(simp;omega)|(simp;done)) (by first|omega|(simp;omega)|(simp;done)))<|v' 7 r'<|y' (A7K rfl rfl (by first|omega|(simp;omega)|(simp;done)) (by first|omega|(simp;omega)|(simp;done)))<|v' 1 r'<|y' (A9H rfl rfl (by first|omega|(simp;omega)|(simp;done)) (by first|omega|(simp;omega)|(simp;done)))<|v' 1 r'<|y' (A5K rfl rfl (by first|omega|(simp;omega)|(simp;done)) (by first|omega|(simp;omega)|(simp;done)))<|y' (A9H rfl rfl (by first|omega|(simp;omega)|(simp;done)) (by first|omega|(simp;omega)|(simp;done)))<|v' 7 r'<|y' (A7K rfl rfl (by first|omega|(simp;omega)|(simp;done)) (by first|omega|(simp;omega)|(simp;done)))<|v' 4 r'<|B6 r' r' r'<|A7<|F8 (by simp) (by simp)
theorem C4S(m:Mem)(y:Int)(h0:0≤y)(h1:y≤100000):Exact prog 260 #[.int .u64 1,.int .u64 y] m (.tuple #[.int .u64 0,.int .u64 y]):=by
 refine C7 func260 r' ntmps260 fun wld=>q' 14 r'<|y' (X.call call304 rfl (C5E _ y h0 h1))<|v' 16 r'<|B6 r' r' r'<|A7 ?_
 first|rfl|(simp[*];done)
theorem B8B(m:Mem){vx:Value}{x:Span}(hx:Sl m vx [x]){i:Int}{n:Nat}(hi:i=n)(hn:0<n∧n≤1000):Mut prog 215 #[vx,J i] m [] (fun _ Es u=>Es=[A5 u 23 (List.replicate n x)]∧u.oneCell'=true):=by
 subst hi
 have hx1_:([x]:List Span).length=1:=rfl
 refine G3 func215 r' ntmps215 fun wld=>q' 9 r'<|y' (A1S (X.lss rfl rfl) (by omega))<|v' 8 r'<|l' hx r'<|y' (M0 runUnderlying3 runUnderlying358 rfl (Q1 (by omega) (by omega)))<|v' 1 r'<|y' (M0 runUnderlying3 runUnderlying358 rfl (Q1 (by omega) (by omega)))<|y' (X.call call260 rfl (C4S _ ↑n (by omega) (by omega)))<|v' 16 r'<|y' (A1S (X.gtr rfl rfl) (by omega))<|v' 9 r'<|y' (M0 runUnderlying358 runUnderlying3 rfl (M9 (by omega) (by omega))) ?_
 refine G2 (A5M n (a:=(Span.mk (0) (0))) Q7 rfl rfl rfl (by omega) (by decide)) (by decide) (fun v1=>?_)
 refine v' 4 r' ?_
 refine WK.form (k:=0) rfl (by simp;omega) (fun g_ c_ hv_ hc_=>?_)
 simp only[List.length_replicate]at hv_ hc_
 subst hv_
 refine q' 3 r'<|B7j (C4M (α:=Span) (fun _ _ _ h=>h) (k:=0) underlying28 sizeOf23 rfl rfl hx rfl (by simp) (by simp) (by simp;omega)) (by decide)<|v' 5 r' ?_
 have he2:([x]++(List.replicate n (Span.mk (0) (0))).drop [x].length)=(X7 x (Span.mk 0 0) n 1):=B7W _ _ (by omega)
 rw[he2]
 refine I0 (fun(k:Nat)=>n-k) (fun k=>[A5 (.slice (some ⟨g_,0,none⟩) n c_) 23 (X7 x (Span.mk 0 0) n k)]) (fun k=>[(7,.slice (some ⟨g_,0,none⟩) n c_),(8,J k)]) (fun k=>1≤k∧k≤n) 1 ?_ ?_
 ·omega
 rintro k hF3
 try dsimp only at hF3
 refine have hk:=hF3;have hrl:=B3D (x:=x) (z:=(Span.mk 0 0)) hk.2;q' 5 r'<|y' (S5 (k:=0) runUnderlying28 rfl rfl)<|c' (X.lss r' r') (fun h4=>?_) fun h4=>?_
 ·refine v' 6 r'<|B4 10 [7] [7]<|U' 3 r'<|Y' r' r' (A3B (n:=n) (c:=c_) k underlying28 sizeOf23 rfl rfl (by omega) (by omega) hc_)<|U' 2 r'<|Y' r' r' (B2V (n:=n) (c:=c_) k underlying28 sizeOf23 rfl rfl (by omega) (by omega) hc_)<|B6p r' r' r' r' (C4m (α:=Span) (a:=k) (k:=0) underlying28 sizeOf23 rfl rfl rfl (B3D (by omega)) (by omega) (by omega)) (by decide)<|U' 2 r'<|V' 2 r' ?_
  have he5:((X7 x (Span.mk 0 0) n k).take k++(X7 x (Span.mk 0 0) n k).take (min k (n-k))++(X7 x (Span.mk 0 0) n k).drop (k+min k (n-k)))=(X7 x (Span.mk 0 0) n (k+min k (n-k))):=C0R
  rw[he5]
  exact G5 (k+min k (n-k))<|by omega
 refine v' 9 r' ?_
 have he6:(X7 x (Span.mk 0 0) n k)=(List.replicate n x):=(by rw[show k=n by omega];exact C2R _ _ _)
 rw[he6]
 exact q' 6 r'<|A0 r' r'<|G0<|⟨rfl,rfl⟩
theorem A7x(m:Mem){b:Nat}{L:List Span}{k:Nat}{ik:Int}(hik:ik=k)(hk:k<L.length)(s:Span):Mut prog 216 #[Pt b 0,J ik,.agg [J s.Lo,J s.Hi].toArray] m [blk b 174 [vg,va],A5 va 23 L] (fun _ Es v=>v= .tuple #[]∧Es=[blk b 174 [vg,va],A5 va 23 (L.set k (A2R (gt L k) s))]):=by
 subst hik
 refine G3 func216 r' ntmps216 fun wld=>q' 2 r'<|o' r' r' fun b1=>v' 6 r'<|f' r' t'<|b' 1 r' r' r'<|v' 1 r'<|y' (B0 2 k)<|v' 4 r'<|B4 14 [13] [13]<|U' 3 r'<|Y' r' r' (A.f r')<|Y' r' r' (Q0 (k:=2) (i:=k) (off:=0) (u:=J (((gt L k)).Lo)) isAgg3 rfl rfl (by first|omega|(simp;omega)|simp) rfl)<|Y' r' r' (A.f r')<|Y' r' r' (A.b 0 r' r' r')<|Y' r' r' (X.call call261 rfl (B4X _ _ _))<|U' 4 r'<|Y' r' r' (A.f r')<|B3 r' r' r' r' (C6 (k:=2) (i:=k) (off:=0) (us:=[J (max (((gt L k)).Lo) s.Lo)]) ((Span.mk (max (((gt L k)).Lo) s.Lo) (((gt L k)).Hi))) sizeOf3 rfl rfl rfl rfl (Nat.zero_lt_succ _) rfl (by first|omega|(simp;omega)|simp) rfl rfl (A4 rfl C0))<|V' 1 r' ?_
 have he2:(L.set k ((Span.mk (max (((gt L k)).Lo) s.Lo) (((gt L k)).Hi))))=(L.set k ⟨max (gt L k).Lo s.Lo,(gt L k).Hi⟩):=rfl
 rw[he2]
 have hs1_:=V3 L (a:=k) (⟨max (gt L k).Lo s.Lo,(gt L k).Hi⟩:Span) hk
 rw[if_pos rfl]at hs1_
 have hl1_:(L.set k ⟨max (gt L k).Lo s.Lo,(gt L k).Hi⟩).length=L.length:=(by simp)
 refine B4 14 [13] [13]<|U' 3 r'<|Y' r' r' (A.f r')<|Y' r' r' (Q0 (k:=2) (i:=k) (off:=1) (u:=J (((gt (L.set k ⟨max (gt L k).Lo s.Lo,(gt L k).Hi⟩) k)).Hi)) isAgg3 rfl rfl (by first|omega|(simp;omega)|simp) rfl)<|Y' r' r' (A.f r')<|Y' r' r' (A.b 0 r' r' r')<|Y' r' r' (X.call call261 rfl (B4X _ _ _))<|U' 4 r'<|Y' r' r' (A.f r')<|B3 r' r' r' r' (C6 (k:=2) (i:=k) (off:=1) (us:=[J (min (((gt (L.set k ⟨max (gt L k).Lo s.Lo,(gt L k).Hi⟩) k)).Hi) s.Hi)]) ((Span.mk (((gt (L.set k ⟨max (gt L k).Lo s.Lo,(gt L k).Hi⟩) k)).Lo) (min (((gt (L.set k ⟨max (gt L k).Lo s.Lo,(gt L k).Hi⟩) k)).Hi) s.Hi))) sizeOf3 rfl rfl rfl rfl (Nat.zero_lt_succ _) rfl (by first|omega|(simp;omega)|simp) rfl rfl (A4 rfl C0))<|V' 0 r' ?_
 refine D9 rfl (fun w' hw'=>B8 (hw'.weaken (.cons _ (.refl _))) ?_)
 refine⟨rfl,?_⟩
 rw[hs1_,List.set_set]
 rfl
theorem B4W(m:Mem)(cd:List Value)(d:Drum)(hd:Enc.rd m cd d)(hdp:A0X d):Pure prog 175 #[.agg cd.toArray] m (fun m' v=>∃r0,v=r0∧Sl m' r0 (A0s d)):=by
 obtain⟨v1,v3,rfl,hs2,hs4⟩:=hd
 refine have hl5:=hs2.le;have hl6:=hs4.le;have hd1:=hdp.1;H7 func175 r' ntmps175 fun wld=>q' 2 r'<|o' r' r' fun b7=>v' 5 r'<|f' r' t'<|b' 0 r' r' r' ?_
 refine C2 (J5 call207 rfl (A5Y _ hs2 (by omega))) (by decide) (fun m8 Es9 v10 hle11 hR_=>?_)
 obtain⟨rfl,ho12⟩:=hR_
 refine have hs4:=hs4.mono hle11;v' 6 r'<|f' r' t'<|b' 1 r' r' r'<|l' hs4 r'<|v' 4 r' ?_
 have he13:d.Rates=((List.range d.Rates.length).map (fun c=>F0 d c 0)):=(B8D d.Rates).symm
 rw[he13]
 refine I0 (fun(k:Nat)=>d.Stops.length-k) (fun k=>[A5 (v10) 23 ((List.range d.Rates.length).map (fun c=>F0 d c k)),blk b7 31 [v1,v3]]) (fun k=>[(3,v10),(10,v3),(11,J d.Stops.length),(12,J k)]) (fun k=>k≤d.Stops.length) 0 ?_ ?_
 ·exact Nat.zero_le _
 rintro k hF14
 try dsimp only at hF14
 have hk:=hF14
 have hso:=fun h=>B0x hdp (i:=k) h
 have hll:((List.range d.Rates.length).map (fun c=>F0 d c k)).length=d.Rates.length:=(by simp)
 refine q' 2 r'<|c' (X.lss r' r') (fun h15=>?_) fun h15=>?_
 ·refine v' 10 r'<|x' k hs4 r' r' fun p16 hp17=>g' hp17 r' fun c18 hc19=>?_
  obtain rfl:=hc19
  refine n' zeroValue108 r' fun b20=>w' 0 r' r' r'<|v' 3 r' ?_
  have hso1:=hso (by omega)
  have hso2:=hso1.1
  have hso3:=hso1.2
  unfold U6 at hso3
  have hgb:=B0Z hdp (c:=((gt d.Stops k).Column:Int).toNat) (by omega) k (by omega)
  have hgc0:=S6 (f:=fun c=>F0 d c k) (n:=d.Rates.length) (i:=((gt d.Stops k).Column:Int).toNat) (by omega)
  have hg1_:=congrArg Span.Lo hgc0
  have hg2_:=congrArg Span.Hi hgc0
  try dsimp only at hg1_ hg2_
  refine B4 13 [12] [12]<|U' 1 r'<|Y' r' r' (A.f r')<|Y' r' r' (A.b 0 r' r' r')<|Y' r' r' (N7 (k:=1) runUnderlying28 sizeOf23 rfl rfl rfl (by first|omega|(simp;omega)|simp) (by first|omega|(simp;omega)|simp))<|Y' r' r' (A.f r')<|Y' r' r' (Q0 (k:=1) (i:=((gt d.Stops k).Column:Int).toNat) (off:=0) (u:=J (((gt ((List.range d.Rates.length).map (fun c=>F0 d c k)) (((gt d.Stops k).Column:Int).toNat))).Lo)) isAgg3 rfl rfl (by first|omega|(simp;omega)|simp) rfl)<|Y' r' r' (A.f r')<|Y' r' r' (A.f r')<|Y' r' r' (A.b 0 r' r' r')<|U' 1 r'<|Y' r' r' (N7 (k:=1) runUnderlying28 sizeOf23 rfl rfl rfl (by first|omega|(simp;omega)|simp) (by first|omega|(simp;omega)|simp))<|Y' r' r' (A.f r')<|B3 r' r' r' r' (C6 (k:=1) (i:=((gt d.Stops k).Column:Int).toNat) (off:=0) (us:=[J ((((gt ((List.range d.Rates.length).map (fun c=>F0 d c k)) (((gt d.Stops k).Column:Int).toNat))).Lo)+(((gt d.Stops k).Ticks).Lo))]) ((Span.mk ((((gt ((List.range d.Rates.length).map (fun c=>F0 d c k)) (((gt d.Stops k).Column:Int).toNat))).Lo)+(((gt d.Stops k).Ticks).Lo)) (((gt ((List.range d.Rates.length).map (fun c=>F0 d c k)) (((gt d.Stops k).Column:Int).toNat))).Hi))) sizeOf3 rfl rfl rfl rfl (Nat.zero_lt_succ _) rfl (by first|omega|(simp;omega)|simp) rfl rfl (A4 rfl C0))<|V' 1 r' ?_
  have hgc:=S6 (f:=fun c=>F0 d c k) (n:=d.Rates.length) (i:=((gt d.Stops k).Column:Int).toNat) (by omega)
  have hs1_:=V3 ((List.range d.Rates.length).map (fun c=>F0 d c k)) (a:=((gt d.Stops k).Column:Int).toNat) (b:=((gt d.Stops k).Column:Int).toNat) (Span.mk ((F0 d ((gt d.Stops k).Column:Int).toNat k).Lo+(gt d.Stops k).Ticks.Lo) (F0 d ((gt d.Stops k).Column:Int).toNat k).Hi) (by simp;omega)
  rw[if_pos rfl]at hs1_
  have hl1_:(((List.range d.Rates.length).map (fun c=>F0 d c k)).set ((gt d.Stops k).Column:Int).toNat (Span.mk ((F0 d ((gt d.Stops k).Column:Int).toNat k).Lo+(gt d.Stops k).Ticks.Lo) (F0 d ((gt d.Stops k).Column:Int).toNat k).Hi)).length=d.Rates.length:=(by simp)
  have he21:(((List.range d.Rates.length).map (fun c=>F0 d c k)).set (((gt d.Stops k).Column:Int).toNat) ((Span.mk ((((gt ((List.range d.Rates.length).map (fun c=>F0 d c k)) (((gt d.Stops k).Column:Int).toNat))).Lo)+(((gt d.Stops k).Ticks).Lo)) (((gt ((List.range d.Rates.length).map (fun c=>F0 d c k)) (((gt d.Stops k).Column:Int).toNat))).Hi))))=(((List.range d.Rates.length).map (fun c=>F0 d c k)).set ((gt d.Stops k).Column:Int).toNat (Span.mk ((F0 d ((gt d.Stops k).Column:Int).toNat k).Lo+(gt d.Stops k).Ticks.Lo) (F0 d ((gt d.Stops k).Column:Int).toNat k).Hi)):=(by rw[hgc])
  rw[he21]
  have hs2_:=congrArg Span.Lo hs1_
  have hs3_:=congrArg Span.Hi hs1_
  try dsimp only at hs2_ hs3_
  refine B4 13 [12] [12]<|U' 1 r'<|Y' r' r' (A.f r')<|Y' r' r' (A.b 0 r' r' r')<|Y' r' r' (N7 (k:=1) runUnderlying28 sizeOf23 rfl rfl rfl (by first|omega|(simp;omega)|simp) (by first|omega|(simp;omega)|simp))<|Y' r' r' (A.f r')<|Y' r' r' (Q0 (k:=1) (i:=((gt d.Stops k).Column:Int).toNat) (off:=1) (u:=J (((gt (((List.range d.Rates.length).map (fun c=>F0 d c k)).set ((gt d.Stops k).Column:Int).toNat (Span.mk ((F0 d ((gt d.Stops k).Column:Int).toNat k).Lo+(gt d.Stops k).Ticks.Lo) (F0 d ((gt d.Stops k).Column:Int).toNat k).Hi)) (((gt d.Stops k).Column:Int).toNat))).Hi)) isAgg3 rfl rfl (by first|omega|(simp;omega)|simp) rfl)<|Y' r' r' (A.f r')<|Y' r' r' (A.f r')<|Y' r' r' (A.b 0 r' r' r')<|U' 1 r'<|Y' r' r' (N7 (k:=1) runUnderlying28 sizeOf23 rfl rfl rfl (by first|omega|(simp;omega)|simp) (by first|omega|(simp;omega)|simp))<|Y' r' r' (A.f r')<|B3 r' r' r' r' (C6 (k:=1) (i:=((gt d.Stops k).Column:Int).toNat) (off:=1) (us:=[J ((((gt (((List.range d.Rates.length).map (fun c=>F0 d c k)).set ((gt d.Stops k).Column:Int).toNat (Span.mk ((F0 d ((gt d.Stops k).Column:Int).toNat k).Lo+(gt d.Stops k).Ticks.Lo) (F0 d ((gt d.Stops k).Column:Int).toNat k).Hi)) (((gt d.Stops k).Column:Int).toNat))).Hi)+(((gt d.Stops k).Ticks).Hi))]) ((Span.mk (((gt (((List.range d.Rates.length).map (fun c=>F0 d c k)).set ((gt d.Stops k).Column:Int).toNat (Span.mk ((F0 d ((gt d.Stops k).Column:Int).toNat k).Lo+(gt d.Stops k).Ticks.Lo) (F0 d ((gt d.Stops k).Column:Int).toNat k).Hi)) (((gt d.Stops k).Column:Int).toNat))).Lo) ((((gt (((List.range d.Rates.length).map (fun c=>F0 d c k)).set ((gt d.Stops k).Column:Int).toNat (Span.mk ((F0 d ((gt d.Stops k).Column:Int).toNat k).Lo+(gt d.Stops k).Ticks.Lo) (F0 d ((gt d.Stops k).Column:Int).toNat k).Hi)) (((gt d.Stops k).Column:Int).toNat))).Hi)+(((gt d.Stops k).Ticks).Hi)))) sizeOf3 rfl rfl rfl rfl (Nat.zero_lt_succ _) rfl (by first|omega|(simp;omega)|simp) rfl rfl (A4 rfl C0))<|V' 7 r' ?_
  have he22:((((List.range d.Rates.length).map (fun c=>F0 d c k)).set ((gt d.Stops k).Column:Int).toNat (Span.mk ((F0 d ((gt d.Stops k).Column:Int).toNat k).Lo+(gt d.Stops k).Ticks.Lo) (F0 d ((gt d.Stops k).Column:Int).toNat k).Hi)).set (((gt d.Stops k).Column:Int).toNat) ((Span.mk (((gt (((List.range d.Rates.length).map (fun c=>F0 d c k)).set ((gt d.Stops k).Column:Int).toNat (Span.mk ((F0 d ((gt d.Stops k).Column:Int).toNat k).Lo+(gt d.Stops k).Ticks.Lo) (F0 d ((gt d.Stops k).Column:Int).toNat k).Hi)) (((gt d.Stops k).Column:Int).toNat))).Lo) ((((gt (((List.range d.Rates.length).map (fun c=>F0 d c k)).set ((gt d.Stops k).Column:Int).toNat (Span.mk ((F0 d ((gt d.Stops k).Column:Int).toNat k).Lo+(gt d.Stops k).Ticks.Lo) (F0 d ((gt d.Stops k).Column:Int).toNat k).Hi)) (((gt d.Stops k).Column:Int).toNat))).Hi)+(((gt d.Stops k).Ticks).Hi)))))=((List.range d.Rates.length).map (fun c=>F0 d c (k+1))):=(by rw[hs1_,List.set_set];exact C1t hdp (by omega))
  rw[he22]
  exact G5 (k+1)<|by omega
 refine v' 10 r' ?_
 have he23:((List.range d.Rates.length).map (fun c=>F0 d c k))=(A0s d):=(by rw[show k=d.Stops.length by omega];rfl)
 rw[he23]
 refine q' 6 r' ?_
 refine E1 0 rfl rfl (by simp[A0s,C8];omega) (fun m24 hle25 hs26=>?_)
 exact A0 r' r'<|C5<|⟨_,rfl,hs26⟩
theorem B0o(m:Mem)(cd:List Value)(d:Drum)(hd:Enc.rd m cd d)(vm_:Value)(m_:List Mark)(hm_:Sl m vm_ m_)(hok:Ok d m_):Pure prog 139 #[.agg cd.toArray,vm_] m (fun m' v=>∃r0,v= .agg r0.toArray∧Enc.rd m' r0 (Clk.mk (A0s d) (atL d m_))):=by
 obtain⟨v1,v3,rfl,hs2,hs4⟩:=hd
 refine have hl5:=hs2.le;have hl6:=hs4.le;have lm_:=hm_.le;have hd1:=hok.dr.1;have hn_:=hok.n;H7 func139 r' ntmps139 fun wld=>q' 2 r'<|o' r' r' fun b7=>n' zeroValue174 r' fun b8=>v' 4 r'<|a' 1 r' r'<|D1 (T.call call175 rfl (B4W _ _ d ⟨_,_,rfl,hs2,hs4⟩ hok.dr)) (by decide) fun m9 r10 hle11 hR12=>?_
 obtain⟨v13,hv_,hs14⟩:=hR12
 rw[←hv_]at hs14
 clear hv_ v13
 refine have hs2:=hs2.mono hle11;have hm_:=hm_.mono hle11;have hl15:=hs14.le;WL.x (V:=Value.agg [r10,S0].toArray) (X.build zeroValue174 runUnderlying174 (A3x _ underlying174) rfl (by simp only[Instr.fill,F4 hs14.one];rfl)) (by decide) ?_
 refine n' zeroValue174 r' fun b16=>w' 0 r' r' r'<|v' 4 r'<|WL.x (V:=Value.agg [J 0,J 400].toArray) (X.build zeroValue23 runUnderlying23 (H3 _ underlying23) rfl rfl) (by decide) ?_
 refine D1 (L5 (α:=Span) (vals:=[.agg [J 0,J 400].toArray]) (L:=[(Span.mk (0) (400))]) Q7 rfl (.cons rfl rfl .nil) rfl rfl) (by decide) (fun m17 v18 hle19 hs20=>?_)
 refine have hs2:=hs2.mono hle19;have hm_:=hm_.mono hle19;have hs14:=hs14.mono hle19;f' r' t'<|b' 2 r' r' r'<|l' hs2 r'<|v' 1 r' ?_
 refine C2 (J5 call215 rfl (B8B _ hs20 (n:=d.Rates.length+1) (by omega) (by omega))) (by decide) (fun m21 _ v22 hle23 hR_=>?_)
 obtain⟨rfl,ho24⟩:=hR_
 refine have hm_:=hm_.mono hle23;have hs14:=hs14.mono hle23;f' r' t'<|I2 (T.storeB (k:=1) sizeOf28 rfl rfl rfl ho24 (Nat.le_of_ble_eq_true rfl))<|v' 6 r'<|l' hm_ r'<|v' 4 r' ?_
 have he25:(List.replicate (d.Rates.length+1) ((Span.mk (0) (400))))=((List.range (d.Rates.length+1)).map (fun c=>X9 m_ 0 c)):=(C3v _ _)
 rw[he25]
 refine I0 (fun(k:Nat)=>m_.length-k) (fun k=>[A5 (v22) 23 ((List.range (d.Rates.length+1)).map (fun c=>X9 m_ k c)),blk b16 174 [r10,v22],blk b8 174 [S0,S0],blk b7 31 [v1,v3]]) (fun k=>[(4,Pt b8 0),(5,Pt b16 0),(19,vm_),(20,J m_.length),(21,J k)]) (fun k=>k≤m_.length) 0 ?_ ?_
 ·exact Nat.zero_le _
 rintro k hF26
 try dsimp only at hF26
 have hk:=hF26
 refine K6 (fun hgood0=>?_)
 have hco:=fun h=>hok.col (j:=k) h
 have hll:((List.range (d.Rates.length+1)).map (fun c=>X9 m_ k c)).length=d.Rates.length+1:=(by simp)
 refine q' 2 r'<|c' (X.lss r' r') (fun h27=>?_) fun h27=>?_
 ·refine v' 10 r'<|x' k hm_ r' r' fun p28 hp29=>g' hp29 r' fun c30 hc31=>?_
  obtain rfl:=hc31
  refine n' zeroValue98 r' fun b32=>w' 0 r' r' r'<|v' 2 r' ?_
  have hco1:=(hco (by omega)).1
  refine q' 1 r'<|f' r' t'<|b' 0 r' r' r'<|f' r' t'<|y' (J2 (k:=0) (vs:=[J (((gt m_ k).Ticks).Lo),J (((gt m_ k).Ticks).Hi)]) isAgg23 sizeOf23 rfl rfl rfl rfl) ?_
  refine C2 (I3 [2,1] call216 r' (A7x _ (k:=(((gt m_ k).Column:Int).toNat)) (by omega) (by omega) ((gt m_ k).Ticks))) (by decide) (fun m33 Es_ v_ hle34 hR_=>?_)
  obtain⟨rfl,rfl⟩:=hR_
  refine have hs14:=hs14.mono hle34;v' 8 r' ?_
  have hgc:=S6 (f:=fun c=>X9 m_ k c) (n:=d.Rates.length+1) (i:=((gt m_ k).Column:Int).toNat) (by omega)
  have he35:(((List.range (d.Rates.length+1)).map (fun c=>X9 m_ k c)).set (((gt m_ k).Column:Int).toNat) (A2R (gt ((List.range (d.Rates.length+1)).map (fun c=>X9 m_ k c)) (((gt m_ k).Column:Int).toNat)) ((gt m_ k).Ticks)))=((List.range (d.Rates.length+1)).map (fun c=>X9 m_ (k+1) c)):=(by rw[hgc];exact C2U hok.ma (by omega))
  rw[he35]
  exact E5 hgood0 hle34<|WK.p [2,1]<|G5 (k+1)<|by omega
 refine v' 10 r' ?_
 have he36:((List.range (d.Rates.length+1)).map (fun c=>X9 m_ k c))=(atL d m_):=(by rw[show k=m_.length by omega];rfl)
 rw[he36]
 refine q' 1 r'<|a' 1 r' r'<|w' 2 r' r' r'<|v' 3 r' ?_
 refine E1 0 rfl rfl (by rw[A7R];unfold C8;omega) (fun m37 hle38 hs39=>?_)
 exact have hs14:=hs14.mono hle38;T3 1 r' r' r' isAgg174 sizeOf174<|C5<|⟨_,rfl,⟨_,_,rfl,hs14,hs39⟩⟩
theorem C4Q(m:Mem)(vg va:Value):Pure prog 217 #[.agg [vg,va].toArray] m (fun m' v=>∃pc:Addr,v= .func (.func 262) #[] [.pointer (some pc)].toArray∧Cells m' pc [vg,va]):=by
 refine H7 func217 r' ntmps217 fun wld=>q' 2 r'<|o' r' r' fun b1=>v' 4 r' ?_
 refine A0F 0 rfl rfl (fun m2 hle3 hc4=>?_)
 exact q' 1 r'<|y' (X.makeFunc (by intro x hx;simp at hx;subst hx;all_goals exact⟨_,rfl⟩) rfl)<|v' 4 r'<|A0 r' r'<|C5<|⟨_,rfl,hc4⟩
theorem C6i(m:Mem)(vg va:Value):Pure prog 218 #[.agg [vg,va].toArray] m (fun m' v=>∃pc:Addr,v= .func (.func 263) #[] [.pointer (some pc)].toArray∧Cells m' pc [vg,va]):=by
 refine H7 func218 r' ntmps218 fun wld=>q' 2 r'<|o' r' r' fun b1=>v' 4 r' ?_
 refine A0F 0 rfl rfl (fun m2 hle3 hc4=>?_)
 exact q' 1 r'<|y' (X.makeFunc (by intro x hx;simp at hx;subst hx;all_goals exact⟨_,rfl⟩) rfl)<|v' 4 r'<|A0 r' r'<|C5<|⟨_,rfl,hc4⟩
theorem C3S(m:Mem){pc:Addr}{G:List Span}(hc:Cells m pc [vg,va])(hG:Sl m vg G):A1i prog 262 [.pointer (some pc)] m false G.length (fun i _ args=>args=#[J ((i:Nat):Int),.agg [J (gt G i).Lo,J (gt G i).Hi].toArray]):=by
 intro lo S HS I Ix s0 hone hmono hy h0
 refine have hlg:=hG.le;G3 func262 r' ntmps262 fun wld=>q' 2 r' ?_
 have hp1:Cells m (pc.add 0) [vg]:=hc.part 0 (by intro j v hj;cases j with|zero=>exact hj|succ j=>simp at hj)
 refine f' r' t'<|y' (T4 isAgg28 rfl hp1)<|l' hG r'<|v' 4 r' ?_
 refine lp (G:=Nat×Int×Mem×S) (fun(k,q,mm,s)=>G.length-k) (fun(k,q,mm,s)=>mm) (fun(k,q,mm,s)=>([]++HS s)) (fun(k,q,mm,s)=>[(0,.func (.yield lo) #[] #[]),(6,vg),(7,J G.length),(8,J k)]) (fun(k,q,mm,s)=>m.le mm∧(k≤G.length)∧I k mm s) ((0,0,m,s0)) ?_ ?_
 ·exact⟨Mem.le_refl _,by omega,h0⟩
 rintro⟨k,q,mm,s⟩ hF2
 conv=>enter [7];dsimp only
 conv=>enter [8];dsimp only
 try dsimp only at hF2
 obtain⟨hmm,hk,hI0⟩:=hF2
 refine have hG:=hG.mono hmm;q' 2 r'<|c' (X.lss r' r') (fun h3=>?_) fun h3=>?_
 ·refine v' 11 r'<|x' k hG r' r' fun p4 hp5=>g' hp5 r' fun c6 hc7=>?_
  obtain rfl:=hc7
  refine n' zeroValue23 r' fun b8=>v' 1 r'<|w' 0 r' r' r'<|v' 6 r'<|a' 0 r' r' ?_
  refine A6o (T.yield (A:=[blk b8 23 [J ((gt G k).Lo),J ((gt G k).Hi)]]) rfl rfl rfl (hy k _ s _ (by omega) hmm rfl hI0)) (by decide) (fun m9 H10 hT11=>?_) (fun m9 H10 hT11=>?_)
  ·obtain⟨hle13,s12,rfl,hI14⟩:=hT11
   refine v' 12 r' ?_
   refine nx ((k+1,0,m9,s12)) ?_ ?_
   ·exact⟨Mem.le_trans hmm hle13,by omega,hI14⟩
   (dsimp only;omega)
  obtain⟨hle13,s12,rfl,hI14⟩:=hT11
  refine v' 9 r' ?_
  refine F1 rfl (fun w' hw'=>B8 (hw'.weaken (.cons _ (.refl _))) ?_)
  exact⟨_,rfl,.inr ⟨k+1,by omega,hI14⟩⟩
 refine v' 8 r' ?_
 refine D9 rfl (fun w' hw'=>B8 (hw'.weaken (.refl _)) ?_)
 refine⟨_,rfl,.inl ?_⟩
 rw[show G.length=k by omega]
 exact hI0
theorem C3V(m:Mem){pc:Addr}{G:List Span}(hc:Cells m pc [vg,va])(hG:Sl m vg G):A1i prog 263 [.pointer (some pc)] m false G.length (fun i _ args=>args=#[J (((G.length-1-i):Nat):Int),.agg [J (gt G (G.length-1-i)).Lo,J (gt G (G.length-1-i)).Hi].toArray]):=by
 intro lo S HS I Ix s0 hone hmono hy h0
 refine have hlg:=hG.le;G3 func263 r' ntmps263 fun wld=>q' 2 r' ?_
 have hp1:Cells m (pc.add 0) [vg]:=hc.part 0 (by intro j v hj;cases j with|zero=>exact hj|succ j=>simp at hj)
 refine f' r' t'<|y' (T4 isAgg28 rfl hp1)<|l' hG r'<|v' 5 r' ?_
 refine lp (G:=Nat×Int×Mem×S) (fun(k,q,mm,s)=>G.length-k) (fun(k,q,mm,s)=>mm) (fun(k,q,mm,s)=>([]++HS s)) (fun(k,q,mm,s)=>[(0,.func (.yield lo) #[] #[]),(1,.pointer (some pc)),(3,J q)]) (fun(k,q,mm,s)=>m.le mm∧(k≤G.length∧q=(G.length:Int)-1-k)∧I k mm s) ((0,(↑G.length-1),m,s0)) ?_ ?_
 ·exact⟨Mem.le_refl _,by omega,h0⟩
 rintro⟨k,q,mm,s⟩ hF2
 conv=>enter [7];dsimp only
 conv=>enter [8];dsimp only
 try dsimp only at hF2
 obtain⟨hmm,hk,hI0⟩:=hF2
 refine have hc:=hc.mono hmm;have hG:=hG.mono hmm;q' 4 r'<|c' (X.geq r' r') (fun h3=>?_) fun h3=>?_
 ·refine v' 11 r' ?_
  have hp4:Cells mm (pc.add 0) [vg]:=hc.part 0 (by intro j v hj;cases j with|zero=>exact hj|succ j=>simp at hj)
  refine f' r' t'<|y' (T4 isAgg28 rfl hp4)<|v' 1 r'<|P5 (A0V runUnderlying28 sizeOf23 rfl rfl hG (by omega) (by omega)) (by decide) fun p5 hp6=>g' hp6 r' fun c7 hc8=>?_
  obtain rfl:=hc8
  refine A6o (T.yield (A:=[]) rfl rfl rfl (hy k _ s _ (by omega) hmm (by show _=_;rw[show((G.length-1-k:Nat):Int)=q by omega,show G.length-1-k=q.toNat by omega];rfl) hI0)) (by decide) (fun m9 H10 hT11=>?_) (fun m9 H10 hT11=>?_)
  ·obtain⟨hle13,s12,rfl,hI14⟩:=hT11
   refine v' 13 r' ?_
   refine nx ((k+1,q-1,m9,s12)) ?_ ?_
   ·exact⟨Mem.le_trans hmm hle13,by omega,hI14⟩
   (dsimp only;omega)
  obtain⟨hle13,s12,rfl,hI14⟩:=hT11
  refine v' 9 r' ?_
  refine F1 rfl (fun w' hw'=>B8 (hw'.weaken (.refl _)) ?_)
  exact⟨_,rfl,.inr ⟨k+1,by omega,hI14⟩⟩
 refine v' 7 r' ?_
 refine D9 rfl (fun w' hw'=>B8 (hw'.weaken (.refl _)) ?_)
 refine⟨_,rfl,.inl ?_⟩
 rw[show G.length=k by omega]
 exact hI0
theorem B6F(m:Mem)(cc:List Value)(c:Clk)(hc:Enc.rd m cc c)(hw:CkW c):Pure prog 140 #[.agg cc.toArray] m (fun m' v=>∃r0,v= .tuple #[.agg r0.toArray,.bool (decide (okC c))]∧Enc.rd m' r0 (Clk.mk c.gaps (V9 c))):=by
 obtain⟨v1,v3,rfl,hs2,hs4⟩:=hc
 refine have hl5:=hs2.le;have hl6:=hs4.le;have hnn:=hw.n;have hlc:=hw.l;H7 func140 r' ntmps140 fun wld=>q' 2 r'<|o' r' r' fun b7=>n' zeroValue174 r' fun b8=>v' 6 r'<|f' r' t'<|b' 1 r' r' r' ?_
 refine C2 (J5 call207 rfl (A5Y _ hs4 (by omega))) (by decide) (fun m9 Es10 v11 hle12 hR_=>?_)
 obtain⟨rfl,ho13⟩:=hR_
 refine have hs2:=hs2.mono hle12;f' r' t'<|I2 (T.storeB (k:=2) sizeOf28 rfl rfl rfl ho13 (Nat.le_of_ble_eq_true rfl))<|v' 7 r' ?_
 refine O6 (fun(r:Nat) (L:List Span)=>2-r) (fun r L=>[A5 (v11) 23 (L),blk b8 174 [S0,S0],blk b7 174 [v1,v11]]) (fun r L=>[(1,Pt b7 0),(2,Pt b8 0)]) (fun r L=>A7z c L∧r≤1∧(r=1→L=V9 c)) 0 c.at_ ?_ ?_
 ·exact⟨.inl rfl,by omega,fun h=>absurd h (by omega)⟩
 rintro r L ⟨hI,hr,hr1⟩
 refine K6 (fun hgood0=>?_)
 refine have hlL:=C0t hw hI;q' 3 r'<|f' r' t'<|b' 2 r' r' r' ?_
 refine C2 (B4z (R:=fun Es_ u_=>Es_=[A5 u_ 23 L]∧u_.oneCell'=true) call207 rfl (fun _ w_ hw_=>A5Y _ (hw_.rowFSl (k:=0) rfl (by unfold C8;omega)) (by omega))) (by decide) (fun m15 Es16 v17 hle18 hR_=>?_)
 obtain⟨rfl,ho19⟩:=hR_
 refine have hs2:=hs2.mono hle18;v' 6 r'<|a' 3 r' r' ?_
 refine D1 (T.call call217 rfl (C4Q _ v1 v11)) (by decide) (fun m20 r24 hle21 hR_=>?_)
 obtain⟨p22,rfl,hc23⟩:=hR_
 refine have hs2:=hs2.mono hle21;v' 3 r'<|WK.p [3,1] ?_
 refine A0L (S:=List Span) (G:=Nat) (ps:=[18,19]) (n:=c.gaps.length) (A:=fun i _ args=>args=[J ((i:Nat):Int),.agg [J (gt c.gaps i).Lo,J (gt c.gaps i).Hi].toArray].toArray) rfl call262 (C3S _ hc23 hs2) (fun x_:List Span=>[blk b7 174 [v1,v11],A5 (v11) 23 (x_),A5 (v17) 23 (L),blk b8 174 [S0,S0]]) (fun i _ x_=>x_=X8 c.gaps L i) (fun _ _ _ _=>False) L rfl (C0G hlL).symm (fun h=>by cases h) (fun _ _ _ _ _ h=>h) (by simp) (fun i m1 args h=>by subst h;rfl) (fun b_ args gh=>blk b_ 23 ((args.getD 1 undef).cells.toList)::(fun x_:List Span=>[blk b7 174 [v1,v11],A5 (v11) 23 (x_),A5 (v17) 23 (L),blk b8 174 [S0,S0]]) gh) (fun b_ args=>(5,args.headD undef)::(6,Pt b_ 0)::[(1,Pt b7 0),(2,Pt b8 0),(13,Pt b7 1),(14,v11),(15,v17),(4,v17),(16,.agg [v1,v11].toArray),(17,.func (.func 262) #[] [.pointer (some p22)].toArray)]) ?_ ?_ ?_ ?_ ?_
 ·intro lo B1 i m1_2 gh args KK hlen hA1 hm1_2 hKK
  have hA2:args=[J ((i:Nat):Int),.agg [J (gt c.gaps i).Lo,J (gt c.gaps i).Hi].toArray]:=(by have:=congrArg Array.toList hA1;simpa using this)
  subst hA2
  refine qb ?_
  exact q' 6 r'<|n' zeroValue23 r' fun b25=>w' 0 r' r' r'<|v' 2 r'<|R0 (.cons rfl (.cons rfl (.cons rfl (.cons rfl (.cons rfl (.cons rfl (.cons rfl (.cons rfl (.cons rfl (.cons rfl .nil)))))))))) (hKK b25)
 ·intro lo B1 i m1_2 gh args b_ hlen hi hm1_2 hA1 hI1
  have hA2:args=[J ((i:Nat):Int),.agg [J (gt c.gaps i).Lo,J (gt c.gaps i).Hi].toArray]:=(by have:=congrArg Array.toList hA1;simpa using this)
  subst hA2
  obtain rfl:=hI1
  replace hs2:=hs2.mono hm1_2
  show WK _ _ m1_2 [blk b_ 23 [J ((gt c.gaps i).Lo),J ((gt c.gaps i).Hi)],blk b7 174 [v1,v11],A5 (v11) 23 (X8 c.gaps L i),A5 (v17) 23 (L),blk b8 174 [S0,S0]] [(5,J i),(6,Pt b_ 0),(1,Pt b7 0),(2,Pt b8 0),(13,Pt b7 1),(14,v11),(15,v17),(4,v17),(16,.agg [v1,v11].toArray),(17,.func (.func 262) #[] [.pointer (some p22)].toArray)] _
  have hb1:=C5w hw hI (i:=i) (j:=i) (by omega)
  have hg1:=hw.g i hi
  have hpl:=B1a c.gaps L i
  refine qb ?_
  refine q' 1 r'<|B4 22 [21] [21]<|U' 2 r'<|Y' r' r' (A.f r')<|Y' r' r' (A.b 1 r' r' r')<|U' 1 r'<|Y' r' r' (B0 2 i)<|Y' r' r' (A.f r')<|Y' r' r' (Q0 (k:=2) (i:=i) (off:=0) (u:=J (((gt (X8 c.gaps L i) i)).Lo)) isAgg3 rfl rfl (by first|omega|(simp;omega)|simp) rfl)<|Y' r' r' (A.f r')<|Y' r' r' (A.b 0 r' r' r')<|U' 1 r'<|Y' r' r' (A.f r')<|Y' r' r' (A.b 1 r' r' r')<|U' 1 r'<|Y' r' r' (B0 2 i)<|Y' r' r' (A.f r')<|Y' r' r' (Q0 (k:=2) (i:=i) (off:=1) (u:=J (((gt (X8 c.gaps L i) i)).Hi)) isAgg3 rfl rfl (by first|omega|(simp;omega)|simp) rfl)<|Y' r' r' (A.f r')<|Y' r' r' (A.b 0 r' r' r')<|U' 1 r'<|DW.x (V:=Value.agg [J ((((gt (X8 c.gaps L i) i)).Lo)+((gt c.gaps i).Lo)),J ((((gt (X8 c.gaps L i) i)).Hi)+((gt c.gaps i).Hi))].toArray) r' r' (X.build zeroValue23 runUnderlying23 (H3 _ underlying23) rfl rfl) (by decide) ?_
  refine A1T rfl rfl rfl rfl (I3 [1,1] call216 r' (A7x _ (k:=(i+1)) (by omega) (by omega) ((Span.mk ((((gt (X8 c.gaps L i) i)).Lo)+((gt c.gaps i).Lo)) ((((gt (X8 c.gaps L i) i)).Hi)+((gt c.gaps i).Hi)))))) (by decide) (fun m26 Es_ v_ hle27 hR_=>?_)
  obtain⟨rfl,rfl⟩:=hR_
  refine have hs2:=hs2.mono hle27;V' 1 r' ?_
  have he28:((X8 c.gaps L i).set (i+1) (A2R (gt (X8 c.gaps L i) (i+1)) ((Span.mk ((((gt (X8 c.gaps L i) i)).Lo)+((gt c.gaps i).Lo)) ((((gt (X8 c.gaps L i) i)).Hi)+((gt c.gaps i).Hi))))))=(X8 c.gaps L (i+1)):=(C1I hi)
  rw[he28]
  exact WK.p [2]<|A1o (X8 c.gaps L (i+1)) hle27 (.cons _ (.refl _)) rfl
 ·intro m1_2 gh hm1_2 hI1
  obtain rfl:=hI1
  refine have hs2:=hs2.mono hm1_2;R0 (σ':=[(1,Pt b7 0),(2,Pt b8 0),(13,Pt b7 1),(14,v11),(15,v17),(4,v17),(16,.agg [v1,v11].toArray),(17,.func (.func 262) #[] [.pointer (some p22)].toArray)]) (.cons rfl (.cons rfl (.cons rfl (.cons rfl (.cons rfl (.cons rfl (.cons rfl (.cons rfl .nil)))))))) ?_
  show WK _ _ m1_2 [blk b7 174 [v1,v11],A5 (v11) 23 (X8 c.gaps L c.gaps.length),A5 (v17) 23 (L),blk b8 174 [S0,S0]] [(1,Pt b7 0),(2,Pt b8 0),(13,Pt b7 1),(14,v11),(15,v17),(4,v17),(16,.agg [v1,v11].toArray),(17,.func (.func 262) #[] [.pointer (some p22)].toArray)] _
  refine A0v<|L9<|q' 3 r'<|a' 0 r' r' ?_
  refine D1 (T.call call218 rfl (C6i _ v1 v11)) (by decide) (fun m29 r33 hle30 hR_=>?_)
  obtain⟨p31,rfl,hc32⟩:=hR_
  refine have hs2:=hs2.mono hle30;v' 3 r' ?_
  refine A0L (S:=List Span) (G:=Nat) (ps:=[44,45]) (n:=c.gaps.length) (A:=fun i _ args=>args=[J (((c.gaps.length-1-i):Nat):Int),.agg [J (gt c.gaps (c.gaps.length-1-i)).Lo,J (gt c.gaps (c.gaps.length-1-i)).Hi].toArray].toArray) rfl call263 (C3V _ hc32 hs2) (fun x_:List Span=>[blk b7 174 [v1,v11],A5 (v11) 23 (x_),A5 (v17) 23 (L),blk b8 174 [S0,S0]]) (fun i _ x_=>x_=X5 c.gaps L i) (fun _ _ _ _=>False) (X8 c.gaps L c.gaps.length) rfl (C1k _ _) (fun h=>by cases h) (fun _ _ _ _ _ h=>h) (by simp) (fun i m1 args h=>by subst h;rfl) (fun b_ args gh=>blk b_ 23 ((args.getD 1 undef).cells.toList)::(fun x_:List Span=>[blk b7 174 [v1,v11],A5 (v11) 23 (x_),A5 (v17) 23 (L),blk b8 174 [S0,S0]]) gh) (fun b_ args=>(7,args.headD undef)::(8,Pt b_ 0)::[(1,Pt b7 0),(2,Pt b8 0),(13,Pt b7 1),(14,v11),(15,v17),(4,v17),(16,.agg [v1,v11].toArray),(17,.func (.func 262) #[] [.pointer (some p22)].toArray),(42,.agg [v1,v11].toArray),(43,.func (.func 263) #[] [.pointer (some p31)].toArray)]) ?_ ?_ ?_ ?_ ?_
  ·intro lo B1 i m1_3 gh args KK hlen hA1 hm1_3 hKK
   have hA2:args=[J (((c.gaps.length-1-i):Nat):Int),.agg [J (gt c.gaps (c.gaps.length-1-i)).Lo,J (gt c.gaps (c.gaps.length-1-i)).Hi].toArray]:=(by have:=congrArg Array.toList hA1;simpa using this)
   subst hA2
   refine qb ?_
   exact q' 6 r'<|n' zeroValue23 r' fun b34=>w' 0 r' r' r'<|v' 2 r'<|R0 (.cons rfl (.cons rfl (.cons rfl (.cons rfl (.cons rfl (.cons rfl (.cons rfl (.cons rfl (.cons rfl (.cons rfl (.cons rfl (.cons rfl .nil)))))))))))) (hKK b34)
  ·intro lo B1 i m1_3 gh args b_ hlen hi hm1_3 hA1 hI1
   have hA2:args=[J (((c.gaps.length-1-i):Nat):Int),.agg [J (gt c.gaps (c.gaps.length-1-i)).Lo,J (gt c.gaps (c.gaps.length-1-i)).Hi].toArray]:=(by have:=congrArg Array.toList hA1;simpa using this)
   subst hA2
   obtain⟨q,hq⟩:∃q,q=(c.gaps.length-1-i):=⟨_,rfl⟩
   rw[←hq]
   obtain rfl:=hI1
   replace hs2:=hs2.mono hm1_3
   show WK _ _ m1_3 [blk b_ 23 [J ((gt c.gaps q).Lo),J ((gt c.gaps q).Hi)],blk b7 174 [v1,v11],A5 (v11) 23 (X5 c.gaps L i),A5 (v17) 23 (L),blk b8 174 [S0,S0]] [(7,J q),(8,Pt b_ 0),(1,Pt b7 0),(2,Pt b8 0),(13,Pt b7 1),(14,v11),(15,v17),(4,v17),(16,.agg [v1,v11].toArray),(17,.func (.func 262) #[] [.pointer (some p22)].toArray),(42,.agg [v1,v11].toArray),(43,.func (.func 263) #[] [.pointer (some p31)].toArray)] _
   have hb1:=C5r hw hI (i:=i) (j:=q+1) (by omega)
   have hg1:=hw.g q (by omega)
   have hpl:=B1d c.gaps L i
   refine qb ?_
   refine q' 1 r'<|B4 23 [22] [22]<|U' 1 r'<|Y' r' r' (A.f r')<|Y' r' r' (A.b 1 r' r' r')<|U' 2 r'<|Y' r' r' (B0 2 (q+1))<|Y' r' r' (A.f r')<|Y' r' r' (Q0 (k:=2) (i:=q+1) (off:=0) (u:=J (((gt (X5 c.gaps L i) (q+1))).Lo)) isAgg3 rfl rfl (by first|omega|(simp;omega)|simp) rfl)<|Y' r' r' (A.f r')<|Y' r' r' (A.b 0 r' r' r')<|U' 1 r'<|Y' r' r' (A.f r')<|Y' r' r' (A.b 1 r' r' r')<|U' 2 r'<|Y' r' r' (B0 2 (q+1))<|Y' r' r' (A.f r')<|Y' r' r' (Q0 (k:=2) (i:=q+1) (off:=1) (u:=J (((gt (X5 c.gaps L i) (q+1))).Hi)) isAgg3 rfl rfl (by first|omega|(simp;omega)|simp) rfl)<|Y' r' r' (A.f r')<|Y' r' r' (A.b 0 r' r' r')<|U' 1 r'<|DW.x (V:=Value.agg [J ((((gt (X5 c.gaps L i) (q+1))).Lo)-((gt c.gaps q).Hi)),J ((((gt (X5 c.gaps L i) (q+1))).Hi)-((gt c.gaps q).Lo))].toArray) r' r' (X.build zeroValue23 runUnderlying23 (H3 _ underlying23) rfl rfl) (by decide) ?_
   refine A1T rfl rfl rfl rfl (I3 [1,1] call216 r' (A7x _ (k:=q) (by omega) (by omega) ((Span.mk ((((gt (X5 c.gaps L i) (q+1))).Lo)-((gt c.gaps q).Hi)) ((((gt (X5 c.gaps L i) (q+1))).Hi)-((gt c.gaps q).Lo)))))) (by decide) (fun m35 Es_ v_ hle36 hR_=>?_)
   obtain⟨rfl,rfl⟩:=hR_
   refine have hs2:=hs2.mono hle36;V' 1 r' ?_
   have he37:((X5 c.gaps L i).set q (A2R (gt (X5 c.gaps L i) q) ((Span.mk ((((gt (X5 c.gaps L i) (q+1))).Lo)-((gt c.gaps q).Hi)) ((((gt (X5 c.gaps L i) (q+1))).Hi)-((gt c.gaps q).Lo))))))=(X5 c.gaps L (i+1)):=(C0o hi hq)
   rw[he37]
   exact WK.p [2]<|A1o (X5 c.gaps L (i+1)) hle36 (.cons _ (.refl _)) rfl
  ·intro m1_3 gh hm1_3 hI1
   obtain rfl:=hI1
   refine have hs2:=hs2.mono hm1_3;R0 (σ':=[(1,Pt b7 0),(2,Pt b8 0),(13,Pt b7 1),(14,v11),(15,v17),(4,v17),(16,.agg [v1,v11].toArray),(17,.func (.func 262) #[] [.pointer (some p22)].toArray),(42,.agg [v1,v11].toArray),(43,.func (.func 263) #[] [.pointer (some p31)].toArray)]) (.cons rfl (.cons rfl (.cons rfl (.cons rfl (.cons rfl (.cons rfl (.cons rfl (.cons rfl (.cons rfl (.cons rfl .nil)))))))))) ?_
   show WK _ _ m1_3 [blk b7 174 [v1,v11],A5 (v11) 23 (X5 c.gaps L c.gaps.length),A5 (v17) 23 (L),blk b8 174 [S0,S0]] [(1,Pt b7 0),(2,Pt b8 0),(13,Pt b7 1),(14,v11),(15,v17),(4,v17),(16,.agg [v1,v11].toArray),(17,.func (.func 262) #[] [.pointer (some p22)].toArray),(42,.agg [v1,v11].toArray),(43,.func (.func 263) #[] [.pointer (some p31)].toArray)] _
   refine A0v<|L9<|q' 2 r' ?_
   have he38:(X5 c.gaps L c.gaps.length)=(V9 c):=((C0n c L).trans (C1l hw hI))
   rw[he38]
   refine have hsl:=A4K c;q' 1 r'<|f' r' t'<|b' 0 r' r' r'<|c' (A7V call178 rfl (fun w_ hw_=>B0M (p:=fun i=>(gt (V9 c) i).Hi<(gt (V9 c) i).Lo) _ (hw_.rowFSl (k:=1) rfl (by unfold C8;omega)) (caps:=[]) call219 (fun i _=>C5H _ _ (gt (V9 c) i) rfl))) (fun h39=>?_) fun h39=>?_
   ·refine v' 5 r'<|a' 0 r' r'<|w' 3 r' r' r'<|v' 10 r' ?_
    refine E1 1 rfl rfl (by rw[A4K];unfold C8;omega) (fun m40 hle41 hs42=>?_)
    refine have hs2:=hs2.mono hle41;F2 2 r' r' r' r' isAgg174 sizeOf174<|C5 ?_
    first|exact⟨_,F8 rfl (A9 (fun h_=>by have:=A7D.1 h_;contradiction)),⟨_,_,rfl,hs2,hs42⟩⟩|exact⟨_,F8 rfl (C9 (A7D.2 (Decidable.of_not_not (by assumption)))),⟨_,_,rfl,hs2,hs42⟩⟩
   refine v' 8 r'<|f' r' t'<|b' 0 r' r' r'<|c' (A7V call220 rfl (fun w_ hw_=>B2S _ _ L (hw_.rowFSl (k:=2) rfl (by unfold C8;omega)) _ (V9 c) (hw_.rowFSl (k:=1) rfl (by unfold C8;omega)))) (fun h43=>?_) fun h43=>?_
   ·refine v' 10 r'<|a' 0 r' r'<|w' 3 r' r' r'<|v' 5 r' ?_
    refine E1 1 rfl rfl (by rw[A4K];unfold C8;omega) (fun m44 hle45 hs46=>?_)
    refine have hs2:=hs2.mono hle45;F2 2 r' r' r' r' isAgg174 sizeOf174<|C5 ?_
    first|exact⟨_,F8 rfl (A9 (fun h_=>by have:=A7D.1 h_;contradiction)),⟨_,_,rfl,hs2,hs46⟩⟩|exact⟨_,F8 rfl (C9 (A7D.2 (Decidable.of_not_not (by assumption)))),⟨_,_,rfl,hs2,hs46⟩⟩
   refine v' 6 r'<|E5 hgood0 (Mem.le_trans hle18 (Mem.le_trans hle21 (Mem.le_trans hm1_2 (Mem.le_trans hle30 hm1_3))))<|WK.p [2,1,1] ?_
   refine J7 1 (V9 c) ?_ ?_
   ·exact⟨.inr ⟨rfl,A7D.2 (Decidable.of_not_not (by assumption))⟩,by omega,fun _=>rfl⟩
   (by_cases hr0:r=1;exact absurd (hr1 hr0) (by assumption);((try dsimp only);omega))
  ·intro i m1 gh hm1 hi hI1
   exact hI1.elim
  intro id i m1 gh hm1 hi hI1
  exact hI1.elim
 ·intro i m1 gh hm1 hi hI1
  exact hI1.elim
 intro id i m1 gh hm1 hi hI1
 exact hI1.elim
theorem A3i(h:G:=by first|exact A9 (fun h_=>by have:=h_.1;omega)|exact A9 (fun h_=>by have:=h_.2 k (by omega);unfold A5V at this;omega)|exact C9 ⟨by omega,fun j hj=>hall j (by omega)⟩):G:=h
theorem A8f(h:G:=by exact⟨by omega,fun j hj=>by rcases Nat.lt_succ_iff_lt_or_eq.1 hj with h|h;exact hall j h;subst h;(unfold A5V;refine⟨by omega,fun h0_=>?_⟩;first|omega|(exact absurd h0_ (by omega)))⟩):G:=h
theorem C0x(m:Mem)(cc:List Value)(c:Clk)(hc:Enc.rd m cc c)(vl:Value)(l:List Int)(hl:Sl m vl l)(hw:CkW c):Exact prog 177 #[.agg cc.toArray,vl] m (.bool (decide (B0v c l))):=by
 obtain⟨v1,v3,rfl,hs2,hs4⟩:=hc
 refine have hl5:=hs2.le;have hl6:=hs4.le;have ll:=hl.le;C7 func177 r' ntmps177 fun wld=>q' 2 r'<|o' r' r' fun b7=>v' 7 r'<|l' hl r'<|f' r' t'<|b' 0 r' r' r'<|l' hs4 r'<|e' (X.neq r' r') (fun h8=>?_) fun h8=>?_
 ·exact v' 10 r'<|A0 r' r'<|A7<|A3i
 refine v' 8 r'<|f' r' t'<|b' 0 r' r' r'<|l' hs4 r'<|v' 4 r' ?_
 refine I0 (fun(k:Nat)=>c.at_.length-k) (fun k=>[blk b7 174 [v1,v3]]) (fun k=>[(1,vl),(2,Pt b7 0),(14,v3),(15,J c.at_.length),(16,J k)]) (fun k=>k≤c.at_.length∧(∀j,j<k→A5V c l j)) 0 ?_ ?_
 ·exact⟨Nat.zero_le _,fun j hj=>absurd hj (Nat.not_lt_zero _)⟩
 rintro k ⟨hk,hall⟩
 have hlw:=hw.l
 have hp1:=fun(h0:0<k)=>(hall (k-1) (by omega)).1
 have hp2:=fun(h0:0<k) (h1:k≤c.at_.length)=>hw.a (k-1) (by omega)
 refine have hp3:=fun(h1:k<c.at_.length)=>hw.a k h1;q' 2 r'<|c' (X.lss r' r') (fun h10=>?_) fun h10=>?_
 ·refine v' 11 r'<|x' k hs4 r' r' fun p11 hp12=>g' hp12 r' fun c13 hc14=>?_
  obtain rfl:=hc14
  refine n' zeroValue23 r' fun b15=>v' 1 r'<|w' 0 r' r' r'<|v' 3 r'<|B4 42 [] []<|U' 2 r'<|X' k hl r' r' r' r' fun p16 hp17=>Y' r' r' (A.i r' hp17)<|Y' r' r' (A.f r')<|Y' r' r' (A.b 0 r' r' r')<|Y' r' r' (A.f r')<|Y' r' r' (A.b 0 r' r' r')<|C' r' r' (X.call call137 rfl (Z1 _ _ _ _)) (fun h18=>?_) fun h18=>?_
  ·refine U' 3 r'<|C' r' r' (X.gtr r' r') (fun h19=>?_) fun h19=>?_
   ·refine U' 3 r'<|X' k hl r' r' r' r' fun p20 hp21=>Y' r' r' (A.i r' hp21)<|U' 3 r'<|G9 r' r' (Q4 (k-1) runUnderlying27 sizeOf3 rfl rfl hl (by omega) (by omega)) (by decide) fun p22 hp23=>Y' r' r' (A.i r' hp23)<|U' 1 r'<|Y' r' r' (A.f r')<|Y' r' r' (A.b 1 r' r' r')<|U' 2 r'<|G9 r' r' (Q4 (k-1) runUnderlying28 sizeOf23 rfl rfl hs2 (by omega) (by omega)) (by decide) fun p24 hp25=>have hp26:=Z0 hp25;Y' r' r' (A.f r')<|Y' r' r' (A.i r' hp26)<|Y' r' r' (A.f r')<|Y' r' r' (A.b 1 r' r' r')<|U' 2 r'<|G9 r' r' (Q4 (k-1) runUnderlying28 sizeOf23 rfl rfl hs2 (by omega) (by omega)) (by decide) fun p27 hp28=>have hp29:=W3 hp28;Y' r' r' (A.f r')<|Y' r' r' (A.i r' hp29)<|C' r' r' (X.call call137 rfl (Z1 _ _ _ _)) (fun h30=>?_) fun h30=>?_
    ·exact U' 3 r'<|V' 10 r'<|G5 (k+1)<|A8f
    exact U' 3 r'<|V' 13 r'<|A0 r' r'<|A7<|A3i
   exact U' 29 r'<|V' 10 r'<|G5 (k+1)<|A8f
  exact U' 33 r'<|V' 13 r'<|A0 r' r'<|A7<|A3i
 exact v' 15 r'<|A0 r' r'<|A7<|A3i
theorem A5P(h:G:=by first|exact A8 (by unfold keepE;rw[if_pos (by assumption)])|exact A8 (by unfold keepE;rw[if_neg (by omega),if_neg (fun h_=>by have:=A8y.2 h_;contradiction)])|exact A8 (by unfold keepE;rw[if_neg (by omega),if_pos (A8y.1 (by assumption))])):G:=h
theorem C3w(m:Mem)(cd:List Value)(d:Drum)(hd:Enc.rd m cd d)(vm_:Value)(m_:List Mark)(hm_:Sl m vm_ m_)(vl:Value)(l:List Int)(hl:Sl m vl l):Exact prog 99 #[.agg cd.toArray,vm_,vl] m (J (keepE d m_ l)):=by
 obtain⟨v1,v3,rfl,hs2,hs4⟩:=hd
 refine have hl5:=hs2.le;have hl6:=hs4.le;have lm_:=hm_.le;have ll:=hl.le;C7 func99 r' ntmps99 fun wld=>q' 2 r'<|o' r' r' fun b7=>v' 6 r'<|a' 0 r' r'<|v' 1 r'<|y' (X.call call135 rfl (A9S _ _ d ⟨_,_,rfl,hs2,hs4⟩ _ _ hm_))<|v' 6 r'<|e' (X.neq r' r') (fun h8=>?_) fun h8=>?_
 ·exact v' 11 r'<|A0 r' r'<|A7<|A5P
 refine v' 7 r' ?_
 have hok:=B2l (d:=d) (m:=m_) (by omega)
 refine q' 1 r'<|a' 0 r' r'<|v' 1 r'<|D1 (T.call call139 rfl (B0o _ _ d ⟨_,_,rfl,hs2,hs4⟩ _ _ hm_ hok)) (by decide) fun m9 r10 hle11 hR12=>?_
 obtain⟨c13,rfl,hc14⟩:=hR12
 replace hl:=hl.mono hle11
 obtain⟨v15,v17,rfl,hs16,hs18⟩:=hc14
 refine have hl19:=hs16.le;have hl20:=hs18.le;v' 1 r'<|c' (X.call call177 rfl (C0x _ _ (Clk.mk (A0s d) (atL d m_)) ⟨_,_,rfl,hs16,hs18⟩ _ _ hl (B8r hok))) (fun h21=>?_) fun h21=>?_
 ·exact v' 12 r'<|A0 r' r'<|A7<|A5P
 exact v' 11 r'<|A0 r' r'<|A7<|A5P
theorem B6I(m:Mem)(cc:List Value)(c:Clk)(hc:Enc.rd m cc c)(hl:c.at_.length≤1000):Pure prog 72 #[.agg cc.toArray] m (fun m' v=>∃r0,v=r0∧Sl m' r0 (B6v c.at_)):=by
 obtain⟨v1,v3,rfl,hs2,hs4⟩:=hc
 refine have hl5:=hs2.le;have hl6:=hs4.le;H7 func72 r' ntmps72 fun wld=>q' 2 r'<|o' r' r' fun b7=>v' 4 r'<|G7 Int 3<|q' 7 r'<|f' r' t'<|b' 1 r' r' r'<|l' hs4 r'<|v' 4 r' ?_
 refine O6 (fun(k:Nat) (vo:Value)=>c.at_.length-k) (fun k vo=>[A5 (vo) 3 ((List.range k).map (fun i=>(gt c.at_ i).Lo)),blk b7 174 [v1,v3]]) (fun k vo=>[(3,vo),(7,v3),(8,J c.at_.length),(9,J k)]) (fun k vo=>k≤c.at_.length) 0 (Value.slice none 0 0) ?_ ?_
 ·exact Nat.zero_le _
 rintro k vo hF8
 try dsimp only at hF8
 refine have hk:=hF8;q' 2 r'<|c' (X.lss r' r') (fun h9=>?_) fun h9=>?_
 ·refine v' 10 r'<|x' k hs4 r' r' fun p10 hp11=>g' hp11 r' fun c12 hc13=>?_
  obtain rfl:=hc13
  refine n' zeroValue23 r' fun b14=>w' 0 r' r' r'<|v' 4 r'<|f' r' t'<|b' 0 r' r' r'<|T6 (E6 L6 rfl rfl rfl (by decide)) (by decide) fun b15=>?_
  refine G2 (E2 (k:=1) (a:=(gt c.at_ k).Lo) L6 rfl rfl rfl rfl (by first|omega|(simp;done)|(simp;omega)) (by decide)) (by decide) (fun v16=>?_)
  refine v' 9 r' ?_
  have he17:(((List.range k).map (fun i=>(gt c.at_ i).Lo))++[(gt c.at_ k).Lo])=((List.range (k+1)).map (fun i=>(gt c.at_ i).Lo)):=A8F _ _
  rw[he17]
  exact J7 (k+1) v16<|by omega
 refine v' 10 r' ?_
 obtain rfl:k=c.at_.length:=(by omega)
 refine q' 6 r' ?_
 refine E1 0 rfl rfl (by first|(simp[C8];omega)|(unfold C8;omega)) (fun m18 hle19 hs20=>?_)
 exact A0 r' r'<|C5<|⟨_,rfl,hs20⟩
theorem A3f(h:G:=by first|(have he_:=(B8x (by omega):N2 d m_ columns ticks=_);exact⟨_,F8 rfl (A8 he_.symm),by rw[A4V (by rw[he_];omega)];exact⟨_,_,rfl,.nil,.nil⟩⟩)|(have he_:=(B1u (by omega) (fun h_=>by have h1_:=h_.1;contradiction):N2 d m_ columns ticks=_);exact⟨_,F8 rfl (A8 he_.symm),by rw[A4V (by rw[he_];omega)];exact⟨_,_,rfl,.nil,.nil⟩⟩)|(have he_:=(B1u (by omega) (fun h_=>by have h1_:=h_.2;contradiction):N2 d m_ columns ticks=_);exact⟨_,F8 rfl (A8 he_.symm),by rw[A4V (by rw[he_];omega)];exact⟨_,_,rfl,.nil,.nil⟩⟩)|(have he_:=(B6P (by omega) ⟨Decidable.of_not_not ‹_›,Decidable.of_not_not ‹_›⟩ (fun h_=>by have:=(B2e d m_).2 h_;contradiction):N2 d m_ columns ticks=_);exact⟨_,F8 rfl (A8 he_.symm),by rw[A4V (by rw[he_];omega)];exact⟨_,_,rfl,.nil,.nil⟩⟩)):G:=h
theorem C1S(m:Mem)(cd:List Value)(d:Drum)(hd:Enc.rd m cd d)(vm_:Value)(m_:List Mark)(hm_:Sl m vm_ m_)(vcolumns:Value)(columns:List Int)(hcolumns:Sl m vcolumns columns)(vticks:Value)(ticks:List Int)(hticks:Sl m vticks ticks):Pure prog 71 #[.agg cd.toArray,vm_,vcolumns,vticks] m (fun m' v=>∃r0,v= .tuple #[.agg r0.toArray,J (N2 d m_ columns ticks)]∧Enc.rd m' r0 (B0u d m_ columns ticks)):=by
 obtain⟨v1,v3,rfl,hs2,hs4⟩:=hd
 refine have hl5:=hs2.le;have hl6:=hs4.le;have lm_:=hm_.le;have lcolumns:=hcolumns.le;have lticks:=hticks.le;H7 func71 r' ntmps71 fun wld=>q' 2 r'<|o' r' r' fun b7=>n' zeroValue174 r' fun b8=>v' 6 r'<|a' 1 r' r'<|v' 1 r'<|y' (X.call call135 rfl (A9S _ _ d ⟨_,_,rfl,hs2,hs4⟩ _ _ hm_))<|v' 6 r'<|e' (X.neq r' r') (fun h9=>?_) fun h9=>?_
 ·refine v' 5 r'<|WL.x (V:=Value.agg [S0,S0].toArray) (X.build zeroValue174 runUnderlying174 (A3x _ underlying174) rfl rfl) (by decide) ?_
  exact v' 1 r'<|w' 0 r' r' r'<|v' 5 r'<|F2 0 r' r' r' r' isAgg174 sizeOf174<|C5<|A3f
 refine v' 6 r'<|fz (x:=d) 1 r' r' ⟨_,_,rfl,hs2,hs4⟩ fun m10 hle11 hp12=>have hm_:=hm_.mono hle11;have hcolumns:=hcolumns.mono hle11;have hticks:=hticks.mono hle11;q' 1 r'<|y' (X.makeFunc (by intro x hx;simp at hx;subst hx;all_goals exact⟨_,rfl⟩) rfl)<|v' 13 r'<|c' (X.call call97 rfl (B3Y (p:=fun i=>¬(0≤gt columns i∧gt columns i≤(d.Rates.length:Int))) _ hcolumns (caps:=[Pt b7 0]) call136 (fun i _=>C5u _ (gt columns i) hp12))) (fun h13=>?_) fun h13=>?_
 ·refine v' 10 r'<|WL.x (V:=Value.agg [S0,S0].toArray) (X.build zeroValue174 runUnderlying174 (A3x _ underlying174) rfl rfl) (by decide) ?_
  exact w' 0 r' r' r'<|v' 5 r'<|F2 0 r' r' r' r' isAgg174 sizeOf174<|C5<|A3f
 refine v' 6 r'<|c' (X.call call97 rfl (B3Y (p:=fun i=>¬(0≤gt ticks i∧gt ticks i≤400)) _ hticks (caps:=[]) call138 (fun i _=>C3r _ (gt ticks i)))) (fun h14=>?_) fun h14=>?_
 ·refine v' 6 r'<|WL.x (V:=Value.agg [S0,S0].toArray) (X.build zeroValue174 runUnderlying174 (A3x _ underlying174) rfl rfl) (by decide) ?_
  exact w' 0 r' r' r'<|v' 5 r'<|F2 0 r' r' r' r' isAgg174 sizeOf174<|C5<|A3f
 refine v' 7 r' ?_
 have hok:=B2l (d:=d) (m:=m_) (by omega)
 refine q' 1 r'<|g' hp12 r' fun c15 hc16=>?_
 obtain⟨v17,v19,rfl,hs18,hs20⟩:=hc16
 refine have hl21:=hs18.le;have hl22:=hs20.le;v' 1 r'<|D1 (T.call call139 rfl (B0o _ _ d ⟨_,_,rfl,hs18,hs20⟩ _ _ hm_ hok)) (by decide) fun m23 r24 hle25 hR26=>?_
 obtain⟨c27,rfl,hc28⟩:=hR26
 obtain⟨v29,v31,rfl,hs30,hs32⟩:=hc28
 refine have hl33:=hs30.le;have hl34:=hs32.le;D1 (T.call call140 rfl (B6F _ _ (Clk.mk (A0s d) (atL d m_)) ⟨_,_,rfl,hs30,hs32⟩ (B8r hok))) (by decide) fun m35 r36 hle37 hR38=>?_
 obtain⟨c39,rfl,hc40⟩:=hR38
 obtain⟨v41,v43,rfl,hs42,hs44⟩:=hc40
 refine have hl45:=hs42.le;have hl46:=hs44.le;v' 3 r'<|n' zeroValue174 r' fun b47=>w' 0 r' r' r'<|v' 7 r'<|e' (A0l rfl) (fun h48=>?_) fun h48=>?_
 ·refine v' 5 r'<|WL.x (V:=Value.agg [S0,S0].toArray) (X.build zeroValue174 runUnderlying174 (A3x _ underlying174) rfl rfl) (by decide) ?_
  exact w' 1 r' r' r'<|v' 5 r'<|F2 1 r' r' r' r' isAgg174 sizeOf174<|C5<|A3f
 refine v' 7 r'<|a' 0 r' r'<|w' 1 r' r' r'<|v' 4 r'<|F2 1 r' r' r' r' isAgg174 sizeOf174<|C5 ?_
 first|(have he_:=(C2b (by omega) ⟨Decidable.of_not_not ‹_›,Decidable.of_not_not ‹_›⟩ ((B2e d m_).1 (by assumption)):N2 d m_ columns ticks=_);exact⟨_,F8 rfl (A8 he_.symm),by rw[B3z he_];unfold A5Q;rw[←B7E];exact⟨_,_,rfl,hs42,hs44⟩⟩)
theorem B7o(m:Mem)(cd:List Value)(d:Drum)(hd:Enc.rd m cd d)(vm_:Value)(m_:List Mark)(hm_:Sl m vm_ m_):Pure prog 24 #[.agg cd.toArray,vm_] m (fun m' v=>∃r0,v= .tuple #[r0,J ((A5m d m_).2)]∧Sl m' r0 ((A5m d m_).1)):=by
 obtain⟨v1,v3,rfl,hs2,hs4⟩:=hd
 refine have hl5:=hs2.le;have hl6:=hs4.le;have lm_:=hm_.le;H7 func24 r' ntmps24 fun wld=>q' 2 r'<|o' r' r' fun b7=>v' 6 r'<|a' 0 r' r'<|v' 1 r'<|D1 (T.call call71 rfl (C1S _ _ d ⟨_,_,rfl,hs2,hs4⟩ _ _ hm_ _ _ .nil _ _ .nil)) (by decide) fun m8 r9 hle10 hR11=>?_
 obtain⟨c12,rfl,hc13⟩:=hR11
 obtain⟨v14,v16,rfl,hs15,hs17⟩:=hc13
 refine have hl18:=hs15.le;have hl19:=hs17.le;v' 3 r'<|n' zeroValue174 r' fun b20=>w' 0 r' r' r'<|v' 7 r'<|e' (X.neq r' r') (fun h21=>?_) fun h21=>?_
 ·refine v' 12 r'<|B6 r' r' r'<|C5 ?_
  first|exact⟨_,F8 rfl (A8 (by rw[A5Z (by omega)])),by rw[A5Z (by omega)];exact .nil⟩|exact⟨_,F8 rfl (A8 (by rw[A7Z he_])),by rw[A7Z he_];exact .nil⟩
 refine v' 6 r' ?_
 have he_:N2 d m_ ([]) ([])=0:=(by omega)
 have hz:=B6E he_
 have hoc:=B3z he_
 have hok:=hz.1
 have hod:=hz.2.2
 have hw:=C6l hok hod
 have hsn:=C5j d m_
 have hsl:=C6n d m_
 have hd1:=hok.dr.1
 rw[hoc]at hs15
 rw[hoc]at hs17
 try rw[hoc]
 refine q' 1 r'<|a' 0 r' r'<|D1 (T.call call72 rfl (B6I _ _ (A5Q d m_) ⟨_,_,rfl,hs15,hs17⟩ (by omega))) (by decide) fun m22 r23 hle24 hR25=>?_
 obtain⟨v26,hv_,hs27⟩:=hR25
 rw[←hv_]at hs27
 clear hv_ v26
 refine have hl28:=hs27.le;v' 5 r'<|B6 r' r' r'<|C5 ?_
 first|exact⟨_,F8 rfl (A8 (by rw[A5Z (by omega)])),by rw[A5Z (by omega)];exact hs27⟩|exact⟨_,F8 rfl (A8 (by rw[A7Z he_])),by rw[A7Z he_];exact hs27⟩
theorem A8N(h:G:=by first|exact F8 (A2C (by rw[A9i (by omega)]) (by rw[A9i (by omega)])) (A8 (by rw[A9i (by omega)]))|exact F8 (A2C (by rw[A8M (by omega) (by omega)]) (by rw[A8M (by omega) (by omega)])) (A8 (by rw[A8M (by omega) (by omega)]))|exact F8 (A2C (by rw[B1m (by omega) (by omega)]) (by rw[B1m (by omega) (by omega)])) (A8 (by rw[B1m (by omega) (by omega)]))):G:=h
theorem C7o(m:Mem)(cd:List Value)(d:Drum)(hd:Enc.rd m cd d)(column:Int):Exact prog 96 #[.agg cd.toArray,J column] m (.tuple #[.agg [J ((A2X d column).1.Lo),J ((A2X d column).1.Hi)].toArray,J ((A2X d column).2)]):=by
 obtain⟨v1,v3,rfl,hs2,hs4⟩:=hd
 refine have hl5:=hs2.le;have hl6:=hs4.le;C7 func96 r' ntmps96 fun wld=>q' 2 r'<|o' r' r' fun b7=>n' zeroValue23 r' fun b8=>v' 6 r'<|a' 1 r' r'<|y' (X.call call172 rfl (A6d _ _ d ⟨_,_,rfl,hs2,hs4⟩))<|v' 6 r'<|e' (X.neq r' r') (fun h9=>?_) fun h9=>?_
 ·refine v' 5 r'<|WL.x (V:=Value.agg [J 0,J 0].toArray) (X.build zeroValue23 runUnderlying23 (H3 _ underlying23) rfl rfl) (by decide) ?_
  exact v' 1 r'<|w' 0 r' r' r'<|v' 5 r'<|F2 0 r' r' r' r' isAgg23 sizeOf23<|A7<|A8N
 refine v' 9 r'<|f' r' t'<|b' 1 r' r' r'<|l' hs2 r'<|v' 1 r'<|c' (X.call call137 rfl (Z1 _ _ _ _)) (fun h10=>?_) fun h10=>?_
 ·refine v' 7 r'<|have hgl:=A0e d;q' 1 r'<|a' 1 r' r'<|D1 (T.call call175 rfl (B4W _ _ d ⟨_,_,rfl,hs2,hs4⟩ (A6k (by omega)))) (by decide) fun m11 r12 hle13 hR14=>?_
  obtain⟨v15,hv_,hs16⟩:=hR14
  rw[←hv_]at hs16
  clear hv_ v15
  refine have hl17:=hs16.le;v' 1 r'<|P5 (A0V runUnderlying28 sizeOf23 rfl rfl hs16 (by omega) (by omega)) (by decide) fun p18 hp19=>g' hp19 r' fun c20 hc21=>?_
  obtain rfl:=hc21
  exact w' 0 r' r' r'<|v' 4 r'<|F2 0 r' r' r' r' isAgg23 sizeOf23<|A7<|A8N
 refine v' 6 r'<|WL.x (V:=Value.agg [J 0,J 0].toArray) (X.build zeroValue23 runUnderlying23 (H3 _ underlying23) rfl rfl) (by decide) ?_
 exact w' 0 r' r' r'<|v' 5 r'<|F2 0 r' r' r' r' isAgg23 sizeOf23<|A7<|A8N
end Go.Proofs.T10
