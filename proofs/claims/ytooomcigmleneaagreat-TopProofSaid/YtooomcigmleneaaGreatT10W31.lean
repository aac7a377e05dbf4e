import Derived.Test.YtooomcigmleneaaGreatT10W22
set_option linter.all false
set_option maxHeartbeats 8000000
namespace Go.Proofs.S10
open Tryz Go Go.Kx Go.Proofs.T10
set_option maxRecDepth 20000
theorem U4(m:Mem)(n:Int)(lo:Int)(hi:Int):Exact prog 83 #[J n,J lo,J hi] m (.bool (decide (lo≤n∧n≤hi))):=by
 refine D4 func83 O ntmps83 fun a=>q' 9 O<|c' (X.geq O O) (fun b=>?_) fun b=>?_
 ·refine U 12 O<|A0 O O<|A8 ?_
  first|exact D5 (by omega)|exact B2 (by omega)|exact D8 (by omega)
 refine U 9 O<|A0 O O<|A8 ?_
 first|exact D5 (by omega)|exact B2 (by omega)|exact D8 (by omega)
theorem J8(m:Mem)(cn:List Value)(n:NoteT)(hn:Enc.rd m cn n):Exact prog 154 #[.agg cn.toArray] m (.agg [J ((I0 n).Clerk),J ((I0 n).Num)].toArray):=by
 obtain⟨r,s,t,u,rfl,a,b,c,d⟩:=hn
 refine have q:=a.le;have f:=b.le;have g:=c.le;have k:=d.le;D4 func154 O ntmps154 fun l=>q' 2 O<|o' O O fun o=>n' zeroValue73 O fun p=>U 4 O<|f' O t'<|b' 1 O O O<|f' O t'<|b' 1 O O O<|WL.x (V:=Value.agg [J n.Clerk,J n.Num].toArray) (X.build zeroValue73 runUnderlying73 (A9P _ underlying73) rfl rfl) (by decide) ?_
 refine w' 0 O O O<|U 3 O<|Ad 0 O O O isAgg73 sizeOf73<|A8 ?_
 first|rfl|(simp[*];done)
theorem Gp{G:Prop}(h:G:=by first|exact D5 (by unfold rnP;omega)|exact B2 (fun h_=>by unfold rnP at h_;omega)|exact D8 ⟨fun h_=>(by unfold rnP;omega),fun h_=>(by unfold rnP at h_;omega)⟩):G:=h
theorem BN(m:Mem)(cn:List Value)(n:NName)(hn:Enc.rd m cn n):Exact prog 285 #[.agg cn.toArray] m (.bool (decide (rnP n))):=by
 obtain rfl:=hn
 refine D4 func285 O ntmps285 fun a=>q' 2 O<|o' O O fun c=>U 5 O<|f' O t'<|b' 0 O O O<|c' (X.call call83 rfl (U4 _ _ _ _)) (fun b=>?_) fun b=>?_
 ·exact U 2 O<|f' O t'<|U 1 O<|b' 0 O O O<|U 1 O<|y' (X.call call83 rfl (U4 _ _ _ _))<|U 5 O<|A0 O O<|A8<|Gp
 exact U 9 O<|A0 O O<|A8<|Gp
theorem A0I{G:Prop}(h:G:=by first|exact B0 (A1o (by omega) (fun j hj=>hall j (by omega)) ‹_›).symm|exact B0 (A4r (fun j hj=>hall j (by omega))).symm):G:=h
theorem B0j(m:Mem)(vl:Value)(l:List Int)(hl:Sl m vl l):Exact prog 286 #[vl] m (J (NK l)):=by
 refine have ll:=hl.le;D4 func286 O ntmps286 fun c=>q' 14 O<|l' hl O<|U 4 O ?_
 refine J4 (fun(k:Nat)=>l.length-k) (fun k=>[]) (fun k=>[(3,J 0),(6,vl),(7,J l.length),(8,J k)]) (fun k=>k≤l.length∧(∀j,j<k→gt l j=0)) 0 ?_ ?_
 ·exact⟨EF _,fun j a=>absurd a (R' _)⟩
 rintro k ⟨n,hall⟩
 refine q' 2 O<|c' (X.lss O O) (fun d=>?_) fun d=>?_
 ·refine U 10 O<|x' k hl O O fun g b=>i' b O<|U 7 O<|e' (X.neq O O) (fun f=>?_) fun f=>?_
  ·exact U 15 O<|A0 O O<|A8<|A0I
  exact U 11 O<|I6 (k+1)<|⟨by omega,fun j a=>by rcases Sc.1 a with h|h;exact hall j h;subst h;(first|assumption|(apply Sj;assumption))⟩
 exact U 16 O<|A0 O O<|A8<|A0I
theorem KJ(m:Mem)(ca:List Value)(a:NName)(ha:Enc.rd m ca a)(cb:List Value)(b:NName)(hb:Enc.rd m cb b):Exact prog 228 #[.agg ca.toArray,.agg cb.toArray] m (J (Qp a b)):=by
 obtain rfl:=ha
 obtain rfl:=hb
 refine D4 func228 O ntmps228 fun o=>q' 2 O<|o' O O fun r=>o' O O fun s=>U 4 O<|fz (x:=a) 1 O O O fun t n c=>fz (x:=b) 0 O O O fun u d g=>have c:=c.mono d;B9 13 [10] []<|Z O O (A.f O)<|Z O O (A.i O (Nu c))<|Z O O (A.f O)<|Z O O (A.i O (Nu g))<|Z O O (X.call call88 rfl (BM _ _ _))<|Z O O (A.f O)<|Z O O (A.i O (Nw c))<|Z O O (A.f O)<|Z O O (A.i O (Nw g))<|Z O O (X.call call88 rfl (BM _ _ _)) ?_
 refine W2 rfl rfl rfl (M5 (α:=Int) (vals:=[J (V7 a.Clerk b.Clerk),J (V7 a.Num b.Num)]) (L:=[V7 a.Clerk b.Clerk,V7 a.Num b.Num]) Y1 rfl (.cons rfl rfl (.cons rfl rfl .nil)) rfl rfl) (by decide) (fun p q l k=>?_)
 refine Z O O (X.call call286 rfl (B0j _ _ _ k))<|U' 1 O<|V' 2 O<|A0 O O<|A8 ?_
 first|rfl|(simp[*];done)
theorem A3Z(m:Mem)(ca:List Value)(a:NoteT)(ha:Enc.rd m ca a)(cb:List Value)(b:NoteT)(hb:Enc.rd m cb b):Exact prog 230 #[.agg ca.toArray,.agg cb.toArray] m (J (B6p a b)):=by
 obtain⟨v1,v3,v5,v7,rfl,D,E,F,G⟩:=ha
 have b2:=D.le
 have I:=E.le
 have K:=F.le
 have M:=G.le
 obtain⟨b3,b4,b5,b6,rfl,g,k,l,n⟩:=hb
 refine have N:=g.le;have P:=k.le;have Q:=l.le;have R:=n.le;D4 func230 O ntmps230 fun a3=>q' 2 O<|o' O O fun a4=>o' O O fun a5=>U 4 O<|fz (x:=a) 1 O O ⟨_,_,_,_,rfl,D,E,F,G⟩ fun a6 c d=>have g:=g.mono c;have k:=k.mono c;have l:=l.mono c;have n:=n.mono c;fz (x:=b) 0 O O ⟨_,_,_,_,rfl,g,k,l,n⟩ fun a7 y o=>have d:=d.mono y;B9 18 [15] []<|Z O O (A.f O)<|Z O O (A.i O (BY d))<|Z O O (A.f O)<|Z O O (A.i O (BY o))<|Z O O (X.call call88 rfl (BM _ _ _))<|Z O O (A.f O)<|Z O O (A.i O (Ca d))<|Z O O (A.f O)<|Z O O (A.i O (Ca o))<|Z O O (X.call call88 rfl (BM _ _ _))<|G' d O O O fun a8 z=>?_
 obtain⟨b7,b8,b9,c0,rfl,p,q,r,s⟩:=z
 refine have S:=p.le;have T:=q.le;have V:=r.le;have W:=s.le;Z O O (X.call call154 rfl (J8 _ _ a ⟨_,_,_,_,rfl,p,q,r,s⟩))<|G' o O O O fun a9 B=>?_
 obtain⟨c1,c2,c3,c4,rfl,t,u,v,w⟩:=B
 refine have Y:=t.le;have a0:=u.le;have a1:=v.le;have a2:=w.le;Z O O (X.call call154 rfl (J8 _ _ b ⟨_,_,_,_,rfl,t,u,v,w⟩))<|Z O O (X.call call228 rfl (KJ _ _ (I0 a) rfl _ (I0 b) rfl)) ?_
 refine W2 rfl rfl rfl (M5 (α:=Int) (vals:=[J (V7 a.Day b.Day),J (V7 a.Clock b.Clock),J (Qp ((I0 a)) ((I0 b)))]) (L:=[V7 a.Day b.Day,V7 a.Clock b.Clock,Qp ((I0 a)) ((I0 b))]) Y1 rfl (.cons rfl rfl (.cons rfl rfl (.cons rfl rfl .nil))) rfl rfl) (by decide) (fun b0 b1 H C=>?_)
 refine Z O O (X.call call286 rfl (B0j _ _ _ C))<|U' 1 O<|V' 2 O<|A0 O O<|A8 ?_
 first|rfl|(simp[*];done)
theorem Km{G:Prop}(h:G:=by first|exact G4 (B0 (by rw[D' (by omega)])) (B0 (by rw[D' (by omega)]))|exact G4 (B0 (by rw[A' (by omega)])) (B0 (by rw[A' (by omega)]))):G:=h
theorem A7m(m:Mem)(i:Int):Exact prog 289 #[J i] m (.tuple #[J (if i<0 then 0 else i),J (if i<0 then 3 else 0)]):=by
 refine D4 func289 O ntmps289 fun a=>q' 10 O<|c' (X.lss O O) (fun b=>?_) fun b=>?_
 ·exact U 11 O<|B7 O O O<|A8<|Km
 exact U 13 O<|B7 O O O<|A8<|Km
theorem Ng{G:Prop}(h:G:=by first|exact D5 (by unfold HU;omega)|exact B2 (fun h_=>by unfold HU at h_;omega)|exact D8 ⟨fun h_=>(by unfold HU;omega),fun h_=>(by unfold HU at h_;omega)⟩):G:=h
theorem NL(m:Mem)(cs:List Value)(s:Span)(hs:Enc.rd m cs s)(lo:Int)(hi:Int):Exact prog 365 #[.agg cs.toArray,J lo,J hi] m (.bool (decide (HU s lo hi))):=by
 obtain rfl:=hs
 refine D4 func365 O ntmps365 fun a=>q' 2 O<|o' O O fun c=>U 5 O<|f' O t'<|b' 0 O O O<|U 1 O<|f' O t'<|b' 0 O O O<|c' (X.call call83 rfl (U4 _ _ _ _)) (fun b=>?_) fun b=>?_
 ·exact U 2 O<|f' O t'<|U 1 O<|b' 0 O O O<|U 9 O<|A0 O O<|A8<|Ng
 exact U 10 O<|A0 O O<|A8<|Ng
theorem RS(m:Mem)(cx:List Value)(x:Mark)(hx:Enc.rd m cx x):Exact prog 364 #[.agg cx.toArray] m (.bool (decide (rmP x))):=by
 obtain rfl:=hx
 refine D4 func364 O ntmps364 fun b=>q' 2 O<|o' O O fun d=>U 5 O<|f' O t'<|b' 0 O O O<|c' (X.call call83 rfl (U4 _ _ _ _)) (fun c=>?_) fun c=>?_
 ·refine U 2 O<|f' O t'<|U 1 O<|y' (J5 (k:=0) (vs:=[J x.Ticks.Lo,J x.Ticks.Hi]) isAgg23 sizeOf23 rfl rfl rfl rfl)<|U 1 O<|y' (X.call call365 rfl (NL _ _ x.Ticks rfl _ _))<|U 5 O<|A0 O O<|A8 ?_
  first|exact B2 (fun a=>by have h1_:=a.1;omega)|exact D8 ⟨fun a=>⟨by omega,a⟩,fun a=>a.2⟩
 refine U 9 O<|A0 O O<|A8 ?_
 first|exact B2 (fun a=>by have h1_:=a.1;omega)|exact D8 ⟨fun a=>⟨by omega,a⟩,fun a=>a.2⟩
theorem IR{G:Prop}(h:G:=by first|exact D5 (by unfold NJ;omega)|exact B2 (fun h_=>by unfold NJ at h_;omega)|exact D8 ⟨fun h_=>(by unfold NJ;omega),fun h_=>(by unfold NJ at h_;omega)⟩):G:=h
theorem IN(m:Mem)(cb:List Value)(b:BaseT)(hb:Enc.rd m cb b)(st:Int)(wk:Int):Exact prog 356 #[.agg cb.toArray,J st,J wk] m (.bool (decide (NJ b st wk))):=by
 obtain⟨r,rfl,c⟩:=hb
 refine have n:=c.le;D4 func356 O ntmps356 fun l=>q' 2 O<|o' O O fun o=>U 4 O<|fz (x:=b) 0 O O ⟨_,rfl,c⟩ fun p g d=>q' 1 O<|f' O t'<|s' (Y3 d) O fun q a=>have k:=a.le;U 1 O<|y' (X.call call42 rfl (El _ _ _ a _))<|U 10 O<|c' (X.eql O O) (fun f=>?_) fun f=>?_
 ·exact U 4 O<|y' (X.call call83 rfl (U4 _ _ _ _))<|U 5 O<|A0 O O<|A8<|IR
 exact U 8 O<|A0 O O<|A8<|IR
theorem DD{G:Prop}(h:G:=by first|exact B2 (fun h_=>absurd h_.1 ‹_›)|exact B2 (fun h_=>by have h1_:=h_.2.1;omega)|exact D8 ⟨fun h_=>⟨by assumption,by omega,h_⟩,fun h_=>h_.2.2⟩):G:=h
theorem Jp(m:Mem)(cb:List Value)(b:BaseT)(hb:Enc.rd m cb b)(cr:List Value)(r:ReadT)(hr:Enc.rd m cr r):Exact prog 367 #[.agg cb.toArray,.agg cr.toArray] m (.bool (decide (rrP b r))):=by
 obtain⟨C,rfl,l⟩:=hb
 have v:=l.le
 obtain rfl:=hr
 refine D4 func367 O ntmps367 fun s=>q' 2 O<|o' O O fun y=>o' O O fun z=>U 4 O<|fz (x:=b) 1 O O ⟨_,rfl,l⟩ fun A p c=>fz (x:=r) 0 O O O fun B f a=>have c:=c.mono f;q' 1 O<|g' c O fun t g=>?_
 obtain⟨w,rfl,d⟩:=g
 refine have q:=d.le;f' O t'<|i' (DI a) O<|f' O t'<|i' (Nc a) O<|c' (X.call call356 rfl (IN _ _ b ⟨_,rfl,d⟩ _ _)) (fun n=>?_) fun n=>?_
 ·refine U 2 O<|f' O t'<|U 1 O<|i' (Nb a) O<|U 1 O<|f' O t'<|U 1 O<|i' (Aw c) O<|U 1 O<|c' (X.call call83 rfl (U4 _ _ _ _)) (fun o=>?_) fun o=>?_
  ·refine U 3 O<|f' O t'<|U 1 O<|g' (Nq a) O fun u k=>?_
   obtain rfl:=k
   exact U 1 O<|y' (X.call call365 rfl (NL _ _ r.Levels rfl _ _))<|U 5 O<|A0 O O<|A8<|DD
  exact U 10 O<|A0 O O<|A8<|DD
 exact U 16 O<|A0 O O<|A8<|DD
theorem Z4{G:Prop}(h:G:=by first|exact B0 (B3k (fun h_=>by unfold Pw at h_;omega)).symm|exact B0 (B0P (by unfold Pw;omega)).symm):G:=h
theorem GE(m:Mem)(cb:List Value)(b:BaseT)(hb:Enc.rd m cb b):Exact prog 82 #[.agg cb.toArray] m (J (MM b)):=by
 obtain⟨y,rfl,f⟩:=hb
 refine have t:=f.le;D4 func82 O ntmps82 fun r=>q' 2 O<|o' O O fun u=>U 4 O<|fz (x:=b) 0 O O ⟨_,rfl,f⟩ fun v p a=>q' 1 O<|f' O t'<|s' (Y3 a) O fun w c=>have q:=c.le;y' (X.call call89 rfl (Kc _ _ _ c))<|U 11 O<|e' (X.neq O O) (fun g=>?_) fun g=>?_
 ·exact U 36 O<|A0 O O<|A8<|Z4
 refine U 2 O<|f' O t'<|U 1 O<|g' (MU a) O fun s d=>?_
 obtain rfl:=d
 refine U 1 O<|y' (X.call call90 rfl (KO _ _ b.Wind rfl))<|U 1 O<|e' (X.neq O O) (fun k=>?_) fun k=>?_
 ·exact U 31 O<|A0 O O<|A8<|Z4
 refine U 3 O<|f' O t'<|U 1 O<|i' (Aw a) O<|U 1 O<|c' (X.call call83 rfl (U4 _ _ _ _)) (fun l=>?_) fun l=>?_
 ·refine U 5 O<|f' O t'<|U 1 O<|i' (MC a) O<|U 1 O<|f' O t'<|U 1 O<|i' (Aw a) O<|U 1 O<|c' (X.call call83 rfl (U4 _ _ _ _)) (fun n=>?_) fun n=>?_
  ·refine U 5 O<|f' O t'<|U 1 O<|i' (A3v a) O<|U 1 O<|c' (X.call call83 rfl (U4 _ _ _ _)) (fun o=>?_) fun o=>?_
   ·exact U 14 O<|A0 O O<|A8<|Z4
   exact U 13 O<|A0 O O<|A8<|Z4
  exact U 19 O<|A0 O O<|A8<|Z4
 exact U 27 O<|A0 O O<|A8<|Z4
theorem Dz{G:Prop}(h:G:=by first|exact B2 (fun h_=>by have h1_:=h_.1;omega)|exact B2 (fun h_=>by have h1_:=h_.2 k (by omega);omega)|exact D5 ⟨by omega,fun j hj=>hall j (by omega)⟩):G:=h
theorem Pn(m:Mem)(cb:List Value)(b:BaseT)(hb:Enc.rd m cb b):Exact prog 35 #[.agg cb.toArray] m (.bool (decide (fbP b))):=by
 obtain⟨I,rfl,n⟩:=hb
 refine have F:=n.le;D4 func35 O ntmps35 fun z=>q' 2 O<|o' O O fun A=>U 5 O<|fz (x:=b) 0 O O ⟨_,rfl,n⟩ fun G t a=>q' 1 O<|f' O t'<|s' (Y3 a) O fun H c=>have u:=c.le;l' c O<|c' (X.gtr O O) (fun o=>?_) fun o=>?_
 ·exact U 15 O<|A0 O O<|A8<|Dz
 refine U 2 O<|f' O t'<|U 1 O<|i' (Aw a) O<|U 1 O<|c' (X.gtr O O) (fun p=>?_) fun p=>?_
 ·exact U 11 O<|A0 O O<|A8<|Dz
 refine U 13 O ?_
 refine J4 (fun(k:Nat)=>b.Stations.length-k) (fun k=>[]) (fun k=>[(1,Pt A 0),(3,J k)]) (fun k=>k≤b.Stations.length∧(∀j,j<k→(gt b.Stations j).Heights.length≤6)) 0 ?_ ?_
 ·exact⟨EF _,fun j q=>absurd q (R' _)⟩
 rintro k ⟨K,hall⟩
 refine q' 4 O<|f' O t'<|s' (Y3 a) O fun B d=>have v:=d.le;l' d O<|c' (X.lss O O) (fun r=>?_) fun r=>?_
 ·refine U 9 O<|f' O t'<|s' (Y3 a) O fun C f=>have w:=f.le;U 1 O<|x' k f O O fun D l=>f' O t'<|s' (Jm l) O fun E g=>have y:=g.le;l' g O<|c' (X.gtr O O) (fun s=>?_) fun s=>?_
  ·exact U 14 O<|A0 O O<|A8<|Dz
  exact U 12 O<|I6 (k+1)<|⟨by omega,fun j q=>by rcases Sc.1 q with h|h;exact hall j h;subst h;omega⟩
 exact U 14 O<|A0 O O<|A8<|Dz
theorem AD{G:Prop}(h:G:=by first|exact B2 (fun h_=>by have h1_:=h_.1;omega)|exact B2 (fun h_=>by have h1_:=h_.2.1 k (by omega);omega)|exact B2 (fun h_=>by have h1_:=h_.2.2;omega)|exact D8 ⟨fun h_=>⟨by omega,fun j hj=>hall j (by omega),by omega⟩,fun h_=>by have h1_:=h_.2.2;omega⟩):G:=h
theorem A6c(m:Mem)(cx:List Value)(x:Sheet)(hx:Enc.rd m cx x):Exact prog 10 #[.agg cx.toArray] m (.bool (decide (OD x))):=by
 obtain⟨v1,v3,v5,v7,rfl,v,w,y,z⟩:=hx
 refine have a9:=v.le;have N:=w.le;have P:=y.le;have Q:=z.le;D4 func10 O ntmps10 fun a0=>q' 2 O<|o' O O fun A=>U 5 O<|fz (x:=x) 0 O O ⟨_,_,_,_,rfl,v,w,y,z⟩ fun a1 B a=>q' 1 O<|f' O t'<|s' (Bc a) O fun a2 b=>have R:=b.le;l' b O<|c' (X.gtr O O) (fun C=>?_) fun C=>?_
 ·exact U 48 O<|A0 O O<|A8<|AD
 refine U 2 O<|f' O t'<|U 1 O<|s' (Cg a) O fun a3 c=>have S:=c.le;U 1 O<|l' c O<|U 1 O<|c' (X.gtr O O) (fun D=>?_) fun D=>?_
 ·exact U 43 O<|A0 O O<|A8<|AD
 refine U 3 O<|f' O t'<|U 1 O<|have o:=Av (S7 a);f' O t'<|U 1 O<|s' o O fun a4 d=>have T:=d.le;U 1 O<|l' d O<|U 1 O<|c' (X.gtr O O) (fun E=>?_) fun E=>?_
 ·exact U 36 O<|A0 O O<|A8<|AD
 refine U 3 O<|f' O t'<|U 1 O<|have p:=EA (S7 a);f' O t'<|U 1 O<|s' p O fun a5 f=>have V:=f.le;U 1 O<|l' f O<|U 1 O<|c' (X.gtr O O) (fun F=>?_) fun F=>?_
 ·exact U 29 O<|A0 O O<|A8<|AD
 refine U 3 O<|f' O t'<|U 1 O<|have q:=W5 (Q4 a);f' O t'<|U 1 O<|i' q O<|U 1 O<|c' (X.gtr O O) (fun G=>?_) fun G=>?_
 ·exact U 23 O<|A0 O O<|A8<|AD
 refine U 3 O<|f' O t'<|U 1 O<|have r:=KT (Q4 a);f' O t'<|U 1 O<|f' O t'<|U 1 O<|i' (J7 r) O<|U 1 O<|f' O t'<|U 1 O<|have s:=KT (Q4 a);f' O t'<|U 1 O<|f' O t'<|U 1 O<|i' (P5 s) O<|U 1 O<|y' (Mj rfl rfl)<|U 1 O<|c' (X.gtr O O) (fun H=>?_) fun H=>?_
 ·exact U 11 O<|A0 O O<|A8<|AD
 refine U 13 O ?_
 refine J4 (fun(k:Nat)=>x.Trace.length-k) (fun k=>[]) (fun k=>[(1,Pt A 0),(3,J k)]) (fun k=>k≤x.Trace.length∧(∀j,j<k→(gt x.Trace j).Half≤2000)) 0 ?_ ?_
 ·exact⟨EF _,fun j I=>absurd I (R' _)⟩
 rintro k ⟨hk,hall⟩
 refine q' 4 O<|f' O t'<|s' (Bc a) O fun a6 g=>have W:=g.le;l' g O<|c' (X.lss O O) (fun K=>?_) fun K=>?_
 ·refine U 9 O<|f' O t'<|s' (Bc a) O fun a7 l=>have Y:=l.le;U 1 O<|x' k l O O fun a8 n=>f' O t'<|i' (A3B n) O<|c' (X.gtr O O) (fun L=>?_) fun L=>?_
  ·exact U 14 O<|A0 O O<|A8<|AD
  exact U 12 O<|I6 (k+1)<|⟨by omega,fun j I=>by rcases Sc.1 I with h|h;exact hall j h;subst h;omega⟩
 refine U 10 O<|f' O t'<|have t:=A3W (U7 a);f' O t'<|i' t O<|c' (X.leq O O) (fun M=>?_) fun M=>?_
 ·exact U 2 O<|f' O t'<|U 1 O<|have u:=HF (U7 a);f' O t'<|U 1 O<|i' u O<|U 7 O<|A0 O O<|A8<|AD
 exact U 10 O<|A0 O O<|A8<|AD
theorem A0e{G:Prop}(h:G:=by first|exact B2 (fun h_=>absurd (h_.1 k (by omega)) ‹_›)|exact D8 ⟨fun h_=>⟨fun j hj=>hall j (by omega),by omega⟩,fun h_=>by have h1_:=h_.2;omega⟩):G:=h
theorem B6I(m:Mem)(vl:Value)(l:List NoteT)(hl:Sl m vl l):Exact prog 34 #[vl] m (.bool (decide (A3z l))):=by
 refine have ll:=hl.le;D4 func34 O ntmps34 fun t=>q' 12 O ?_
 refine J4 (fun(k:Nat)=>l.length-k) (fun k=>[]) (fun k=>[(0,vl),(3,J k)]) (fun k=>k≤l.length∧(∀j,j<k→OD (gt l j).Sheet)) 0 ?_ ?_
 ·exact⟨EF _,fun j f=>absurd f (R' _)⟩
 rintro k ⟨A,hall⟩
 refine q' 5 O<|l' hl O<|c' (X.lss O O) (fun u=>?_) fun u=>?_
 ·refine U 11 O<|x' k hl O O fun y g=>f' O t'<|g' (BX g) O fun z n=>?_
  obtain⟨B,v,w,x,rfl,d,a,b,c⟩:=n
  refine have p:=d.le;have q:=a.le;have r:=b.le;have s:=c.le;c' (X.call call10 rfl (A6c _ _ ((gt l k).Sheet) ⟨_,_,_,_,rfl,d,a,b,c⟩)) (fun o=>?_) fun o=>?_
  ·exact U 13 O<|I6 (k+1)<|⟨by omega,fun j f=>by rcases Sc.1 f with h|h;exact hall j h;subst h;(first|assumption|exact Classical.not_not.1 ‹_›)⟩
  exact U 15 O<|A0 O O<|A8<|A0e
 exact U 11 O<|l' hl O<|U 5 O<|A0 O O<|A8<|A0e
theorem A8d(m:Mem)(va:Value)(a:List Point)(ha:Sl m va a)(vb:Value)(b:List Point)(hb:Sl m vb b):Exact prog 328 #[va,vb] m (.bool (decide (a=b))):=by
 refine have la:=ha.le;have lb:=hb.le;have o:=ha.le;have p:=hb.le;D4 func328 O ntmps328 fun q=>q' 9 O<|l' ha O<|U 1 O<|l' hb O<|e' (X.neq O O) (fun r=>?_) fun r=>?_
 ·exact U 10 O<|A0 O O<|A8<|B2 (fun e=>by subst e;omega)
 refine U 9 O<|l' ha O<|U 4 O ?_
 refine J4 (fun(k:Nat)=>a.length-k) (fun k=>[]) (fun k=>[(0,va),(1,vb),(12,J a.length),(13,J k)]) (fun k=>k≤a.length∧(∀j,j<k→gt a j=gt b j)) 0 ?_ ?_
 ·exact⟨EF _,fun j d=>absurd d (R' _)⟩
 rintro k ⟨y,hall⟩
 refine q' 2 O<|c' (X.lss O O) (fun s=>?_) fun s=>?_
 ·refine U 15 O<|B9 9 [] []<|U' 2 O<|X' k ha O O O O fun u f=>G' f O O O fun v g=>?_
  obtain rfl:=g
  refine U' 2 O<|X' k hb O O O O fun x l=>G' l O O O fun t c=>?_
  obtain rfl:=c
  refine CM rfl rfl (MX (a:=gt a k) (b:=gt b k) B6a (fun w=>B3r 9998 _ _ w) rfl rfl) (by decide) (fun n=>?_) (fun n=>?_)
  ·exact V' 13 O<|A0 O O<|A8<|B2 (fun e=>by subst e;contradiction)
  exact V' 10 O<|I6 (k+1)<|⟨by omega,fun j d=>by rcases Sc.1 d with h|h;exact hall j h;subst h;(first|assumption|(apply Sj;assumption))⟩
 exact U 15 O<|A0 O O<|A8<|D5 (Dy (by omega) (fun j d=>hall j (by omega)))
theorem A8W(m:Mem)(va:Value)(a:List Stp)(ha:Sl m va a)(vb:Value)(b:List Stp)(hb:Sl m vb b):Exact prog 329 #[va,vb] m (.bool (decide (a=b))):=by
 refine have la:=ha.le;have lb:=hb.le;have o:=ha.le;have p:=hb.le;D4 func329 O ntmps329 fun q=>q' 9 O<|l' ha O<|U 1 O<|l' hb O<|e' (X.neq O O) (fun r=>?_) fun r=>?_
 ·exact U 10 O<|A0 O O<|A8<|B2 (fun e=>by subst e;omega)
 refine U 9 O<|l' ha O<|U 4 O ?_
 refine J4 (fun(k:Nat)=>a.length-k) (fun k=>[]) (fun k=>[(0,va),(1,vb),(12,J a.length),(13,J k)]) (fun k=>k≤a.length∧(∀j,j<k→gt a j=gt b j)) 0 ?_ ?_
 ·exact⟨EF _,fun j d=>absurd d (R' _)⟩
 rintro k ⟨y,hall⟩
 refine q' 2 O<|c' (X.lss O O) (fun s=>?_) fun s=>?_
 ·refine U 15 O<|B9 9 [] []<|U' 2 O<|X' k ha O O O O fun u f=>G' f O O O fun v g=>?_
  obtain rfl:=g
  refine U' 2 O<|X' k hb O O O O fun x l=>G' l O O O fun t c=>?_
  obtain rfl:=c
  refine CM rfl rfl (MX (a:=gt a k) (b:=gt b k) B6m (fun w=>B4T 9997 _ _ w) rfl rfl) (by decide) (fun n=>?_) (fun n=>?_)
  ·exact V' 13 O<|A0 O O<|A8<|B2 (fun e=>by subst e;contradiction)
  exact V' 10 O<|I6 (k+1)<|⟨by omega,fun j d=>by rcases Sc.1 d with h|h;exact hall j h;subst h;(first|assumption|(apply Sj;assumption))⟩
 exact U 15 O<|A0 O O<|A8<|D5 (Dy (by omega) (fun j d=>hall j (by omega)))
theorem W0{G:Prop}(h:G:=by first|exact B2 (fun h_=>absurd h_.1 ‹_›)|exact B2 (fun h_=>absurd h_.2.1 ‹_›)|exact B2 (fun h_=>absurd h_.2.2.1 ‹_›)|exact B2 (fun h_=>absurd h_.2.2.2.1 ‹_›)|exact B2 (fun h_=>absurd h_.2.2.2.2.1 ‹_›)|exact D8 ⟨fun h_=>⟨by first|assumption|omega,by first|assumption|omega,by first|assumption|omega,by first|assumption|omega,by first|assumption|omega,h_⟩,fun h_=>h_.2.2.2.2.2⟩):G:=h
theorem Rq(m:Mem)(ca:List Value)(a:Sheet)(ha:Enc.rd m ca a)(cb:List Value)(b:Sheet)(hb:Enc.rd m cb b):Exact prog 313 #[.agg ca.toArray,.agg cb.toArray] m (.bool (decide (ssP a b))):=by
 obtain⟨v1,v3,v5,v7,rfl,H,I,J,K⟩:=ha
 have c6:=H.le
 have R:=I.le
 have S:=J.le
 have T:=K.le
 obtain⟨c7,c8,c9,d0,rfl,g,k,l,n⟩:=hb
 refine have V:=g.le;have W:=k.le;have Y:=l.le;have a0:=n.le;D4 func313 O ntmps313 fun a9=>q' 2 O<|o' O O fun b0=>o' O O fun b1=>U 4 O<|fz (x:=a) 1 O O ⟨_,_,_,_,rfl,H,I,J,K⟩ fun b2 f c=>have g:=g.mono f;have k:=k.mono f;have l:=l.mono f;have n:=n.mono f;fz (x:=b) 0 O O ⟨_,_,_,_,rfl,g,k,l,n⟩ fun b3 y d=>have c:=c.mono y;q' 1 O<|f' O t'<|g' (U7 c) O fun b4 z=>?_
 obtain rfl:=z
 refine f' O t'<|g' (U7 d) O fun b5 A=>?_
 obtain rfl:=A
 refine c' (EE (a:=a.Paper) (b:=b.Paper) B7y (fun w=>B6k 9997 _ _ w) rfl rfl) (fun L=>?_) fun L=>?_
 ·refine U 2 O<|f' O t'<|U 1 O<|s' (Bc c) O fun b6 o=>have a1:=o.le;U 1 O<|f' O t'<|U 1 O<|s' (Bc d) O fun b7 p=>have a2:=p.le;U 1 O<|c' (X.call call328 rfl (A8d _ _ _ o _ _ p)) (fun M=>?_) fun M=>?_
  ·refine U 3 O<|f' O t'<|U 1 O<|s' (Cg c) O fun b8 q=>have a3:=q.le;U 1 O<|f' O t'<|U 1 O<|s' (Cg d) O fun b9 r=>have a4:=r.le;U 1 O<|c' (X.call call180 rfl (A8s _ _ _ q _ _ r)) (fun N=>?_) fun N=>?_
   ·refine U 3 O<|f' O t'<|U 1 O<|have D:=Av (S7 c);f' O t'<|U 1 O<|s' D O fun c0 s=>have a5:=s.le;U 1 O<|f' O t'<|U 1 O<|have E:=Av (S7 d);f' O t'<|U 1 O<|s' E O fun c1 t=>have a6:=t.le;U 1 O<|c' (X.call call220 rfl (A0j _ _ _ s _ _ t)) (fun P=>?_) fun P=>?_
    ·refine U 3 O<|f' O t'<|U 1 O<|have F:=EA (S7 c);f' O t'<|U 1 O<|s' F O fun c2 u=>have a7:=u.le;U 1 O<|f' O t'<|U 1 O<|have G:=EA (S7 d);f' O t'<|U 1 O<|s' G O fun c3 v=>have a8:=v.le;U 1 O<|c' (X.call call329 rfl (A8W _ _ _ u _ _ v)) (fun Q=>?_) fun Q=>?_
     ·refine U 3 O<|f' O t'<|U 1 O<|g' (Q4 c) O fun c4 B=>?_
      obtain rfl:=B
      refine U 1 O<|f' O t'<|U 1 O<|g' (Q4 d) O fun c5 C=>?_
      obtain rfl:=C
      exact U 1 O<|y' (EE (a:=a.Pen) (b:=b.Pen) B7z (fun w=>B6c 9997 _ _ w) rfl rfl)<|U 5 O<|A0 O O<|A8<|W0
     exact U 12 O<|A0 O O<|A8<|W0
    exact U 21 O<|A0 O O<|A8<|W0
   exact U 30 O<|A0 O O<|A8<|W0
  exact U 37 O<|A0 O O<|A8<|W0
 exact U 43 O<|A0 O O<|A8<|W0
theorem S4{G:Prop}(h:G:=by first|exact B2 (fun h_=>absurd h_.1 ‹_›)|exact B2 (fun h_=>absurd h_.2.1 ‹_›)|exact B2 (fun h_=>absurd h_.2.2.1 ‹_›)|exact B2 (fun h_=>absurd h_.2.2.2.1 ‹_›)|exact B2 (fun h_=>absurd h_.2.2.2.2.1 ‹_›)|exact B2 (fun h_=>absurd h_.2.2.2.2.2.1 ‹_›)|exact B2 (fun h_=>absurd h_.2.2.2.2.2.2.1 ‹_›)|exact B2 (fun h_=>absurd h_.2.2.2.2.2.2.2.1 ‹_›)|exact B2 (fun h_=>absurd h_.2.2.2.2.2.2.2.2.1 ‹_›)|exact B2 (fun h_=>absurd h_.2.2.2.2.2.2.2.2.2.1 ‹_›)|exact D8 ⟨fun h_=>⟨by first|assumption|omega,by first|assumption|omega,by first|assumption|omega,by first|assumption|omega,by first|assumption|omega,by first|assumption|omega,by first|assumption|omega,by first|assumption|omega,by first|assumption|omega,by first|assumption|omega,h_⟩,fun h_=>h_.2.2.2.2.2.2.2.2.2.2⟩):G:=h
theorem B1A(m:Mem)(ca:List Value)(a:NoteT)(ha:Enc.rd m ca a)(cb:List Value)(b:NoteT)(hb:Enc.rd m cb b):Exact prog 284 #[.agg ca.toArray,.agg cb.toArray] m (.bool (decide (snP a b))):=by
 obtain⟨v1,v3,v5,v7,rfl,a0,a1,a2,a3⟩:=ha
 have g1:=a0.le
 have c4:=a1.le
 have c5:=a2.le
 have c6:=a3.le
 obtain⟨g2,g3,g4,g5,rfl,k,l,n,o⟩:=hb
 refine have c7:=k.le;have c8:=l.le;have c9:=n.le;have d0:=o.le;D4 func284 O ntmps284 fun e7=>q' 2 O<|o' O O fun e8=>o' O O fun e9=>U 4 O<|fz (x:=a) 1 O O ⟨_,_,_,_,rfl,a0,a1,a2,a3⟩ fun f0 g c=>have k:=k.mono g;have l:=l.mono g;have n:=n.mono g;have o:=o.mono g;fz (x:=b) 0 O O ⟨_,_,_,_,rfl,k,l,n,o⟩ fun f1 I d=>have c:=c.mono I;B9 76 [] []<|G' c O O O fun f2 N=>?_
 obtain⟨g6,g7,g8,g9,rfl,z,B,C,D⟩:=N
 refine have d1:=z.le;have d2:=B.le;have d3:=C.le;have d4:=D.le;Z O O (X.call call154 rfl (J8 _ _ a ⟨_,_,_,_,rfl,z,B,C,D⟩))<|G' d O O O fun f3 P=>?_
 obtain⟨h0,h1,h2,h3,rfl,E,F,G,H⟩:=P
 refine have d5:=E.le;have d6:=F.le;have d7:=G.le;have d8:=H.le;Z O O (X.call call154 rfl (J8 _ _ b ⟨_,_,_,_,rfl,E,F,G,H⟩))<|C' O O (EE (a:=I0 a) (b:=I0 b) B3G (fun w=>A4m 9998 _ _ w) rfl rfl) (fun a4=>?_) fun a4=>?_
 ·refine U' 1 O<|Z O O (A.f O)<|Z O O (A.i O (Ca c))<|Z O O (A.f O)<|Z O O (A.i O (Ca d))<|C' O O (X.eql O O) (fun a5=>?_) fun a5=>?_
  ·refine U' 2 O<|Z O O (A.f O)<|Z O O (A.i O (BY c))<|Z O O (A.f O)<|Z O O (A.i O (BY d))<|C' O O (X.eql O O) (fun a6=>?_) fun a6=>?_
   ·refine U' 2 O<|Z O O (A.f O)<|Z O O (A.i O (Dq c))<|Z O O (A.f O)<|Z O O (A.i O (Dq d))<|C' O O (X.eql O O) (fun a7=>?_) fun a7=>?_
    ·refine U' 2 O<|Z O O (A.f O)<|Z O O (A.i O (U9 c))<|Z O O (A.f O)<|Z O O (A.i O (U9 d))<|C' O O (X.eql O O) (fun a8=>?_) fun a8=>?_
     ·refine U' 2 O<|Z O O (A.f O)<|Z O O (A.i O (Bh c))<|Z O O (A.f O)<|Z O O (A.i O (Bh d))<|C' O O (X.eql O O) (fun a9=>?_) fun a9=>?_
      ·refine U' 2 O<|Z O O (A.f O)<|G' (Q1 c) O O O fun f4 Q=>?_
       obtain rfl:=Q
       refine Z O O (A.f O)<|G' (Q1 d) O O O fun f5 R=>?_
       obtain rfl:=R
       refine C' O O (EE (a:=a.Mark) (b:=b.Mark) B7t (fun w=>B5G 9997 _ _ w) rfl rfl) (fun b0=>?_) fun b0=>?_
       ·refine U' 2 O<|Z O O (A.f O)<|G' (V1 c) O O O fun f6 S=>?_
        obtain rfl:=S
        refine Z O O (A.f O)<|G' (V1 d) O O O fun f7 T=>?_
        obtain rfl:=T
        refine C' O O (EE (a:=a.Read) (b:=b.Read) B6v (fun w=>B4G 9997 _ _ w) rfl rfl) (fun b1=>?_) fun b1=>?_
        ·refine U' 2 O<|Z O O (A.f O)<|G' (CD c) O O O fun f8 V=>?_
         obtain rfl:=V
         refine Z O O (A.f O)<|G' (CD d) O O O fun f9 W=>?_
         obtain rfl:=W
         refine C' O O (EE (a:=a.Height) (b:=b.Height) B5D (fun w=>B3s 9997 _ _ w) rfl rfl) (fun b2=>?_) fun b2=>?_
         ·refine U' 2 O<|Z O O (A.f O)<|G' (F1 c) O O O fun g0 J=>?_
          obtain rfl:=J
          refine Z O O (A.f O)<|G' (F1 d) O O O fun c1 K=>?_
          obtain rfl:=K
          refine C' O O (EE (a:=a.Ref) (b:=b.Ref) B3G (fun w=>A4m 9998 _ _ w) rfl rfl) (fun Y=>?_) fun Y=>?_
          ·refine U' 2 O<|Z O O (A.f O)<|G' (BX c) O O O fun c2 L=>?_
           obtain⟨d9,e0,e1,e2,rfl,p,q,r,s⟩:=L
           refine have b3:=p.le;have b4:=q.le;have b5:=r.le;have b6:=s.le;Z O O (A.f O)<|G' (BX d) O O O fun c3 M=>?_
           obtain⟨e3,e4,e5,e6,rfl,t,u,v,y⟩:=M
           exact have b7:=t.le;have b8:=u.le;have b9:=v.le;have c0:=y.le;Z O O (X.call call313 rfl (Rq _ _ a.Sheet ⟨_,_,_,_,rfl,p,q,r,s⟩ _ b.Sheet ⟨_,_,_,_,rfl,t,u,v,y⟩))<|U' 2 O<|V' 2 O<|A0 O O<|A8<|S4
          exact U' 9 O<|V' 2 O<|A0 O O<|A8<|S4
         exact U' 16 O<|V' 2 O<|A0 O O<|A8<|S4
        exact U' 23 O<|V' 2 O<|A0 O O<|A8<|S4
       exact U' 30 O<|V' 2 O<|A0 O O<|A8<|S4
      exact U' 37 O<|V' 2 O<|A0 O O<|A8<|S4
     exact U' 44 O<|V' 2 O<|A0 O O<|A8<|S4
    exact U' 51 O<|V' 2 O<|A0 O O<|A8<|S4
   exact U' 58 O<|V' 2 O<|A0 O O<|A8<|S4
  exact U' 65 O<|V' 2 O<|A0 O O<|A8<|S4
 exact U' 70 O<|U' 1 O<|V' 2 O<|A0 O O<|A8<|S4
theorem Kr{G:Prop}(h:G:=by first|exact B0 (W8 (p:=fun i=>v=gt l i) (by omega) hall ‹_›).symm|exact B0 (W3 (p:=fun i=>v=gt l i) (fun j hj=>hall j (by omega))).symm):G:=h
theorem A8y(m:Mem)(vl:Value)(l:List Int)(hl:Sl m vl l)(v:Int):Exact prog 288 #[vl,J v] m (J (A8M l v)):=by
 refine have ll:=hl.le;D4 func288 O ntmps288 fun c=>q' 9 O<|l' hl O<|U 4 O ?_
 refine J4 (fun(k:Nat)=>l.length-k) (fun k=>[]) (fun k=>[(0,vl),(1,J v),(7,J l.length),(8,J k)]) (fun k=>k≤l.length∧(∀j,j<k→¬v=gt l j)) 0 ?_ ?_
 ·exact⟨EF _,fun j a=>absurd a (R' _)⟩
 rintro k ⟨n,hall⟩
 refine q' 2 O<|c' (X.lss O O) (fun d=>?_) fun d=>?_
 ·refine U 19 O<|x' k hl O O fun g b=>i' b O<|c' (X.eql O O) (fun f=>?_) fun f=>?_
  ·exact U 15 O<|A0 O O<|A8<|Kr
  exact U 11 O<|I6 (k+1)<|⟨by omega,fun j a=>by rcases Sc.1 a with h|h;exact hall j h;subst h;assumption⟩
 exact U 15 O<|A0 O O<|A8<|Kr
theorem A0R(m:Mem)(vl:Value)(l:List Int)(hl:Sl m vl l)(v:Int):Exact prog 232 #[vl,J v] m (.bool (decide (0≤A8M l v))):=by
 refine have ll:=hl.le;D4 func232 O ntmps232 fun a=>q' 9 O<|y' (X.call call288 rfl (A8y _ _ _ hl _))<|U 5 O<|A0 O O<|A8 ?_
 first|rfl|(simp[*];done)
theorem A7f(m:Mem)(cf:List Value)(f:FiledT)(hf:Enc.rd m cf f){ps pw:Addr}{st wk:Int}(hps:At m ps st)(hpw:At m pw wk):Exact prog 291 #[.agg cf.toArray,.pointer (some ps),.pointer (some pw)] m (.bool (decide (f.Station=st∧f.Week=wk))):=by
 obtain⟨B,C,D,E,F,A,rfl,k,l,n,o,d,g⟩:=hf
 refine have q:=k.le;have r:=l.le;have s:=n.le;have t:=o.le;have u:=d.le;have v:=g.le;D4 func291 O ntmps291 fun w=>q' 2 O<|o' O O fun y=>U 4 O<|fz (x:=f) 0 O O ⟨_,_,_,_,_,_,rfl,k,l,n,o,d,g⟩ fun z a c=>have hps:=hps.mono a;have hpw:=hpw.mono a;q' 1 O<|f' O t'<|i' (AE c) O<|i' hps O<|c' (X.eql O O) (fun p=>?_) fun p=>?_
 ·refine U 2 O<|f' O t'<|U 1 O<|i' (Ks c) O<|U 1 O<|i' hpw O<|U 7 O<|A0 O O<|A8 ?_
  first|exact B2 (fun b=>by have h1_:=b.1;omega)|exact D8 ⟨fun b=>⟨by omega,b⟩,fun b=>b.2⟩
 refine U 10 O<|A0 O O<|A8 ?_
 first|exact B2 (fun b=>by have h1_:=b.1;omega)|exact D8 ⟨fun b=>⟨by omega,b⟩,fun b=>b.2⟩
theorem Ko{G:Prop}(h:G:=by first|exact B0 (W8 (p:=fun i=>(gt l i).Station=st∧(gt l i).Week=wk) (by omega) hall ‹_›).symm|exact B0 (W3 (p:=fun i=>(gt l i).Station=st∧(gt l i).Week=wk) (fun j hj=>hall j (by omega))).symm):G:=h
theorem B0a(m:Mem){v:Value}{l:List FiledT}(hl:Sl m v l){ps pw:Addr}{st wk:Int}(hps:At m ps st)(hpw:At m pw wk):Exact prog 290 #[v,.func (.func 291) #[] #[.pointer (some ps),.pointer (some pw)]] m (J (U3 (fun i=>(gt l i).Station=st∧(gt l i).Week=wk) l.length)):=by
 refine have A:=hl.le;D4 func290 O ntmps290 fun y=>q' 9 O<|l' hl O<|U 4 O ?_
 refine J4 (fun(k:Nat)=>l.length-k) (fun k=>[]) (fun k=>[(0,v),(1,.func (.func 291) #[] [.pointer (some (ps)),.pointer (some (pw))].toArray),(7,J l.length),(8,J k)]) (fun k=>k≤l.length∧(∀j,j<k→¬((gt l j).Station=st∧(gt l j).Week=wk))) 0 ?_ ?_
 ·exact⟨EF _,fun j n=>absurd n (R' _)⟩
 rintro k ⟨H,hall⟩
 refine q' 2 O<|c' (X.lss O O) (fun z=>?_) fun z=>?_
 ·refine U 19 O<|x' k hl O O fun F o=>g' o O fun G p=>?_
  obtain⟨I,K,B,C,D,E,rfl,g,a,b,c,d,f⟩:=p
  refine have r:=g.le;have s:=a.le;have t:=b.le;have u:=c.le;have w:=d.le;have x:=f.le;c' (E1 call291 rfl rfl (A7f _ _ (gt l k) ⟨_,_,_,_,_,_,rfl,g,a,b,c,d,f⟩ hps hpw)) (fun q=>?_) fun q=>?_
  ·exact U 15 O<|A0 O O<|A8<|Ko
  exact U 11 O<|I6 (k+1)<|⟨by omega,fun j n=>by rcases Sc.1 n with h|h;exact hall j h;subst h;assumption⟩
 exact U 15 O<|A0 O O<|A8<|Ko
theorem A3M(m:Mem)(cr:List Value)(r:RegT)(hr:Enc.rd m cr r)(station:Int)(week:Int):Exact prog 234 #[.agg cr.toArray,J station,J week] m (.tuple #[J (if QE r station week<0 then 0 else QE r station week),J (if QE r station week<0 then 3 else 0)]):=by
 obtain⟨G,H,I,K,rfl,k,l,n,o⟩:=hr
 refine have F:=k.le;have q:=l.le;have s:=n.le;have t:=o.le;D4 func234 O ntmps234 fun w=>q' 2 O<|o' O O fun y=>o' O O fun z=>o' O O fun A=>U 5 O<|fz (x:=r) 2 O O ⟨_,_,_,_,rfl,k,l,n,o⟩ fun B p a=>fz (x:=station) 1 O O O fun C f b=>have a:=a.mono f;fz (x:=week) 0 O O O fun D c g=>have a:=a.mono c;have b:=b.mono c;q' 1 O<|f' O t'<|s' (BG a) O fun E d=>have u:=d.le;y' (X.makeFunc (by intro x v;simp at v;rcases v with rfl|rfl;all_goals exact⟨_,rfl⟩) rfl)<|y' (X.call call290 rfl (B0a _ d b g))<|y' (X.call call289 rfl (A7m _ _))<|U 7 O<|B7 O O O<|A8 ?_
 rfl
theorem FR(m:Mem){v:Value}{L:List Height}(hL:Sl m v L)(hn:L.length≤10000):Mut prog 164 #[v] m [] (fun _ Es u=>Es=[A5 u 198 L]∧u.oneCell'=true):=by
 refine G3 func164 O ntmps164 fun b=>q' 9 O ?_
 refine J6 (AX underlying126 rfl rfl hL) (by decide) (fun c=>?_) (fun c=>?_)
 ·refine U 4 O ?_
  obtain rfl:=hL.nil_of ‹_›
  refine I5 Height 198<|q' 6 O<|A0 O O<|I2 ?_
  first|exact⟨rfl,rfl⟩|exact⟨rfl,a⟩
 refine U 7 O ?_
 refine G2 (FY (α:=Height) Gr rfl) (by decide) (fun d=>?_)
 refine U 1 O ?_
 refine G2 (X5 (α:=Height) (fun _ _ _ h=>h) (k:=0) Gr rfl rfl hL rfl (by first|omega|(simp;omega)) (by first|omega|(simp;omega))) (by decide) (fun f=>?_)
 refine E8 (k:=0) rfl (fun a=>?_)
 refine U 4 O<|A0 O O<|I2 ?_
 first|exact⟨rfl,rfl⟩|exact⟨rfl,a⟩
theorem A7O(m:Mem){v:Value}{L:List Mark}(hL:Sl m v L)(hn:L.length≤10000):Mut prog 166 #[v] m [] (fun _ Es u=>Es=[A5 u 98 L]∧u.oneCell'=true):=by
 refine G3 func166 O ntmps166 fun b=>q' 9 O ?_
 refine J6 (AX underlying74 rfl rfl hL) (by decide) (fun c=>?_) (fun c=>?_)
 ·refine U 4 O ?_
  obtain rfl:=hL.nil_of ‹_›
  refine I5 Mark 98<|q' 6 O<|A0 O O<|I2 ?_
  first|exact⟨rfl,rfl⟩|exact⟨rfl,a⟩
 refine U 7 O ?_
 refine G2 (FY (α:=Mark) RK rfl) (by decide) (fun d=>?_)
 refine U 1 O ?_
 refine G2 (X5 (α:=Mark) (fun _ _ _ h=>h) (k:=0) RK rfl rfl hL rfl (by first|omega|(simp;omega)) (by first|omega|(simp;omega))) (by decide) (fun f=>?_)
 refine E8 (k:=0) rfl (fun a=>?_)
 refine U 4 O<|A0 O O<|I2 ?_
 first|exact⟨rfl,rfl⟩|exact⟨rfl,a⟩
theorem A8x(m:Mem){v:Value}{L:List NName}(hL:Sl m v L)(hn:L.length≤10000):Mut prog 167 #[v] m [] (fun _ Es u=>Es=[A5 u 73 L]∧u.oneCell'=true):=by
 refine G3 func167 O ntmps167 fun b=>q' 9 O ?_
 refine J6 (AX underlying56 rfl rfl hL) (by decide) (fun c=>?_) (fun c=>?_)
 ·refine U 4 O ?_
  obtain rfl:=hL.nil_of ‹_›
  refine I5 NName 73<|q' 6 O<|A0 O O<|I2 ?_
  first|exact⟨rfl,rfl⟩|exact⟨rfl,a⟩
 refine U 7 O ?_
 refine G2 (FY (α:=NName) GB rfl) (by decide) (fun d=>?_)
 refine U 1 O ?_
 refine G2 (X5 (α:=NName) (fun _ _ _ h=>h) (k:=0) GB rfl rfl hL rfl (by first|omega|(simp;omega)) (by first|omega|(simp;omega))) (by decide) (fun f=>?_)
 refine E8 (k:=0) rfl (fun a=>?_)
 refine U 4 O<|A0 O O<|I2 ?_
 first|exact⟨rfl,rfl⟩|exact⟨rfl,a⟩
theorem A8u(m:Mem){v:Value}{L:List Point}(hL:Sl m v L)(hn:L.length≤10000):Mut prog 236 #[v] m [] (fun _ Es u=>Es=[A5 u 102 L]∧u.oneCell'=true):=by
 refine G3 func236 O ntmps236 fun b=>q' 9 O ?_
 refine J6 (AX underlying26 rfl rfl hL) (by decide) (fun c=>?_) (fun c=>?_)
 ·refine U 4 O ?_
  obtain rfl:=hL.nil_of ‹_›
  refine I5 Point 102<|q' 6 O<|A0 O O<|I2 ?_
  first|exact⟨rfl,rfl⟩|exact⟨rfl,a⟩
 refine U 7 O ?_
 refine G2 (FY (α:=Point) B3I rfl) (by decide) (fun d=>?_)
 refine U 1 O ?_
 refine G2 (X5 (α:=Point) (fun _ _ _ h=>h) (k:=0) B3I rfl rfl hL rfl (by first|omega|(simp;omega)) (by first|omega|(simp;omega))) (by decide) (fun f=>?_)
 refine E8 (k:=0) rfl (fun a=>?_)
 refine U 4 O<|A0 O O<|I2 ?_
 first|exact⟨rfl,rfl⟩|exact⟨rfl,a⟩
theorem A9G(m:Mem){v:Value}{L:List Int}(hL:Sl m v L)(hn:L.length≤10000):Mut prog 237 #[v] m [] (fun _ Es u=>Es=[A5 u 3 L]∧u.oneCell'=true):=by
 refine G3 func237 O ntmps237 fun b=>q' 9 O ?_
 refine J6 (AX underlying27 rfl rfl hL) (by decide) (fun c=>?_) (fun c=>?_)
 ·refine U 4 O ?_
  obtain rfl:=hL.nil_of ‹_›
  refine I5 Int 3<|q' 6 O<|A0 O O<|I2 ?_
  first|exact⟨rfl,rfl⟩|exact⟨rfl,a⟩
 refine U 7 O ?_
 refine G2 (FY (α:=Int) Y1 rfl) (by decide) (fun d=>?_)
 refine U 1 O ?_
 refine G2 (A6q (k:=0) Y1 rfl rfl hL rfl (by first|omega|(simp;omega)) (by first|omega|(simp;omega))) (by decide) (fun f=>?_)
 refine E8 (k:=0) rfl (fun a=>?_)
 refine U 4 O<|A0 O O<|I2 ?_
 first|exact⟨rfl,rfl⟩|exact⟨rfl,a⟩
theorem A8m(m:Mem){v:Value}{L:List Stp}(hL:Sl m v L)(hn:L.length≤10000):Mut prog 238 #[v] m [] (fun _ Es u=>Es=[A5 u 108 L]∧u.oneCell'=true):=by
 refine G3 func238 O ntmps238 fun b=>q' 9 O ?_
 refine J6 (AX underlying29 rfl rfl hL) (by decide) (fun c=>?_) (fun c=>?_)
 ·refine U 4 O ?_
  obtain rfl:=hL.nil_of ‹_›
  refine I5 Stp 108<|q' 6 O<|A0 O O<|I2 ?_
  first|exact⟨rfl,rfl⟩|exact⟨rfl,a⟩
 refine U 7 O ?_
 refine G2 (FY (α:=Stp) B4C rfl) (by decide) (fun d=>?_)
 refine U 1 O ?_
 refine G2 (X5 (α:=Stp) (fun _ _ _ h=>h) (k:=0) B4C rfl rfl hL rfl (by first|omega|(simp;omega)) (by first|omega|(simp;omega))) (by decide) (fun f=>?_)
 refine E8 (k:=0) rfl (fun a=>?_)
 refine U 4 O<|A0 O O<|I2 ?_
 first|exact⟨rfl,rfl⟩|exact⟨rfl,a⟩
end Go.Proofs.S10
