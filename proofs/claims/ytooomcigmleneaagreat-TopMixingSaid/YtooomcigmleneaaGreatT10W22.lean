import Derived.Test.YtooomcigmleneaaGreatKxW
import Derived.Test.YtooomcigmleneaaGreatKyP
import Derived.Test.YtooomcigmleneaaGreatT10Ty
import Derived.Test.YtooomcigmleneaaGreatKxU
import Derived.Test.YtooomcigmleneaaGreatT10KWalk2
import Derived.Test.YtooomcigmleneaaGreatT10W21
set_option linter.all false
set_option maxHeartbeats 2000000
namespace Go.Proofs.T10
open Tryz
set_option maxRecDepth 20000
open Go Go.Kx
variable{L:List RawV}{v:Value}
theorem B8n(m:Mem)(n:Int)(lo:Int)(hi:Int):Exact prog 122 #[J n,J lo,J hi] m (.bool (decide (lo≤n∧n≤hi))):=by
 refine C7 func122 r' ntmps122 fun wld=>q' 9 r'<|c' (X.geq r' r') (fun h1=>?_) fun h1=>?_
 ·refine v' 12 r'<|A0 r' r'<|A7 ?_
  first|exact C9 (by omega)|exact A9 (by omega)|exact D5 (by omega)
 refine v' 9 r'<|A0 r' r'<|A7 ?_
 first|exact C9 (by omega)|exact A9 (by omega)|exact D5 (by omega)
theorem C3h(m:Mem)(hL:Sl m v L):Exact prog 63 #[v] m (.bool (decide (1≤(L.length:Int)∧(L.length:Int)≤30000))):=by
 refine C7 func63 r' ntmps63 fun wld=>q' 8 r'<|l' hL r'<|y' (X.call call122 rfl (B8n _ _ _ _))<|v' 4 r'<|A0 r' r'<|A7 ?_
 first|rfl|(simp[*];done)
theorem C1F(m:Mem){ps pn:Addr}(hps:At m ps L)(hpn:At m pn (62:Int))(h1:0<L.length)(h2:L.length≤62):A1i prog 211 [.pointer (some ps),.pointer (some pn)] m false 1 (fun _ m1 args=>∃v,args=#[v]∧Sl m1 v L):=by
 intro lo S HS I Ix s0 hone hmono hy h0
 refine G3 func211 r' ntmps211 fun wld=>q' 6 r' ?_
 have hm0_:m.le m:=Mem.le_refl _
 refine lp (G:=Nat×Int×Mem×S) (fun(k,z,mm,ss)=>1-k) (fun(k,z,mm,ss)=>mm) (fun(k,z,mm,ss)=>([]++HS ss)) (fun(k,z,mm,ss)=>[(0,.func (.yield lo) #[] #[]),(1,.pointer (some (ps))),(2,.pointer (some (pn))),(4,J z)]) (fun(k,z,mm,ss)=>m.le mm∧I k mm ss∧((k=0∧z=0)∨(k=1∧z=62))) ((0,0,m,s0)) ?_ ?_
 ·exact⟨Mem.le_refl _,h0,.inl ⟨rfl,rfl⟩⟩
 rintro⟨k,z,mm,ss⟩ hF1
 conv=>enter [7];dsimp only
 conv=>enter [8];dsimp only
 try dsimp only at hF1
 obtain⟨hmm,hI,hk⟩:=hF1
 refine have hps:=hps.mono hmm;have hpn:=hpn.mono hmm;q' 4 r'<|s' hps r' fun v2 hs3=>have hl4:=hs3.le;l' hs3 r'<|c' (X.lss r' r') (fun h5=>?_) fun h5=>?_
 ·refine v' 8 r' ?_
  have hz_:z=0:=(by omega)
  rw[hz_]
  refine B4 7 [] []<|Y' r' r' (A.i r' hpn)<|S' hps r' r' r' fun v6 hs7=>have hl8:=hs7.le;U' 1 r'<|G9 r' r' (C7K 0 underlying92 sizeOf5 rfl rfl hs7 (by omega) (by omega)) (by decide) fun v9 hs10=>Y' r' r' (A.l r' hs10)<|Y' r' r' (B0Q rfl rfl)<|U' 1 r'<|V' 4 r'<|s' hps r' fun v11 hs12=>have hl13:=hs12.le;v' 7 r'<|P5 (C3C 0 L.length underlying92 sizeOf5 rfl rfl rfl rfl hs12 rfl (by rw[List.drop_zero];omega) (by rw[List.drop_zero];omega) (by omega) (by omega)) (by decide) fun v14 hs15=>?_
  have hs15b:Sl mm v14 L:=(by have h_:=hs15.1;rw[List.drop_zero,Nat.sub_zero,List.take_length]at h_;exact h_)
  refine A6o (T.yield (A:=[]) rfl rfl rfl (hy k _ _ _ (by omega) hmm ⟨_,rfl,hs15b⟩ hI)) (by decide) (fun m2_ H2_ hT_=>?_) (fun m2_ H2_ hT_=>?_)
  ·obtain⟨hle2_,s2_,rfl,hI2_⟩:=hT_
   refine have hpn:=hpn.mono hle2_;v' 9 r'<|i' hpn r'<|v' 4 r' ?_
   refine nx ((k+1,0+62,m2_,s2_)) ?_ ?_
   ·exact⟨Mem.le_trans hmm hle2_,hI2_,.inr ⟨by omega,by omega⟩⟩
   (dsimp only;omega)
  obtain⟨hle2_,s2_,rfl,hI2_⟩:=hT_
  refine v' 9 r' ?_
  refine F1 rfl (fun w' hw'=>B8 (hw'.weaken (.refl _)) ?_)
  exact⟨s2_,rfl,.inr ⟨k+1,by omega,hI2_⟩⟩
 refine v' 7 r' ?_
 refine D9 rfl (fun w' hw'=>B8 (hw'.weaken (.refl _)) ?_)
 obtain rfl:k=1:=(by omega)
 exact⟨ss,rfl,.inl hI⟩
theorem C0m(m:Mem)(hL:Sl m v L)(h1:0<L.length)(h2:L.length≤62):Pure prog 123 #[v,J 62] m (fun m' v=>∃lb,v= .func (.func 211) #[] lb.toArray∧A1i prog 211 lb m' false 1 (fun _ m1 args=>∃v,args=#[v]∧Sl m1 v L)):=by
 exact H7 func123 r' ntmps123 fun wld=>q' 2 r'<|A1U (A4M (cs:=[v]) rfl (F4 hL.one)) (by decide) fun b1=>o' r' r' fun b2=>v' 5 r'<|fz (α:=(List RawV)) (x:=L) 1 r' r' ⟨_,rfl,hL⟩ fun m3 hle4 hp5=>fz (α:=Int) (x:=62) 0 r' r' r' fun m6 hle7 hp8=>have hp5:=hp5.mono hle7;q' 1 r'<|i' hp8 r'<|v' 8 r'<|y' (X.makeFunc (by intro x hx;simp at hx;rcases hx with rfl|rfl;all_goals exact⟨_,rfl⟩) rfl)<|v' 4 r'<|A0 r' r'<|C5<|⟨_,rfl,C1F _ hp5 hp8 h1 h2⟩
theorem C2o(m:Mem)(hL:Sl m v L)(h1:0<L.length)(h2:L.length≤62):Mut prog 64 #[v] m [] (fun _ Es u=>∃ys,Es=[row u 160 64 1 ys]∧Bk ys∧u.oneCell'=true):=by
 refine G3 func64 r' ntmps64 fun wld=>q' 2 r'<|A1U (A4M (cs:=[v]) rfl (F4 hL.one)) (by decide) fun b1=>v' 5 r'<|n' zeroValue157 r' fun b2=>v' 4 r'<|fz (α:=(List RawV)) (x:=L) 1 r' r' ⟨_,rfl,hL⟩ fun m3 hle4 hp5=>A0r 160 64<|q' 1 r'<|s' hp5 r' fun v6 hs7=>?_
 have hl8:=hs7.le
 refine D1 (T.call call123 rfl (C0m _ hs7 h1 h2)) (by decide) (fun m9 _ hle10 hR_=>?_)
 obtain⟨lb11,rfl,hit12⟩:=hR_
 refine have hp5:=hp5.mono hle10;v' 3 r' ?_
 refine WC.rangeFunc (S:=Value×Nat×List Value) (G:=Unit) (ps:=[8]) (n:=1) (A:=(fun _ m1 args=>∃v,args=#[v]∧Sl m1 v L)) rfl call211 hit12 (fun q_:Value×Nat×List Value=>[row (q_.1) 160 64 (q_.2.1) (q_.2.2),blk b2 157 [q_.1]]) (fun i _ q_=>C5x i q_) (fun _ _ _ _=>False) (S0,0,[]) rfl B9n (fun h=>by cases h) (fun _ _ _ _ _ h=>h) (by simp) (fun i m1 args h=>by obtain⟨_,rfl,_⟩:=h;rfl) (fun _ gh=>(fun q_:Value×Nat×List Value=>[row (q_.1) 160 64 (q_.2.1) (q_.2.2),blk b2 157 [q_.1]]) gh) (fun _ args=>(4,args.headD undef)::[(0,v),(1,Pt b1 0),(2,S0),(3,Pt b2 0),(6,v6),(7,.func (.func 211) #[] lb11.toArray)]) ?_ ?_ ?_ ?_ ?_
 ·intro lo B1 m1 gh args KK hlen hKK
  obtain⟨x,rfl⟩:=C0W hlen
  refine qb ?_
  exact q' 4 r'<|R0 (.cons rfl (.cons rfl (.cons rfl (.cons rfl (.cons rfl (.cons rfl (.cons rfl .nil))))))) (hKK ())
 ·intro lo B1 i m1 gh args _ hlen hi hm1 hA1 hI1
  obtain⟨x,rfl⟩:=C0W hlen
  obtain⟨vp,hvp,hpt⟩:=hA1
  obtain rfl:x=vp:=(by simpa using hvp)
  obtain rfl:i=0:=(by omega)
  obtain rfl:gh=(S0,0,[]):=hI1.elim (fun h=>h.2) (fun h=>absurd h.1 (by decide))
  replace hp5:=hp5.mono hm1
  show WK _ _ m1 [row (S0) 160 64 (0) ([]),blk b2 157 [S0]] ((4,x)::[(0,v),(1,Pt b1 0),(2,S0),(3,Pt b2 0),(6,v6),(7,.func (.func 211) #[] lb11.toArray)]) _
  refine qb ?_
  refine q' 3 r'<|A1U (T.alloc (cs:=List.replicate 64 (.int .u8 0)) zeroValue160 rfl) (by decide) fun b13=>v' 5 r'<|l' hpt r'<|y' (M0 runUnderlying3 runUnderlying5 rfl (A4o (by omega) (by omega)))<|y' (V1 0 underlying160 sizeOf5 rfl rfl rfl (by decide))<|I2 (T.storeB (k:=0) (off:=0) sizeOf5 rfl rfl rfl rfl (by rw[(Bk.zero).1];decide))<|v' 5 r'<|b' 2 r' r' r'<|y' (A2j (k:=1) runUnderlying157 rfl rfl)<|s' hp5 r' fun v14 hs15=>have hl16:=hs15.le;l' hs15 r'<|v' 1 r'<|y' (X.quo rfl rfl (by omega) (by omega) (by omega))<|y' (A0i (X.eql rfl rfl) (by omega))<|v' 4 r'<|y' (V1 1 underlying160 sizeOf5 rfl rfl rfl (by decide))<|I2 (T.storeB (k:=0) (off:=1) sizeOf5 rfl rfl rfl rfl (by rw[((Bk.zero).set 0 (v:=.int .u8 (↑L.length)) rfl).1];decide))<|v' 3 r'<|B7X (k:=0) (n:=64) r' (((Bk.zero).set 0 (v:=.int .u8 (↑L.length)) rfl).set 1 (v:=.int .u8 (1)) rfl).1 (by decide)<|q' 1 r'<|y' (C4B 2 underlying160 sizeOf5 rfl rfl rfl (by decide))<|v' 1 r' ?_
  refine O4 (C4N (k:=0) underlying92 sizeOf5 rfl rfl hpt rfl (((Bk.zero).set 0 (v:=.int .u8 (↑L.length)) rfl).set 1 (v:=.int .u8 (1)) rfl) (by omega) (by omega) (by omega)) (by decide) (fun _ m_ H_ hz_=>?_)
  obtain⟨rfl,ys17,hB18,rfl⟩:=hz_
  refine v' 3 r'<|b' 2 r' r' r'<|y' (A4d (k:=0) (off:=0) (us:=ys17) isAgg160 sizeOf160 rfl rfl (hB18).1 Bk.part)<|T6 (E6 (cs:=ys17) C2Q rfl rfl hB18.1 (by decide)) (by decide) fun b19=>?_
  refine G2 (W4 (k:=1) (n':=1) C2Q rfl rfl rfl rfl hB18.1 hB18.2 rfl (by decide) (by decide)) (by decide) (fun v20=>?_)
  refine F7 (k:=1) rfl (fun ho21=>?_)
  refine I2 (T.storeB (k:=2) sizeOf157 rfl rfl rfl ho21 (Nat.le_of_ble_eq_true rfl))<|v' 2 r' ?_
  refine B0S (k:=1) rfl (fun ho_=>?_)
  exact A1o (v20,1,[]++ys17) (Mem.le_refl _) (.cons _ (.refl _)) (.inr ⟨rfl,rfl,hB18,ho_⟩)
 ·intro m1 gh hm1 hI1
  obtain⟨vo,n_,ys⟩:=gh
  obtain⟨hn_,hB_,ho_⟩:n_=1∧Bk ys∧vo.oneCell'=true:=hI1.elim (fun h=>absurd h.1 (by decide)) (fun h=>h.2)
  subst hn_
  refine R0 (σ':=[(0,v),(1,Pt b1 0),(2,S0),(3,Pt b2 0),(6,v6),(7,.func (.func 211) #[] lb11.toArray)]) (.cons rfl (.cons rfl (.cons rfl (.cons rfl (.cons rfl (.cons rfl .nil)))))) ?_
  show WK _ _ m1 [row (vo) 160 64 (1) (ys),blk b2 157 [vo]] [(0,v),(1,Pt b1 0),(2,S0),(3,Pt b2 0),(6,v6),(7,.func (.func 211) #[] lb11.toArray)] _
  refine A0v<|L9<|q' 2 r'<|b' 1 r' r' r'<|v' 4 r' ?_
  refine A0 rfl rfl (fun w' hw'=>B8 (hw'.weaken (.cons_cons _ (.cons _ .slnil))) ?_)
  exact⟨_,rfl,hB_,ho_⟩
 ·intro i m1 gh hm1 hi hI1
  exact hI1.elim
 intro id i m1 gh hm1 hi hI1
 exact hI1.elim
theorem C0M(m:Mem)(hL:Sl m v L)(h1:0<L.length)(h2:L.length≤1):Pure prog 21 #[v] m (fun m' u=>∃(r:Value) (M:List RawV),u= .tuple #[r,J 0]∧Sl m' r M∧M.length=1):=by
 refine H7 func21 r' ntmps21 fun wld=>q' 10 r'<|y' (A0i (X.call call63 rfl (C3h _ hL)) ⟨by omega,by omega⟩)<|v' 7 r'<|G7 RawV 92<|A0r 92 1<|q' 8 r' ?_
 refine C2 (J5 call64 rfl (C2o _ hL h1 (by omega))) (by decide) (fun m1 Es2 v3 hle4 hR_=>?_)
 obtain⟨ys5,rfl,hB6,ho7⟩:=hR_
 refine y' (A2j (k:=0) runUnderlying157 rfl rfl)<|v' 4 r' ?_
 refine lq3 (fun(k:Nat) (vo:Value) (M:List RawV)=>1-k) (fun k vo M=>[row (v3) 160 64 (1) (ys5),row ((S0)) 92 1 (([]:List (List RawV))).length ([]),A5 (vo) 92 (M)]) (fun k vo M=>[(4,vo),(11,v3),(12,J 1),(13,J k)]) (fun k vo M=>k≤1∧M.length=k) 0 (Value.slice none 0 0) [] ?_ ?_
 ·exact⟨by omega,rfl⟩
 rintro k vo M ⟨hk,hM⟩
 refine q' 2 r'<|c' (X.lss r' r') (fun h9=>?_) fun h9=>?_
 ·refine v' 10 r'<|y' (B1I (k:=0) k runUnderlying157 sizeOf160 rfl rfl rfl (by omega) (by omega))<|y' (A4d (k:=0) (us:=ys5) isAgg160 sizeOf160 rfl rfl hB6.1 (C6y (by omega)))<|A1U (T.alloc (cs:=List.replicate 64 (.int .u8 0)) zeroValue160 rfl) (by decide) fun b10=>I2 (A7o (k:=0) (vs:=ys5) sizeOf160 rfl rfl rfl hB6.2 hB6.1 (by simp))<|v' 4 r'<|y' (C3y underlying160 sizeOf5 rfl)<|T6 (E6 C6E rfl rfl rfl (by decide)) (by decide) fun b11=>?_
  refine G2 (E2 (k:=3) (a:=RawV.mk (.slice (some ⟨b10,0,none⟩) 64 64) rfl) C6E rfl rfl rfl rfl (by omega) (by decide)) (by decide) (fun v12=>?_)
  exact v' 9 r'<|X1 (k+1) v12 (M++[RawV.mk (.slice (some ⟨b10,0,none⟩) 64 64) rfl])<|⟨by omega,by rw[List.length_append,hM];rfl⟩
 refine v' 17 r' ?_
 refine E1 2 rfl rfl (by unfold C8;omega) (fun m13 hle14 hs15=>?_)
 exact B6 r' r' r'<|C5<|⟨_,_,rfl,hs15,by omega⟩
theorem C6P(m:Mem):Exact prog 25 #[S0] m (J 23):=by
 refine C7 func25 r' ntmps25 fun wld=>q' 14 r'<|y' (X.len (α:=Int) runUnderlying92 rfl .nil)<|v' 4 r' ?_
 refine I0 (fun(u_:Unit)=>0) (fun u_=>[]) (fun u_=>[(3,J 23),(6,S0),(7,J 0),(8,J 0)]) (fun u_=>True) () ?_ ?_
 ·trivial
 rintro u_ hF1
 refine q' 19 r'<|A0 r' r'<|A7 ?_
 first|rfl|(simp[*];done)
theorem C5M(m:Mem):Exact prog 7 #[] m (.bool true):=by
 refine C7 func7 r' ntmps7 fun wld=>q' 7 r' ?_
 refine D1 (L5 (α:=RawV) (vals:=[.int .u8 7]) (L:=[RawV.mk (.int .u8 7) rfl]) C8l rfl (.cons rfl rfl .nil) rfl rfl) (by decide) (fun m1 v2 hle3 hs4=>?_)
 refine D1 (T.call call21 rfl (C0M _ hs4 (by decide) (by decide))) (by decide) (fun m5 _ hle6 hR_=>?_)
 obtain⟨v7,M8,rfl,hs9,hM10⟩:=hR_
 refine v' 9 r'<|WL.x (V:=Value.agg [J 0,J 2].toArray) (X.build zeroValue23 runUnderlying23 (H3 _ underlying23) rfl rfl) (by decide) ?_
 refine WL.y (V:=Value.agg [J 5,J 5].toArray) (X.build zeroValue23 runUnderlying23 (H3 _ underlying23) rfl rfl) ?_
 refine D1 (L5 (α:=Span) (vals:=[.agg [J 0,J 2].toArray,.agg [J 5,J 5].toArray]) (L:=[(Span.mk (0) (2)),(Span.mk (5) (5))]) Q7 rfl (.cons rfl rfl (.cons rfl rfl .nil)) rfl rfl) (by decide) (fun m11 v12 hle13 hs14=>?_)
 refine have hs9:=hs9.mono hle13;WL.x (V:=Value.agg [J 2,J 4].toArray) (X.build zeroValue23 runUnderlying23 (H3 _ underlying23) rfl rfl) (by decide) ?_
 refine D1 (L5 (α:=Span) (vals:=[.agg [J 2,J 4].toArray]) (L:=[(Span.mk (2) (4))]) Q7 rfl (.cons rfl rfl .nil) rfl rfl) (by decide) (fun m15 v16 hle17 hs18=>?_)
 refine have hs9:=hs9.mono hle17;have hs14:=hs14.mono hle17;D1 (T.call call22 rfl (C4v _ _ _ hs14 _ _ hs18)) (by decide) fun m19 r20 hle21 hR22=>?_
 obtain⟨v23,rfl,hs24⟩:=hR22
 refine have hs9:=hs9.mono hle21;have hl25:=hs24.le;v' 9 r'<|WL.x (V:=Value.agg [J 1,J 0,J 0,J 9].toArray) (X.build zeroValue33 runUnderlying33 (C2r _ underlying33) rfl rfl) (by decide) ?_
 refine D1 (L5 (α:=Int) (vals:=[J 5,J 7,J 4]) (L:=[5,7,4]) L6 rfl (.cons rfl rfl (.cons rfl rfl (.cons rfl rfl .nil))) rfl rfl) (by decide) (fun m26 v27 hle28 hs29=>?_)
 refine have hs9:=hs9.mono hle28;have hs24:=hs24.mono hle28;D1 (T.call call23 rfl (B4b _ _ ((Pen.mk (1) ((Span.mk (0) (0))) (9))) rfl _ _ _ hs29)) (by decide) fun m30 r31 hle32 hR33=>?_
 obtain⟨v34,rfl,hs35⟩:=hR33
 refine have hs9:=hs9.mono hle32;have hs24:=hs24.mono hle32;have hl36:=hs35.le;v' 9 r'<|WL.x (V:=Value.agg [J 2,J 3].toArray) (X.build zeroValue23 runUnderlying23 (H3 _ underlying23) rfl rfl) (by decide) ?_
 refine D1 (L5 (α:=Span) (vals:=[.agg [J 2,J 3].toArray]) (L:=[(Span.mk (2) (3))]) Q7 rfl (.cons rfl rfl .nil) rfl rfl) (by decide) (fun m37 v38 hle39 hs40=>?_)
 refine have hs9:=hs9.mono hle39;have hs24:=hs24.mono hle39;have hs35:=hs35.mono hle39;WL.x (V:=Value.agg [v38,S0].toArray) (X.build zeroValue31 runUnderlying31 (B4i _ underlying31) rfl (by simp only[Instr.fill,F4 hs40.one];rfl)) (by decide) ?_
 refine WL.y (V:=Value.agg [J 5,J 5].toArray) (X.build zeroValue23 runUnderlying23 (H3 _ underlying23) rfl rfl) ?_
 refine WL.y (V:=Value.agg [J 1,J 5,J 5].toArray) (X.build zeroValue98 runUnderlying98 (C1p _ underlying98) rfl rfl) ?_
 refine D1 (L5 (α:=Mark) (vals:=[.agg [J 1,J 5,J 5].toArray]) (L:=[(Mark.mk (1) ((Span.mk (5) (5))))]) B3x rfl (.cons rfl rfl .nil) rfl rfl) (by decide) (fun m41 v42 hle43 hs44=>?_)
 refine have hs9:=hs9.mono hle43;have hs24:=hs24.mono hle43;have hs35:=hs35.mono hle43;have hs40:=hs40.mono hle43;D1 (T.call call24 rfl (B7o _ _ ((Drum.mk ([(Span.mk (2) (3))]) ([]))) ⟨_,_,rfl,hs40,.nil⟩ _ _ hs44)) (by decide) fun m45 r46 hle47 hR48=>?_
 obtain⟨v49,rfl,hs50⟩:=hR48
 refine have hs9:=hs9.mono hle47;have hs24:=hs24.mono hle47;have hs35:=hs35.mono hle47;have hl51:=hs50.le;v' 8 r' ?_
 rw[show B3u (([(Span.mk (0) (2)),(Span.mk (5) (5))])) (([(Span.mk (2) (4))]))=[⟨0,5⟩]from C6C]at hs24
 rw[show B4r (([(Span.mk (0) (2)),(Span.mk (5) (5))])) (([(Span.mk (2) (4))]))=0 from C3F]
 rw[show A6m (((Pen.mk (1) ((Span.mk (0) (0))) (9)))) 5 (([5,7,4]))=[5,6,5]from C6G]at hs35
 rw[show A0S (((Pen.mk (1) ((Span.mk (0) (0))) (9)))) 5 (([5,7,4]))=0 from C3l]
 rw[show(A5m (((Drum.mk ([(Span.mk (2) (3))]) ([])))) (([(Mark.mk (1) ((Span.mk (5) (5))))]))).1=[2,5]from C6q]at hs50
 rw[show(A5m (((Drum.mk ([(Span.mk (2) (3))]) ([])))) (([(Mark.mk (1) ((Span.mk (5) (5))))]))).2=0 from C3D]
 refine q' 7 r'<|l' hs9 r'<|v' 1 r'<|y' (A0i (X.eql rfl rfl) (by omega))<|v' 11 r'<|l' hs24 r'<|v' 1 r'<|y' (A0i (X.eql rfl rfl) (by decide))<|v' 5 r'<|P5 (A9p 0 runUnderlying28 sizeOf23 rfl rfl hs24 (by decide)) (by decide) fun p52 hp53=>v' 1 r'<|g' hp53 r' fun c54 hc55=>?_
 obtain rfl:=hc55
 refine v' 1 r'<|WL.x (V:=Value.agg [J 0,J 5].toArray) (X.build zeroValue23 runUnderlying23 (H3 _ underlying23) rfl rfl) (by decide) ?_
 refine v' 1 r'<|y' (A0i (A3s (a:=gt ([⟨0,5⟩]) 0) (b:=(Span.mk (0) (5))) C5G (fun w=>A4j 9998 _ _ w) rfl rfl) (by decide))<|v' 11 r' ?_
 refine D1 (L5 (α:=Int) (vals:=[J 5,J 6,J 5]) (L:=[5,6,5]) L6 rfl (.cons rfl rfl (.cons rfl rfl (.cons rfl rfl .nil))) rfl rfl) (by decide) (fun m56 v57 hle58 hs59=>?_)
 refine have hs35:=hs35.mono hle58;have hs50:=hs50.mono hle58;v' 1 r'<|y' (A0i (X.call call9 rfl (C2D _ _ _ hs35 _ _ hs59)) rfl)<|v' 11 r' ?_
 refine D1 (L5 (α:=Int) (vals:=[J 2,J 5]) (L:=[2,5]) L6 rfl (.cons rfl rfl (.cons rfl rfl .nil)) rfl rfl) (by decide) (fun m60 v61 hle62 hs63=>?_)
 refine have hs50:=hs50.mono hle62;v' 1 r'<|y' (A0i (X.call call9 rfl (C2D _ _ _ hs50 _ _ hs63)) rfl)<|v' 3 r'<|y' (X.call call25 rfl (C6P _))<|v' 7 r'<|A0 r' r'<|A7 ?_
 first|rfl|(simp[*];done)
end Go.Proofs.T10
