import Derived.Test.YtooomcigmleneaaGreatT10W46
set_option linter.all false
set_option maxHeartbeats 8000000
namespace Go.Proofs.T10
open Tryz Go Go.Kx Go.Proofs.S10
set_option maxRecDepth 20000
variable{m:Mem}
theorem Rp(m:Mem){vl:Value}{l:List Span}(hl:Sl m vl l){cby_:List Value}{by_:Span}(hby_:Enc.rd m cby_ by_)(hn:l.length≤6001)(hb:∀q,q<l.length→(-200000≤(gt l q).Lo∧(gt l q).Lo≤200000)∧(-200000≤(gt l q).Hi∧(gt l q).Hi≤200000))(hc:Ai by_):Pure prog 208 #[vl,.agg cby_.toArray] m (fun m' v=>Sl m' v (Aj l by_)):=by
 obtain rfl:=hby_
 have u:=hc
 unfold Ai at u
 refine F6 func208 O ntmps208 fun z=>q' 2 O<|o' O O fun A=>U 2 O<|fz (x:=by_) 0 O O O fun F c d=>have hl:=hl.mono c;E2<|q' 1 O<|I5 Span 23<|q' 8 O<|l' hl O<|U 4 O ?_
 refine S5 (fun(k:Nat) (vo:Value)=>l.length-k) (fun k vo=>[A5 (vo) 23 (D2 k (fun b=>Span.mk ((gt l b).Lo+by_.Lo) ((gt l b).Hi+by_.Hi)))]) (fun k vo=>[(3,Pt A 0),(5,vo),(8,vl),(9,J l.length),(10,J k)]) (fun k vo=>k≤l.length) 0 (Value.slice none 0 0) ?_ ?_
 ·exact EF _
 rintro k vo p
 try dsimp only at p
 have I:=p
 have w:(D2 k (fun b=>Span.mk ((gt l b).Lo+by_.Lo) ((gt l b).Hi+by_.Hi))).length=k:=B5 _ _
 refine have y:=fun h_:k<l.length=>hb k h_;q' 2 O<|c' (X.lss O O) (fun B=>?_) fun B=>?_
 ·refine U 10 O<|x' k hl O O fun G r=>g' r O fun H f=>?_
  obtain rfl:=f
  refine n' zeroValue23 O fun C=>w' 0 O O O<|U 4 O<|f' O t'<|b' 0 O O O<|f' O t'<|i' (P5 d) O<|U 1 O<|f' O t'<|b' 0 O O O<|f' O t'<|i' (J7 d) O<|U 1 O<|WL.x (V:=Value.agg [J (((gt l k).Lo)+by_.Lo),J (((gt l k).Hi)+by_.Hi)].toArray) (X.build zeroValue23 runUnderlying23 (H6 _ underlying23) rfl rfl) (by decide) ?_
  refine R0 (G6 K9 rfl rfl rfl (by decide)) (by decide) fun D=>?_
  refine G2 (G1 (k:=1) (a:=(Span.mk (((gt l k).Lo)+by_.Lo) (((gt l k).Hi)+by_.Hi))) K9 rfl rfl rfl rfl (by first|omega|(simp;done)|(simp;omega)) (by decide)) (by decide) (fun s=>?_)
  refine U 9 O ?_
  have n:((D2 k (fun b=>Span.mk ((gt l b).Lo+by_.Lo) ((gt l b).Hi+by_.Hi)))++[(Span.mk (((gt l k).Lo)+by_.Lo) (((gt l k).Hi)+by_.Hi))])=(D2 (k+1) (fun b=>Span.mk ((gt l b).Lo+by_.Lo) ((gt l b).Hi+by_.Hi))):=(O9 _ _).symm
  rw[n]
  exact K2 (k+1) s<|by omega
 refine U 10 O ?_
 have o:(D2 k (fun b=>Span.mk ((gt l b).Lo+by_.Lo) ((gt l b).Hi+by_.Hi)))=(Aj l by_):=(by rw[show k=l.length by omega];exact A1F l by_)
 rw[o]
 refine q' 6 O ?_
 refine E4 0 rfl rfl (by unfold C7;rw[DN];omega) (fun E t g=>?_)
 exact A0 O O<|C2<|g
def SeenI(m:Mem)(v:Value)(N:Nat)(nd:Nat→List NodeT)(sp:Nat→List TStp):Prop:=∀m',m.le m'→
 Inv prog "aneroid/tracks.stages" [] m' (fun _ r=>r=J (N:Int)) v∧(∀k,k<N→Inv prog "aneroid/tracks.nodes" [J (k:Int)] m' (fun a r=>Sl a r (nd k)) v)∧
 (∀k,k+1<N→Inv prog "aneroid/tracks.steps" [J (k:Int)] m' (fun a r=>∃fn lb,r= .func (.func fn) #[] lb.toArray∧Enters prog fn∧S1 prog fn lb a false (sp k).length (Lx (sp k))) v)
theorem SeenI.mono{m':Mem}{v:Value}{N:Nat}{nd:Nat→List NodeT}{sp:Nat→List TStp}(h:SeenI m v N nd sp)(hm:m.le m'):SeenI m' v N nd sp:=fun a b=>h a (Mem.le_trans hm b)
theorem B0D{t:H8}(h:Ol t){k n j:Nat}(hk:k<t.length)(hn:n<(gt t k).length)(hj:j<(gt (gt t k) n).Next.length):0≤(gt (gt (gt t k) n).Next j).To:=(((h.2 k hk).2 n hn).2.2 j hj).1.1
theorem A1c{ct:List Value}{t:TrackT}(ht:Enc.rd m ct t)(hq:O1 t.Stages):SeenI m (.iface 255 (.agg ct.toArray)) t.Stages.length (ndA t.Stages) (stA t.Stages):=fun m' b=>
 have h:=Enc.mono b ht
 ⟨⟨_,_,352,_,rfl,call352,fun w=>by kernel_rfl,A5c m' ct t h⟩,fun k a=>⟨_,_,351,_,rfl,call351,fun w=>by kernel_rfl,A8Y m' ct t h rfl a⟩,
  fun k a=>⟨_,_,353,_,rfl,call353,fun w=>by kernel_rfl,(A0C m' ct t h rfl (by omega) (fun n c j d=>B0D hq.1 (by omega) c d)).mono fun _ _ _ ⟨lb,f,g⟩=>⟨354,lb,f,call354,g⟩⟩⟩
theorem A4g{ct:List Value}{t:TrackT}(ht:Enc.rd m ct t)(hq:O1 t.Stages):SeenI m (.iface 433 (.agg ct.toArray)) t.Stages.length (KM t.Stages) (stB t.Stages):=fun m' b=>
 have h:=Enc.mono b ht
 ⟨⟨_,_,358,_,rfl,call358,fun w=>by kernel_rfl,A5e m' ct t h⟩,fun k a=>⟨_,_,357,_,rfl,call357,fun w=>by kernel_rfl,A9E m' ct t h rfl a⟩,
  fun k a=>⟨_,_,359,_,rfl,call359,fun w=>by kernel_rfl,(A8E m' ct t h rfl a (fun n c j d=>B0D hq.1 (by omega) c d) (fun s f=>((Gd hq (k:=t.Stages.length-2-k) (by omega)).2 s f).2.2)).mono fun _ _ _ ⟨lb,g,l⟩=>⟨360,lb,g,call360,l⟩⟩⟩
theorem NA(m:Mem){v:Value}{N:Nat}{nd:Nat→List NodeT}{sp:Nat→List TStp}(hs:SeenI m v N nd sp)(hok:SeenOk N nd sp)(hN:1≤N∧N≤401):Mut prog 119 #[v,S0] m [] (fun m' Es u=>∃vs Y,Es=[mV 28 vs Y,row u 67 1 vs.length vs]∧vs.length=N∧Y.length=N∧RdM m' Y (D2 N (K1 (F7 (nd 0)) nd sp))):=by
 have j9:=(hok.node 0 (by omega)).1
 have g9:AM (F7 (nd 0)):=CC fun n hn=>((hok.node 0 (by omega)).2 n hn).1
 have c1:(F7 (nd 0)).length=(nd 0).length:=B5 _ _
 refine G3 func119 O ntmps119 fun l1=>q' 9 O<|y' (B4t (AX (α:=List Span) underlying67 rfl rfl .nil) rfl)<|U 4 O<|Bu 28 1<|q' 2 O ?_
 refine C0 (Hd rfl rfl ((hs _ (Mem.le_refl _)).2.1 0 (by omega))) (by decide) (fun m1 v3 f4 b6=>?_)
 refine have hs:=hs.mono f4;have n1:=b6.le;l' b6 O<|U 4 O ?_
 refine lp (G:=Nat×Value×List Value×Mem) (fun(k,vF,xF,mf)=>(nd 0).length-k) (fun(k,vF,xF,mf)=>mf) (fun(k,vF,xF,mf)=>[row (vF) 28 1 (D2 k (fun n_=>(gt (nd 0) n_).Allowed)).length (xF)]) (fun(k,vF,xF,mf)=>[(0,v),(1,vF),(18,v3),(19,J (↑(nd 0).length)),(20,J k)]) (fun(k,vF,xF,mf)=>k≤(nd 0).length∧m1.le mf∧RdL mf xF (D2 k (fun n_=>(gt (nd 0) n_).Allowed))) ((0,Value.slice none 0 0,[],m1)) ?_ ?_
 ·exact⟨EF _,Mem.le_refl _,RdL.nil⟩
 rintro⟨k,vF,xF,mf⟩ h4
 conv=>enter [7];dsimp only
 conv=>enter [8];dsimp only
 try dsimp only at h4
 obtain⟨hk,e9,a5⟩:=h4
 replace hs:=hs.mono e9
 replace b6:=b6.mono e9
 have k0:(D2 k (fun n_=>(gt (nd 0) n_).Allowed)).length=k:=B5 _ _
 have d5:=fun E:k<(nd 0).length=>((hok.node 0 (by omega)).2 k E).2
 refine q' 2 O<|c' (X.lss O O) (fun h7=>?_) fun h7=>?_
 ·refine U 10 O<|x' k b6 O O fun p8 i1=>g' i1 O fun l2 f5=>?_
  obtain⟨n2,n3,rfl,e0,h5⟩:=f5
  refine have k1:=e0.le;have k2:=h5.le;n' zeroValue152 O fun l3=>w' 0 O O O<|U 4 O<|f' O t'<|b' 0 O O O ?_
  refine C5 (H3 call207 rfl (FO _ e0 (by omega))) (by decide) (fun l4 Es20 i2 b0 Q=>?_)
  obtain⟨rfl,k8⟩:=Q
  replace hs:=hs.mono b0
  replace a5:=a5.mono b0
  refine BR 0 rfl rfl (by first|(have E:=(hok.node 0 (by omega)).2 k (by omega);unfold C7;omega)|(have E:=AZ (z (by omega)).1;have h2_:=EC _ (K4 (gt (J1 ((K1 (F7 (nd 0)) nd sp) k) (sp k) (nd (k+1)).length (sp k).length) n)) (gt (nd (k+1)) n).Allowed rfl;have c9:=(z (by omega)).2;have h0:=c5 (by omega);unfold C7;omega)) (fun i3 b1 b7=>?_)
  refine have hs:=hs.mono b1;have a5:=a5.mono b1;R0 (G6 Lq rfl (D7 b7.one) rfl (by decide)) (by decide) fun l5=>?_
  refine G2 (Ax (k:=1) (n':=((D2 k (fun n_=>(gt (nd 0) n_).Allowed))++[(gt (nd 0) k).Allowed]).length) Lq rfl rfl rfl rfl rfl (A4 b7.one C6) (by simp) (by first|omega|(simp;omega)) (by first|omega|(simp;omega))) (by decide) (fun i4=>?_)
  refine have d6:=RdL.snoc (a:=(gt (nd 0) k).Allowed) a5 ⟨_,rfl,b7⟩;U 9 O ?_
  have d7:((D2 k (fun n_=>(gt (nd 0) n_).Allowed))++[(gt (nd 0) k).Allowed])=(D2 (k+1) (fun n_=>(gt (nd 0) n_).Allowed)):=(O9 _ _).symm
  rw[d7]
  rw[d7]at d6
  refine nx ((k+1,i4,xF++[i2],i3)) ?_ ?_
  ·exact⟨by omega,(Mem.le_trans e9 (Mem.le_trans b0 b1)),d6⟩
  (dsimp only;omega)
 refine U 10 O ?_
 have d8:(D2 k (fun n_=>(gt (nd 0) n_).Allowed))=(F7 (nd 0)):=(by rw[show k=(nd 0).length by omega];rfl)
 rw[d8]
 rw[d8]at a5
 refine q' 2 O ?_
 refine E8 (k:=0) rfl (fun f6=>?_)
 refine G2 (B1n (u:=vF) A9b rfl f6) (by decide) (fun i5=>?_)
 refine Au (T.alloc zeroValue82 rfl) (by decide) fun F=>?_
 refine E8 (k:=1) rfl (fun f7=>?_)
 refine G7 (C1 (k:=0) sizeOf82 rfl rfl rfl f7 (J' rfl))<|U 4 O<|WK.p [2]<|B4J (a5.len1.symm)<|q' 2 O ?_
 refine C0 (Hd rfl rfl (hs _ (Mem.le_refl _)).1) (by decide) (fun f8 _ b8 Q=>?_)
 subst Q
 refine have hs:=hs.mono b8;have a5:=a5.mono b8;U 5 O ?_
 refine lp (G:=Nat×List Value×List (List Value)×Value×Mem) (fun(k,vs,Y,vo,mm)=>N-k) (fun(k,vs,Y,vo,mm)=>mm) (fun(k,vs,Y,vo,mm)=>[mV 28 vs Y,blk F 82 [vo],row (vo) 67 1 (vs).length (vs)]) (fun(k,vs,Y,vo,mm)=>[(0,v),(7,Pt F 0),(35,J (↑N-1)),(36,J k)]) (fun(k,vs,Y,vo,mm)=>k+1≤N∧f8.le mm∧vs.length=k+1∧Y.length=k+1∧RdM mm Y (D2 (k+1) (K1 (F7 (nd 0)) nd sp))) ((0,[vF],[xF],i5,f8)) ?_ ?_
 ·exact⟨by omega,Mem.le_refl _,rfl,rfl,RdM.snoc RdM.nil a5⟩
 rintro⟨k,vs,Y,vo,mm⟩ e1
 conv=>enter [7];dsimp only
 conv=>enter [8];dsimp only
 try dsimp only at e1
 obtain⟨hk,h6,e2,e3,c⟩:=e1
 replace hs:=hs.mono h6
 have a3:=fun E:k+1<N=>hok.step k E
 have c2:=fun E:k+1<N=>hok.node (k+1) E
 have a4:=FF hok g9 c1 k (by omega)
 have r:RdL mm (gt Y k) ((K1 (F7 (nd 0)) nd sp) k):=(by have E:=c.2 k (by rw[B5];omega);rw[N7 _ (by omega)]at E;exact E)
 refine q' 2 O<|c' (X.lss O O) (fun i6=>?_) fun i6=>?_
 ·refine U 11 O<|n' zeroValue3 O fun c8=>G7 (C1 (k:=0) sizeOf3 rfl rfl rfl rfl (J' rfl))<|U 3 O<|fz (α:=Int) (x:=↑k) 0 O O O fun l6 a7 w=>?_
  replace hs:=hs.mono a7
  replace c:=c.mono a7
  replace r:=r.mono a7
  replace a3:=a3 (by omega)
  replace c2:=c2 (by omega)
  refine q' 2 O<|i' w O<|U 1 O ?_
  refine C0 (Hd rfl rfl ((hs _ (Mem.le_refl _)).2.1 (k+1) (by omega))) (by decide) (fun l7 B V g=>?_)
  refine have hs:=hs.mono V;have c:=c.mono V;have r:=r.mono V;have w:=w.mono V;have k3:=g.le;U 6 O<|l' g O ?_
  refine G2 (PQ ((nd (k+1)).length) Lq rfl rfl (by omega) (by decide)) (by decide) (fun H=>?_)
  refine Au (T.alloc zeroValue67 rfl) (by decide) fun b9=>?_
  refine E8 (k:=1) rfl (fun f9=>?_)
  refine G7 (C1 (k:=0) sizeOf67 rfl rfl rfl f9 (J' rfl))<|U 4 O ?_
  refine M6 0 rfl rfl (fun l8 C d=>?_)
  refine have hs:=hs.mono C;have c:=c.mono C;have r:=r.mono C;have w:=w.mono C;have g:=g.mono C;A6p Span 23 (nd (k+1)).length<|q' 2 O<|i' w O ?_
  refine C0 (Hd rfl rfl ((hs _ (Mem.le_refl _)).2.2 k (by omega))) (by decide) (fun l9 _ D Q=>?_)
  obtain⟨d1,b5,rfl,j5,f0⟩:=Q
  refine have c:=c.mono D;have r:=r.mono D;have w:=w.mono D;have g:=g.mono D;have d:=d.mono D;U 3 O ?_
  refine N8 (S:=List Value×List (List Span)) (G:=Nat×Nat) (ps:=[49,50]) (n:=(sp k).length) (A:=(Lx (sp k))) rfl j5 f0 (fun x_:List Value×List (List Span)=>[mF 23 x_.1 x_.2,row (H) 28 1 (x_.1).length (x_.1),mV 28 vs Y,blk F 82 [vo],row (vo) 67 1 (vs).length (vs)]) (fun i _ x_=>x_.1.length=(nd (k+1)).length∧x_.2=(J1 ((K1 (F7 (nd 0)) nd sp) k) (sp k) (nd (k+1)).length i)) (fun _ _ _ _=>False) (List.replicate (nd (k+1)).length (Value.slice none 0 0),List.replicate (nd (k+1)).length ([]:List Span)) rfl ⟨Tf ..,rfl⟩ (fun h=>by cases h) (fun _ _ _ _ _ h=>h) (by simp) (fun i m1 y h=>by rw[show y=_ from h];rfl) (fun b_ y gh=>blk b_.2 23 ((y.getD 1 undef).cells.toList)::blk b_.1 349 ((y.getD 0 undef).cells.toList)::(fun x_:List Value×List (List Span)=>[mF 23 x_.1 x_.2,row (H) 28 1 (x_.1).length (x_.1),mV 28 vs Y,blk F 82 [vo],row (vo) 67 1 (vs).length (vs)]) gh) (fun b_ y=>(12,.pointer (some ⟨b_.2,0,none⟩))::(11,.pointer (some ⟨b_.1,0,none⟩))::[(0,v),(7,Pt F 0),(35,J (↑N-1)),(36,J k),(37,.bool true),(38,J k),(8,Pt c8 0),(39,v),(40,J k),(41,J (↑k+1)),(42,B),(9,B),(43,B),(44,J (↑(nd (k+1)).length)),(45,H),(10,Pt b9 0),(46,v),(47,J k),(48,.func (.func d1) #[] b5.toArray)]) ?_ ?_ ?_ ?_ ?_
  ·intro lo B1 i a9 gh y KK i0 f3 o j6
   have e7:y=[.agg [J (((gt (sp k) i).f:Int)),J (((gt (sp k) i).t:Int))].toArray,.agg [J ((gt (sp k) i).s.Lo),J ((gt (sp k) i).s.Hi)].toArray]:=(by have:=Sd Array.toList (show y.toArray=#[.agg [J (((gt (sp k) i).f:Int)),J (((gt (sp k) i).t:Int))].toArray,.agg [J ((gt (sp k) i).s.Lo),J ((gt (sp k) i).s.Hi)].toArray]from f3);simpa using this)
   subst e7
   refine qb ?_
   exact q' 2 O<|n' zeroValue349 O fun i7=>w' 0 O O O<|U 3 O<|n' zeroValue23 O fun i8=>w' 0 O O O<|U 1 O<|I8 (.cons rfl (.cons rfl (.cons rfl (.cons rfl (.cons rfl (.cons rfl (.cons rfl (.cons rfl (.cons rfl (.cons rfl (.cons rfl (.cons rfl (.cons rfl (.cons rfl (.cons rfl (.cons rfl (.cons rfl (.cons rfl (.cons rfl (.cons rfl (.cons rfl .nil))))))))))))))))))))) (j6 (i7,i8))
  ·intro lo B1 i a9 gh y b_ i0 hi o f3 b3
   have e7:y=[.agg [J (((gt (sp k) i).f:Int)),J (((gt (sp k) i).t:Int))].toArray,.agg [J ((gt (sp k) i).s.Lo),J ((gt (sp k) i).s.Hi)].toArray]:=(by have:=Sd Array.toList (show y.toArray=#[.agg [J (((gt (sp k) i).f:Int)),J (((gt (sp k) i).t:Int))].toArray,.agg [J ((gt (sp k) i).s.Lo),J ((gt (sp k) i).s.Hi)].toArray]from f3);simpa using this)
   subst e7
   obtain⟨h8,h9⟩:=b_
   obtain⟨ws,M_⟩:=gh
   obtain⟨l,b2⟩:=b3
   replace b2:M_=(J1 ((K1 (F7 (nd 0)) nd sp) k) (sp k) (nd (k+1)).length i):=b2
   replace l:ws.length=(nd (k+1)).length:=l
   subst b2
   have d0:=a3.2 (gt (sp k) i) (M0 hi)
   obtain⟨f_,hf_⟩:∃q,(gt (sp k) i).f=q:=⟨_,rfl⟩
   obtain⟨t_,c6⟩:∃q,(gt (sp k) i).t=q:=⟨_,rfl⟩
   rw[hf_,c6]at d0
   rw[hf_,c6]
   have c3:=a4.1 f_ (by omega)
   have d9:=BJ c3
   have k4:=DN (gt ((K1 (F7 (nd 0)) nd sp) k) f_) (gt (sp k) i).s
   have k5:=(Fq a4.1 (fun h hh=>by rw[a4.2];exact a3.2 h hh) i (by omega) t_ d0.2.1).2
   have d5:=J3 ((K1 (F7 (nd 0)) nd sp) k) (sp k) (nd (k+1)).length i
   replace c:=c.mono o
   replace r:=r.mono o
   replace w:=w.mono o
   replace g:=g.mono o
   replace d:=d.mono o
   show WK _ _ a9 [blk h9 23 [J ((gt (sp k) i).s.Lo),J ((gt (sp k) i).s.Hi)],blk h8 349 [J f_,J t_],mF 23 ws ((J1 ((K1 (F7 (nd 0)) nd sp) k) (sp k) (nd (k+1)).length i)),row (H) 28 1 (ws).length (ws),mV 28 vs Y,blk F 82 [vo],row (vo) 67 1 (vs).length (vs)] [(12,Pt h9 0),(11,Pt h8 0),(0,v),(7,Pt F 0),(35,J (↑N-1)),(36,J k),(37,.bool true),(38,J k),(8,Pt c8 0),(39,v),(40,J k),(41,J (↑k+1)),(42,B),(9,B),(43,B),(44,J (↑(nd (k+1)).length)),(45,H),(10,Pt b9 0),(46,v),(47,J k),(48,.func (.func d1) #[] b5.toArray)] _
   refine qb ?_
   refine q' 1 O<|L4 (π:=sq [0,1,3,4,5,6,7,8,9,10,11,12,13,14,15,16] (.fork (sq [2,17,18,19,20] .done) (.cons 17 (.fork (sq [2,18,19,20] .done) (sq [18,2,19,20] .done))))) [2,17,18,20] [18,20,100000,100001] O (by kernel_rfl)<|J2 O O O (fun _ _ d2=>(J9 isAgg67 rfl (d.mono d2))) (by decide)<|J2 O O O (fun _ _ d2=>(X.field runUnderlying349 rfl sizeOf3 rfl)) (by decide)<|Z O O (J9 isAgg67 rfl d)<|Z O O (A.f O)<|Z O O (A.b 1 O O O)<|Z O O (K0 (k:=3) runUnderlying67 sizeOf28 rfl rfl rfl (by first|omega|(simp;omega)|simp) (by first|omega|(simp;omega)|simp))<|Z O O (Az (k:=3) isAgg28 rfl rfl (by first|omega|(simp;omega)|simp))<|Z O O (A.b 5 O O O)<|Z O O (A.i O w)<|Z O O (K0 (k:=6) runUnderlying82 sizeOf67 rfl rfl rfl (by first|omega|(simp;omega)|simp) (by first|omega|(simp;omega)|simp))<|Z O O (Az (k:=6) isAgg67 rfl rfl (by first|omega|(simp;omega)|simp))<|Z O O (A.f O)<|Z O O (A.b 1 O O O)<|Z O O (Ou (j:=4) (k:=k) runUnderlying67 sizeOf28 rfl rfl rfl (by omega) (by omega) (by omega) (by rw[(r).len1];omega)) ?_
   have b4:Sl a9 (gt (gt Y k) f_) (gt ((K1 (F7 (nd 0)) nd sp) k) f_):=r.slAt (by omega)
   refine Z O O (A0K (j:=4) (k:=k) (i:=f_) isAgg28 rfl rfl (by omega) (by omega) (by rw[(r).len1];omega))<|Z O O (L9 0 O O O) ?_
   refine DW.fork (SW _ _) ?_ ?_
   ·refine JP rfl rfl rfl (fun _=>(BZ (k:=1) isAgg3 rfl rfl rfl)) (by decide) ?_
    refine W2 rfl rfl rfl (T.call call208 rfl (Rp _ b4 (by_:=((gt (sp k) i).s)) rfl d9 (DM c3) d0.2.2)) (by decide) (fun m0 m2 W g0=>?_)
    replace c:=c.mono W
    replace g:=g.mono W
    replace d:=d.mono W
    replace b4:=b4.mono W
    refine Ae rfl rfl rfl rfl (Cf (α:=Span) (fun _ _ _ h=>h) (j:=2) (i:=t_) K9 rfl rfl g0 rfl (by rw[J3];exact l) (by rw[J3];omega) (by omega) (by omega)) (by decide) (fun i9=>?_)
    refine Z O O (K0 (k:=3) runUnderlying67 sizeOf28 rfl rfl rfl (by first|omega|(simp;omega)|simp) (by first|omega|(simp;omega)|simp))<|B4 O O O O (Dc (j:=2) (i:=t_) rfl (by rw[I',I',J3];exact l) (by rw[I',J3];omega) (Fs (by omega)) trivial (D1 rfl rfl rfl) fun g1=>Y9 (k:=3) (i:=t_) sizeOf28 rfl rfl g1 rfl (by omega))<|V' 1 O ?_
    have c4:((J1 ((K1 (F7 (nd 0)) nd sp) k) (sp k) (nd (k+1)).length i)).set t_ (gt ((J1 ((K1 (F7 (nd 0)) nd sp) k) (sp k) (nd (k+1)).length i)) t_++(Aj (gt ((K1 (F7 (nd 0)) nd sp) k) f_) ((gt (sp k) i).s)))=(J1 ((K1 (F7 (nd 0)) nd sp) k) (sp k) (nd (k+1)).length (i+1)):=(by rw[J1,Mc,hf_,c6])
    rw[c4]
    exact P6 (ws.set t_ i9,(J1 ((K1 (F7 (nd 0)) nd sp) k) (sp k) (nd (k+1)).length (i+1))) W (.cons _ (.cons _ (.refl _))) ⟨by rw[I'];exact l,rfl⟩
   refine W2 rfl rfl rfl (T.call call208 rfl (Rp _ b4 (by_:=((gt (sp k) i).s)) rfl d9 (DM c3) d0.2.2)) (by decide) (fun m3 m4 a0 d3=>?_)
   replace c:=c.mono a0
   replace g:=g.mono a0
   replace d:=d.mono a0
   refine DW.fork (SW _ _) ?_ ?_
   ·refine JP rfl rfl rfl (fun _=>(BZ (k:=1) isAgg3 rfl rfl rfl)) (by decide) ?_
    refine Ae rfl rfl rfl rfl (Cf (α:=Span) (fun _ _ _ h=>h) (j:=2) (i:=t_) K9 rfl rfl d3 rfl (by rw[J3];exact l) (by rw[J3];omega) (by omega) (by omega)) (by decide) (fun j0=>?_)
    refine Z O O (K0 (k:=3) runUnderlying67 sizeOf28 rfl rfl rfl (by first|omega|(simp;omega)|simp) (by first|omega|(simp;omega)|simp))<|B4 O O O O (Dc (j:=2) (i:=t_) rfl (by rw[I',I',J3];exact l) (by rw[I',J3];omega) (Fs (by omega)) trivial (D1 rfl rfl rfl) fun g2=>Y9 (k:=3) (i:=t_) sizeOf28 rfl rfl g2 rfl (by omega))<|V' 1 O ?_
    have c4:((J1 ((K1 (F7 (nd 0)) nd sp) k) (sp k) (nd (k+1)).length i)).set t_ (gt ((J1 ((K1 (F7 (nd 0)) nd sp) k) (sp k) (nd (k+1)).length i)) t_++(Aj (gt ((K1 (F7 (nd 0)) nd sp) k) f_) ((gt (sp k) i).s)))=(J1 ((K1 (F7 (nd 0)) nd sp) k) (sp k) (nd (k+1)).length (i+1)):=(by rw[J1,Mc,hf_,c6])
    rw[c4]
    exact P6 (ws.set t_ j0,(J1 ((K1 (F7 (nd 0)) nd sp) k) (sp k) (nd (k+1)).length (i+1))) a0 (.cons _ (.cons _ (.refl _))) ⟨by rw[I'];exact l,rfl⟩
   refine Ae rfl rfl rfl rfl (Cf (α:=Span) (fun _ _ _ h=>h) (j:=2) (i:=t_) K9 rfl rfl d3 rfl (by rw[J3];exact l) (by rw[J3];omega) (by omega) (by omega)) (by decide) (fun j1=>?_)
   refine JP O O O (fun _=>(BZ (k:=1) isAgg3 rfl rfl rfl)) (by decide)<|Z O O (K0 (k:=3) runUnderlying67 sizeOf28 rfl rfl rfl (by first|omega|(simp;omega)|simp) (by first|omega|(simp;omega)|simp))<|B4 O O O O (Dc (j:=2) (i:=t_) rfl (by rw[I',I',J3];exact l) (by rw[I',J3];omega) (Fs (by omega)) trivial (D1 rfl rfl rfl) fun g3=>Y9 (k:=3) (i:=t_) sizeOf28 rfl rfl g3 rfl (by omega))<|V' 1 O ?_
   have c4:((J1 ((K1 (F7 (nd 0)) nd sp) k) (sp k) (nd (k+1)).length i)).set t_ (gt ((J1 ((K1 (F7 (nd 0)) nd sp) k) (sp k) (nd (k+1)).length i)) t_++(Aj (gt ((K1 (F7 (nd 0)) nd sp) k) f_) ((gt (sp k) i).s)))=(J1 ((K1 (F7 (nd 0)) nd sp) k) (sp k) (nd (k+1)).length (i+1)):=(by rw[J1,Mc,hf_,c6])
   rw[c4]
   exact P6 (ws.set t_ j1,(J1 ((K1 (F7 (nd 0)) nd sp) k) (sp k) (nd (k+1)).length (i+1))) a0 (.cons _ (.cons _ (.refl _))) ⟨by rw[I'];exact l,rfl⟩
  ·intro a9 gh o b3
   obtain⟨ws,M_⟩:=gh
   obtain⟨l,b2⟩:=b3
   replace b2:M_=(J1 ((K1 (F7 (nd 0)) nd sp) k) (sp k) (nd (k+1)).length (sp k).length):=b2
   replace l:ws.length=(nd (k+1)).length:=l
   subst b2
   refine have c:=c.mono o;have g:=g.mono o;have d:=d.mono o;I8 (σ':=[(0,v),(7,Pt F 0),(35,J (↑N-1)),(36,J k),(37,.bool true),(38,J k),(8,Pt c8 0),(39,v),(40,J k),(41,J (↑k+1)),(42,B),(9,B),(43,B),(44,J (↑(nd (k+1)).length)),(45,H),(10,Pt b9 0),(46,v),(47,J k),(48,.func (.func d1) #[] b5.toArray)]) (.cons rfl (.cons rfl (.cons rfl (.cons rfl (.cons rfl (.cons rfl (.cons rfl (.cons rfl (.cons rfl (.cons rfl (.cons rfl (.cons rfl (.cons rfl (.cons rfl (.cons rfl (.cons rfl (.cons rfl (.cons rfl (.cons rfl .nil))))))))))))))))))) ?_
   show WK _ _ a9 [mF 23 ws ((J1 ((K1 (F7 (nd 0)) nd sp) k) (sp k) (nd (k+1)).length (sp k).length)),row (H) 28 1 (ws).length (ws),mV 28 vs Y,blk F 82 [vo],row (vo) 67 1 (vs).length (vs)] [(0,v),(7,Pt F 0),(35,J (↑N-1)),(36,J k),(37,.bool true),(38,J k),(8,Pt c8 0),(39,v),(40,J k),(41,J (↑k+1)),(42,B),(9,B),(43,B),(44,J (↑(nd (k+1)).length)),(45,H),(10,Pt b9 0),(46,v),(47,J k),(48,.func (.func d1) #[] b5.toArray)] _
   refine P4<|E2<|q' 2 O ?_
   refine Kl 0 rfl rfl (by rw[J3];exact l) (A4A a4.1 (fun h hh=>by rw[a4.2];exact a3.2 h hh) a3.1) (fun g4 a8 e4=>?_)
   refine have c:=c.mono a8;have g:=g.mono a8;have d:=d.mono a8;q' 1 O<|y' (J9 isAgg67 rfl d)<|y' (U5 (k:=0) runUnderlying67 rfl rfl)<|U 4 O ?_
   refine Iz (fun(n:Nat) (xs:List Value) (mn:Mem)=>(nd (k+1)).length-n) (fun n xs mn=>mn) (fun n xs mn=>[row (H) 28 1 (xs).length (xs),mV 28 vs Y,blk F 82 [vo],row (vo) 67 1 (vs).length (vs)]) (fun n xs mn=>[(0,v),(7,Pt F 0),(9,B),(10,Pt b9 0),(35,J (↑N-1)),(36,J k),(71,H),(72,J ws.length),(73,J n)]) (fun n xs mn=>n≤(nd (k+1)).length∧g4.le mn∧RdL mn xs (FA (J1 ((K1 (F7 (nd 0)) nd sp) k) (sp k) (nd (k+1)).length (sp k).length) (nd (k+1)) n)) 0 ws g4 ?_ ?_
   ·exact⟨EF _,Mem.le_refl _,e4⟩
   rintro n xs mn ⟨hn,c7,I⟩
   replace c:=c.mono c7
   replace g:=g.mono c7
   replace d:=d.mono c7
   have d5:=J3 ((K1 (F7 (nd 0)) nd sp) k) (sp k) (nd (k+1)).length (sp k).length
   have e8:=A0q (M:=(J1 ((K1 (F7 (nd 0)) nd sp) k) (sp k) (nd (k+1)).length (sp k).length)) (nd:=(nd (k+1))) (n:=n) (by omega)
   have c1:=e8
   have k6:=I.len1
   have z:=fun E:n<(nd (k+1)).length=>Fq a4.1 (L:=(sp k)) (nn:=(nd (k+1)).length) (fun h hh=>by rw[a4.2];exact a3.2 h hh) _ (E' _) n E
   refine have c5:=fun E:n<(nd (k+1)).length=>(c2.2 n E).2;q' 2 O<|c' (X.lss O O) (fun j2=>?_) fun j2=>?_
   ·refine U 11 O<|y' (K0 (k:=0) runUnderlying67 sizeOf28 rfl rfl rfl (by first|omega|(simp;omega)|simp) (by first|omega|(simp;omega)|simp)) ?_
    have h1:Sl mn (gt xs n) (gt (J1 ((K1 (F7 (nd 0)) nd sp) k) (sp k) (nd (k+1)).length (sp k).length) n):=(by have E:=I.slAt (i:=n) (by rw[c1];omega);rw[B2C (E' _) (by rw[J3];omega)]at E;exact E)
    refine y' (Az (k:=0) isAgg28 rfl rfl (by omega))<|U 4 O<|L4 (π:=sq [0,1,2,5,6,7,8,9,3,4,10,11,12] .done) [3,4,10,12] [12] O (by kernel_rfl)<|Z O O (J9 isAgg67 rfl d)<|U' 4 O<|X' n g O O O O fun m5 g5=>Z O O (A.f O)<|S' (Fj g5) O O O fun m6 a6=>?_
    have k7:=a6.le
    refine W2 rfl rfl rfl (T.call call127 rfl (Ja _ h1)) (by decide) (fun m7 _ a1 Q=>?_)
    obtain⟨k9,rfl,f1⟩:=Q
    replace c:=c.mono a1
    replace d:=d.mono a1
    replace I:=I.mono a1
    replace a6:=a6.mono a1
    refine AY rfl rfl rfl (H3 call66 rfl (QK _ (L:=gt (J1 ((K1 (F7 (nd 0)) nd sp) k) (sp k) (nd (k+1)).length (sp k).length) n) call213 f1 (by have c9:=(z (by omega)).2;omega) (z (by omega)).1)) (by decide) (fun m8 Es93 m9 a2 Q=>?_)
    obtain⟨rfl,l0⟩:=Q
    replace c:=c.mono a2
    replace d:=d.mono a2
    replace I:=I.mono a2
    replace a6:=a6.mono a2
    refine AY rfl rfl rfl (KR (R:=fun j3 u_=>j3=[A5 u_ 23 (F5 (K4 (gt (J1 ((K1 (F7 (nd 0)) nd sp) k) (sp k) (nd (k+1)).length (sp k).length) n)) ((gt (nd (k+1)) n).Allowed))]∧u_.oneCell'=true) call209 rfl (fun _ w_ g6=>NO _ (g6.rowFSl (k:=0) rfl (by have E:=AZ (z (by omega)).1;have c9:=(z (by omega)).2;unfold C7;omega)) (a6.mono g6.leAll) (by have E:=AZ (z (by omega)).1;have c9:=(z (by omega)).2;have h0:=c5 (by omega);omega))) (by decide) (fun n0 Es98 g7 K Q=>?_)
    obtain⟨rfl,f2⟩:=Q
    refine have c:=c.mono K;have d:=d.mono K;have I:=I.mono K;Z O O (K0 (k:=2) runUnderlying67 sizeOf28 rfl rfl rfl (by first|omega|(simp;omega)|simp) (by first|omega|(simp;omega)|simp))<|B4 O O O O (Y9 (k:=2) (i:=n) sizeOf28 rfl rfl f2 rfl (by omega))<|V' 7 O ?_
    refine E4 0 rfl rfl (by first|(have E:=(hok.node 0 (by omega)).2 k (by omega);unfold C7;omega)|(have E:=AZ (z (by omega)).1;have h2_:=EC _ (K4 (gt (J1 ((K1 (F7 (nd 0)) nd sp) k) (sp k) (nd (k+1)).length (sp k).length) n)) (gt (nd (k+1)) n).Allowed rfl;have c9:=(z (by omega)).2;have h0:=c5 (by omega);unfold C7;omega)) (fun d4 P e5=>?_)
    replace c:=c.mono P
    replace d:=d.mono P
    replace I:=I.mono P
    have h2:RdL d4 (xs.set n g7) (FA (J1 ((K1 (F7 (nd 0)) nd sp) k) (sp k) (nd (k+1)).length (sp k).length) (nd (k+1)) (n+1)):=(by have E:=I.setS (i:=n) (by omega) e5;rw[A8n (by omega)]at E;exact E)
    exact O7 (n+1) (xs.set n g7) d4<|⟨by omega,(Mem.le_trans c7 (Mem.le_trans a1 (Mem.le_trans a2 (Mem.le_trans K P)))),h2⟩
   refine U 9 O ?_
   have h3:RdL mn xs ((K1 (F7 (nd 0)) nd sp) (k+1)):=(by have E:=I;rw[show n=(nd (k+1)).length by omega]at E;exact E)
   refine q' 1 O<|b' 2 O O O<|y' (J9 isAgg67 rfl d) ?_
   refine E8 (k:=0) rfl (fun c0=>?_)
   refine R0 (G6 A9b rfl (D7 c0) rfl (by decide)) (by decide) fun j8=>?_
   refine G2 (Ax (k:=3) (n':=(vs++[H]).length) A9b rfl rfl rfl rfl rfl (A4 c0 C6) (by simp) (by first|omega|(simp;omega)) (by first|omega|(simp;omega))) (by decide) (fun g8=>?_)
   refine E8 (k:=3) rfl (fun e6=>?_)
   refine G7 (C1 (k:=2) sizeOf82 rfl rfl rfl e6 (J' rfl))<|U 8 O<|A5Y O (by omega) ?_
   refine nx ((k+1,vs++[H],Y++[xs],g8,mn)) ?_ ?_
   ·exact⟨by omega,(Mem.le_trans h6 (Mem.le_trans a7 (Mem.le_trans V (Mem.le_trans C (Mem.le_trans D (Mem.le_trans o (Mem.le_trans a8 c7))))))),by rw[F',e2];rfl,by rw[F',e3];rfl,by rw[O9];exact c.snoc h3⟩
   (dsimp only;omega)
  ·intro i m1 gh j7 hi b3
   exact b3.elim
  intro id i m1 gh j7 hi b3
  exact b3.elim
 refine U 11 O<|b' 1 O O O<|U 4 O ?_
 refine A0 rfl rfl (fun w' j4=>B3 (j4.weaken (.cons_cons _ (.cons _ (.cons_cons _ .slnil)))) ?_)
 obtain rfl:N=k+1:=(by omega)
 exact⟨_,_,rfl,e2,e3,c⟩
end Go.Proofs.T10
